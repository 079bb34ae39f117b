import Derived.Test.YtdnkjdekikjihaaDoorPAx1
import Derived.Test.YtdnkjdekikjihaaDoorGc
namespace Go.Proofs.YtdnkjdekikjihaaDoor.G
open Go.RowKit Go.Shelf Go.Proofs.YtdnkjdekikjihaaDoorW.PrintWords Go.Proofs.YtdnkjdekikjihaaDoor.PA

theorem in_ok {a b : Int} {l : List Int} (h : ∀ x ∈ l, a ≤ x ∧ x ≤ b) : burn_in.f a b l = some true := by
 unfold burn_in.f
 rw [show l.any (outside a b) = false from ?_]
 ·
  rfl
 ·
  rw [List.any_eq_false]
  intro x hx
  have := h x hx
  simp only [outside, Bool.or_eq_true, decide_eq_true_eq]
  omega
theorem ordered_ok {a b x y : Int} (h1 : a ≤ x) (h2 : x ≤ y) (h3 : y ≤ b) : burn_ordered.f a b x y = some true := by
 unfold burn_ordered.f
 rw [in_ok (by intro z hz; simp at hz; omega)]
 simp [h2]
/-- A valid hood with valid readings. -/
def HoodOk (a0 a1 a2 a3 a4 a5 a6 a7 a8 : Int) (l : List Int) : Prop :=
 (0 ≤ a0 ∧ a0 ≤ a1 ∧ a1 ≤ 1000000) ∧ (0 ≤ a2 ∧ a2 ≤ a3 ∧ a3 ≤ 10000) ∧ (0 ≤ a4 ∧ a4 ≤ a5 ∧ a5 ≤ 30000) ∧ (0 ≤ a6 ∧ a6 ≤ a7 ∧ a7 ≤ 30) ∧ (0 ≤ a8 ∧ a8 ≤ 1000) ∧ l.length ≤ 120 ∧ ∀ x ∈ l, 0 ≤ x ∧ x ≤ 1000000
instance (a0 a1 a2 a3 a4 a5 a6 a7 a8 : Int) (l : List Int) : Decidable (HoodOk a0 a1 a2 a3 a4 a5 a6 a7 a8 l) := by unfold HoodOk; infer_instance
theorem check_ok {a0 a1 a2 a3 a4 a5 a6 a7 a8 : Int} {l : List Int} (h : HoodOk a0 a1 a2 a3 a4 a5 a6 a7 a8 l) : burn_Check.f 1 a0 a1 a2 a3 a4 a5 a6 a7 a8 l = some 0 := by
 obtain ⟨⟨h0, h1, h2⟩, ⟨h3, h4, h5⟩, ⟨h6, h7, h8⟩, ⟨h9, h10, h11⟩, ⟨h12, h13⟩, h14, h15⟩ := h
 unfold burn_Check.f
 rw [ordered_ok h0 h1 h2, ordered_ok h3 h4 h5, ordered_ok h6 h7 h8, ordered_ok h9 h10 h11, in_ok (l := [a8]) (by intro z hz; simp at hz; omega)]
 simp only [Option.bind_some, if_true, Bool.not_true]
 show (if false = true then some (40 : Int) else if (l.length : Int) > 120 then some 41 else (burn_in.f 0 1000000 l).bind fun t115 => if t115 = true then some 0 else some 41) = some 0
 rw [if_neg (by decide), if_neg (by omega), in_ok h15]
 rfl
set_option maxHeartbeats 4000000 in
set_option maxRecDepth 100000 in
theorem open_ok (a0 a1 a2 a3 a4 a5 a6 a7 a8 : Int) (A1 : Option Addr) (c1 : Nat) (l1 : List Int) (w : World) (hr1 : Kd.C (Kd.int .i64) w A1 l1.length l1) (hc1 : l1.length ≤ c1) (ok : HoodOk a0 a1 a2 a3 a4 a5 a6 a7 a8 l1) (n : Int) (hn : n = max 0 (l1.length - a7)) :
  Calls Tryd.prog 28 #[.agg #[.int .i64 a0, .int .i64 a1, .int .i64 a2, .int .i64 a3, .int .i64 a4, .int .i64 a5, .int .i64 a6, .int .i64 a7, .int .i64 a8], .slice A1 l1.length c1] w fun e w' =>
   e = .returned (.tuple #[.agg #[.int .i64 a0, .int .i64 a1, .int .i64 a2, .int .i64 a3, .int .i64 a4, .int .i64 a5, .int .i64 a6, .int .i64 a7, .int .i64 a8, .slice A1 l1.length c1, .int .i64 n], .int .i64 0]) ∧ Below w.heap.size w w' := by
 have HR := Aside0.mk hr1
 have HO := Aside0.mk ok
 have hsub : IntKind.i64.wrap ((l1.length : Int) - a7) = (l1.length : Int) - a7 := by
  obtain ⟨_, _, _, h9, _, h14, _⟩ := ok
  exact IntWalk.i64_in _ (by omega)
 have hmax : (if a7 < (l1.length : Int) then (l1.length : Int) - a7 else 0) = n := by rw [hn]; omega
 clear hr1 ok hn
 go_enter Tryd.func28, Tryd.ntmps28
 go_wp2_with fail
 obtain ⟨W, hW⟩ : ∃ W, W = (w.alloc (.cells #[.int .i64 a0, .int .i64 a1, .int .i64 a2, .int .i64 a3, .int .i64 a4, .int .i64 a5, .int .i64 a6, .int .i64 a7, .int .i64 a8] 25)).alloc (.cells #[.int .i64 0, .int .i64 0, .int .i64 0, .int .i64 0, .int .i64 0, .int .i64 0, .int .i64 0, .int .i64 0, .int .i64 0, .slice none 0 0, .int .i64 0] 64) := ⟨_, rfl⟩
 rw [← hW]
 have HW := Aside0.mk hW
 clear hW
 have hBw : Below w.heap.size w W := by rw [HW.out]; go_grown
 have hs : W.heap.size = w.heap.size + 1 + 1 := by rw [HW.out]; simp
 have n0 : w.heap.size < W.heap.size := by omega
 have cd0 : W.cell? ⟨w.heap.size, 0, none⟩ = some (.int .i64 a0) := by rw [HW.out]; simp [go_sem]
 have cd1 : W.cell? ⟨w.heap.size, 1, none⟩ = some (.int .i64 a1) := by rw [HW.out]; simp [go_sem]
 have cd2 : W.cell? ⟨w.heap.size, 2, none⟩ = some (.int .i64 a2) := by rw [HW.out]; simp [go_sem]
 have cd3 : W.cell? ⟨w.heap.size, 3, none⟩ = some (.int .i64 a3) := by rw [HW.out]; simp [go_sem]
 have cd4 : W.cell? ⟨w.heap.size, 4, none⟩ = some (.int .i64 a4) := by rw [HW.out]; simp [go_sem]
 have cd5 : W.cell? ⟨w.heap.size, 5, none⟩ = some (.int .i64 a5) := by rw [HW.out]; simp [go_sem]
 have cd6 : W.cell? ⟨w.heap.size, 6, none⟩ = some (.int .i64 a6) := by rw [HW.out]; simp [go_sem]
 have cd7 : W.cell? ⟨w.heap.size, 7, none⟩ = some (.int .i64 a7) := by rw [HW.out]; simp [go_sem]
 have cd8 : W.cell? ⟨w.heap.size, 8, none⟩ = some (.int .i64 a8) := by rw [HW.out]; simp [go_sem]
 have cz0 : W.cell? ⟨w.heap.size + 1, 0, none⟩ = some (.int .i64 0) := by rw [HW.out]; simp [go_sem]
 have cz1 : W.cell? ⟨w.heap.size + 1, 1, none⟩ = some (.int .i64 0) := by rw [HW.out]; simp [go_sem]
 have cz2 : W.cell? ⟨w.heap.size + 1, 2, none⟩ = some (.int .i64 0) := by rw [HW.out]; simp [go_sem]
 have cz3 : W.cell? ⟨w.heap.size + 1, 3, none⟩ = some (.int .i64 0) := by rw [HW.out]; simp [go_sem]
 have cz4 : W.cell? ⟨w.heap.size + 1, 4, none⟩ = some (.int .i64 0) := by rw [HW.out]; simp [go_sem]
 have cz5 : W.cell? ⟨w.heap.size + 1, 5, none⟩ = some (.int .i64 0) := by rw [HW.out]; simp [go_sem]
 have cz6 : W.cell? ⟨w.heap.size + 1, 6, none⟩ = some (.int .i64 0) := by rw [HW.out]; simp [go_sem]
 have cz7 : W.cell? ⟨w.heap.size + 1, 7, none⟩ = some (.int .i64 0) := by rw [HW.out]; simp [go_sem]
 have cz8 : W.cell? ⟨w.heap.size + 1, 8, none⟩ = some (.int .i64 0) := by rw [HW.out]; simp [go_sem]
 have cz9 : W.cell? ⟨w.heap.size + 1, 9, none⟩ = some (.slice none 0 0) := by rw [HW.out]; simp [go_sem]
 have cz10 : W.cell? ⟨w.heap.size + 1, 10, none⟩ = some (.int .i64 0) := by rw [HW.out]; simp [go_sem]
 have fz : ∀ j, W.frozen? ⟨w.heap.size + 1, j, none⟩ = false := by intro j; rw [HW.out]; simp [go_sem]
 have n1 : w.heap.size + 1 < W.heap.size := by omega
 have hB : Below W.heap.size W W.drew := (Below.refl _ _).drew
 have HS := Aside0.mk hs
 clear hs
 go_region_held3 (fun w' => w'.cell? ⟨w.heap.size, 0, none⟩ = some (.int .i64 a0) ∧ w'.cell? ⟨w.heap.size, 1, none⟩ = some (.int .i64 a1) ∧ w'.cell? ⟨w.heap.size, 2, none⟩ = some (.int .i64 a2) ∧ w'.cell? ⟨w.heap.size, 3, none⟩ = some (.int .i64 a3) ∧ w'.cell? ⟨w.heap.size, 4, none⟩ = some (.int .i64 a4) ∧ w'.cell? ⟨w.heap.size, 5, none⟩ = some (.int .i64 a5) ∧ w'.cell? ⟨w.heap.size, 6, none⟩ = some (.int .i64 a6) ∧ w'.cell? ⟨w.heap.size, 7, none⟩ = some (.int .i64 a7) ∧ w'.cell? ⟨w.heap.size, 8, none⟩ = some (.int .i64 a8))
  (first | (refine ⟨?_, ?_, ?_, ?_, ?_, ?_, ?_, ?_, ?_⟩ <;> ((repeat rw [World.cell?_setCell_other _ _ _ _ (by intro h; injection h; omega)]); rw [hB.cell (by assumption)]; assumption)))
  (first | (go_at_call 54; refine (burn_Check.calls 1 a0 a1 a2 a3 a4 a5 a6 a7 a8 A1 c1 l1 0 _ (Kd.C_below HR.out (hBw.trans (hB.mono hBw.size))) hc1 (check_ok HO.out)).mono ?_; rintro e w1 ⟨rfl, hb⟩; replace hB := hB.trans (hb.mono hB.size); clear hb; have y0 := (hB.cell (p := ⟨w.heap.size + 1, 0, none⟩) n1).trans cz0; have g0 := (hB.frozen (p := ⟨w.heap.size + 1, 0, none⟩) n1).trans (fz 0); have y1 := (hB.cell (p := ⟨w.heap.size + 1, 1, none⟩) n1).trans cz1; have g1 := (hB.frozen (p := ⟨w.heap.size + 1, 1, none⟩) n1).trans (fz 1); have y2 := (hB.cell (p := ⟨w.heap.size + 1, 2, none⟩) n1).trans cz2; have g2 := (hB.frozen (p := ⟨w.heap.size + 1, 2, none⟩) n1).trans (fz 2); have y3 := (hB.cell (p := ⟨w.heap.size + 1, 3, none⟩) n1).trans cz3; have g3 := (hB.frozen (p := ⟨w.heap.size + 1, 3, none⟩) n1).trans (fz 3); have y4 := (hB.cell (p := ⟨w.heap.size + 1, 4, none⟩) n1).trans cz4; have g4 := (hB.frozen (p := ⟨w.heap.size + 1, 4, none⟩) n1).trans (fz 4); have y5 := (hB.cell (p := ⟨w.heap.size + 1, 5, none⟩) n1).trans cz5; have g5 := (hB.frozen (p := ⟨w.heap.size + 1, 5, none⟩) n1).trans (fz 5); have y6 := (hB.cell (p := ⟨w.heap.size + 1, 6, none⟩) n1).trans cz6; have g6 := (hB.frozen (p := ⟨w.heap.size + 1, 6, none⟩) n1).trans (fz 6); have y7 := (hB.cell (p := ⟨w.heap.size + 1, 7, none⟩) n1).trans cz7; have g7 := (hB.frozen (p := ⟨w.heap.size + 1, 7, none⟩) n1).trans (fz 7); have y8 := (hB.cell (p := ⟨w.heap.size + 1, 8, none⟩) n1).trans cz8; have g8 := (hB.frozen (p := ⟨w.heap.size + 1, 8, none⟩) n1).trans (fz 8); have y9 := (hB.cell (p := ⟨w.heap.size + 1, 9, none⟩) n1).trans cz9; have g9 := (hB.frozen (p := ⟨w.heap.size + 1, 9, none⟩) n1).trans (fz 9); have y10 := (hB.cell (p := ⟨w.heap.size + 1, 10, none⟩) n1).trans cz10; have g10 := (hB.frozen (p := ⟨w.heap.size + 1, 10, none⟩) n1).trans (fz 10)))
 all_goals
  obtain ⟨X, hX⟩ : ∃ X, X = (((((((((((w1.setCell ⟨w.heap.size + 1, 0, none⟩ (.int .i64 a0)).setCell ⟨w.heap.size + 1, 1, none⟩ (.int .i64 a1)).setCell ⟨w.heap.size + 1, 2, none⟩ (.int .i64 a2)).setCell ⟨w.heap.size + 1, 3, none⟩ (.int .i64 a3)).setCell ⟨w.heap.size + 1, 4, none⟩ (.int .i64 a4)).setCell ⟨w.heap.size + 1, 5, none⟩ (.int .i64 a5)).setCell ⟨w.heap.size + 1, 6, none⟩ (.int .i64 a6)).setCell ⟨w.heap.size + 1, 7, none⟩ (.int .i64 a7)).setCell ⟨w.heap.size + 1, 8, none⟩ (.int .i64 a8)).setCell ⟨w.heap.size + 1, 9, none⟩ (.slice A1 l1.length c1)).setCell ⟨w.heap.size + 1, 10, none⟩ (.int .i64 n)) := ⟨_, rfl⟩
  have hBX : Below w.heap.size w X := by
   rw [hX]
   (iterate 11 (refine Below.setCell ?_ (by simp) _))
   exact hBw.trans (hB.mono hBw.size)
  have x0 : X.cell? ⟨w.heap.size + 1, 0, none⟩ = some (.int .i64 a0) := by
   rw [hX]
   (repeat rw [World.cell?_setCell_other _ _ _ _ (by intro h; injection h; omega)])
   refine World.cell?_setCell_same (u := .int .i64 0) _ _ _ ?_
   (repeat rw [World.cell?_setCell_other _ _ _ _ (by intro h; injection h; omega)])
   assumption
  have x1 : X.cell? ⟨w.heap.size + 1, 1, none⟩ = some (.int .i64 a1) := by
   rw [hX]
   (repeat rw [World.cell?_setCell_other _ _ _ _ (by intro h; injection h; omega)])
   refine World.cell?_setCell_same (u := .int .i64 0) _ _ _ ?_
   (repeat rw [World.cell?_setCell_other _ _ _ _ (by intro h; injection h; omega)])
   assumption
  have x2 : X.cell? ⟨w.heap.size + 1, 2, none⟩ = some (.int .i64 a2) := by
   rw [hX]
   (repeat rw [World.cell?_setCell_other _ _ _ _ (by intro h; injection h; omega)])
   refine World.cell?_setCell_same (u := .int .i64 0) _ _ _ ?_
   (repeat rw [World.cell?_setCell_other _ _ _ _ (by intro h; injection h; omega)])
   assumption
  have x3 : X.cell? ⟨w.heap.size + 1, 3, none⟩ = some (.int .i64 a3) := by
   rw [hX]
   (repeat rw [World.cell?_setCell_other _ _ _ _ (by intro h; injection h; omega)])
   refine World.cell?_setCell_same (u := .int .i64 0) _ _ _ ?_
   (repeat rw [World.cell?_setCell_other _ _ _ _ (by intro h; injection h; omega)])
   assumption
  have x4 : X.cell? ⟨w.heap.size + 1, 4, none⟩ = some (.int .i64 a4) := by
   rw [hX]
   (repeat rw [World.cell?_setCell_other _ _ _ _ (by intro h; injection h; omega)])
   refine World.cell?_setCell_same (u := .int .i64 0) _ _ _ ?_
   (repeat rw [World.cell?_setCell_other _ _ _ _ (by intro h; injection h; omega)])
   assumption
  have x5 : X.cell? ⟨w.heap.size + 1, 5, none⟩ = some (.int .i64 a5) := by
   rw [hX]
   (repeat rw [World.cell?_setCell_other _ _ _ _ (by intro h; injection h; omega)])
   refine World.cell?_setCell_same (u := .int .i64 0) _ _ _ ?_
   (repeat rw [World.cell?_setCell_other _ _ _ _ (by intro h; injection h; omega)])
   assumption
  have x6 : X.cell? ⟨w.heap.size + 1, 6, none⟩ = some (.int .i64 a6) := by
   rw [hX]
   (repeat rw [World.cell?_setCell_other _ _ _ _ (by intro h; injection h; omega)])
   refine World.cell?_setCell_same (u := .int .i64 0) _ _ _ ?_
   (repeat rw [World.cell?_setCell_other _ _ _ _ (by intro h; injection h; omega)])
   assumption
  have x7 : X.cell? ⟨w.heap.size + 1, 7, none⟩ = some (.int .i64 a7) := by
   rw [hX]
   (repeat rw [World.cell?_setCell_other _ _ _ _ (by intro h; injection h; omega)])
   refine World.cell?_setCell_same (u := .int .i64 0) _ _ _ ?_
   (repeat rw [World.cell?_setCell_other _ _ _ _ (by intro h; injection h; omega)])
   assumption
  have x8 : X.cell? ⟨w.heap.size + 1, 8, none⟩ = some (.int .i64 a8) := by
   rw [hX]
   (repeat rw [World.cell?_setCell_other _ _ _ _ (by intro h; injection h; omega)])
   refine World.cell?_setCell_same (u := .int .i64 0) _ _ _ ?_
   (repeat rw [World.cell?_setCell_other _ _ _ _ (by intro h; injection h; omega)])
   assumption
  have x9 : X.cell? ⟨w.heap.size + 1, 9, none⟩ = some (.slice A1 l1.length c1) := by
   rw [hX]
   (repeat rw [World.cell?_setCell_other _ _ _ _ (by intro h; injection h; omega)])
   refine World.cell?_setCell_same (u := .slice none 0 0) _ _ _ ?_
   (repeat rw [World.cell?_setCell_other _ _ _ _ (by intro h; injection h; omega)])
   assumption
  have x10 : X.cell? ⟨w.heap.size + 1, 10, none⟩ = some (.int .i64 n) := by
   rw [hX]
   (repeat rw [World.cell?_setCell_other _ _ _ _ (by intro h; injection h; omega)])
   refine World.cell?_setCell_same (u := .int .i64 0) _ _ _ ?_
   (repeat rw [World.cell?_setCell_other _ _ _ _ (by intro h; injection h; omega)])
   assumption
  rw [← hX]
  clear hX
  try go_wp2
  refine bodyPost_ret (v := .tuple #[.agg #[.int .i64 a0, .int .i64 a1, .int .i64 a2, .int .i64 a3, .int .i64 a4, .int .i64 a5, .int .i64 a6, .int .i64 a7, .int .i64 a8, .slice A1 l1.length c1, .int .i64 n], .int .i64 0]) (by simp [results, Tryd.results28, go_sem, x0, x1, x2, x3, x4, x5, x6, x7, x8, x9, x10]) rfl ⟨rfl, hBX⟩
end Go.Proofs.YtdnkjdekikjihaaDoor.G
