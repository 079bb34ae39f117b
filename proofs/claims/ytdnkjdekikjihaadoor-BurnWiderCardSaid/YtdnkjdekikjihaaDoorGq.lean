import Derived.Test.YtdnkjdekikjihaaDoorPBx1
import Derived.Test.YtdnkjdekikjihaaDoorGf
namespace Go.Proofs.YtdnkjdekikjihaaDoor.G
open Go.RowKit Go.Shelf Go.Proofs.YtdnkjdekikjihaaDoorW.PrintWords Go.Proofs.YtdnkjdekikjihaaDoor.PA Go.Proofs.YtdnkjdekikjihaaDoor.PB

theorem quo_bd {a x : Int} (h0 : 0 ≤ a) (h1 : a ≤ 1000000000) (hx : 1 ≤ x) : 0 ≤ a / x ∧ a / x ≤ 1000000000 := by
  have h2 : a / x ≤ a := Int.ediv_le_self _ h0
  exact ⟨Int.ediv_nonneg h0 (by omega), by omega⟩
set_option maxHeartbeats 1000000 in
theorem dark1 (B1 B2 : Nat) (A : Option Addr) (c : Nat) (l : List Int) (s x : Int) (w : World) (hr : Kd.C (Kd.int .i64) w A l.length l)
    (c1 : w.cell? ⟨B1, 0, none⟩ = some (.slice A l.length c)) (c2 : w.cell? ⟨B2, 0, none⟩ = some (.int .i64 s)) (h0 : 0 ≤ s) (h1 : s < l.length) (hx : 1 ≤ x) (hv0 : 0 ≤ rd l s) (hv1 : rd l s ≤ 1000000) (y : Int) (hy : 1000 - 1000 * rd l s / x = y) :
    Calls Tryd.prog 77 #[.int .i64 x, .pointer (some ⟨B1, 0, none⟩), .pointer (some ⟨B2, 0, none⟩)] w fun e w' => e = .returned (.int .i64 y) ∧ Below w.heap.size w w' := by
  obtain ⟨ad, rfl, hel⟩ := Kd.at_int hr s h0 h1
  have hl := hr.2.1
  obtain ⟨v, hv⟩ : ∃ v, rd l s = v := ⟨_, rfl⟩
  rw [hv] at hel hv0 hv1 hy
  have HY := Aside0.mk hy
  obtain ⟨q, hq⟩ : ∃ q, 1000 * v / x = q := ⟨_, rfl⟩
  have hb := quo_bd (a := 1000 * v) (x := x) (by omega) (by omega) hx
  rw [hq] at hb hy
  have k1 : IntKind.i64.wrap (1000 * v) = 1000 * v := IntWalk.i64_in _ (by omega)
  have k2 : (1000 * v).tdiv x = q := by rw [Int.tdiv_eq_ediv_of_nonneg (by omega)]; exact hq
  have k3 : ¬ (x = 0) := by omega
  have k4 : ¬ (x = -1) := by omega
  have k5 : IntKind.i64.wrap q = q := IntWalk.i64_in _ (by omega)
  have k6 : (x == 0) = false := by simp; omega
  clear hr hv hq HY
  subst hy
  go_enter Tryd.func77, Tryd.ntmps77
  go_wp2
  go_ret
  exact ⟨rfl, Below.refl _ _⟩

def burn_Dark.f (k : Nat) (a0_0 : Int) (a0_1 : Int) (l1 : List Int) (a2 : Int) : Option (Int × Int × Int) := (burn_Clean.f k a0_0 a0_1 l1 a2).bind fun t =>
  if t.2.2 = 0 ∧ 0 ≤ a2 ∧ a2 < l1.length ∧ 1 ≤ t.1 ∧ 1 ≤ t.2.1 ∧ 0 ≤ rd l1 a2 ∧ rd l1 a2 ≤ 1000000 then some (1000 - 1000 * rd l1 a2 / t.1, 1000 - 1000 * rd l1 a2 / t.2.1, 0) else none
theorem burn_Dark.mono : ∀ a0 a1 a2 a3 k, LeO (burn_Dark.f k a0 a1 a2 a3) (burn_Dark.f (k + 1) a0 a1 a2 a3) := fun a0 a1 a2 a3 k => LeO.bind (burn_Clean.mono a0 a1 a2 a3 k) (fun _ => LeO.refl _)
theorem en77 : Enters Tryd.prog 77 := enters_of Tryd.func77 (by kernel_rfl) rfl

set_option maxHeartbeats 4000000 in
set_option maxRecDepth 100000 in
theorem burn_Dark.calls (k : Nat) (a0_0 : Int) (a0_1 : Int) (A1 : Option Addr) (c1 : Nat) (l1 : List Int) (a2 : Int) (r1 : Int) (r2 : Int) (r3 : Int) (w : World) (hr1 : Kd.C (Kd.int .i64) w A1 l1.length l1) (hc1 : l1.length ≤ c1) (h : burn_Dark.f k a0_0 a0_1 l1 a2 = some (r1, r2, r3)) :
    Calls Tryd.prog 50 #[.agg #[.int .i64 a0_0, .int .i64 a0_1], .slice A1 l1.length c1, .int .i64 a2] w fun e w' => e = .returned (.tuple #[.agg #[.int .i64 r1, .int .i64 r2], .int .i64 r3]) ∧ Below w.heap.size w w' := by
  unfold burn_Dark.f at h
  obtain ⟨⟨t1, t2, t3⟩, hcl, h⟩ := Option.bind_eq_some_iff.mp h
  split at h
  case isFalse => cases h
  case isTrue hc =>
  obtain ⟨e3, h0, h1, ht1, ht2, hv0, hv1⟩ := hc
  simp only at e3 ht1 ht2
  subst e3
  simp only [Option.some.injEq, Prod.mk.injEq] at h
  obtain ⟨rfl, rfl, rfl⟩ := h
  have HR := Aside0.mk hr1
  have HC := Aside0.mk hc1
  have HCL := Aside0.mk hcl
  obtain ⟨q1, hq1⟩ : ∃ q, 1000 - 1000 * rd l1 a2 / t1 = q := ⟨_, rfl⟩
  obtain ⟨q2, hq2⟩ : ∃ q, 1000 - 1000 * rd l1 a2 / t2 = q := ⟨_, rfl⟩
  rw [hq1, hq2]
  have HQ := Aside0.mk (And.intro hq1 hq2)
  have HV := Aside0.mk (And.intro hv0 hv1)
  clear hr1 hc1 hcl hq1 hq2 hv0 hv1
  go_enter Tryd.func50, Tryd.ntmps50
  go_wp2_with fail
  obtain ⟨W, hW⟩ : ∃ W, W = (((w.alloc (.cells #[.int .i64 a0_0, .int .i64 a0_1] 56)).alloc (.cells #[.slice A1 l1.length c1] 26)).alloc (.cells #[.int .i64 a2] 3)).alloc (.cells #[.int .i64 0, .int .i64 0] 23) := ⟨_, rfl⟩
  rw [← hW]
  have hBw : Below w.heap.size w W := by rw [hW]; go_grown
  have cs : W.cell? ⟨w.heap.size + 1, 0, none⟩ = some (.slice A1 l1.length c1) := by rw [hW]; simp [go_sem]
  have ci : W.cell? ⟨w.heap.size + 1 + 1, 0, none⟩ = some (.int .i64 a2) := by rw [hW]; simp [go_sem]
  have cz0 : W.cell? ⟨w.heap.size + 1 + 1 + 1, 0, none⟩ = some (.int .i64 0) := by rw [hW]; simp [go_sem]
  have cz1 : W.cell? ⟨w.heap.size + 1 + 1 + 1, 1, none⟩ = some (.int .i64 0) := by rw [hW]; simp [go_sem]
  have fz0 : W.frozen? ⟨w.heap.size + 1 + 1 + 1, 0, none⟩ = false := by rw [hW]; simp [go_sem]
  have fz1 : W.frozen? ⟨w.heap.size + 1 + 1 + 1, 1, none⟩ = false := by rw [hW]; simp [go_sem]
  have n1 : w.heap.size + 1 + 1 + 1 < W.heap.size := by rw [hW]; simp
  clear hW
  refine (burn_Clean.calls k a0_0 a0_1 A1 c1 l1 a2 t1 t2 0 _ (Kd.C_below HR.out hBw) HC.out HCL.out).mono ?_
  rintro e w1 ⟨rfl, hb⟩
  replace cs := (hb.cell (p := ⟨w.heap.size + 1, 0, none⟩) (by simp; omega)).trans cs
  replace ci := (hb.cell (p := ⟨w.heap.size + 1 + 1, 0, none⟩) (by simp; omega)).trans ci
  replace cz0 := (hb.cell (p := ⟨w.heap.size + 1 + 1 + 1, 0, none⟩) n1).trans cz0
  replace cz1 := (hb.cell (p := ⟨w.heap.size + 1 + 1 + 1, 1, none⟩) n1).trans cz1
  replace fz0 := (hb.frozen (p := ⟨w.heap.size + 1 + 1 + 1, 0, none⟩) n1).trans fz0
  replace fz1 := (hb.frozen (p := ⟨w.heap.size + 1 + 1 + 1, 1, none⟩) n1).trans fz1
  replace n1 := Nat.lt_of_lt_of_le n1 hb.size
  replace hBw := hBw.trans (hb.mono hBw.size)
  clear hb
  clear W
  have hmf : ∀ (fn : Fn) (first cap : Array Value) (w : World), (Instr.makeFunc fn first cap).run Tryd.prog w = .ok (.func fn first cap) w := fun _ _ _ _ => rfl
  go_wp2
  obtain ⟨V, hV⟩ : ∃ V, V = w1.alloc (.cells #[.int .i64 t1, .int .i64 t2] 23) := ⟨_, rfl⟩
  rw [← hV]
  have hBV : Below w1.heap.size w1 V := by rw [hV]; go_grown
  have v0 : V.cell? ⟨w1.heap.size, 0, none⟩ = some (.int .i64 t1) := by rw [hV]; simp [go_sem]
  have v1 : V.cell? ⟨w1.heap.size, 1, none⟩ = some (.int .i64 t2) := by rw [hV]; simp [go_sem]
  have n2 : w1.heap.size < V.heap.size := by rw [hV]; simp
  clear hV
  replace cs := (hBV.cell (p := ⟨w.heap.size + 1, 0, none⟩) (by simp; omega)).trans cs
  replace ci := (hBV.cell (p := ⟨w.heap.size + 1 + 1, 0, none⟩) (by simp; omega)).trans ci
  replace cz0 := (hBV.cell (p := ⟨w.heap.size + 1 + 1 + 1, 0, none⟩) n1).trans cz0
  replace cz1 := (hBV.cell (p := ⟨w.heap.size + 1 + 1 + 1, 1, none⟩) n1).trans cz1
  replace fz0 := (hBV.frozen (p := ⟨w.heap.size + 1 + 1 + 1, 0, none⟩) n1).trans fz0
  replace fz1 := (hBV.frozen (p := ⟨w.heap.size + 1 + 1 + 1, 1, none⟩) n1).trans fz1
  have hBwV := hBw.trans (hBV.mono hBw.size)
  have m1 := n1
  replace n1 : w.heap.size + 1 + 1 + 1 < V.heap.size := by omega
  have n3 : w.heap.size + 1 < V.heap.size := by omega
  have n4 : w.heap.size + 1 + 1 < V.heap.size := by omega
  have hB : Below V.heap.size V V.drew := (Below.refl _ _).drew
  have H77 := Aside0.mk (fun (x y : Int) (X : World) (hX : Below V.heap.size V X) (hx : 1 ≤ x) (hy : 1000 - 1000 * rd l1 a2 / x = y) =>
    dark1 (w.heap.size + 1) (w.heap.size + 1 + 1) A1 c1 l1 a2 x X (Kd.C_below HR.out (hBwV.trans (hX.mono hBwV.size))) ((hX.cell (p := ⟨w.heap.size + 1, 0, none⟩) n3).trans cs) ((hX.cell (p := ⟨w.heap.size + 1 + 1, 0, none⟩) n4).trans ci) h0 h1 hx HV.out.1 HV.out.2 y hy)
  go_region_held3 (fun w' => w'.cell? ⟨w1.heap.size, 0, none⟩ = some (.int .i64 t1) ∧ w'.cell? ⟨w1.heap.size, 1, none⟩ = some (.int .i64 t2))
    (first | (refine ⟨?_, ?_⟩ <;> ((repeat rw [World.cell?_setCell_other _ _ _ _ (by intro h; injection h; omega)]); rw [hB.cell (by assumption)]; assumption)))
    (first | (go_at_call_of 77 (t1); refine (H77.out t1 q1 _ hB ht1 HQ.out.1).mono ?_; rintro e w3 ⟨rfl, hb⟩; replace hB := hB.trans (hb.mono hB.size); clear hb; have y0 := (hB.cell (p := ⟨w.heap.size + 1 + 1 + 1, 0, none⟩) n1).trans cz0; have y1 := (hB.cell (p := ⟨w.heap.size + 1 + 1 + 1, 1, none⟩) n1).trans cz1; have g0 := (hB.frozen (p := ⟨w.heap.size + 1 + 1 + 1, 0, none⟩) n1).trans fz0; have g1 := (hB.frozen (p := ⟨w.heap.size + 1 + 1 + 1, 1, none⟩) n1).trans fz1) | (go_at_call_of 77 (t2); refine (H77.out t2 q2 _ hB ht2 HQ.out.2).mono ?_; rintro e w4 ⟨rfl, hb⟩; replace hB := hB.trans (hb.mono hB.size); clear hb; have y0 := (hB.cell (p := ⟨w.heap.size + 1 + 1 + 1, 0, none⟩) n1).trans cz0; have y1 := (hB.cell (p := ⟨w.heap.size + 1 + 1 + 1, 1, none⟩) n1).trans cz1; have g0 := (hB.frozen (p := ⟨w.heap.size + 1 + 1 + 1, 0, none⟩) n1).trans fz0; have g1 := (hB.frozen (p := ⟨w.heap.size + 1 + 1 + 1, 1, none⟩) n1).trans fz1))
  all_goals
    have hBf := hBwV.trans (hB.mono hBwV.size)
    have T := Aside0.mk (two_set (.int .i64 q1) (.int .i64 q2) y0 y1 g0 g1)
    clear y0 y1 g0 g1
    try go_wp2
    obtain ⟨x0, x1, _⟩ := T.out
    refine bodyPost_ret (v := .tuple #[.agg #[.int .i64 q1, .int .i64 q2], .int .i64 0]) (by simp [results, Tryd.results50, go_sem, x0, x1]) rfl ⟨rfl, (hBf.setCell (by show w.heap.size ≤ w.heap.size + 1 + 1 + 1; omega) _).setCell (by show w.heap.size ≤ w.heap.size + 1 + 1 + 1; omega) _⟩
end Go.Proofs.YtdnkjdekikjihaaDoor.G
