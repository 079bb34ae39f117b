import Derived.Test.YtdnkjdekikjihaaDoorGb
import Derived.Laws.EntriesVeiled
namespace Go.Proofs.YtdnkjdekikjihaaDoor.G
open Go.RowKit Go.Shelf Go.Proofs.YtdnkjdekikjihaaDoorW.PrintWords

/-- 'burn.ends' as it is laid. -/
def Ends (w : World) : Prop := w.cell? ⟨0, 0, none⟩ = some (.func (.func 159) #[] #[]) ∧ w.cell? ⟨0, 1, none⟩ = some (.func (.func 160) #[] #[]) ∧ w.cell? ⟨0, 2, none⟩ = some (.func (.func 161) #[] #[]) ∧ w.cell? ⟨0, 3, none⟩ = some (.func (.func 162) #[] #[])

theorem prod_le {a b c A B C : Int} (a0 : 0 ≤ a) (a1 : a ≤ A) (b0 : 0 ≤ b) (b1 : b ≤ B) (c0 : 0 ≤ c) (c1 : c ≤ C) : 0 ≤ a * b ∧ a * b ≤ A * B ∧ 0 ≤ a * b * c ∧ a * b * c ≤ A * B * C := by
  have h1 : 0 ≤ a * b := Int.mul_nonneg a0 b0
  have h2 : a * b ≤ A * B := Int.mul_le_mul a1 b1 b0 (by omega)
  exact ⟨h1, h2, Int.mul_nonneg h1 c0, Int.mul_le_mul h2 c1 c0 (by omega)⟩
theorem en159 : Enters Tryd.prog 159 := enters_of Tryd.func159 (by kernel_rfl) rfl
theorem en160 : Enters Tryd.prog 160 := enters_of Tryd.func160 (by kernel_rfl) rfl
theorem en161 : Enters Tryd.prog 161 := enters_of Tryd.func161 (by kernel_rfl) rfl
theorem en162 : Enters Tryd.prog 162 := enters_of Tryd.func162 (by kernel_rfl) rfl

set_option maxRecDepth 100000 in
set_option maxHeartbeats 4000000 in
theorem heat (b0 b1 f0 f1 j0 j1 g0 g1 dr : Int) (ad : Addr) (c : Nat) (l : List Int) (sec k lag : Int) (w : World) (hE : Ends w)
    (hk : 0 ≤ k) (hlag : 0 ≤ lag) (hlag2 : lag ≤ 30) (hk2 : k ≤ 200) (hlt : k + lag < (l.length : Int)) (hel : w.cell? (ad.add (k + lag).toNat) = some (.int .i64 (rd l (k + lag))))
    (e0 : 0 ≤ rd l (k + lag)) (e1 : rd l (k + lag) ≤ 1000000) (hb0 : 0 ≤ b0) (hb1 : b0 ≤ b1) (hb2 : b1 ≤ 1000000) (r0 : 0 ≤ dr) (r1 : dr ≤ 1000)
    (hf0 : 0 ≤ f0) (hf1 : f0 ≤ f1) (hf2 : f1 ≤ 10000) (hj0 : 0 ≤ j0) (hj1 : j0 ≤ j1) (hj2 : j1 ≤ 30000) :
    Calls Tryd.prog 30 #[.agg #[.int .i64 b0, .int .i64 b1, .int .i64 f0, .int .i64 f1, .int .i64 j0, .int .i64 j1, .int .i64 g0, .int .i64 g1, .int .i64 dr, .slice (some ad) l.length c, .int .i64 sec], .int .i64 k, .int .i64 lag] w fun e w' =>
      e = .returned (.agg #[.int .i64 (j0 * f0 * max 0 (b0 - rd l (k + lag) - dr)), .int .i64 (j1 * f1 * max 0 (b1 - rd l (k + lag) + dr))]) ∧ Below w.heap.size w w' := by
  obtain ⟨E0, E1, E2, E3⟩ := hE
  have kN := World.block_lt_of_cell? w _ E0
  have ke := World.block_lt_of_cell? w _ hel
  simp only at kN
  obtain ⟨N, hN⟩ : ∃ N, N = w.heap.size := ⟨_, rfl⟩
  have P0 := prod_le hj0 (show j0 ≤ 30000 by omega) hf0 (show f0 ≤ 10000 by omega) (c := max 0 (b0 - rd l (k + lag) - dr)) (C := 1001000) (by omega) (by omega)
  have P1 := prod_le (show 0 ≤ j1 by omega) hj2 (show 0 ≤ f1 by omega) hf2 (c := max 0 (b1 - rd l (k + lag) + dr)) (C := 1001000) (by omega) (by omega)
  have q0 : IntKind.i64.wrap (j0 * f0) = j0 * f0 := IntWalk.i64_in _ (by omega)
  have q1 : IntKind.i64.wrap (j1 * f1) = j1 * f1 := IntWalk.i64_in _ (by omega)
  have q2 : IntKind.i64.wrap (j0 * f0 * max 0 (b0 - rd l (k + lag) - dr)) = j0 * f0 * max 0 (b0 - rd l (k + lag) - dr) := IntWalk.i64_in _ (by omega)
  have q3 : IntKind.i64.wrap (j1 * f1 * max 0 (b1 - rd l (k + lag) + dr)) = j1 * f1 * max 0 (b1 - rd l (k + lag) + dr) := IntWalk.i64_in _ (by omega)
  clear P0 P1
  obtain ⟨m0, hm0⟩ : ∃ m0, max 0 (b0 - rd l (k + lag) - dr) = m0 := ⟨_, rfl⟩
  obtain ⟨m1, hm1⟩ : ∃ m1, max 0 (b1 - rd l (k + lag) + dr) = m1 := ⟨_, rfl⟩
  rw [hm0] at q2 ⊢
  rw [hm1] at q3 ⊢
  have HM0 := Aside0.mk hm0
  have HM1 := Aside0.mk hm1
  clear hm0 hm1
  have h56 := fun Bx Bd B2 B3 W x0 x1 d0 d1 d8 d9 s2 s3 hel => heat1_lo Bx Bd B2 B3 b0 b1 dr k lag l ad c W x0 x1 d0 d1 d8 d9 s2 s3 hk hlag hlag2 hk2 hlt hel e0 e1 hb0 (by omega) r0 r1
  have h57 := fun Bx Bd B2 B3 W x0 x1 d0 d1 d8 d9 s2 s3 hel => heat1_hi Bx Bd B2 B3 b0 b1 dr k lag l ad c W x0 x1 d0 d1 d8 d9 s2 s3 hk hlag hlag2 hk2 hlt hel e0 e1 (by omega) (by omega) r0 r1
  rw [HM0.out] at h56
  rw [HM1.out] at h57
  have H56 := Aside0.mk h56
  have H57 := Aside0.mk h57
  clear h56 h57
  go_enter Tryd.func30, Tryd.ntmps30
  go_wp2
  have hi0 : ∀ w', (Instr.index 115 (.agg #[.func (.func 159) #[] #[], .func (.func 160) #[] #[], .func (.func 161) #[] #[], .func (.func 162) #[] #[]]) (.int .i64 0)).run Tryd.prog w' = .ok (.agg #[.func (.func 159) #[] #[], .func (.func 160) #[] #[]]) w' := fun _ => by kernel_rfl
  have hi1 : ∀ w', (Instr.index 115 (.agg #[.func (.func 159) #[] #[], .func (.func 160) #[] #[], .func (.func 161) #[] #[], .func (.func 162) #[] #[]]) (.int .i64 1)).run Tryd.prog w' = .ok (.agg #[.func (.func 161) #[] #[], .func (.func 162) #[] #[]]) w' := fun _ => by kernel_rfl
  have hmf : ∀ (fn : Fn) (first cap : Array Value) (w : World), (Instr.makeFunc fn first cap).run Tryd.prog w = .ok (.func fn first cap) w := fun _ _ _ _ => rfl
  refine wp_loop_rounds 3 ?_
  rw [rounds_succ]
  go_wp2_with fail
  obtain ⟨W, hW⟩ : ∃ W, W = (((((w.alloc (.cells #[.int .i64 b0, .int .i64 b1, .int .i64 f0, .int .i64 f1, .int .i64 j0, .int .i64 j1, .int .i64 g0, .int .i64 g1, .int .i64 dr, .slice (some ad) l.length c, .int .i64 sec] 64)).alloc (.cells #[.int .i64 k] 3)).alloc (.cells #[.int .i64 lag] 3)).alloc (.cells #[.int .i64 0, .int .i64 0] 23)).alloc (.cells #[.int .i64 0, .int .i64 0] 110)).alloc (.cells #[.func (.func 159) #[] #[], .func (.func 160) #[] #[]] 114) := ⟨_, rfl⟩
  rw [← hW]
  have HW := Aside0.mk hW
  clear hW
  have hM : W.heap.size = w.heap.size + 1 + 1 + 1 + 1 + 1 + 1 := by rw [HW.out]; simp [go_sem]
  have hBw : Below w.heap.size w W := by rw [HW.out]; go_grown
  have cx0 : W.cell? ⟨w.heap.size + 1 + 1 + 1 + 1 + 1, 0, none⟩ = some (.func (.func 159) #[] #[]) := by rw [HW.out]; simp [go_sem]
  have cx1 : W.cell? ⟨w.heap.size + 1 + 1 + 1 + 1 + 1, 1, none⟩ = some (.func (.func 160) #[] #[]) := by rw [HW.out]; simp [go_sem]
  have cd0 : W.cell? ⟨w.heap.size, 0, none⟩ = some (.int .i64 b0) := by rw [HW.out]; simp [go_sem]
  have cd1 : W.cell? ⟨w.heap.size, 1, none⟩ = some (.int .i64 b1) := by rw [HW.out]; simp [go_sem]
  have cd2 : W.cell? ⟨w.heap.size, 2, none⟩ = some (.int .i64 f0) := by rw [HW.out]; simp [go_sem]
  have cd3 : W.cell? ⟨w.heap.size, 3, none⟩ = some (.int .i64 f1) := by rw [HW.out]; simp [go_sem]
  have cd4 : W.cell? ⟨w.heap.size, 4, none⟩ = some (.int .i64 j0) := by rw [HW.out]; simp [go_sem]
  have cd5 : W.cell? ⟨w.heap.size, 5, none⟩ = some (.int .i64 j1) := by rw [HW.out]; simp [go_sem]
  have cd8 : W.cell? ⟨w.heap.size, 8, none⟩ = some (.int .i64 dr) := by rw [HW.out]; simp [go_sem]
  have cd9 : W.cell? ⟨w.heap.size, 9, none⟩ = some (.slice (some ad) l.length c) := by rw [HW.out]; simp [go_sem]
  have cs2 : W.cell? ⟨w.heap.size + 1, 0, none⟩ = some (.int .i64 k) := by rw [HW.out]; simp [go_sem]
  have cs3 : W.cell? ⟨w.heap.size + 1 + 1, 0, none⟩ = some (.int .i64 lag) := by rw [HW.out]; simp [go_sem]
  have cz0 : W.cell? ⟨w.heap.size + 1 + 1 + 1 + 1, 0, none⟩ = some (.int .i64 0) := by rw [HW.out]; simp [go_sem]
  have cz1 : W.cell? ⟨w.heap.size + 1 + 1 + 1 + 1, 1, none⟩ = some (.int .i64 0) := by rw [HW.out]; simp [go_sem]
  have fz : ∀ j, W.frozen? ⟨w.heap.size + 1 + 1 + 1 + 1, j, none⟩ = false := by intro j; rw [HW.out]; simp [go_sem]
  have cel : W.cell? (ad.add (k + lag).toNat) = some (.int .i64 (rd l (k + lag))) := (hBw.cell ke).trans hel
  have hB : Below W.heap.size W W.drew := (Below.refl _ _).drew
  clear E0 E1 E2 E3 hel
  have n0 : w.heap.size < W.heap.size := by omega
  have n1 : w.heap.size + 1 < W.heap.size := by omega
  have n2 : w.heap.size + 1 + 1 < W.heap.size := by omega
  have n4 : w.heap.size + 1 + 1 + 1 + 1 < W.heap.size := by omega
  have n5 : w.heap.size + 1 + 1 + 1 + 1 + 1 < W.heap.size := by omega
  have ne := Nat.lt_of_lt_of_le ke hBw.size
  have HM := Aside0.mk hM
  clear hM
  go_region_held3 (fun w' => w'.cell? ⟨w.heap.size + 1 + 1 + 1 + 1 + 1, 0, none⟩ = some (.func (.func 159) #[] #[]) ∧ w'.cell? ⟨w.heap.size, 2, none⟩ = some (.int .i64 f0) ∧ w'.cell? ⟨w.heap.size, 3, none⟩ = some (.int .i64 f1) ∧ w'.cell? ⟨w.heap.size, 4, none⟩ = some (.int .i64 j0) ∧ w'.cell? ⟨w.heap.size, 5, none⟩ = some (.int .i64 j1))
    (first | (refine ⟨?_, ?_, ?_, ?_, ?_⟩ <;> (rw [hB.cell (by assumption)]; assumption)) | (refine ⟨?_, ?_, ?_, ?_, ?_⟩ <;> (rw [World.cell?_setCell_other _ _ _ _ (by intro h; injection h; omega), hB.cell (by assumption)]; assumption)))
    (first | (go_at_call 159; refine (end1 _ _ _).mono ?_; rintro e w1 ⟨rfl, hb⟩; replace hB := hB.trans (hb.mono hB.size); clear hb) | (go_at_call 56; refine (H56.out _ _ _ _ _ ?_ ?_ ?_ ?_ ?_ ?_ ?_ ?_ ?_).mono ?_; (iterate 9 (rw [hB.cell (by assumption)]; assumption)); rintro e w3 ⟨rfl, hb⟩; replace hB := hB.trans (hb.mono hB.size); clear hb; have c40 := (hB.cell (p := ⟨w.heap.size + 1 + 1 + 1 + 1, 0, none⟩) n4).trans cz0; have f40 := (hB.frozen (p := ⟨w.heap.size + 1 + 1 + 1 + 1, 0, none⟩) n4).trans (fz 0)))
  have c41 := (hB.cell (p := ⟨w.heap.size + 1 + 1 + 1 + 1, 1, none⟩) n4).trans cz1
  have f41 := (hB.frozen (p := ⟨w.heap.size + 1 + 1 + 1 + 1, 1, none⟩) n4).trans (fz 1)
  obtain ⟨W2, hW2⟩ : ∃ W2, W2 = w3.setCell ⟨w.heap.size + 1 + 1 + 1 + 1, 0, none⟩ (.int .i64 (j0 * f0 * m0)) := ⟨_, rfl⟩
  rw [← hW2]
  have hB2 : Below w.heap.size w W2 := by rw [hW2]; exact (hBw.trans (hB.mono hBw.size)).setCell (by simp; omega) _
  have hs2 : W.heap.size ≤ W2.heap.size := by rw [hW2]; simpa [World.setCell] using hB.size
  have hc2 : ∀ p : Addr, p.block < W.heap.size → p.block ≠ w.heap.size + 1 + 1 + 1 + 1 → W2.cell? p = W.cell? p := fun p h1 h2 => by
    rw [hW2, World.cell?_setCell_other _ _ _ _ (by intro h; exact h2 (by rw [← h])), hB.cell h1]
  have fr0 : W2.frozen? ⟨w.heap.size + 1 + 1 + 1, 0, none⟩ = false := by rw [hW2, World.frozen?_setCell, hB.frozen (by simp; omega), HW.out]; simp [go_sem]
  have fr1 : W2.frozen? ⟨w.heap.size + 1 + 1 + 1, 1, none⟩ = false := by rw [hW2, World.frozen?_setCell, hB.frozen (by simp; omega), HW.out]; simp [go_sem]
  have a40 : W2.cell? ⟨w.heap.size + 1 + 1 + 1 + 1, 0, none⟩ = some (.int .i64 (j0 * f0 * m0)) := by rw [hW2, World.cell?_setCell_same _ _ _ c40]
  have a41 : W2.cell? ⟨w.heap.size + 1 + 1 + 1 + 1, 1, none⟩ = some (.int .i64 0) := by rw [hW2, World.cell?_setCell_other _ _ _ _ (by intro h; injection h; omega)]; exact c41
  have g41 : W2.frozen? ⟨w.heap.size + 1 + 1 + 1 + 1, 1, none⟩ = false := by rw [hW2, World.frozen?_setCell]; exact f41
  clear hW2
  replace cd0 := (hc2 _ n0 (by simp; omega)).trans cd0
  replace cd1 := (hc2 _ n0 (by simp; omega)).trans cd1
  replace cd2 := (hc2 _ n0 (by simp; omega)).trans cd2
  replace cd3 := (hc2 _ n0 (by simp; omega)).trans cd3
  replace cd4 := (hc2 _ n0 (by simp; omega)).trans cd4
  replace cd5 := (hc2 _ n0 (by simp; omega)).trans cd5
  replace cd8 := (hc2 _ n0 (by simp; omega)).trans cd8
  replace cd9 := (hc2 _ n0 (by simp; omega)).trans cd9
  replace cs2 := (hc2 _ n1 (by simp)).trans cs2
  replace cs3 := (hc2 _ n2 (by simp)).trans cs3
  have cr : W2.cell? ⟨w.heap.size + 1 + 1 + 1, 0, none⟩ = some (.int .i64 0) := (hc2 _ (by simp; omega) (by simp)).trans (by rw [HW.out]; simp [go_sem])
  have cr1 : W2.cell? ⟨w.heap.size + 1 + 1 + 1, 1, none⟩ = some (.int .i64 0) := (hc2 _ (by simp; omega) (by simp)).trans (by rw [HW.out]; simp [go_sem])
  replace cel := (hc2 _ ne (by omega)).trans cel
  have m5 : w.heap.size + 1 + 1 + 1 + 1 + 1 < W2.heap.size := by omega
  clear hc2 hB c40 f40 c41 f41 cx0 cx1 cz0 cz1 fz n0 n1 n2 n4 n5 ne hs2
  clear hBw HW HM
  clear W
  go_wp2_with fail
  rw [rounds_succ]
  go_wp2_with fail
  obtain ⟨V, hV⟩ : ∃ V, V = W2.alloc (.cells #[.func (.func 161) #[] #[], .func (.func 162) #[] #[]] 114) := ⟨_, rfl⟩
  rw [← hV]
  have hs3 : V.heap.size = W2.heap.size + 1 := by rw [hV]; simp
  have hBV : Below W2.heap.size W2 V := by rw [hV]; go_grown
  have cx0 : V.cell? ⟨W2.heap.size, 0, none⟩ = some (.func (.func 161) #[] #[]) := by rw [hV]; simp [go_sem]
  have cx1 : V.cell? ⟨W2.heap.size, 1, none⟩ = some (.func (.func 162) #[] #[]) := by rw [hV]; simp [go_sem]
  clear hV
  have kb := World.block_lt_of_cell? W2 _ cel
  have k0 : w.heap.size < W2.heap.size := by omega
  have k1 : w.heap.size + 1 < W2.heap.size := by omega
  have k2' : w.heap.size + 1 + 1 < W2.heap.size := by omega
  have k3 : w.heap.size + 1 + 1 + 1 < W2.heap.size := by omega
  have k4 : w.heap.size + 1 + 1 + 1 + 1 < W2.heap.size := by omega
  replace cd0 := (hBV.cell (p := ⟨w.heap.size, 0, none⟩) k0).trans cd0
  replace cd1 := (hBV.cell (p := ⟨w.heap.size, 1, none⟩) k0).trans cd1
  replace cd2 := (hBV.cell (p := ⟨w.heap.size, 2, none⟩) k0).trans cd2
  replace cd3 := (hBV.cell (p := ⟨w.heap.size, 3, none⟩) k0).trans cd3
  replace cd4 := (hBV.cell (p := ⟨w.heap.size, 4, none⟩) k0).trans cd4
  replace cd5 := (hBV.cell (p := ⟨w.heap.size, 5, none⟩) k0).trans cd5
  replace cd8 := (hBV.cell (p := ⟨w.heap.size, 8, none⟩) k0).trans cd8
  replace cd9 := (hBV.cell (p := ⟨w.heap.size, 9, none⟩) k0).trans cd9
  replace cs2 := (hBV.cell (p := ⟨w.heap.size + 1, 0, none⟩) k1).trans cs2
  replace cs3 := (hBV.cell (p := ⟨w.heap.size + 1 + 1, 0, none⟩) k2').trans cs3
  replace cr := (hBV.cell (p := ⟨w.heap.size + 1 + 1 + 1, 0, none⟩) k3).trans cr
  replace cr1 := (hBV.cell (p := ⟨w.heap.size + 1 + 1 + 1, 1, none⟩) k3).trans cr1
  replace cel := (hBV.cell kb).trans cel
  replace a40 := (hBV.cell (p := ⟨w.heap.size + 1 + 1 + 1 + 1, 0, none⟩) k4).trans a40
  replace a41 := (hBV.cell (p := ⟨w.heap.size + 1 + 1 + 1 + 1, 1, none⟩) k4).trans a41
  replace fr0 := (hBV.frozen (p := ⟨w.heap.size + 1 + 1 + 1, 0, none⟩) k3).trans fr0
  replace fr1 := (hBV.frozen (p := ⟨w.heap.size + 1 + 1 + 1, 1, none⟩) k3).trans fr1
  replace g41 := (hBV.frozen (p := ⟨w.heap.size + 1 + 1 + 1 + 1, 1, none⟩) k4).trans g41
  have n0 : w.heap.size < V.heap.size := by omega
  have n1 : w.heap.size + 1 < V.heap.size := by omega
  have n2 : w.heap.size + 1 + 1 < V.heap.size := by omega
  have n3 : w.heap.size + 1 + 1 + 1 < V.heap.size := by omega
  have n4 : w.heap.size + 1 + 1 + 1 + 1 < V.heap.size := by omega
  have n5 : W2.heap.size < V.heap.size := by omega
  have ne : (ad.add (k + lag).toNat).block < V.heap.size := by omega
  have hBt := hB2.trans (hBV.mono (Nat.le_of_lt (by omega)))
  have hB : Below V.heap.size V V.drew := (Below.refl _ _).drew
  have nx : ¬ (W2.heap.size = w.heap.size + 1 + 1 + 1 + 1) := by omega
  have HS := Aside0.mk hs3
  clear hs3 hB2 hBV kb k0 k1 k2' k3 k4 m5
  go_region_held3 (fun w' => w'.cell? ⟨W2.heap.size, 0, none⟩ = some (.func (.func 161) #[] #[]) ∧ w'.cell? ⟨w.heap.size, 2, none⟩ = some (.int .i64 f0) ∧ w'.cell? ⟨w.heap.size, 3, none⟩ = some (.int .i64 f1) ∧ w'.cell? ⟨w.heap.size, 4, none⟩ = some (.int .i64 j0) ∧ w'.cell? ⟨w.heap.size, 5, none⟩ = some (.int .i64 j1))
    (first | (refine ⟨?_, ?_, ?_, ?_, ?_⟩ <;> (rw [hB.cell (by assumption)]; assumption)) | (refine ⟨?_, ?_, ?_, ?_, ?_⟩ <;> (rw [World.cell?_setCell_other _ _ _ _ (by intro h; injection h; omega), hB.cell (by assumption)]; assumption)))
    (first | (go_at_call 161; refine (end3 _ _ _).mono ?_; rintro e w1 ⟨rfl, hb⟩; replace hB := hB.trans (hb.mono hB.size); clear hb) | (go_at_call 56; refine (H57.out _ _ _ _ _ ?_ ?_ ?_ ?_ ?_ ?_ ?_ ?_ ?_).mono ?_; (iterate 9 (rw [hB.cell (by assumption)]; assumption)); rintro e w5 ⟨rfl, hb⟩; replace hB := hB.trans (hb.mono hB.size); clear hb; have c41 := (hB.cell (p := ⟨w.heap.size + 1 + 1 + 1 + 1, 1, none⟩) n4).trans a41; have f41 := (hB.frozen (p := ⟨w.heap.size + 1 + 1 + 1 + 1, 1, none⟩) n4).trans g41))
  have c40 := (hB.cell (p := ⟨w.heap.size + 1 + 1 + 1 + 1, 0, none⟩) n4).trans a40
  replace fr0 := (hB.frozen (p := ⟨w.heap.size + 1 + 1 + 1, 0, none⟩) n3).trans fr0
  replace fr1 := (hB.frozen (p := ⟨w.heap.size + 1 + 1 + 1, 1, none⟩) n3).trans fr1
  have r0c := (hB.cell (p := ⟨w.heap.size + 1 + 1 + 1, 0, none⟩) n3).trans cr
  have r1c := (hB.cell (p := ⟨w.heap.size + 1 + 1 + 1, 1, none⟩) n3).trans cr1
  go_wp2_with fail
  rw [rounds_succ]
  go_wp2_with fail
  obtain ⟨X, hX⟩ : ∃ X, X = ((w5.setCell ⟨w.heap.size + 1 + 1 + 1 + 1, 1, none⟩ (.int .i64 (j1 * f1 * m1))).setCell ⟨w.heap.size + 1 + 1 + 1, 0, none⟩ (.int .i64 (j0 * f0 * m0))).setCell ⟨w.heap.size + 1 + 1 + 1, 1, none⟩ (.int .i64 (j1 * f1 * m1)) := ⟨_, rfl⟩
  rw [← hX]
  have x0 : X.cell? ⟨w.heap.size + 1 + 1 + 1, 0, none⟩ = some (.int .i64 (j0 * f0 * m0)) := by
    rw [hX, World.cell?_setCell_other _ _ _ _ (by intro h; injection h; omega)]
    exact World.cell?_setCell_same _ _ _ ((World.cell?_setCell_other _ _ _ _ (by intro h; injection h; omega)).trans r0c)
  have x1 : X.cell? ⟨w.heap.size + 1 + 1 + 1, 1, none⟩ = some (.int .i64 (j1 * f1 * m1)) := by
    rw [hX]
    exact World.cell?_setCell_same _ _ _ ((World.cell?_setCell_other _ _ _ _ (by intro h; injection h; omega)).trans ((World.cell?_setCell_other _ _ _ _ (by intro h; injection h; omega)).trans r1c))
  have hXB : Below w.heap.size w X := by
    rw [hX]
    exact (((hBt.trans (hB.mono (Nat.le_of_lt n0))).setCell (by simp; omega) _).setCell (by simp; omega) _).setCell (by simp; omega) _
  clear hX
  exact bodyPost_ret (v := .agg #[.int .i64 (j0 * f0 * m0), .int .i64 (j1 * f1 * m1)]) (by simp [results, Tryd.results30, go_sem, x0, x1]) rfl ⟨rfl, hXB⟩
end Go.Proofs.YtdnkjdekikjihaaDoor.G
