import Derived.Test.YtdnkjdekikjihaaDoorGa
import Derived.Deep.RegionHeld3
import Derived.Handy
namespace Go.Proofs.YtdnkjdekikjihaaDoor.G
open Go.RowKit Go.Shelf Go.Proofs.YtdnkjdekikjihaaDoorW.PrintWords

theorem ret_int {k : IntKind} {a b : Int} (h : a = b) : Ending.returned (.int k a) = .returned (.int k b) := by rw [h]
/-! ### the two ends -/
theorem end1 (lo hi : Int) (w : World) : Calls Tryd.prog 159 #[.agg #[.int .i64 lo, .int .i64 hi]] w fun e w' => e = .returned (.int .i64 lo) ∧ Below w.heap.size w w' := by
  go_enter Tryd.func159, Tryd.ntmps159
  go_wp2
  go_ret
  exact ⟨rfl, by go_grown⟩
theorem end3 (lo hi : Int) (w : World) : Calls Tryd.prog 161 #[.agg #[.int .i64 lo, .int .i64 hi]] w fun e w' => e = .returned (.int .i64 hi) ∧ Below w.heap.size w w' := by
  go_enter Tryd.func161, Tryd.ntmps161
  go_wp2
  go_ret
  exact ⟨rfl, by go_grown⟩
theorem end2 (d : Int) (w : World) : Calls Tryd.prog 160 #[.int .i64 d] w fun e w' => e = .returned (.int .i64 d) ∧ Below w.heap.size w w' := by
  go_enter Tryd.func160, Tryd.ntmps160
  go_wp2
  go_ret
  exact ⟨rfl, Below.refl _ _⟩
theorem end4 (d : Int) (w : World) (h0 : 0 ≤ d) (h1 : d ≤ 1000) : Calls Tryd.prog 162 #[.int .i64 d] w fun e w' => e = .returned (.int .i64 (-d)) ∧ Below w.heap.size w w' := by
  go_enter Tryd.func162, Tryd.ntmps162
  go_wp2
  go_ret
  exact ⟨rfl, Below.refl _ _⟩

theorem below_drew2 {w w1 w2 : World} (h1 : Below w.drew.heap.size w.drew w1) (h2 : Below w1.heap.size w1 w2) : Below w.heap.size w w2 :=
  ((Below.refl _ w).drew.trans h1).trans (h2.mono h1.size)

set_option maxHeartbeats 2000000 in
theorem heat1_lo (Bx Bd B2 B3 : Nat) (blo bhi dr k lag : Int) (l : List Int) (ad : Addr) (c : Nat) (w : World)
    (x0 : w.cell? ⟨Bx, 0, none⟩ = some (.func (.func 159) #[] #[])) (x1 : w.cell? ⟨Bx, 1, none⟩ = some (.func (.func 160) #[] #[]))
    (d0 : w.cell? ⟨Bd, 0, none⟩ = some (.int .i64 blo)) (d1 : w.cell? ⟨Bd, 1, none⟩ = some (.int .i64 bhi)) (d8 : w.cell? ⟨Bd, 8, none⟩ = some (.int .i64 dr))
    (d9 : w.cell? ⟨Bd, 9, none⟩ = some (.slice (some ad) l.length c)) (s2 : w.cell? ⟨B2, 0, none⟩ = some (.int .i64 k)) (s3 : w.cell? ⟨B3, 0, none⟩ = some (.int .i64 lag))
    (hk : 0 ≤ k) (hlag : 0 ≤ lag) (hlag2 : lag ≤ 30) (hk2 : k ≤ 200) (hlt : k + lag < (l.length : Int)) (hel : w.cell? (ad.add (k + lag).toNat) = some (.int .i64 (rd l (k + lag))))
    (e0 : 0 ≤ rd l (k + lag)) (e1 : rd l (k + lag) ≤ 1000000) (b0 : 0 ≤ blo) (b1 : blo ≤ 1000000) (r0 : 0 ≤ dr) (r1 : dr ≤ 1000) :
    Calls Tryd.prog 56 #[.pointer (some ⟨Bx, 0, none⟩), .pointer (some ⟨Bd, 0, none⟩), .pointer (some ⟨B2, 0, none⟩), .pointer (some ⟨B3, 0, none⟩)] w fun e w' =>
      e = .returned (.int .i64 (max 0 (blo - rd l (k + lag) - dr))) ∧ Below w.heap.size w w' := by
  have kx := World.block_lt_of_cell? w _ x0
  have kd := World.block_lt_of_cell? w _ d0
  have k2 := World.block_lt_of_cell? w _ s2
  have k3 := World.block_lt_of_cell? w _ s3
  have ke := World.block_lt_of_cell? w _ hel
  simp only at kx kd k2 k3
  have hw1 : IntKind.i64.wrap (k + lag) = k + lag := IntWalk.i64_in _ (by omega)
  have hw2 : (0 : Int) ≤ k + lag := by omega
  have hw3 : IntKind.i64.wrap (blo - rd l (k + lag)) = blo - rd l (k + lag) := IntWalk.i64_in _ (by omega)
  have hw4 : IntKind.i64.wrap (blo - rd l (k + lag) - dr) = blo - rd l (k + lag) - dr := IntWalk.i64_in _ (by omega)
  go_enter Tryd.func56, Tryd.ntmps56
  go_wp2_with fail
  go_region_held3 (fun w' => ∀ p : Addr, p.block < w.heap.size → w'.cell? p = w.cell? p) (first | (intro p hp; rfl) | (intro p hp; exact hb1.cell hp) | (intro p hp; rw [hb2.cell (Nat.lt_of_lt_of_le hp hb1.size)]; exact hb1.cell hp))
    (first | (go_at_call 159; refine (end1 _ _ _).mono ?_; rintro e w1 ⟨rfl, hb1⟩) | (go_at_call 160; refine (end2 _ _).mono ?_; rintro e w2 ⟨rfl, hb2⟩))
  go_wp2
  all_goals (go_ret; exact ⟨ret_int (by omega), below_drew2 hb1 hb2⟩)
set_option maxHeartbeats 2000000 in
theorem heat1_hi (Bx Bd B2 B3 : Nat) (blo bhi dr k lag : Int) (l : List Int) (ad : Addr) (c : Nat) (w : World)
    (x0 : w.cell? ⟨Bx, 0, none⟩ = some (.func (.func 161) #[] #[])) (x1 : w.cell? ⟨Bx, 1, none⟩ = some (.func (.func 162) #[] #[]))
    (d0 : w.cell? ⟨Bd, 0, none⟩ = some (.int .i64 blo)) (d1 : w.cell? ⟨Bd, 1, none⟩ = some (.int .i64 bhi)) (d8 : w.cell? ⟨Bd, 8, none⟩ = some (.int .i64 dr))
    (d9 : w.cell? ⟨Bd, 9, none⟩ = some (.slice (some ad) l.length c)) (s2 : w.cell? ⟨B2, 0, none⟩ = some (.int .i64 k)) (s3 : w.cell? ⟨B3, 0, none⟩ = some (.int .i64 lag))
    (hk : 0 ≤ k) (hlag : 0 ≤ lag) (hlag2 : lag ≤ 30) (hk2 : k ≤ 200) (hlt : k + lag < (l.length : Int)) (hel : w.cell? (ad.add (k + lag).toNat) = some (.int .i64 (rd l (k + lag))))
    (e0 : 0 ≤ rd l (k + lag)) (e1 : rd l (k + lag) ≤ 1000000) (b0 : 0 ≤ bhi) (b1 : bhi ≤ 1000000) (r0 : 0 ≤ dr) (r1 : dr ≤ 1000) :
    Calls Tryd.prog 56 #[.pointer (some ⟨Bx, 0, none⟩), .pointer (some ⟨Bd, 0, none⟩), .pointer (some ⟨B2, 0, none⟩), .pointer (some ⟨B3, 0, none⟩)] w fun e w' =>
      e = .returned (.int .i64 (max 0 (bhi - rd l (k + lag) + dr))) ∧ Below w.heap.size w w' := by
  have kx := World.block_lt_of_cell? w _ x0
  have kd := World.block_lt_of_cell? w _ d0
  have k2 := World.block_lt_of_cell? w _ s2
  have k3 := World.block_lt_of_cell? w _ s3
  have ke := World.block_lt_of_cell? w _ hel
  simp only at kx kd k2 k3
  have hw1 : IntKind.i64.wrap (k + lag) = k + lag := IntWalk.i64_in _ (by omega)
  have hw2 : (0 : Int) ≤ k + lag := by omega
  have hw3 : IntKind.i64.wrap (bhi - rd l (k + lag)) = bhi - rd l (k + lag) := IntWalk.i64_in _ (by omega)
  have hw4 : IntKind.i64.wrap (bhi - rd l (k + lag) + dr) = bhi - rd l (k + lag) + dr := IntWalk.i64_in _ (by omega)
  go_enter Tryd.func56, Tryd.ntmps56
  go_wp2_with fail
  go_region_held3 (fun w' => ∀ p : Addr, p.block < w.heap.size → w'.cell? p = w.cell? p) (first | (intro p hp; rfl) | (intro p hp; exact hb1.cell hp) | (intro p hp; rw [hb2.cell (Nat.lt_of_lt_of_le hp hb1.size)]; exact hb1.cell hp))
    (first | (go_at_call 161; refine (end3 _ _ _).mono ?_; rintro e w1 ⟨rfl, hb1⟩) | (go_at_call 162; refine (end4 _ _ r0 r1).mono ?_; rintro e w2 ⟨rfl, hb2⟩))
  go_wp2
  all_goals (go_ret; exact ⟨ret_int (by omega), below_drew2 hb1 hb2⟩)
end Go.Proofs.YtdnkjdekikjihaaDoor.G
