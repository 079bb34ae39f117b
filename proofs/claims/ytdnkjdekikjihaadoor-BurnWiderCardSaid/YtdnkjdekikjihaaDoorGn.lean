import Derived.Test.YtdnkjdekikjihaaDoorGg
namespace Go.Proofs.YtdnkjdekikjihaaDoor.G
open Go.RowKit Go.Shelf Go.Proofs.YtdnkjdekikjihaaDoorW.PrintWords

def maxL : List Int → Int
  | [] => 0
  | x :: l => l.foldl max x
theorem maxL_zero {l : List Int} (h : 0 < l.length) : maxL (l.take 1) = rd l 0 := by
  cases l with
  | nil => simp at h
  | cons x l => simp [maxL, rd]
theorem maxL_succ {l : List Int} {k : Nat} (h : k + 1 < l.length) : maxL (l.take (k + 2)) = max (maxL (l.take (k + 1))) (rd l (k + 1 : Nat)) := by
  cases l with
  | nil => simp at h
  | cons x l =>
    have h2 : k < l.length := by simpa using h
    simp only [maxL, List.take_succ_cons]
    rw [List.take_succ_eq_append_getElem h2, List.foldl_append]
    simp [rd, h2]
theorem maxL_all {l : List Int} {k : Nat} (h : l.length ≤ k) : maxL (l.take k) = maxL l := by rw [List.take_of_length_le h]
theorem maxL_spec {l : List Int} (h : l ≠ []) : (∀ x ∈ l, x ≤ maxL l) ∧ maxL l ∈ l := by
  cases l with
  | nil => exact absurd rfl h
  | cons x l =>
    clear h
    suffices H : ∀ (l : List Int) (x : Int), (∀ y ∈ x :: l, y ≤ l.foldl max x) ∧ l.foldl max x ∈ x :: l from H l x
    intro l
    induction l with
    | nil => intro x; simp
    | cons y l ih =>
      intro x
      obtain ⟨h1, h2⟩ := ih (max x y)
      simp only [List.foldl_cons]
      refine ⟨fun z hz => ?_, ?_⟩
      · have hj := h1 (max x y) (by simp)
        simp only [List.mem_cons] at hz
        rcases hz with rfl | rfl | hz
        · omega
        · omega
        · exact h1 z (by simp [hz])
      · simp only [List.mem_cons] at h2 ⊢
        rcases h2 with h2 | h2
        · rw [h2]; omega
        · exact .inr (.inr h2)
def slices_Max_int_int.f (l0 : List Int) : Option Int := if 0 < l0.length then some (maxL l0) else none

set_option maxHeartbeats 1000000 in
theorem slices_Max_int_int.calls (A0 : Option Addr) (c0 : Nat) (l0 : List Int) (r : Int) (w : World) (hr0 : Kd.C (Kd.int .i64) w A0 l0.length l0) (hc0 : l0.length ≤ c0) (h : slices_Max_int_int.f l0 = some r) :
    Calls Tryd.prog 78 #[.slice A0 l0.length c0] w fun e w' => e = .returned (.int .i64 r) ∧ Below w.heap.size w w' := by
  unfold slices_Max_int_int.f at h
  split at h
  case isFalse => cases h
  case isTrue hpos =>
  obtain rfl := Option.some.inj h
  clear h
  have hl := hr0.2.1
  have HR := Aside0.mk hr0
  obtain ⟨ad, rfl, hel⟩ := Kd.at_int hr0 0 (by omega) (by omega)
  have hel0 : w.cell? (ad.add 0) = some (.int .i64 (rd l0 0)) := hel
  have hel1 : w.cell? ad = some (.int .i64 (rd l0 0)) := hel
  clear hr0
  have HZ := Aside0.mk (maxL_zero hpos)
  have ht : ¬ ((l0.length : Int) < 1) := by omega
  have ht2 : (0 : Int) < l0.length := by omega
  go_enter Tryd.func78, Tryd.ntmps78
  go_wp2

  go_loop [3, 4] (fun m i => ∃ j : Nat, 1 ≤ j ∧ j ≤ l0.length ∧ i = .int .i64 (j : Int) ∧ m = .int .i64 (maxL (l0.take j))) (fun _ i => l0.length - (intOf i).toNat)
  case atStart => exact ⟨1, by omega, by omega, rfl, by rw [HZ.out]⟩
  case round =>
    obtain ⟨j, hj1, hj, rfl, rfl⟩ := hrel
    by_cases hlt : j < l0.length
    · obtain ⟨ad2, e2, hel2⟩ := Kd.at_int HR.out (j : Int) (by omega) (by omega)
      obtain rfl := Option.some.inj e2
      rw [Int.toNat_natCast] at hel2
      clear e2
      have hs : maxL (l0.take (j + 1)) = max (maxL (l0.take j)) (rd l0 j) := by
        have := maxL_succ (l := l0) (k := j - 1) (by omega)
        rw [show j - 1 + 2 = j + 1 by omega, show j - 1 + 1 = j by omega] at this
        exact this
      obtain ⟨m, hm⟩ : ∃ m, maxL (l0.take j) = m := ⟨_, rfl⟩
      obtain ⟨x, hx⟩ : ∃ x, rd l0 (j : Int) = x := ⟨_, rfl⟩
      rw [hx] at hel2
      rw [hm, hx] at hs
      rw [hm]
      have HS := Aside0.mk hs
      clear hm hx hel hel0 hel1 hs
      go_wp2
      all_goals
        go_round
        case rel => exact ⟨j + 1, by omega, by omega, by go_num, by rw [HS.out]; first | rfl | (congr 1; omega)⟩
        case measure => simp [intOf]; omega
    · have HA := Aside0.mk (maxL_all (l := l0) (k := j) (by omega))
      go_wp2
      go_ret
      exact ⟨by rw [← HA.out]; rfl, Below.refl _ _⟩
end Go.Proofs.YtdnkjdekikjihaaDoor.G
