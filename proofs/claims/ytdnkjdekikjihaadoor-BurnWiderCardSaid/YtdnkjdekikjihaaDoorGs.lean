import Derived.Test.YtdnkjdekikjihaaDoorPCx5
import Derived.Test.YtdnkjdekikjihaaDoorGr
namespace Go.Proofs.YtdnkjdekikjihaaDoor.G
open Go.RowKit Go.Shelf Go.Proofs.YtdnkjdekikjihaaDoorW.PrintWords Go.Proofs.YtdnkjdekikjihaaDoor.PA Go.Proofs.YtdnkjdekikjihaaDoor.PB Go.Proofs.YtdnkjdekikjihaaDoor.PC

theorem wrap64_in {x : Int} (h0 : -9223372036854775808 ≤ x) (h1 : x < 9223372036854775808) : wrap64 x = x := by unfold wrap64; omega
theorem within_is (a b c : Int) : cottonpadref04_within.f a b c = some (decide (b ≤ a ∧ a ≤ c)) := by
  unfold cottonpadref04_within.f
  by_cases h : a ≥ b
  · rw [if_pos h]; simp [show b ≤ a from h]
  · rw [if_neg h]; simp; omega
theorem spanned_is (a b c d : Int) : cottonpadref04_spanned.f a b c d = some (decide (c ≤ a ∧ a ≤ b ∧ b ≤ d)) := by
  unfold cottonpadref04_spanned.f
  by_cases h : a ≥ c
  · rw [if_pos h]
    by_cases h2 : a ≤ b
    · rw [if_pos h2]; simp [h2, show c ≤ a from h]
    · rw [if_neg h2]; simp [h2]
  · rw [if_neg h]; simp; omega
theorem reads_loop (l : List Int) (hl : l.length ≤ 120) (d : Nat) : ∀ (k : Nat) (i : Nat), i ≤ l.length → l.length - i = d → d < k →
    ∃ r, cottonpadref04_reads.l0 k l 1000000 i = some r ∧ (r = true → ∀ j, i ≤ j → j < l.length → 0 ≤ l.getD j 0 ∧ l.getD j 0 ≤ 1000000) := by
  induction d with
  | zero =>
    intro k i hi hd hk
    obtain ⟨k, rfl⟩ : ∃ m, k = m + 1 := ⟨k - 1, by omega⟩
    refine ⟨true, ?_, fun _ j h1 h2 => by omega⟩
    simp only [cottonpadref04_reads.l0]
    rw [if_neg (by omega)]
  | succ d ih =>
    intro k i hi hd hk
    obtain ⟨k, rfl⟩ : ∃ m, k = m + 1 := ⟨k - 1, by omega⟩
    simp only [cottonpadref04_reads.l0]
    rw [if_pos (by omega), if_pos (by omega), within_is]
    simp only [Option.bind_some]
    have hrd : rd l (i : Int) = l.getD i 0 := by simp [rd]
    by_cases h : 0 ≤ rd l (i : Int) ∧ rd l (i : Int) ≤ 1000000
    · obtain ⟨r, hr, hh⟩ := ih k (i + 1) (by omega) (by omega) (by omega)
      refine ⟨r, ?_, fun hr1 j h1 h2 => ?_⟩
      · rw [if_pos (by simpa using h), wrap64_in (by omega) (by omega)]
        simpa using hr
      · rcases Nat.lt_or_eq_of_le h1 with h3 | rfl
        · exact hh hr1 j (by omega) h2
        · rw [← hrd]; exact h
    · refine ⟨false, ?_, fun h => by cases h⟩
      rw [if_neg (by simpa using h)]
theorem ready_is (a0 a1 a2 a3 a4 a5 a6 a7 a8 : Int) (l : List Int) : ∃ r, cottonpadlaw04_ready.f 200 a0 a1 a2 a3 a4 a5 a6 a7 a8 l = some r ∧ (r = true → HoodOk a0 a1 a2 a3 a4 a5 a6 a7 a8 l) := by
  have hH : ∃ b, cottonpadref04_Hood.f a0 a1 a2 a3 a4 a5 a6 a7 a8 = some b ∧ (b = true → (0 ≤ a0 ∧ a0 ≤ a1 ∧ a1 ≤ 1000000) ∧ (0 ≤ a2 ∧ a2 ≤ a3 ∧ a3 ≤ 10000) ∧ (0 ≤ a4 ∧ a4 ≤ a5 ∧ a5 ≤ 30000) ∧ (0 ≤ a6 ∧ a6 ≤ a7 ∧ a7 ≤ 30) ∧ (0 ≤ a8 ∧ a8 ≤ 1000)) := by
    unfold cottonpadref04_Hood.f
    simp only [spanned_is, within_is, Option.bind_some, decide_eq_true_eq]
    by_cases h1 : 0 ≤ a0 ∧ a0 ≤ a1 ∧ a1 ≤ 1000000
    · rw [if_pos h1]
      by_cases h2 : 0 ≤ a2 ∧ a2 ≤ a3 ∧ a3 ≤ 10000
      · rw [if_pos h2]
        by_cases h3 : 0 ≤ a4 ∧ a4 ≤ a5 ∧ a5 ≤ 30000
        · rw [if_pos h3]
          by_cases h4 : 0 ≤ a6 ∧ a6 ≤ a7 ∧ a7 ≤ 30
          · rw [if_pos h4]
            exact ⟨_, rfl, fun h => ⟨h1, h2, h3, h4, by simpa using h⟩⟩
          · rw [if_neg h4]; exact ⟨_, rfl, fun h => by cases h⟩
        · rw [if_neg h3]; exact ⟨_, rfl, fun h => by cases h⟩
      · rw [if_neg h2]; exact ⟨_, rfl, fun h => by cases h⟩
    · rw [if_neg h1]; exact ⟨_, rfl, fun h => by cases h⟩
  obtain ⟨b, hb, hbt⟩ := hH
  unfold cottonpadlaw04_ready.f cottonpadref04_Great.f cottonpadref04_Check.f
  rw [hb]
  simp only [Option.bind_some]
  by_cases hg : (l.length : Int) > 150
  · exact ⟨false, by simp [hg], fun h => by cases h⟩
  · cases b with
    | false => exact ⟨false, by simp [hg], fun h => by cases h⟩
    | true =>
      unfold cottonpadref04_reads.f
      by_cases hl : (l.length : Int) > 120
      · exact ⟨false, by simp [hg, hl], fun h => by cases h⟩
      · obtain ⟨r, hr, hrt⟩ := reads_loop l (by omega) l.length 200 0 (by omega) (by omega) (by omega)
        simp only [Int.natCast_zero] at hr
        have h1 := hbt rfl
        cases r with
        | false => exact ⟨false, by simp [hg, hl, hr], fun h => by cases h⟩
        | true =>
          refine ⟨true, by simp [hg, hl, hr], fun _ => ⟨h1.1, h1.2.1, h1.2.2.1, h1.2.2.2.1, h1.2.2.2.2, by omega, fun x hx => ?_⟩⟩
          obtain ⟨j, hj, rfl⟩ := List.getElem_of_mem hx
          have := hrt rfl j (by omega) hj
          simpa [List.getD, hj] using this
theorem choose_is (l : List Int) (hl : l.length ≤ 140737488351232) (hv : ∀ x ∈ l, 0 ≤ x ∧ x < 4294967296) (i : Int) (h0 : 0 ≤ i) (h1 : i ≤ 7) : ∃ c, cottonpadlaw04_choose.f l i = some c ∧ 0 ≤ c ∧ c < 4294967296 := by
  unfold cottonpadlaw04_choose.f
  by_cases h : (l.length : Int) = 0
  · rw [if_pos h]; exact ⟨0, rfl, by omega, by omega⟩
  · rw [if_neg h]
    have e : Int.tmod i (l.length : Int) = i % (l.length : Int) := Int.tmod_eq_emod_of_nonneg h0
    have e0 := Int.emod_nonneg i h
    have e1 := Int.emod_lt_of_pos i (show (0 : Int) < l.length by omega)
    rw [e, if_pos e0, if_pos e1]
    have hm : rd l (i % (l.length : Int)) ∈ l := by
      unfold rd
      have : (i % (l.length : Int)).toNat < l.length := by omega
      simp [this]
    have := hv _ hm
    refine ⟨_, rfl, ?_⟩
    rw [wrap64_in (by omega) (by omega)]
    exact this
theorem chooseB (A0 : Option Addr) (c0 : Nat) (l0 : List Int) (a1 : Int) (r : Int) (w : World) (hr0 : Kd.C (Kd.int .u32) w A0 l0.length l0) (hc0 : l0.length ≤ c0) (h : cottonpadlaw04_choose.f l0 a1 = some r) :
    Calls Tryd.prog 8 #[.slice A0 l0.length c0, .int .i64 a1] w fun e w' => e = .returned (.int .i64 r) ∧ Below w.heap.size w w' :=
  (cottonpadlaw04_choose.calls A0 c0 l0 a1 r w hr0 hc0 h).mono fun e w' ⟨h1, h2⟩ => ⟨h1, h2.below⟩
end Go.Proofs.YtdnkjdekikjihaaDoor.G
