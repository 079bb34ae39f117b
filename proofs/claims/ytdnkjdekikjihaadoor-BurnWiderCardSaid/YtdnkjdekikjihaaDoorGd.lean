import Derived.Test.YtdnkjdekikjihaaDoorGc
import Derived.RangeFuncNested
import Derived.RangeFuncBound
import Derived.RangeFuncCalls
import Derived.RangeFuncLeaves
import Derived.RangeFuncBox
import Derived.OwnWalkIn
import Derived.TacticsInMore
import Derived.LoopNIn
import Derived.LoopIn
namespace Go.Proofs.YtdnkjdekikjihaaDoor.G
open Go.RowKit Go.Shelf Go.Proofs.YtdnkjdekikjihaaDoorW.PrintWords
attribute [local go_sem] Oper.semAt_some

/-- f 0, .., f (k - 1). -/
def upto {α : Type} (f : Nat → α) (k : Nat) : List α := (List.range k).map f
theorem upto_succ {α : Type} (f : Nat → α) (k : Nat) : upto f (k + 1) = upto f k ++ [f k] := by simp [upto, List.range_succ]
theorem upto_length {α : Type} (f : Nat → α) (k : Nat) : (upto f k).length = k := by simp [upto]
theorem upto_prefix {α : Type} (f : Nat → α) {k m : Nat} (h : k ≤ m) : upto f k <+: upto f m := by
  induction m with
  | zero => obtain rfl : k = 0 := by omega
            exact List.prefix_refl _
  | succ m ih =>
    rcases Nat.lt_or_eq_of_le h with h | rfl
    · rw [upto_succ]; exact (ih (by omega)).trans (List.prefix_append _ _)
    · exact List.prefix_refl _

/-- Block B is as it was. -/
def KeepsB (B : Nat) (W W' : World) : Prop := W'.heap[B]? = W.heap[B]?
theorem keepsB_t {B : Nat} {X Y Z : World} (h : KeepsB B X Y) (k : KeepsB B Y Z) : KeepsB B X Z := Eq.trans k h
theorem keepsB_b {B N : Nat} (hB : B < N) (W : World) (l : Nat) (o o' : Obj) (hl : N ≤ l) (_ : W.heap[l]? = some o) (_ : o.isCells = false) (_ : o.isWalk = false) : KeepsB B W (W.putObj l o') :=
  World.putObj_heap_other (by omega)
theorem KeepsB.cell {B : Nat} {W W' : World} (h : KeepsB B W W') (j : Nat) : W'.cell? ⟨B, j, none⟩ = W.cell? ⟨B, j, none⟩ := World.cell?_of_block (a := ⟨B, j, none⟩) h
theorem KeepsB.below {B n : Nat} {W W' : World} (h : Below n W W') (hB : B < n) : KeepsB B W W' := h.block B hB
theorem finRange_take_succ {m k : Nat} (h : k < m) : (List.finRange m).take (k + 1) = (List.finRange m).take k ++ [⟨k, h⟩] := by
  rw [List.take_succ_eq_append_getElem (by simpa using h)]
  simp
theorem finRange_take_all {m : Nat} : (List.finRange m).take m = List.finRange m := List.take_of_length_le (by simp)
theorem finRange_take_length {m k : Nat} (h : k ≤ m) : ((List.finRange m).take k).length = k := by simp; omega

set_option maxRecDepth 100000 in
set_option maxHeartbeats 2000000 in
theorem lags1_in (n : Nat) (l Bd m : Nat) (g0 g1 : Int) (h0g : 0 ≤ g0) (h2g : g1 ≤ 30) (hm : g1 = g0 + (m : Int) - 1) (J Jx : List (Fin m) → World → Prop)
    (hY : ∀ pre x W, J pre W → pre.length < m → YieldAt Fence.wide (n - 1) Tryd.prog l #[.int .i64 (g0 + (x.1 : Int))] W fun e W' =>
      (e = .returned (.bool true) ∧ J (pre ++ [x]) W' ∧ KeepsB Bd W W') ∨ (e = .returned (.bool false) ∧ Jx (pre ++ [x]) W'))
    (W : World) (c6 : W.cell? ⟨Bd, 6, none⟩ = some (.int .i64 g0)) (c7 : W.cell? ⟨Bd, 7, none⟩ = some (.int .i64 g1)) (h0 : J [] W) :
    CallsIn Fence.wide n Tryd.prog 55 #[.func (.yield l) #[] #[], .pointer (some ⟨Bd, 0, none⟩)] W fun e W' => (∃ v, e = .returned v) ∧
      ((∃ ys, ys = List.finRange m ∧ J ys W') ∨ (∃ pre, pre <+: List.finRange m ∧ Jx pre W')) := by
  refine callsIn_of_wp Tryd.func55 rfl trivial ?_ rfl
  simp only [Tryd.ntmps55, List.size_toArray, List.length_cons, List.length_nil, Nat.reduceAdd, Nat.reduceSub, Array.replicate_succ, Array.replicate_zero, List.push_toArray, List.append_toArray, List.nil_append, List.cons_append]
  have HM2 := Aside0.mk hm
  have hg1 : g0 ≤ 31 ∧ -1 ≤ g1 ∧ g1 - g0 + 1 ≤ 31 := by omega
  obtain ⟨hg1, hg2, hg3⟩ := hg1
  clear hm
  gi_wp2
  gi_loopw [3, 14] (fun _ i wr => ∃ k : Nat, k ≤ m ∧ i = .int .i64 k ∧ J ((List.finRange m).take k) wr ∧ KeepsB Bd W wr)
    (fun _ i _ => m - (intOf i).toNat)
  case atStart => exact ⟨0, Nat.zero_le _, rfl, h0, rfl⟩
  case round =>
    obtain ⟨k, hk, rfl, hJs, hnx⟩ := hrel
    have hcx : wr.cell? ⟨Bd, 6, none⟩ = some (.int .i64 g0) := (hnx.cell 6).trans c6
    have e2 := HM2.out
    by_cases hlt : k < m
    · obtain ⟨fn, tmps, assign, body, hy, hR⟩ := hY _ ⟨k, hlt⟩ wr hJs (by rw [finRange_take_length hk]; exact hlt)
      have ht : (k : Int) < g1 - g0 + 1 := by omega
      clear e2
      dsimp only at hy hR
      gi_wp2
      refine ⟨fun h => (by cases h), hR.mono ?_⟩
      rintro e W3 (⟨rfl, hJ3, hk3⟩ | ⟨rfl, hJx3⟩)
      · gi_wp2
        go_roundw
        case rel => exact ⟨k + 1, by omega, by simp, by rw [finRange_take_succ hlt]; exact hJ3, keepsB_t hnx hk3⟩
        case measure => simp [intOf]; omega
      · gi_wp2
        refine bodyPost_ret (results_none rfl _ _ _) rfl ?_
        exact ⟨⟨_, rfl⟩, .inr ⟨(List.finRange m).take (k + 1), List.take_prefix _ _, by rw [finRange_take_succ hlt]; exact hJx3⟩⟩
    · obtain rfl : k = m := by omega
      have ht : ¬ ((k : Int) < g1 - g0 + 1) := by omega
      clear e2
      rw [finRange_take_all] at hJs
      gi_wp2
      go_end0
      exact ⟨⟨_, rfl⟩, .inl hJs⟩
end Go.Proofs.YtdnkjdekikjihaaDoor.G
