import Derived.Test.YtdnkjdekikjihaaDoorProg
import Derived.WalkKit
import Derived.KernelRfl
import Derived.Deep.QuietTactic
import Derived.BigQuiet
import Derived.Shelf.Abstract
import Derived.WalkLawsBesides
import Derived.WalkSpells
import Derived.Test.YtdnkjdekikjihaaDoorWWords
import Derived.Test.YtdnkjdekikjihaaDoorWLast
namespace Go.Proofs.YtdnkjdekikjihaaDoor.G
open Go.RowKit Go.Shelf Go.Proofs.YtdnkjdekikjihaaDoorW.PrintWords

/-- A predicate on whole numbers as a function value. -/
def IntPred (g : FuncId) (cap : Array Value) (p : Int → Bool) (w : World) : Prop :=
  Enters Tryd.prog g ∧ ∀ (x : Int) (W : World), Below w.heap.size w W → Calls Tryd.prog g (#[.int .i64 x] ++ cap) W fun e W' => e = .returned (.bool (p x)) ∧ Below W.heap.size W W'

def idx (p : Int → Bool) (xs : List Int) : Int := match xs.findIdx? p with | some i => i | none => -1

theorem idx_hit {p : Int → Bool} {xs : List Int} {k : Nat} (hk : k < xs.length) (h0 : ∀ j, j < k → p (xs.getD j 0) = false) (h1 : p (xs.getD k 0) = true) : idx p xs = k := by
  have : xs.findIdx? p = some k := by
    rw [List.findIdx?_eq_some_iff_getElem]
    refine ⟨hk, by simpa [List.getD, hk] using h1, fun j hj => ?_⟩
    have := h0 j hj
    have hj2 : j < xs.length := by omega
    simpa [List.getD, hj2] using this
  simp [idx, this]
theorem idx_miss {p : Int → Bool} {xs : List Int} (h0 : ∀ j, j < xs.length → p (xs.getD j 0) = false) : idx p xs = -1 := by
  have : xs.findIdx? p = none := by
    rw [List.findIdx?_eq_none_iff]
    intro x hx
    obtain ⟨j, hj, rfl⟩ := List.getElem_of_mem hx
    have := h0 j hj
    simpa [List.getD, hj] using this
  simp [idx, this]

set_option maxHeartbeats 1000000 in
theorem indexFunc (A : Option Addr) (c : Nat) (xs : List Int) (g : FuncId) (cap : Array Value) (p : Int → Bool) (w : World)
    (hr : Kd.C (Kd.int .i64) w A xs.length xs) (hp : IntPred g cap p w) (hl : xs.length ≤ 9223372036854775807) :
    Calls Tryd.prog 82 #[.slice A xs.length c, .func (.func g) #[] cap] w fun e w' => e = .returned (.int .i64 (idx p xs)) ∧ Below w.heap.size w w' := by
  have HR := Aside0.mk hr
  have HP := Aside0.mk hp
  clear hr hp
  go_enter Tryd.func82, Tryd.ntmps82
  go_wp2
  go_loopw [5, 8] (fun _ i wr => ∃ k : Nat, k ≤ xs.length ∧ i = .int .i64 k ∧ Below w.heap.size w wr ∧ Aside0 (∀ j, j < k → p (xs.getD j 0) = false)) (fun _ i _ => xs.length - (intOf i).toNat)
  case atStart => exact ⟨0, Nat.zero_le _, rfl, Below.refl _ _, ⟨fun j hj => by omega⟩⟩
  case round =>
    obtain ⟨k, hk, rfl, hb, H0⟩ := hrel
    by_cases hlt : k < xs.length
    · obtain ⟨ad, hA, hcell⟩ := Kd.at_int (Kd.C_below HR.out hb) k (by omega) (by omega)
      subst hA
      rw [Int.toNat_natCast] at hcell
      have hen := HP.out.1
      unfold Enters at hen
      have hc := HP.out.2 (rd xs k) _ hb
      obtain ⟨b, hbp⟩ : ∃ b, p (rd xs k) = b := ⟨_, rfl⟩
      rw [hbp] at hc
      have Hbp := Aside0.mk hbp
      have HC := Aside0.mk hc
      clear hbp hc
      go_wp2_with (refine HC.out.mono ?_; rintro e W' ⟨rfl, hb2⟩)
      · have hb1 : b = true := by assumption
        go_ret
        refine ⟨?_, hb.trans (hb2.mono hb.size)⟩
        rw [idx_hit hlt H0.out (by have := Hbp.out; rw [hb1] at this; simpa [rd] using this)]; rfl
      · have hb1 : b = false := by assumption
        go_roundw
        case rel => exact ⟨k + 1, by omega, by go_num, hb.trans (hb2.mono hb.size), ⟨fun j hj => by
          rcases Nat.lt_or_eq_of_le (Nat.le_of_lt_succ hj) with h | rfl
          · exact H0.out j h
          · have := Hbp.out; rw [hb1] at this; simpa [rd] using this⟩⟩
        case measure => simp [intOf]; omega
    · go_wp2
      go_ret
      refine ⟨?_, hb⟩
      rw [idx_miss (fun j hj => H0.out j (by omega))]; rfl

theorem containsFunc (A : Option Addr) (c : Nat) (xs : List Int) (g : FuncId) (cap : Array Value) (p : Int → Bool) (w : World)
    (hr : Kd.C (Kd.int .i64) w A xs.length xs) (hp : IntPred g cap p w) (hl : xs.length ≤ 9223372036854775807) :
    Calls Tryd.prog 57 #[.slice A xs.length c, .func (.func g) #[] cap] w fun e w' => e = .returned (.bool (xs.any p)) ∧ Below w.heap.size w w' := by
  have HI := Aside0.mk (indexFunc A c xs g cap p w hr hp hl)
  have HX := Aside0.mk (show decide (0 ≤ idx p xs) = xs.any p by
    by_cases h : ∃ j, j < xs.length ∧ p (xs.getD j 0) = true
    · obtain ⟨j, hj, hpj⟩ := h
      have e1 : xs.any p = true := List.any_eq_true.2 ⟨xs.getD j 0, by simp [List.getD, hj], hpj⟩
      rw [e1]
      unfold idx
      cases hf : xs.findIdx? p with
      | some i => simp
      | none => rw [List.findIdx?_eq_none_iff] at hf; have := hf (xs.getD j 0) (by simp [List.getD, hj]); rw [hpj] at this; cases this
    · have h0 : ∀ j, j < xs.length → p (xs.getD j 0) = false := fun j hj => by
        cases hh : p (xs.getD j 0) with
        | false => rfl
        | true => exact (h ⟨j, hj, hh⟩).elim
      rw [idx_miss h0]
      symm
      simp only [Int.reduceNeg, decide_eq_false (show ¬ (0:Int) ≤ -1 by omega)]
      rw [List.any_eq_false]
      intro x hx
      obtain ⟨j, hj, rfl⟩ := List.getElem_of_mem hx
      have := h0 j hj
      simpa [List.getD, hj] using this)
  clear hr hp
  obtain ⟨r, hr⟩ : ∃ r, idx p xs = r := ⟨_, rfl⟩
  rw [hr] at HI HX
  clear hr
  go_enter Tryd.func57, Tryd.ntmps57
  go_wp2_with (refine HI.out.mono ?_; rintro e W' ⟨rfl, hb2⟩)
  go_ret
  exact ⟨by rw [← HX.out]; rfl, hb2⟩

def outside (lo hi : Int) (x : Int) : Bool := decide (x < lo) || decide (hi < x)

/-- The closure of 'in': its two captured numbers lie in blocks of their own. -/
theorem in1 (B1 B2 : Nat) (lo hi : Int) (x : Int) (W : World) (h1 : W.cell? ⟨B1, 0, none⟩ = some (.int .i64 lo)) (h2 : W.cell? ⟨B2, 0, none⟩ = some (.int .i64 hi)) :
    Calls Tryd.prog 58 #[.int .i64 x, .pointer (some ⟨B1, 0, none⟩), .pointer (some ⟨B2, 0, none⟩)] W fun e W' => e = .returned (.bool (outside lo hi x)) ∧ Below W.heap.size W W' := by
  by_cases a : x < lo
  · have e : outside lo hi x = true := by simp [outside, a]
    rw [e]
    clear e
    go_enter Tryd.func58, Tryd.ntmps58
    go_wp2
    go_ret
    exact ⟨rfl, Below.refl _ _⟩
  · have e : outside lo hi x = decide (hi < x) := by simp [outside, a]
    rw [e]
    clear e
    go_enter Tryd.func58, Tryd.ntmps58
    go_wp2
    go_ret
    exact ⟨rfl, Below.refl _ _⟩

theorem en58 : Enters Tryd.prog 58 := enters_of Tryd.func58 (by kernel_rfl) rfl
theorem pred_in1 (B1 B2 : Nat) (lo hi : Int) (w : World) (k1 : B1 < w.heap.size) (k2 : B2 < w.heap.size) (h1 : w.cell? ⟨B1, 0, none⟩ = some (.int .i64 lo)) (h2 : w.cell? ⟨B2, 0, none⟩ = some (.int .i64 hi)) :
    IntPred 58 #[.pointer (some ⟨B1, 0, none⟩), .pointer (some ⟨B2, 0, none⟩)] (outside lo hi) w := by
  refine ⟨en58, fun x W hW => ?_⟩
  rw [show (#[Value.int .i64 x] ++ #[Value.pointer (some ⟨B1, 0, none⟩), Value.pointer (some ⟨B2, 0, none⟩)]) = #[Value.int .i64 x, Value.pointer (some ⟨B1, 0, none⟩), Value.pointer (some ⟨B2, 0, none⟩)] from by simp]
  exact in1 B1 B2 lo hi x W ((hW.cell k1).trans h1) ((hW.cell k2).trans h2)
def burn_in.f (a0 a1 : Int) (l2 : List Int) : Option Bool := some (!l2.any (outside a0 a1))
theorem burn_in.calls (a0 a1 : Int) (A2 : Option Addr) (c2 : Nat) (l2 : List Int) (r : Bool) (w : World) (hr2 : Kd.C (Kd.int .i64) w A2 l2.length l2) (hc2 : l2.length ≤ c2) (h : burn_in.f a0 a1 l2 = some r) :
    Calls Tryd.prog 33 #[.int .i64 a0, .int .i64 a1, .slice A2 l2.length c2] w fun e w' => e = .returned (.bool r) ∧ Below w.heap.size w w' := by
  obtain rfl := Option.some.inj h
  clear h
  have HR := Aside0.mk hr2
  have hl := hr2.2.1
  clear hr2
  go_enter Tryd.func33, Tryd.ntmps33
  go_wp2_with fail
  have hB : Below w.heap.size w ((w.alloc (.cells #[.int .i64 a0] 3)).alloc (.cells #[.int .i64 a1] 3)) := ((Below.refl _ _).alloc (Nat.le_refl _) _).alloc (by simp) _
  refine (containsFunc A2 c2 l2 58 _ (outside a0 a1) _ (Kd.C_below HR.out hB) (pred_in1 _ _ a0 a1 _ (by simp; omega) (by simp) (by simp) (by simp)) hl).mono ?_
  rintro e W' ⟨rfl, hb⟩
  go_wp2
  go_ret
  exact ⟨rfl, hB.trans (hb.mono (by simp; omega))⟩
end Go.Proofs.YtdnkjdekikjihaaDoor.G
