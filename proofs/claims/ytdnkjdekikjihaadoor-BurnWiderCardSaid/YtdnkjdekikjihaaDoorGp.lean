import Derived.Test.YtdnkjdekikjihaaDoorGm
namespace Go.Proofs.YtdnkjdekikjihaaDoor.G
open Go.RowKit Go.Shelf Go.Proofs.YtdnkjdekikjihaaDoorW.PrintWords

def firstAll (a0 a1 a2 a3 a4 a5 a6 a7 a8 : Int) (l : List Int) (lev : Int) : Int × Int × Int :=
  firstOut (lagsAll (heatLo a0 a2 a4 a8 l) (heatHi a1 a3 a5 a8 l) lev a6 (max 0 (l.length - a7)).toNat (List.finRange (a7 - a6 + 1).toNat)) a6 (a7 - a6 + 1).toNat
def burn_First.f (a0 a1 a2 a3 a4 a5 a6 a7 a8 : Int) (l : List Int) (lev : Int) : Option (Int × Int × Int × Int) :=
  if HoodOk a0 a1 a2 a3 a4 a5 a6 a7 a8 l ∧ 1 ≤ lev then some ((firstAll a0 a1 a2 a3 a4 a5 a6 a7 a8 l lev).1, (firstAll a0 a1 a2 a3 a4 a5 a6 a7 a8 l lev).2.1, (firstAll a0 a1 a2 a3 a4 a5 a6 a7 a8 l lev).2.2, 0) else none
theorem burn_First.calls (a0 a1 a2 a3 a4 a5 a6 a7 a8 : Int) (A1 : Option Addr) (c1 : Nat) (l1 : List Int) (a2' : Int) (r1 r2 r3 r4 : Int) (w : World) (hr1 : Kd.C (Kd.int .i64) w A1 l1.length l1) (hc1 : l1.length ≤ c1) (hE : Ends w)
    (h : burn_First.f a0 a1 a2 a3 a4 a5 a6 a7 a8 l1 a2' = some (r1, r2, r3, r4)) :
    Calls Tryd.prog 10 #[.agg #[.int .i64 a0, .int .i64 a1, .int .i64 a2, .int .i64 a3, .int .i64 a4, .int .i64 a5, .int .i64 a6, .int .i64 a7, .int .i64 a8], .slice A1 l1.length c1, .int .i64 a2'] w fun e w' =>
      e = .returned (.tuple #[.agg #[.int .i64 r1, .int .i64 r2], .int .u8 r3, .int .i64 r4]) ∧ Below w.heap.size w w' := by
  unfold burn_First.f at h
  split at h
  case isFalse => cases h
  case isTrue hc =>
  obtain ⟨ok, hlev⟩ := hc
  simp only [Option.some.injEq, Prod.mk.injEq] at h
  obtain ⟨rfl, rfl, rfl, rfl⟩ := h
  exact callsIn_wide.1 (first_in a0 a1 a2 a3 a4 a5 a6 a7 a8 A1 c1 l1 a2' w hr1 hc1 hE ok hlev (max 0 (l1.length - a7)).toNat (by have := ok.2.2.2.1; omega) (a7 - a6 + 1).toNat (by have := ok.2.2.2.1; omega) _ rfl _ rfl)
end Go.Proofs.YtdnkjdekikjihaaDoor.G
