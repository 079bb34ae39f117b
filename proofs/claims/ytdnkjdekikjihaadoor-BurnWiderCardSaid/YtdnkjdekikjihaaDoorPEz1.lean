-- written for this claim by a program, over contracts proved by hand
import Derived.Test.YtdnkjdekikjihaaDoorPEx0
namespace Go.Proofs.YtdnkjdekikjihaaDoor.PE
open Go.Proofs.YtdnkjdekikjihaaDoor.G Go.Proofs.YtdnkjdekikjihaaDoor.PA Go.Proofs.YtdnkjdekikjihaaDoor.PB Go.Proofs.YtdnkjdekikjihaaDoor.PC
open Go.RowKit Go.Proofs.YtdnkjdekikjihaaDoorW.PrintWords Go.Proofs.YtdnkjdekikjihaaDoorW.PrintLast Go.Proofs.YtdnkjdekikjihaaDoorW.PrintMore
attribute [local go_sem] max2_int min2_int max_two min_two max_three min_three max_four min_four   -- for this text's walks alone
set_option linter.unusedVariables false
set_option linter.unusedSimpArgs false

/-! ### cottonpadlaw04_BurnWider: function 3 -/
mutual
def cottonpadlaw04_BurnWider.j0 : Nat → List Int → List Int → Int → Int → Bool → Bool → Int → Int → Int → Int → Int → Int → Int → Int → Int → Option (Bool)
  | 0, _, _, _, _, _, _, _, _, _, _, _, _, _, _, _ => none
  | k + 1, x1, x2, x3, x4, x11, x41, x113000, x113001, x113002, x113003, x113004, x113005, x113006, x113007, x113008 => if x41 = true then (some x11) else ((cottonpadlaw04_choose.f x2 0).bind fun t116 => (if (wrap64 (x113000 + 1)) = 0 then (none) else ((cottonpadlaw04_choose.f x2 1).bind fun t117 => (if (wrap64 ((wrap64 (1000000 - x113001)) + 1)) = 0 then (none) else ((cottonpadlaw04_span.f (wrap64 (x113000 - (Int.tmod t116 (wrap64 (x113000 + 1))))) (wrap64 (x113001 + (Int.tmod t117 (wrap64 ((wrap64 (1000000 - x113001)) + 1)))))).bind fun bt118 => ((cottonpadlaw04_choose.f x2 2).bind fun t120 => (if (wrap64 (x113002 + 1)) = 0 then (none) else ((cottonpadlaw04_choose.f x2 3).bind fun t121 => (if (wrap64 ((wrap64 (10000 - x113003)) + 1)) = 0 then (none) else ((cottonpadlaw04_span.f (wrap64 (x113002 - (Int.tmod t120 (wrap64 (x113002 + 1))))) (wrap64 (x113003 + (Int.tmod t121 (wrap64 ((wrap64 (10000 - x113003)) + 1)))))).bind fun bt122 => ((cottonpadlaw04_choose.f x2 4).bind fun t124 => (if (wrap64 (x113004 + 1)) = 0 then (none) else ((cottonpadlaw04_choose.f x2 5).bind fun t125 => (if (wrap64 ((wrap64 (30000 - x113005)) + 1)) = 0 then (none) else ((cottonpadlaw04_span.f (wrap64 (x113004 - (Int.tmod t124 (wrap64 (x113004 + 1))))) (wrap64 (x113005 + (Int.tmod t125 (wrap64 ((wrap64 (30000 - x113005)) + 1)))))).bind fun bt126 => ((cottonpadlaw04_choose.f x2 6).bind fun t128 => (if (wrap64 (x113006 + 1)) = 0 then (none) else ((cottonpadlaw04_choose.f x2 7).bind fun t129 => (if (wrap64 ((wrap64 (1000 - x113008)) + 1)) = 0 then (none) else ((cottonpadref04_Seconds.f x113000 x113001 x113002 x113003 x113004 x113005 x113006 x113007 x113008 x1).bind fun t130 => ((burn_First.f x113000 x113001 x113002 x113003 x113004 x113005 x113006 x113007 x113008 x1 x4).bind fun bt131 => ((burn_First.f bt118.1 bt118.2 bt122.1 bt122.2 bt126.1 bt126.2 (wrap64 (x113006 - (Int.tmod t128 (wrap64 (x113006 + 1))))) x113007 (wrap64 (x113008 + (Int.tmod t129 (wrap64 ((wrap64 (1000 - x113008)) + 1))))) x1 x4).bind fun bt136 => (if bt131.2.2.2 = 0 then (if bt136.2.2.2 = 0 then (if bt136.2.2.1 = 1 then (if bt131.2.2.1 = 0 then (cottonpadlaw04_BurnWider.j1 k x1 x3 x11 t130 false x113000 x113001 x113002 x113003 x113004 x113005 x113006 x113007 x113008 bt118.1 bt118.2 bt122.1 bt122.2 bt126.1 bt126.2 (wrap64 (x113006 - (Int.tmod t128 (wrap64 (x113006 + 1))))) x113007 (wrap64 (x113008 + (Int.tmod t129 (wrap64 ((wrap64 (1000 - x113008)) + 1)))))) else (if bt136.1 > bt131.1 then (cottonpadlaw04_BurnWider.j1 k x1 x3 x11 t130 true x113000 x113001 x113002 x113003 x113004 x113005 x113006 x113007 x113008 bt118.1 bt118.2 bt122.1 bt122.2 bt126.1 bt126.2 (wrap64 (x113006 - (Int.tmod t128 (wrap64 (x113006 + 1))))) x113007 (wrap64 (x113008 + (Int.tmod t129 (wrap64 ((wrap64 (1000 - x113008)) + 1)))))) else (cottonpadlaw04_BurnWider.j1 k x1 x3 x11 t130 (decide (bt136.2.1 < bt131.2.1)) x113000 x113001 x113002 x113003 x113004 x113005 x113006 x113007 x113008 bt118.1 bt118.2 bt122.1 bt122.2 bt126.1 bt126.2 (wrap64 (x113006 - (Int.tmod t128 (wrap64 (x113006 + 1))))) x113007 (wrap64 (x113008 + (Int.tmod t129 (wrap64 ((wrap64 (1000 - x113008)) + 1)))))))) else (if bt131.2.2.1 = bt136.2.2.1 then (if bt131.2.2.1 = 0 then (cottonpadlaw04_BurnWider.j1 k x1 x3 x11 t130 false x113000 x113001 x113002 x113003 x113004 x113005 x113006 x113007 x113008 bt118.1 bt118.2 bt122.1 bt122.2 bt126.1 bt126.2 (wrap64 (x113006 - (Int.tmod t128 (wrap64 (x113006 + 1))))) x113007 (wrap64 (x113008 + (Int.tmod t129 (wrap64 ((wrap64 (1000 - x113008)) + 1)))))) else (if bt136.1 > bt131.1 then (cottonpadlaw04_BurnWider.j1 k x1 x3 x11 t130 true x113000 x113001 x113002 x113003 x113004 x113005 x113006 x113007 x113008 bt118.1 bt118.2 bt122.1 bt122.2 bt126.1 bt126.2 (wrap64 (x113006 - (Int.tmod t128 (wrap64 (x113006 + 1))))) x113007 (wrap64 (x113008 + (Int.tmod t129 (wrap64 ((wrap64 (1000 - x113008)) + 1)))))) else (cottonpadlaw04_BurnWider.j1 k x1 x3 x11 t130 (decide (bt136.2.1 < bt131.2.1)) x113000 x113001 x113002 x113003 x113004 x113005 x113006 x113007 x113008 bt118.1 bt118.2 bt122.1 bt122.2 bt126.1 bt126.2 (wrap64 (x113006 - (Int.tmod t128 (wrap64 (x113006 + 1))))) x113007 (wrap64 (x113008 + (Int.tmod t129 (wrap64 ((wrap64 (1000 - x113008)) + 1)))))))) else (cottonpadlaw04_BurnWider.j1 k x1 x3 x11 t130 true x113000 x113001 x113002 x113003 x113004 x113005 x113006 x113007 x113008 bt118.1 bt118.2 bt122.1 bt122.2 bt126.1 bt126.2 (wrap64 (x113006 - (Int.tmod t128 (wrap64 (x113006 + 1))))) x113007 (wrap64 (x113008 + (Int.tmod t129 (wrap64 ((wrap64 (1000 - x113008)) + 1)))))))) else (cottonpadlaw04_BurnWider.j1 k x1 x3 x11 t130 true x113000 x113001 x113002 x113003 x113004 x113005 x113006 x113007 x113008 bt118.1 bt118.2 bt122.1 bt122.2 bt126.1 bt126.2 (wrap64 (x113006 - (Int.tmod t128 (wrap64 (x113006 + 1))))) x113007 (wrap64 (x113008 + (Int.tmod t129 (wrap64 ((wrap64 (1000 - x113008)) + 1))))))) else (cottonpadlaw04_BurnWider.j1 k x1 x3 x11 t130 true x113000 x113001 x113002 x113003 x113004 x113005 x113006 x113007 x113008 bt118.1 bt118.2 bt122.1 bt122.2 bt126.1 bt126.2 (wrap64 (x113006 - (Int.tmod t128 (wrap64 (x113006 + 1))))) x113007 (wrap64 (x113008 + (Int.tmod t129 (wrap64 ((wrap64 (1000 - x113008)) + 1)))))))))))))))))))))))))))))
def cottonpadlaw04_BurnWider.j1 : Nat → List Int → Int → Bool → Int → Bool → Int → Int → Int → Int → Int → Int → Int → Int → Int → Int → Int → Int → Int → Int → Int → Int → Int → Int → Option (Bool)
  | 0, _, _, _, _, _, _, _, _, _, _, _, _, _, _, _, _, _, _, _, _, _, _, _ => none
  | k + 1, x1, x3, x11, x13, x194, x113000, x113001, x113002, x113003, x113004, x113005, x113006, x113007, x113008, x116000, x116001, x116002, x116003, x116004, x116005, x116006, x116007, x116008 => if x194 = true then (some false) else (if x13 = 0 then (some x11) else ((burn_Heat.f x113000 x113001 x113002 x113003 x113004 x113005 x113006 x113007 x113008 x1 (Int.tmod (wrap64 (x3)) x13)).bind fun bt141 => ((burn_Heat.f x116000 x116001 x116002 x116003 x116004 x116005 x116006 x116007 x116008 x1 (Int.tmod (wrap64 (x3)) x13)).bind fun bt145 => ((burn_Sum.f x113000 x113001 x113002 x113003 x113004 x113005 x113006 x113007 x113008 x1 0 x13).bind fun bt149 => ((burn_Sum.f x116000 x116001 x116002 x116003 x116004 x116005 x116006 x116007 x116008 x1 0 x13).bind fun bt153 => (if x11 = true then (if bt141.2.2 = 0 then (if bt145.2.2 = 0 then (if bt149.2.2 = 0 then (if bt153.2.2 = 0 then (if bt145.1 ≤ bt141.1 then (if bt145.2.1 ≥ bt141.2.1 then (if bt153.1 ≤ bt149.1 then (some (decide (bt153.2.1 ≥ bt149.2.1))) else (some false)) else (some false)) else (some false)) else (some false)) else (some false)) else (some false)) else (some false)) else (some false)))))))
end
def cottonpadlaw04_BurnWider.f (k : Nat) (a0_0 : Int) (a0_1 : Int) (a0_2 : Int) (a0_3 : Int) (a0_4 : Int) (a0_5 : Int) (a0_6 : Int) (a0_7 : Int) (a0_8 : Int) (l1 : List Int) (l2 : List Int) (a3 : Int) (a4 : Int) : Option (Bool) := (cottonpadlaw04_alive.f).bind fun t113 => ((cottonpadlaw04_ready.f k a0_0 a0_1 a0_2 a0_3 a0_4 a0_5 a0_6 a0_7 a0_8 l1).bind fun t114 => (if t114 = true then (if a4 < 1 then (cottonpadlaw04_BurnWider.j0 k l1 l2 a3 a4 t113 true a0_0 a0_1 a0_2 a0_3 a0_4 a0_5 a0_6 a0_7 a0_8) else (cottonpadlaw04_BurnWider.j0 k l1 l2 a3 a4 t113 (!t113) a0_0 a0_1 a0_2 a0_3 a0_4 a0_5 a0_6 a0_7 a0_8)) else (cottonpadlaw04_BurnWider.j0 k l1 l2 a3 a4 t113 true a0_0 a0_1 a0_2 a0_3 a0_4 a0_5 a0_6 a0_7 a0_8)))
theorem cottonpadlaw04_BurnWider.mono_l : ∀ k, (∀ y0 y1 y2 y3 y4 y5 y6 y7 y8 y9 y10 y11 y12 y13 y14, LeO (cottonpadlaw04_BurnWider.j0 k y0 y1 y2 y3 y4 y5 y6 y7 y8 y9 y10 y11 y12 y13 y14) (cottonpadlaw04_BurnWider.j0 (k + 1) y0 y1 y2 y3 y4 y5 y6 y7 y8 y9 y10 y11 y12 y13 y14)) ∧ (∀ y0 y1 y2 y3 y4 y5 y6 y7 y8 y9 y10 y11 y12 y13 y14 y15 y16 y17 y18 y19 y20 y21 y22, LeO (cottonpadlaw04_BurnWider.j1 k y0 y1 y2 y3 y4 y5 y6 y7 y8 y9 y10 y11 y12 y13 y14 y15 y16 y17 y18 y19 y20 y21 y22) (cottonpadlaw04_BurnWider.j1 (k + 1) y0 y1 y2 y3 y4 y5 y6 y7 y8 y9 y10 y11 y12 y13 y14 y15 y16 y17 y18 y19 y20 y21 y22))
  | 0 => ⟨fun _ _ _ _ _ _ _ _ _ _ _ _ _ _ _ r h => by simp [cottonpadlaw04_BurnWider.j0] at h, fun _ _ _ _ _ _ _ _ _ _ _ _ _ _ _ _ _ _ _ _ _ _ _ r h => by simp [cottonpadlaw04_BurnWider.j1] at h⟩
  | k + 1 => by
    obtain ⟨ih0, ih1⟩ := cottonpadlaw04_BurnWider.mono_l k
    refine ⟨?_, ?_⟩
    · intro y0 y1 y2 y3 y4 y5 y6 y7 y8 y9 y10 y11 y12 y13 y14
      unfold cottonpadlaw04_BurnWider.j0
      repeat' first
      | (with_reducible exact ih0 _ _ _ _ _ _ _ _ _ _ _ _ _ _ _)
      | (with_reducible exact ih1 _ _ _ _ _ _ _ _ _ _ _ _ _ _ _ _ _ _ _ _ _ _ _)
      | (with_reducible exact cottonpadlaw04_ready.mono _ _ _ _ _ _ _ _ _ _ _)
      | (with_reducible exact LeO.refl _)
      | (with_reducible exact LeO.none _)
      | (with_reducible refine LeO.ite ?_ ?_)
      | (with_reducible refine LeO.bind ?_ (fun _ => ?_))
      | exact ih0 _ _ _ _ _ _ _ _ _ _ _ _ _ _ _
      | exact ih1 _ _ _ _ _ _ _ _ _ _ _ _ _ _ _ _ _ _ _ _ _ _ _
      | exact cottonpadlaw04_ready.mono _ _ _ _ _ _ _ _ _ _ _
      | exact LeO.none _
      | refine LeO.ite ?_ ?_
      | refine LeO.bind ?_ (fun _ => ?_)
    · intro y0 y1 y2 y3 y4 y5 y6 y7 y8 y9 y10 y11 y12 y13 y14 y15 y16 y17 y18 y19 y20 y21 y22
      unfold cottonpadlaw04_BurnWider.j1
      repeat' first
      | (with_reducible exact ih0 _ _ _ _ _ _ _ _ _ _ _ _ _ _ _)
      | (with_reducible exact ih1 _ _ _ _ _ _ _ _ _ _ _ _ _ _ _ _ _ _ _ _ _ _ _)
      | (with_reducible exact cottonpadlaw04_ready.mono _ _ _ _ _ _ _ _ _ _ _)
      | (with_reducible exact LeO.refl _)
      | (with_reducible exact LeO.none _)
      | (with_reducible refine LeO.ite ?_ ?_)
      | (with_reducible refine LeO.bind ?_ (fun _ => ?_))
      | exact ih0 _ _ _ _ _ _ _ _ _ _ _ _ _ _ _
      | exact ih1 _ _ _ _ _ _ _ _ _ _ _ _ _ _ _ _ _ _ _ _ _ _ _
      | exact cottonpadlaw04_ready.mono _ _ _ _ _ _ _ _ _ _ _
      | exact LeO.none _
      | refine LeO.ite ?_ ?_
      | refine LeO.bind ?_ (fun _ => ?_)
theorem cottonpadlaw04_BurnWider.mono : ∀ a0 a1 a2 a3 a4 a5 a6 a7 a8 a9 a10 a11 a12 k, LeO (cottonpadlaw04_BurnWider.f k a0 a1 a2 a3 a4 a5 a6 a7 a8 a9 a10 a11 a12) (cottonpadlaw04_BurnWider.f (k + 1) a0 a1 a2 a3 a4 a5 a6 a7 a8 a9 a10 a11 a12) := by
  intro a0 a1 a2 a3 a4 a5 a6 a7 a8 a9 a10 a11 a12 k
  obtain ⟨ih0, ih1⟩ := cottonpadlaw04_BurnWider.mono_l k
  unfold cottonpadlaw04_BurnWider.f
  repeat' first
      | (with_reducible exact ih0 _ _ _ _ _ _ _ _ _ _ _ _ _ _ _)
      | (with_reducible exact ih1 _ _ _ _ _ _ _ _ _ _ _ _ _ _ _ _ _ _ _ _ _ _ _)
      | (with_reducible exact cottonpadlaw04_ready.mono _ _ _ _ _ _ _ _ _ _ _)
      | (with_reducible exact LeO.refl _)
      | (with_reducible exact LeO.none _)
      | (with_reducible refine LeO.ite ?_ ?_)
      | (with_reducible refine LeO.bind ?_ (fun _ => ?_))
      | exact ih0 _ _ _ _ _ _ _ _ _ _ _ _ _ _ _
      | exact ih1 _ _ _ _ _ _ _ _ _ _ _ _ _ _ _ _ _ _ _ _ _ _ _
      | exact cottonpadlaw04_ready.mono _ _ _ _ _ _ _ _ _ _ _
      | exact LeO.none _
      | refine LeO.ite ?_ ?_
      | refine LeO.bind ?_ (fun _ => ?_)
def cottonpadlaw04_BurnWider.T5 : Bool × List (List Nat × List Nat) := (true, [([], []), ([0], [0]), ([1], [1]), ([], []), ([3], [3]), ([], []), ([5], [5]), ([6], [6]), ([7], [7]), ([4, 8], [4, 8]), ([2, 9], [2, 9]), ([], []), ([11], [11]), ([12], [12]), ([], []), ([14, 4], [14]), ([], []), ([16], [16]), ([17], [17]), ([18], [18]), ([19], [19]), ([15, 20], [15, 20]), ([13, 21], [13, 21]), ([10, 22, 15], [10, 22]), ([0, 1, 2, 3, 4, 5, 6, 7, 8, 9, 10, 11, 12, 13, 14, 15, 16, 17, 18, 19, 20, 21, 22, 23], []), ([24, 23, 23, 0, 1, 2, 3, 4, 5, 6, 7, 8, 9, 10, 11, 12, 13, 14, 15, 16, 17, 18, 19, 20, 21, 22, 23], [23, 24])])
def cottonpadlaw04_BurnWider.B5 : List Nat := [0, 1, 3, 0, 8, 0, 32, 96, 224, 504, 1023, 0, 2048, 6144, 0, 16408, 0, 65536, 196608, 458752, 983040, 2080792, 4192280, 8388607, 16777215, 33554431]
theorem cottonpadlaw04_BurnWider.tab5 : rtab .any (opsOf Tryd.f3 5) = cottonpadlaw04_BurnWider.T5 := by kernel_rfl
theorem cottonpadlaw04_BurnWider.bits5 : waitsOk cottonpadlaw04_BurnWider.T5.2 cottonpadlaw04_BurnWider.B5 = true := by kernel_rfl
def cottonpadlaw04_BurnWider.T6 : Bool × List (List Nat × List Nat) := (true, [([], []), ([0], [0]), ([1], [1]), ([], []), ([3], [3]), ([], []), ([5], [5]), ([6], [6]), ([7], [7]), ([4, 8], [4, 8]), ([2, 9], [2, 9]), ([], []), ([11], [11]), ([12], [12]), ([], []), ([14, 4], [14]), ([], []), ([16], [16]), ([17], [17]), ([18], [18]), ([19], [19]), ([15, 20], [15, 20]), ([13, 21], [13, 21]), ([10, 22, 15], [10, 22]), ([0, 1, 2, 3, 4, 5, 6, 7, 8, 9, 10, 11, 12, 13, 14, 15, 16, 17, 18, 19, 20, 21, 22, 23], []), ([24, 23, 23, 0, 1, 2, 3, 4, 5, 6, 7, 8, 9, 10, 11, 12, 13, 14, 15, 16, 17, 18, 19, 20, 21, 22, 23], [23, 24])])
def cottonpadlaw04_BurnWider.B6 : List Nat := [0, 1, 3, 0, 8, 0, 32, 96, 224, 504, 1023, 0, 2048, 6144, 0, 16408, 0, 65536, 196608, 458752, 983040, 2080792, 4192280, 8388607, 16777215, 33554431]
theorem cottonpadlaw04_BurnWider.tab6 : rtab .any (opsOf Tryd.f3 6) = cottonpadlaw04_BurnWider.T6 := by kernel_rfl
theorem cottonpadlaw04_BurnWider.bits6 : waitsOk cottonpadlaw04_BurnWider.T6.2 cottonpadlaw04_BurnWider.B6 = true := by kernel_rfl
def cottonpadlaw04_BurnWider.T7 : Bool × List (List Nat × List Nat) := (true, [([], []), ([0], [0]), ([1], [1]), ([], []), ([3], [3]), ([], []), ([5], [5]), ([6], [6]), ([7], [7]), ([4, 8], [4, 8]), ([2, 9], [2, 9]), ([], []), ([11], [11]), ([12], [12]), ([], []), ([14, 4], [14]), ([], []), ([16], [16]), ([17], [17]), ([18], [18]), ([19], [19]), ([15, 20], [15, 20]), ([13, 21], [13, 21]), ([10, 22, 15], [10, 22]), ([0, 1, 2, 3, 4, 5, 6, 7, 8, 9, 10, 11, 12, 13, 14, 15, 16, 17, 18, 19, 20, 21, 22, 23], []), ([24, 23, 23, 0, 1, 2, 3, 4, 5, 6, 7, 8, 9, 10, 11, 12, 13, 14, 15, 16, 17, 18, 19, 20, 21, 22, 23], [23, 24])])
def cottonpadlaw04_BurnWider.B7 : List Nat := [0, 1, 3, 0, 8, 0, 32, 96, 224, 504, 1023, 0, 2048, 6144, 0, 16408, 0, 65536, 196608, 458752, 983040, 2080792, 4192280, 8388607, 16777215, 33554431]
theorem cottonpadlaw04_BurnWider.tab7 : rtab .any (opsOf Tryd.f3 7) = cottonpadlaw04_BurnWider.T7 := by kernel_rfl
theorem cottonpadlaw04_BurnWider.bits7 : waitsOk cottonpadlaw04_BurnWider.T7.2 cottonpadlaw04_BurnWider.B7 = true := by kernel_rfl
def cottonpadlaw04_BurnWider.T8 : Bool × List (List Nat × List Nat) := (true, [([], []), ([0], [0]), ([1], [1]), ([], []), ([3], [3]), ([], []), ([5], [5]), ([6], [6]), ([7], [7]), ([4, 8], [4, 8]), ([2, 9], [2, 9]), ([0, 1, 2, 3, 4, 5, 6, 7, 8, 9, 10], []), ([11, 0, 1, 2, 3, 4, 5, 6, 7, 8, 9, 10], [11]), ([12, 10, 4, 0, 1, 2, 3, 4, 5, 6, 7, 8, 9, 10], [10, 12])])
def cottonpadlaw04_BurnWider.B8 : List Nat := [0, 1, 3, 0, 8, 0, 32, 96, 224, 504, 1023, 2047, 4095, 8191]
theorem cottonpadlaw04_BurnWider.tab8 : rtab .any (opsOf Tryd.f3 8) = cottonpadlaw04_BurnWider.T8 := by kernel_rfl
theorem cottonpadlaw04_BurnWider.bits8 : waitsOk cottonpadlaw04_BurnWider.T8.2 cottonpadlaw04_BurnWider.B8 = true := by kernel_rfl
def cottonpadlaw04_BurnWider.T9 : Bool × List (List Nat × List Nat) := (true, [([], []), ([0], [0]), ([], []), ([2], [2]), ([], []), ([4], [4]), ([5], [5]), ([6], [6]), ([3, 7], [3, 7]), ([1, 8], [1, 8]), ([0, 1, 2, 3, 4, 5, 6, 7, 8, 9], []), ([10, 9, 3, 0, 1, 2, 3, 4, 5, 6, 7, 8, 9], [9, 10])])
def cottonpadlaw04_BurnWider.B9 : List Nat := [0, 1, 0, 4, 0, 16, 48, 112, 252, 511, 1023, 2047]
theorem cottonpadlaw04_BurnWider.tab9 : rtab .any (opsOf Tryd.f3 9) = cottonpadlaw04_BurnWider.T9 := by kernel_rfl
theorem cottonpadlaw04_BurnWider.bits9 : waitsOk cottonpadlaw04_BurnWider.T9.2 cottonpadlaw04_BurnWider.B9 = true := by kernel_rfl
end Go.Proofs.YtdnkjdekikjihaaDoor.PE
