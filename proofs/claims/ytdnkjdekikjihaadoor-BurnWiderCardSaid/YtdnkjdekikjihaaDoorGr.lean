import Derived.Test.YtdnkjdekikjihaaDoorPCx3
import Derived.Test.YtdnkjdekikjihaaDoorPCx4
namespace Go.Proofs.YtdnkjdekikjihaaDoor.G
open Go.RowKit Go.Shelf Go.Proofs.YtdnkjdekikjihaaDoorW.PrintWords Go.Proofs.YtdnkjdekikjihaaDoor.PA Go.Proofs.YtdnkjdekikjihaaDoor.PB Go.Proofs.YtdnkjdekikjihaaDoor.PC

attribute [local go_sem high] Go.Proofs.YtdnkjdekikjihaaDoor.PC.eqA23
theorem ex_sum : burn_Sum.f 209000 209500 100 110 17 18 1 2 0 [209500, 209200, 208000, 207000, 209000] 0 3 = some (5100000, 8910000, 0) := by decide +kernel
theorem ex_smoke : burn_Smoke.f 9 1000 800 [900, 600, 850, 400] 0 4 = some (795, 1250, 0) := by decide +kernel
theorem ex_hot : cottonpadlaw04_hot.f 1 1700000 4950000 = some true := by decide +kernel
theorem ex_r1 : cottonpadlaw04_reached.f 3400000 1 2 2 = some true := by decide +kernel
theorem ex_r2 : cottonpadlaw04_reached.f 4000000 1 2 1 = some true := by decide +kernel
theorem ex_r3 : cottonpadlaw04_reached.f 5000000 0 0 0 = some true := by decide +kernel
theorem ex_fouled : cottonpadlaw04_fouled.f 9 1 850 295 400 = some true := by decide +kernel

def cottonpadlaw04_alive.f : Option Bool := some true
set_option maxHeartbeats 8000000 in
set_option maxRecDepth 100000 in
theorem cottonpadlaw04_alive.calls (r : Bool) (w : World) (hE : Ends w) (h : cottonpadlaw04_alive.f = some r) :
    Calls Tryd.prog 5 #[] w fun e w' => e = .returned (.bool r) ∧ Below w.heap.size w w' := by
  obtain rfl := Option.some.inj h
  clear h
  have HE := Aside0.mk hE
  clear hE
  have HB := Aside0.mk (Below.refl w.heap.size w)
  go_enter Tryd.func5, Tryd.ntmps5
  go_wp2_with fail
  refine (cottonpadlaw04_hood.calls _ _ _ _ _ _ _ _ _ _ (rfl : cottonpadlaw04_hood.f = some (209000, 209500, 100, 110, 17, 18, 1, 2, 0))).mono ?_
  rintro e w1 ⟨rfl, hb1⟩
  go_wp2_with fail
  refine (cottonpadlaw04_reads.calls _ _ (rfl : cottonpadlaw04_reads.f = some [209500, 209200, 208000, 207000, 209000])).mono ?_
  rintro e w2 ⟨v, rfl, hr, hb2⟩
  obtain ⟨A, c, rfl⟩ := Kd.R_slice hr
  have HR := Aside0.mk (Kd.R_reads' hr)
  have HB2 := Aside0.mk (hb1.trans (hb2.mono hb1.size))
  clear hr hb1 hb2
  go_wp2_with fail
  refine (burn_Sum.calls 209000 209500 100 110 17 18 1 2 0 A c _ 0 3 _ _ _ _ HR.out.2.2 HR.out.2.1 (HE.out.below HB2.out) ex_sum).mono ?_
  rintro e w3 ⟨rfl, hb3⟩
  have HB3 := Aside0.mk (HB2.out.trans (hb3.mono HB2.out.size))
  clear hb3 HR HB2
  go_wp2_with fail
  obtain ⟨W3, hW3⟩ : ∃ W3, W3 = w3.alloc (.cells #[.int .i64 5100000, .int .i64 8910000] 23) := ⟨_, rfl⟩
  rw [← hW3]
  have s3 : w3.heap.size < W3.heap.size := by rw [hW3]; simp
  have HB3' := Aside0.mk (show Below w.heap.size w W3 by rw [hW3]; exact HB3.out.alloc HB3.out.size _)
  have p0 : W3.cell? ⟨w3.heap.size, 0, none⟩ = some (.int .i64 5100000) := by rw [hW3]; simp [go_sem]
  have p1 : W3.cell? ⟨w3.heap.size, 1, none⟩ = some (.int .i64 8910000) := by rw [hW3]; simp [go_sem]
  clear hW3
  refine (cottonpadlaw04_lamp.calls _ _ _ (rfl : cottonpadlaw04_lamp.f = some (1000, 800))).mono ?_
  rintro e w4 ⟨rfl, hb4⟩
  go_wp2_with fail
  refine (cottonpadlaw04_lights.calls _ _ (rfl : cottonpadlaw04_lights.f = some [900, 600, 850, 400])).mono ?_
  rintro e w5 ⟨v, rfl, hr, hb5⟩
  obtain ⟨A, c, rfl⟩ := Kd.R_slice hr
  have HR := Aside0.mk (Kd.R_reads' hr)
  have HB5 := Aside0.mk (hb4.trans (hb5.mono hb4.size))
  clear hr hb4 hb5
  go_wp2_with fail
  refine (burn_Smoke.calls 9 1000 800 A c _ 0 4 _ _ _ _ HR.out.2.2 HR.out.2.1 ex_smoke).mono ?_
  rintro e w6 ⟨rfl, hb6⟩
  have HB6 := Aside0.mk (HB5.out.trans (hb6.mono HB5.out.size))
  clear hb6 HR HB5
  replace p0 := (HB6.out.cell (p := ⟨w3.heap.size, 0, none⟩) s3).trans p0
  replace p1 := (HB6.out.cell (p := ⟨w3.heap.size, 1, none⟩) s3).trans p1
  go_wp2_with fail
  obtain ⟨W, hW⟩ : ∃ W, W = w6.alloc (.cells #[.int .i64 795, .int .i64 1250] 23) := ⟨_, rfl⟩
  rw [← hW]
  have s6 : w3.heap.size < w6.heap.size := Nat.lt_of_lt_of_le s3 HB6.out.size
  have s7 : w6.heap.size < W.heap.size := by rw [hW]; simp
  have q0 : W.cell? ⟨w6.heap.size, 0, none⟩ = some (.int .i64 795) := by rw [hW]; simp [go_sem]
  have q1 : W.cell? ⟨w6.heap.size, 1, none⟩ = some (.int .i64 1250) := by rw [hW]; simp [go_sem]
  replace p0 : W.cell? ⟨w3.heap.size, 0, none⟩ = some (.int .i64 5100000) := by rw [hW]; exact (World.cell?_alloc_lt _ _ _ s6).trans p0
  replace p1 : W.cell? ⟨w3.heap.size, 1, none⟩ = some (.int .i64 8910000) := by rw [hW]; exact (World.cell?_alloc_lt _ _ _ s6).trans p1
  have HBW := Aside0.mk (show Below w.heap.size w W by rw [hW]; exact (HB3'.out.trans (HB6.out.mono HB3'.out.size)).alloc (Nat.le_trans HB3'.out.size HB6.out.size) _)
  clear hW
  have s8 : w3.heap.size < W.heap.size := by omega
  have hB : Below W.heap.size W W.drew := (Below.refl _ _).drew
  go_region_held3 (fun w' => w'.cell? ⟨w3.heap.size, 0, none⟩ = some (.int .i64 5100000) ∧ w'.cell? ⟨w3.heap.size, 1, none⟩ = some (.int .i64 8910000) ∧ w'.cell? ⟨w6.heap.size, 0, none⟩ = some (.int .i64 795) ∧ w'.cell? ⟨w6.heap.size, 1, none⟩ = some (.int .i64 1250))
    (refine ⟨?_, ?_, ?_, ?_⟩ <;> (rw [hB.cell (by assumption)]; assumption))
    (first | (go_at_call_of 23 (Value.int .i64 1700000); refine (cottonpadlaw04_hot.calls _ _ _ _ _ (HE.out.below (HBW.out.trans (hB.mono HBW.out.size))) rfl ex_hot).mono ?_; rintro e w9 ⟨rfl, hb⟩; replace hB := hB.trans (hb.mono hB.size); clear hb) | (go_at_call_of 24 (Value.int .i64 3400000); refine (cottonpadlaw04_reached.calls _ _ _ _ _ _ (HE.out.below (HBW.out.trans (hB.mono HBW.out.size))) rfl ex_r1).mono ?_; rintro e w9 ⟨rfl, hb⟩; replace hB := hB.trans (hb.mono hB.size); clear hb) | (go_at_call_of 24 (Value.int .i64 4000000); refine (cottonpadlaw04_reached.calls _ _ _ _ _ _ (HE.out.below (HBW.out.trans (hB.mono HBW.out.size))) rfl ex_r2).mono ?_; rintro e w9 ⟨rfl, hb⟩; replace hB := hB.trans (hb.mono hB.size); clear hb) | (go_at_call_of 24 (Value.int .i64 5000000); refine (cottonpadlaw04_reached.calls _ _ _ _ _ _ (HE.out.below (HBW.out.trans (hB.mono HBW.out.size))) rfl ex_r3).mono ?_; rintro e w9 ⟨rfl, hb⟩; replace hB := hB.trans (hb.mono hB.size); clear hb) | (go_at_call_of 25 (Value.int .i64 850); refine (cottonpadlaw04_fouled.calls 9 _ _ _ _ _ _ rfl ex_fouled).mono ?_; rintro e w9 ⟨rfl, hb⟩; replace hB := hB.trans (hb.mono hB.size); clear hb) | (go_at_call_of 7 (Value.int .i64 5100000); refine (cottonpadlaw04_span.calls 5100000 8910000 _ _ _ rfl).mono ?_; rintro e w9 ⟨rfl, hb⟩; replace hB := hB.trans (hb.mono hB.size); clear hb) | (go_at_call_of 7 (Value.int .i64 795); refine (cottonpadlaw04_span.calls 795 1250 _ _ _ rfl).mono ?_; rintro e w9 ⟨rfl, hb⟩; replace hB := hB.trans (hb.mono hB.size); clear hb))
  all_goals
    try go_wp2
    go_ret
    exact ⟨rfl, HBW.out.trans (hB.mono HBW.out.size)⟩
end Go.Proofs.YtdnkjdekikjihaaDoor.G
