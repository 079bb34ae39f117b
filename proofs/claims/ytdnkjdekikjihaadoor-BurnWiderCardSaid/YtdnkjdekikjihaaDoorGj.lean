import Derived.Test.YtdnkjdekikjihaaDoorGe
import Derived.Test.YtdnkjdekikjihaaDoorIm
import Derived.Shelf.RegionOpen
import Derived.RangeFuncCalls
import Derived.Test.YtdnkjdekikjihaaDoorSc
namespace Go.Proofs.YtdnkjdekikjihaaDoor.G
open Go.RowKit Go.Shelf Go.Proofs.YtdnkjdekikjihaaDoorW.PrintWords Go.Proofs.YtdnkjdekikjihaaDoor.Im
attribute [local go_sem] Oper.semAt_some
/-- The first region with this number in a code. -/
def regionOf (n : Nat) : Code → Option Code
 | .seq x y => (regionOf n x).or (regionOf n y)
 | .cond _ x y => (regionOf n x).or (regionOf n y)
 | .block _ x => regionOf n x
 | .loop x => regionOf n x
 | .scope x => regionOf n x
 | .rangeFunc _ _ x y => (regionOf n x).or (regionOf n y)
 | .region i ops d => if i = n then some (.region i ops d) else none
 | _ => none

set_option maxRecDepth 100000 in
set_option maxHeartbeats 4000000 in
theorem region17 (lp Bx oB bm : Nat) (o : Int × Int) (k lag : Int) (l : List (Int × Value)) (x0 x1 x2 x3 x4 x5 x6 x7 x8 x9 x11 x14 x16 x17 x18 x19 x20 x21 x22 x23 x24 x25 x26 x27 x28 x29 x30 x31 x32 x33 x34 x35 x36 x37 x38 x39 x40 x41 x42 x43 x44 x45 x46 x47 x48 x49 x50 x51 x52 x53 x54 x55 x56 x57 x58 x59 x60 x61 x62 x63 x64 x65 x66 x67 x68 x69 x70 x71 x72 x73 x74 x75 x76 x77 x78 x79 x80 x81 x82 x83 x84 x85 x86 x87 x88 x89 x90 x91 x92 x93 x94 x95 x96 x97 x98 x99 x100 x101 x102 x103 x104 x105 x106 x107 x108 x109 x110 x111 x112 x113 x114 x115 x116 x117 x118 x119 : Value) (Z : World) (Q : Exit → Act → World → Prop)
  (hBx : Bx < Z.heap.size) (hoB : oB < Z.heap.size) (hbm : bm < Z.heap.size) (v2 : Z.cell? ⟨Bx, 0, none⟩ = some (.map (some bm))) (v0 : Z.cell? ⟨oB, 0, none⟩ = some (.int .i64 o.1)) (v1 : Z.cell? ⟨oB, 1, none⟩ = some (.int .i64 o.2)) (im : IMap Z bm l)
  (hK : ∀ w4, IMap w4 bm (put l lag (.agg #[.int .i64 (min o.1 k), .int .i64 (max o.2 k)])) → Below 0 Z w4 → (∀ i, i < Z.heap.size → i ≠ bm → w4.heap[i]? = Z.heap[i]?) → Q .normal ⟨#[x0, x1, x2, x3, x4, x5, x6, x7, x8, x9, .pointer (some ⟨Bx, 0, none⟩), x11, .int .i64 lag, .int .i64 k, x14, .pointer (some ⟨oB, 0, none⟩), x16, x17, x18, x19, x20, x21, x22, x23, x24, x25, x26, x27, x28, x29, x30, x31, x32, x33, x34, x35, x36, x37, x38, x39, x40, x41, x42, x43, x44, x45, x46, x47, x48, x49, x50, x51, x52, x53, x54, x55, x56, .map (some bm), .int .i64 lag, .agg #[.int .i64 o.1, .int .i64 o.2], .int .i64 k, .int .i64 k, .agg #[.int .i64 k, .int .i64 k], .agg #[.int .i64 (min o.1 k), .int .i64 (max o.2 k)], x64, x65, x66, x67, x68, x69, x70, x71, x72, x73, x74, x75, x76, x77, x78, x79, x80, x81, x82, x83, x84, x85, x86, x87, x88, x89, x90, x91, x92, x93, x94, x95, x96, x97, x98, x99, x100, x101, x102, x103, x104, x105, x106, x107, x108, x109, x110, x111, x112, x113, x114, x115, x116, x117, x118, x119], []⟩ w4)
  (c : Code) (hc : Tryd.f10.body.bind (regionOf 17) = some c) : c.wpIn (Fence.wide.inRound lp) 7 Tryd.prog Q ⟨#[x0, x1, x2, x3, x4, x5, x6, x7, x8, x9, .pointer (some ⟨Bx, 0, none⟩), x11, .int .i64 lag, .int .i64 k, x14, .pointer (some ⟨oB, 0, none⟩), x16, x17, x18, x19, x20, x21, x22, x23, x24, x25, x26, x27, x28, x29, x30, x31, x32, x33, x34, x35, x36, x37, x38, x39, x40, x41, x42, x43, x44, x45, x46, x47, x48, x49, x50, x51, x52, x53, x54, x55, x56, x57, x58, x59, x60, x61, x62, x63, x64, x65, x66, x67, x68, x69, x70, x71, x72, x73, x74, x75, x76, x77, x78, x79, x80, x81, x82, x83, x84, x85, x86, x87, x88, x89, x90, x91, x92, x93, x94, x95, x96, x97, x98, x99, x100, x101, x102, x103, x104, x105, x106, x107, x108, x109, x110, x111, x112, x113, x114, x115, x116, x117, x118, x119], []⟩ Z := by
 have hmix : Tryd.prog.follows .mixedOrders = true := by kernel_rfl
 obtain rfl := Option.some.inj (hc.symm.trans rfl)
 clear hc
 have hbd : Below Z.heap.size Z Z.drew := (Below.refl _ _).drew
 dsimp only at hK ⊢
 have IM := Aside0.mk im
 have HK := Aside0.mk hK
 clear im hK
 refine wpIn_mono (Q := fun e a w => e = .normal ∧ Q .normal a w) ?_ (fun e a w h => by obtain ⟨rfl, h⟩ := h; exact h)
 refine wpIn_region_any (by assumption) (wpAnyIn_round lp (by intro i o c hi; rcases i with _ | _ | _ | _ | _ | _ | _ | _ | i <;> simp at hi <;> (subst hi; simp)) _ _ _ _ ?_)
 refine wpAnyIn_take (i := 1) (v := .int .i64 lag) rfl rfl (by kernel_rfl) (by kernel_rfl) (by kernel_rfl) (fun _ _ _ h => by cases h.1) ⟨Or.inl ⟨by rfl, by intro w; go_simp⟩, fun _ => rfl⟩ ?_
 refine wpAnyIn_take (i := 3) (v := .int .i64 k) rfl rfl (by kernel_rfl) (by kernel_rfl) (by kernel_rfl) (fun _ _ _ h => by cases h.1) ⟨Or.inl ⟨by rfl, by intro w; go_simp⟩, fun _ => rfl⟩ ?_
 refine wpAnyIn_take (i := 4) (v := .int .i64 k) rfl rfl (by kernel_rfl) (by kernel_rfl) (by kernel_rfl) (fun _ _ _ h => by cases h.1) ⟨Or.inl ⟨by rfl, by intro w; go_simp⟩, fun _ => rfl⟩ ?_
 refine wpAnyIn_take (i := 5) (v := .agg #[.int .i64 k, .int .i64 k]) rfl rfl (by kernel_rfl) (by kernel_rfl) (by kernel_rfl) (fun _ _ _ h => by cases h.1) ⟨Or.inl ⟨by rfl, by intro w; go_simp⟩, fun _ => rfl⟩ ?_
 refine wpAnyIn_ready (rs := [0, 2]) (by kernel_rfl) (by simp) ?_
 refine AllReadyIn.cons rfl (fun K hK => ?_) (AllReadyIn.cons rfl (fun K hK => ?_) AllReadyIn.nil)
 ·
  skip
  go_simp
  refine hK _ _ ?_
  clear hK K
  refine wpAnyIn_ready (rs := [2]) (by kernel_rfl) (by simp) ?_
  refine AllReadyIn.cons rfl (fun K hK => ?_) AllReadyIn.nil
  go_simp
  refine hK _ _ ?_
  clear hK K
  refine wpAnyIn_ready (rs := [6]) (by kernel_rfl) (by simp) ?_
  refine AllReadyIn.cons rfl (fun K hK => ?_) AllReadyIn.nil
  go_simp
  refine ⟨trivial, (callsIn_wide.2 (both o.1 o.2 k k _)).mono ?_⟩
  rintro e w5 ⟨rfl, hb5⟩
  replace hbd := hbd.trans (hb5.mono hbd.size)
  clear hb5
  have v25 := (hbd.cell (p := ⟨Bx, 0, none⟩) hBx).trans v2
  obtain ⟨w4, hu, im4, g4, s4⟩ := run_update (P := Tryd.prog) Tryd.underlying3 Tryd.underlying67 (IM.out.same (hbd.block _ hbm)) lag (.agg #[.int .i64 (min o.1 k), .int .i64 (max o.2 k)])
  go_simp
  refine hK _ _ ?_
  clear hK K
  refine wpAnyIn_ready (rs := [7]) (by kernel_rfl) (by simp) ?_
  refine AllReadyIn.cons rfl (fun K hK => ?_) AllReadyIn.nil
  go_simp
  refine hK _ _ ?_
  clear hK K
  refine wpAnyIn_done (by kernel_rfl) ⟨rfl, HK.out w4 im4 ?_ ?_⟩ _
  ·
   exact ⟨g4.os.trans hbd.os, g4.tape.trans hbd.tape, g4.output.trans hbd.output, Nat.le_trans hbd.size g4.size, fun k hk => by omega⟩
  ·
   exact fun i h1 h2 => (g4.block i (Nat.lt_of_lt_of_le h1 hbd.size) (by simp; omega)).trans (hbd.block i h1)
 ·
  skip
  go_simp
  refine hK _ _ ?_
  clear hK K
  refine wpAnyIn_ready (rs := [0, 6]) (by kernel_rfl) (by simp) ?_
  refine AllReadyIn.cons rfl (fun K hK => ?_) (AllReadyIn.cons rfl (fun K hK => ?_) AllReadyIn.nil)
  ·
   skip
   go_simp
   refine hK _ _ ?_
   clear hK K
   refine wpAnyIn_ready (rs := [6]) (by kernel_rfl) (by simp) ?_
   refine AllReadyIn.cons rfl (fun K hK => ?_) AllReadyIn.nil
   go_simp
   refine ⟨trivial, (callsIn_wide.2 (both o.1 o.2 k k _)).mono ?_⟩
   rintro e w5 ⟨rfl, hb5⟩
   replace hbd := hbd.trans (hb5.mono hbd.size)
   clear hb5
   have v25 := (hbd.cell (p := ⟨Bx, 0, none⟩) hBx).trans v2
   obtain ⟨w4, hu, im4, g4, s4⟩ := run_update (P := Tryd.prog) Tryd.underlying3 Tryd.underlying67 (IM.out.same (hbd.block _ hbm)) lag (.agg #[.int .i64 (min o.1 k), .int .i64 (max o.2 k)])
   go_simp
   refine hK _ _ ?_
   clear hK K
   refine wpAnyIn_ready (rs := [7]) (by kernel_rfl) (by simp) ?_
   refine AllReadyIn.cons rfl (fun K hK => ?_) AllReadyIn.nil
   go_simp
   refine hK _ _ ?_
   clear hK K
   refine wpAnyIn_done (by kernel_rfl) ⟨rfl, HK.out w4 im4 ?_ ?_⟩ _
   ·
    exact ⟨g4.os.trans hbd.os, g4.tape.trans hbd.tape, g4.output.trans hbd.output, Nat.le_trans hbd.size g4.size, fun k hk => by omega⟩
   ·
    exact fun i h1 h2 => (g4.block i (Nat.lt_of_lt_of_le h1 hbd.size) (by simp; omega)).trans (hbd.block i h1)
  ·
   skip
   go_simp
   refine ⟨trivial, (callsIn_wide.2 (both o.1 o.2 k k _)).mono ?_⟩
   rintro e w5 ⟨rfl, hb5⟩
   replace hbd := hbd.trans (hb5.mono hbd.size)
   clear hb5
   have v25 := (hbd.cell (p := ⟨Bx, 0, none⟩) hBx).trans v2
   obtain ⟨w4, hu, im4, g4, s4⟩ := run_update (P := Tryd.prog) Tryd.underlying3 Tryd.underlying67 (IM.out.same (hbd.block _ hbm)) lag (.agg #[.int .i64 (min o.1 k), .int .i64 (max o.2 k)])
   go_simp
   refine hK _ _ ?_
   clear hK K
   refine wpAnyIn_ready (rs := [0]) (by kernel_rfl) (by simp) ?_
   refine AllReadyIn.cons rfl (fun K hK => ?_) AllReadyIn.nil
   go_simp
   refine hK _ _ ?_
   clear hK K
   refine wpAnyIn_ready (rs := [7]) (by kernel_rfl) (by simp) ?_
   refine AllReadyIn.cons rfl (fun K hK => ?_) AllReadyIn.nil
   go_simp
   refine hK _ _ ?_
   clear hK K
   refine wpAnyIn_done (by kernel_rfl) ⟨rfl, HK.out w4 im4 ?_ ?_⟩ _
   ·
    exact ⟨g4.os.trans hbd.os, g4.tape.trans hbd.tape, g4.output.trans hbd.output, Nat.le_trans hbd.size g4.size, fun k hk => by omega⟩
   ·
    exact fun i h1 h2 => (g4.block i (Nat.lt_of_lt_of_le h1 hbd.size) (by simp; omega)).trans (hbd.block i h1)
end Go.Proofs.YtdnkjdekikjihaaDoor.G
