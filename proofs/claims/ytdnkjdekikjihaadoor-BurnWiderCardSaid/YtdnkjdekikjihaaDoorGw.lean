/- Proved: for every hood, readings, choices, second and level the law BurnWider returns true, and its arguments read afterwards as before; the condition is that burn.ends starts as the program's text lays it, which the card ties to the text. -/
import Derived.Test.YtdnkjdekikjihaaDoorPEz1
import Derived.Test.YtdnkjdekikjihaaDoorGs
import Derived.Test.YtdnkjdekikjihaaDoorCards
import Derived.Test.YtdnkjdekikjihaaDoorTie
import Derived.Test.YtdnkjdekikjihaaDoorGh
import Derived.WalkKit
import Derived.ProofKit
import Derived.OpenShut
import Derived.ShutString
import Derived.ChangeOld
import Derived.Below
import Derived.SizedLaws
import Derived.LaidMore
import Derived.Stop.Joined
import Derived.SevenTiedAt
import Derived.Test.YtdnkjdekikjihaaDoorWSized
import Derived.Test.YtdnkjdekikjihaaDoorPEz2
namespace Go.Proofs.YtdnkjdekikjihaaDoor.G
open Go.RowKit Go.Shelf Go.Proofs.YtdnkjdekikjihaaDoorW.PrintWords Go.Proofs.YtdnkjdekikjihaaDoor.PA Go.Proofs.YtdnkjdekikjihaaDoor.PB Go.Proofs.YtdnkjdekikjihaaDoor.PC Go.Proofs.YtdnkjdekikjihaaDoor.PE

theorem rem_in {c n : Int} (hc : 0 ≤ c) (hn : 0 ≤ n) : 0 ≤ c % (n + 1) ∧ c % (n + 1) ≤ n := by
  have h0 := Int.emod_nonneg c (show n + 1 ≠ 0 by omega)
  have h1 := Int.emod_lt_of_pos c (show 0 < n + 1 by omega)
  omega
/-- a - c % (a + 1), as the program reckons it -/
theorem down_is {c a : Int} (hc : 0 ≤ c) (ha : 0 ≤ a) (hm : a ≤ 2000000) : wrap64 (a + 1) = a + 1 ∧ ¬ (a + 1 = 0) ∧ ∃ b, wrap64 (a - Int.tmod c (a + 1)) = b ∧ 0 ≤ b ∧ b ≤ a := by
  have h := rem_in hc ha
  refine ⟨wrap64_in (by omega) (by omega), by omega, _, rfl, ?_⟩
  rw [Int.tmod_eq_emod_of_nonneg hc, wrap64_in (by omega) (by omega)]
  omega
theorem up_is {c a M : Int} (hc : 0 ≤ c) (ha : 0 ≤ a) (hm : a ≤ M) (hM : M ≤ 2000000) : wrap64 (wrap64 (M - a) + 1) = M - a + 1 ∧ ¬ (M - a + 1 = 0) ∧ ∃ b, wrap64 (a + Int.tmod c (M - a + 1)) = b ∧ a ≤ b ∧ b ≤ M := by
  have h := rem_in (n := M - a) hc (by omega)
  refine ⟨by rw [wrap64_in (x := M - a) (by omega) (by omega), wrap64_in (by omega) (by omega)], by omega, _, rfl, ?_⟩
  rw [Int.tmod_eq_emod_of_nonneg hc, wrap64_in (by omega) (by omega)]
  omega
theorem wider_end {L : List Int} {sec n : Int} {a0 a1 a2 a3 a4 a5 a6 a7 a8 b0 b1 b2 b3 b4 b5 b6 b8 : Int} (k : Nat) (ok : HoodOk a0 a1 a2 a3 a4 a5 a6 a7 a8 L) (ok' : HoodOk b0 b1 b2 b3 b4 b5 b6 a7 b8 L) (hn : n = max 0 (L.length - a7)) (hs0 : 0 ≤ sec) (hs1 : sec ≤ 255)
    (h0 : b0 ≤ a0) (h1 : a1 ≤ b1) (h2 : b2 ≤ a2) (h3 : a3 ≤ b3) (h4 : b4 ≤ a4) (h5 : a5 ≤ b5) (h6 : b6 ≤ a6) (h8 : a8 ≤ b8) :
    cottonpadlaw04_BurnWider.j1 (k + 1) L sec true n false a0 a1 a2 a3 a4 a5 a6 a7 a8 b0 b1 b2 b3 b4 b5 b6 a7 b8 = some true := by
  simp only [cottonpadlaw04_BurnWider.j1, Bool.false_eq_true, if_false]
  by_cases hz : n = 0
  · rw [if_pos hz]
  · rw [if_neg hz]
    obtain ⟨o1, o2, o3, o4, o5, o6, o7⟩ := ok
    obtain ⟨o1', o2', o3', o4', o5', o6', o7'⟩ := ok'
    have ok : HoodOk a0 a1 a2 a3 a4 a5 a6 a7 a8 L := ⟨o1, o2, o3, o4, o5, o6, o7⟩
    have ok' : HoodOk b0 b1 b2 b3 b4 b5 b6 a7 b8 L := ⟨o1', o2', o3', o4', o5', o6', o7'⟩
    have e : Int.tmod (wrap64 sec) n = sec % n := by rw [wrap64_in (by omega) (by omega), Int.tmod_eq_emod_of_nonneg hs0]
    have q0 := Int.emod_nonneg sec hz
    have q1 := Int.emod_lt_of_pos sec (show 0 < n by omega)
    rw [e]
    obtain ⟨q, hq⟩ : ∃ q, sec % n = q := ⟨_, rfl⟩
    rw [hq] at q0 q1 ⊢
    have w1 := allSum_wider (l := L) (a := q) (n := 1) h0 h1 o2'.1 h2 (show 0 ≤ a3 by omega) h3 o3'.1 h4 (show 0 ≤ a5 by omega) h5 h6 o4.2.1 h8
    have w2 := allSum_wider (l := L) (a := 0) (n := (n - 0).toNat) h0 h1 o2'.1 h2 (show 0 ≤ a3 by omega) h3 o3'.1 h4 (show 0 ≤ a5 by omega) h5 h6 o4.2.1 h8
    have f1 : burn_Heat.f a0 a1 a2 a3 a4 a5 a6 a7 a8 L q = _ := if_pos ⟨ok, q0, by rw [← hn]; exact q1⟩
    have f2 : burn_Heat.f b0 b1 b2 b3 b4 b5 b6 a7 b8 L q = _ := if_pos ⟨ok', q0, by rw [← hn]; exact q1⟩
    have f3 : burn_Sum.f a0 a1 a2 a3 a4 a5 a6 a7 a8 L 0 n = _ := if_pos ⟨ok, by omega, by omega, by omega⟩
    have f4 : burn_Sum.f b0 b1 b2 b3 b4 b5 b6 a7 b8 L 0 n = _ := if_pos ⟨ok', by omega, by omega, by omega⟩
    rw [f1, f2, f3, f4]
    simp only [Option.bind_some, if_true]
    rw [if_pos w1.1, if_pos w1.2, if_pos w2.1]
    simpa using w2.2
set_option maxHeartbeats 1000000 in
theorem wider_pure (a0 a1 a2 a3 a4 a5 a6 a7 a8 : Int) (l1 l2 : List Int) (sec lev : Int) (hl2 : l2.length ≤ 140737488351232) (hv2 : ∀ x ∈ l2, 0 ≤ x ∧ x < 4294967296) (hs0 : 0 ≤ sec) (hs1 : sec ≤ 255) :
    cottonpadlaw04_BurnWider.f 200 a0 a1 a2 a3 a4 a5 a6 a7 a8 l1 l2 sec lev = some true := by
  obtain ⟨r, hr, hok⟩ := ready_is a0 a1 a2 a3 a4 a5 a6 a7 a8 l1
  unfold cottonpadlaw04_BurnWider.f cottonpadlaw04_alive.f
  simp only [Option.bind_some]
  rw [hr]
  simp only [Option.bind_some]
  cases r with
  | false => simp [cottonpadlaw04_BurnWider.j0]
  | true =>
  have ok := hok rfl
  simp only [if_true]
  by_cases hl : lev < 1
  · rw [if_pos hl]; simp [cottonpadlaw04_BurnWider.j0]
  rw [if_neg hl]
  have ok2 := ok
  obtain ⟨o1, o2, o3, o4, o5, o6, o7⟩ := ok2
  obtain ⟨g0, e0, c0, _⟩ := choose_is l2 hl2 hv2 0 (by omega) (by omega)
  obtain ⟨g1, e1, c1, _⟩ := choose_is l2 hl2 hv2 1 (by omega) (by omega)
  obtain ⟨g2, e2, c2, _⟩ := choose_is l2 hl2 hv2 2 (by omega) (by omega)
  obtain ⟨g3, e3, c3, _⟩ := choose_is l2 hl2 hv2 3 (by omega) (by omega)
  obtain ⟨g4, e4, c4, _⟩ := choose_is l2 hl2 hv2 4 (by omega) (by omega)
  obtain ⟨g5, e5, c5, _⟩ := choose_is l2 hl2 hv2 5 (by omega) (by omega)
  obtain ⟨g6, e6, c6, _⟩ := choose_is l2 hl2 hv2 6 (by omega) (by omega)
  obtain ⟨g7, e7, c7, _⟩ := choose_is l2 hl2 hv2 7 (by omega) (by omega)
  obtain ⟨u0, n0, b0, d0, k0, k0'⟩ := down_is (a := a0) c0 (by omega) (by omega)
  obtain ⟨u1, n1, b1, d1, k1, k1'⟩ := up_is (a := a1) (M := 1000000) c1 (by omega) (by omega) (by omega)
  obtain ⟨u2, n2, b2, d2, k2, k2'⟩ := down_is (a := a2) c2 (by omega) (by omega)
  obtain ⟨u3, n3, b3, d3, k3, k3'⟩ := up_is (a := a3) (M := 10000) c3 (by omega) (by omega) (by omega)
  obtain ⟨u4, n4, b4, d4, k4, k4'⟩ := down_is (a := a4) c4 (by omega) (by omega)
  obtain ⟨u5, n5, b5, d5, k5, k5'⟩ := up_is (a := a5) (M := 30000) c5 (by omega) (by omega) (by omega)
  obtain ⟨u6, n6, b6, d6, k6, k6'⟩ := down_is (a := a6) c6 (by omega) (by omega)
  obtain ⟨u8, n8, b8, d8, k8, k8'⟩ := up_is (a := a8) (M := 1000) c7 (by omega) (by omega) (by omega)
  have ok' : HoodOk b0 b1 b2 b3 b4 b5 b6 a7 b8 l1 := ⟨by omega, by omega, by omega, by omega, by omega, o6, o7⟩
  have f1 : burn_First.f a0 a1 a2 a3 a4 a5 a6 a7 a8 l1 lev = _ := if_pos ⟨ok, by omega⟩
  have f2 : burn_First.f b0 b1 b2 b3 b4 b5 b6 a7 b8 l1 lev = _ := if_pos ⟨ok', by omega⟩
  obtain ⟨r, hr1⟩ : ∃ r, firstAll a0 a1 a2 a3 a4 a5 a6 a7 a8 l1 lev = r := ⟨_, rfl⟩
  obtain ⟨r', hr2⟩ : ∃ r, firstAll b0 b1 b2 b3 b4 b5 b6 a7 b8 l1 lev = r := ⟨_, rfl⟩
  have hw := first_wider (fun k g => heatLo_wider (l := l1) (k := k) (g := g) (show b0 ≤ a0 by omega) k2 (show b2 ≤ a2 by omega) k4 (show b4 ≤ a4 by omega) (show a8 ≤ b8 by omega))
    (fun k g => heatHi_wider (l := l1) (k := k) (g := g) (show a1 ≤ b1 by omega) (show 0 ≤ a3 by omega) (show a3 ≤ b3 by omega) (show 0 ≤ a5 by omega) (show a5 ≤ b5 by omega) (show a8 ≤ b8 by omega))
    (fun k g => heat_le (l := l1) (k := k) (g := g) o1.2.1 o2.1 o2.2.1 o3.1 o3.2.1 o5.1) (show b6 ≤ a6 by omega) (show 0 < (a7 - a6 + 1).toNat by omega) (m' := (a7 - b6 + 1).toNat) (by omega) hr1 hr2
  rw [hr1] at f1
  rw [hr2] at f2
  obtain ⟨n, hn⟩ : ∃ n, mx 0 (wrap64 ((l1.length : Int) - a7)) = n := ⟨_, rfl⟩
  have hn2 : n = max 0 (l1.length - a7) := by rw [← hn, wrap64_in (by omega) (by omega)]; unfold mx; omega
  have fin := fun k => wider_end (sec := sec) k ok ok' hn2 hs0 hs1 k0' k1 k2' k3 k4' k5 k6' k8
  have fin2 := fin 198
  show cottonpadlaw04_BurnWider.j0 (199 + 1) l1 l2 sec lev true (!true) a0 a1 a2 a3 a4 a5 a6 a7 a8 = some true
  simp only [cottonpadlaw04_BurnWider.j0, Bool.not_true, Bool.false_eq_true, if_false, e0, e1, e2, e3, e4, e5, e6, e7, Option.bind_some, u0, u1, u2, u3, u4, u5, u6, u8, cottonpadlaw04_span.f, cottonpadref04_Seconds.f, hn, f1, f2, d0, d1, d2, d3, d4, d5, d6, d8, if_true]
  rw [if_neg n0, if_neg n1, if_neg n2, if_neg n3, if_neg n4, if_neg n5, if_neg n6, if_neg n8]
  by_cases c1 : r'.2.2 = 1
  · rw [if_pos c1]
    by_cases c2 : r.2.2 = 0
    · rw [if_pos c2]; exact fin2
    · have h2 := hw.2 c2
      rw [if_neg c2, if_neg (show ¬ r'.1 > r.1 by omega), decide_eq_false (show ¬ r'.2.1 < r.2.1 by omega)]; exact fin2
  · rw [if_neg c1, if_pos (hw.1.resolve_left c1)]
    by_cases c2 : r.2.2 = 0
    · rw [if_pos c2]; exact fin2
    · have h2 := hw.2 c2
      rw [if_neg c2, if_neg (show ¬ r'.1 > r.1 by omega), decide_eq_false (show ¬ r'.2.1 < r.2.1 by omega)]; exact fin2
end Go.Proofs.YtdnkjdekikjihaaDoor.G

namespace Go.Proofs.YtdnkjdekikjihaaDoor.BW
open Go.ChangeShapes Go.WideShapes Go.ChangeAt Go.RowKit Go.Shelf Go.Proofs.YtdnkjdekikjihaaDoorW Go.Proofs.YtdnkjdekikjihaaDoorW.PrintWords
theorem own : ownKnob Tryd.prog.godebug = none := by kernel_rfl
theorem laidOut : laidOutB Tryd.prog = true := by kernel_rfl
theorem gEnds : Tryd.prog.globalNamed "cottonpad/burn.ends" = some 0 := by kernel_rfl
theorem tEnds : (Tryd.prog.globals[0]?).map (·.type) = some 115 := by kernel_rfl
theorem cells114 : Tryd.prog.cellsOf 114 = 2 := by kernel_rfl
theorem cells111 : Tryd.prog.cellsOf 111 = 1 := by kernel_rfl
theorem cells112 : Tryd.prog.cellsOf 112 = 1 := by kernel_rfl
theorem cells115 : Tryd.prog.cellsOf 115 = 4 := by kernel_rfl
theorem cells25 : Tryd.prog.cellsOf 25 = 9 := by kernel_rfl
theorem cells23 : Tryd.prog.cellsOf 23 = 2 := by kernel_rfl
theorem cells3 : Tryd.prog.cellsOf 3 = 1 := by kernel_rfl

/-- The door's own heap meets the condition. -/
theorem door_met (os : Os) (args : Array Value) : laidMetH Tryd.prog Rows.burnWiderRow.laid ((World.doorLaid Tryd.prog 600 os).forCall (fun _ _ => 0) ⟨#[], args, []⟩).memory :=
  laidMetH_of_parts3 (fuel := 8) (laidMet_of_run' 8 (by kernel_rfl) (by kernel_rfl)) (by kernel_rfl) (by kernel_rfl)

set_option maxRecDepth 100000 in
theorem of_laid {W : World} (h : laidMetH Tryd.prog Rows.burnWiderRow.laid W) : G.Ends W := by
  obtain ⟨g, t, cs, fuel, p, hg, ht, hv, hd⟩ := h.funcs (List.mem_singleton.2 rfl)
  obtain rfl := Option.some.inj (gEnds.symm.trans hg)
  obtain rfl := Option.some.inj (tEnds.symm.trans ht)
  have hd' : DataW.trod (funcToken Tryd.prog) Tryd.prog W 0 (fun _ => true) true fuel 115 cs.toList = some (.agg [.agg [.held [99, 111, 116, 116, 111, 110, 112, 97, 100, 47, 98, 117, 114, 110, 46, 101, 110, 100, 115, 36, 49], .held [99, 111, 116, 116, 111, 110, 112, 97, 100, 47, 98, 117, 114, 110, 46, 101, 110, 100, 115, 36, 50]], .agg [.held [99, 111, 116, 116, 111, 110, 112, 97, 100, 47, 98, 117, 114, 110, 46, 101, 110, 100, 115, 36, 51], .held [99, 111, 116, 116, 111, 110, 112, 97, 100, 47, 98, 117, 114, 110, 46, 101, 110, 100, 115, 36, 52]]], p) := hd
  obtain ⟨xs, m, rfl, hx, hlen, hxl, hel⟩ := DataW.trod_array Tryd.underlying115 hd'
  rw [cells114] at hel
  rw [cells115] at hlen
  obtain ⟨l⟩ := cs
  have hc := fun i => World.var?_cell (i := i) hg hv
  match l, hlen with
  | [c0, c1, c2, c3], _ =>
  match xs, hxl with
  | [y0, y1], _ =>
  simp only [Prod.mk.injEq, List.map_cons, List.map_nil, DataW.agg.injEq, List.cons.injEq, and_true] at hx
  obtain ⟨⟨e0, e1⟩, _⟩ := hx
  have h0 := hel 0 (by omega)
  have h1 := hel 1 (by omega)
  have h0' : DataW.trod (funcToken Tryd.prog) Tryd.prog W 0 (fun _ => true) true m 114 [c0, c1] = some y0 := h0
  have h1' : DataW.trod (funcToken Tryd.prog) Tryd.prog W 0 (fun _ => true) true m 114 [c2, c3] = some y1 := h1
  obtain ⟨z0, n0, _, hz0, _, hzl0, hf0⟩ := DataW.trod_struct Tryd.underlying114 h0'
  obtain ⟨z1, n1, _, hz1, _, hzl1, hf1⟩ := DataW.trod_struct Tryd.underlying114 h1'
  match z0, hzl0, z1, hzl1 with
  | [u0, u1], _, [u2, u3], _ =>
  obtain ⟨y01, y02⟩ := y0
  obtain ⟨y11, y12⟩ := y1
  obtain ⟨u01, u02⟩ := u0
  obtain ⟨u11, u12⟩ := u1
  obtain ⟨u21, u22⟩ := u2
  obtain ⟨u31, u32⟩ := u3
  simp only [Prod.mk.injEq, List.map_cons, List.map_nil] at hz0 hz1 e0 e1
  rw [hz0.1] at e0
  rw [hz1.1] at e1
  simp only [DataW.agg.injEq, List.cons.injEq, and_true] at e0 e1
  obtain ⟨rfl, rfl⟩ := e0
  obtain ⟨rfl, rfl⟩ := e1
  have k0 := hf0 0 { name := "of", type := 111, offset := 0, embedded := false, tag := "", pkgPath := "cottonpad/burn", byteOffset := 0 } rfl
  have k1 := hf0 1 { name := "off", type := 112, offset := 1, embedded := false, tag := "", pkgPath := "cottonpad/burn", byteOffset := 8 } rfl
  have k2 := hf1 0 { name := "of", type := 111, offset := 0, embedded := false, tag := "", pkgPath := "cottonpad/burn", byteOffset := 0 } rfl
  have k3 := hf1 1 { name := "off", type := 112, offset := 1, embedded := false, tag := "", pkgPath := "cottonpad/burn", byteOffset := 8 } rfl
  simp only [cells111, cells112] at k0 k1 k2 k3
  obtain rfl := func_of_trod (f0 := 159) Tryd.underlying111 (by kernel_rfl) k0
  obtain rfl := func_of_trod (f0 := 160) Tryd.underlying112 (by kernel_rfl) k1
  obtain rfl := func_of_trod (f0 := 161) Tryd.underlying111 (by kernel_rfl) k2
  obtain rfl := func_of_trod (f0 := 162) Tryd.underlying112 (by kernel_rfl) k3
  exact ⟨hc 0, hc 1, hc 2, hc 3⟩

set_option maxRecDepth 100000 in
theorem open_hood {H : Type} {enc : TypeId × Value → H} {w : World} {base : Nat} {spare : Nat → Bool} {held : Bool} {r : Reach} {b0 : Nat} {v : Value} {d : DataW H} {p : List MemPlace}
    (hv : Value.okWide Tryd.prog w r b0 25 v) (h : DataW.Trod enc Tryd.prog w base spare held 25 v d p) :
    ∃ a0 a1 a2 a3 a4 a5 a6 a7 a8 : Int, v = .agg #[.int .i64 a0, .int .i64 a1, .int .i64 a2, .int .i64 a3, .int .i64 a4, .int .i64 a5, .int .i64 a6, .int .i64 a7, .int .i64 a8] := by
  obtain ⟨cs, rfl, hsz⟩ := okWide_struct Tryd.underlying25 hv
  rw [cells25] at hsz
  obtain ⟨fuel, hf⟩ := h
  obtain ⟨l⟩ := cs
  match l, hsz with
  | [c0, c1, c2, c3, c4, c5, c6, c7, c8], _ =>
  obtain ⟨xs, n, _, _, _, hlen, hg⟩ := DataW.trod_struct Tryd.underlying25 hf
  match xs, hlen with
  | [y0, y1, y2, y3, y4], _ =>
  have sp : ∀ (u v : Value) (m : Nat) (y : DataW H × List MemPlace), DataW.trod enc Tryd.prog w base spare held m 23 [u, v] = some y → ∃ a b : Int, u = .int .i64 a ∧ v = .int .i64 b := fun u v m y hy => by
    obtain ⟨zs, k, _, _, _, hl2, hg2⟩ := DataW.trod_struct Tryd.underlying23 hy
    match zs, hl2 with
    | [z0, z1], _ =>
    have q0 := hg2 0 { name := "Lo", type := 3, offset := 0, embedded := false, tag := "", pkgPath := "", byteOffset := 0 } rfl
    have q1 := hg2 1 { name := "Hi", type := 3, offset := 1, embedded := false, tag := "", pkgPath := "", byteOffset := 8 } rfl
    simp only [cells3] at q0 q1
    obtain ⟨a, ha, _⟩ := DataW.trod_int Tryd.underlying3 q0
    obtain ⟨b, hb, _⟩ := DataW.trod_int Tryd.underlying3 q1
    exact ⟨a, b, by simpa using ha, by simpa using hb⟩
  have q0 := hg 0 { name := "Base", type := 23, offset := 0, embedded := false, tag := "", pkgPath := "", byteOffset := 0 } rfl
  have q1 := hg 1 { name := "Flow", type := 23, offset := 2, embedded := false, tag := "", pkgPath := "", byteOffset := 16 } rfl
  have q2 := hg 2 { name := "Joule", type := 23, offset := 4, embedded := false, tag := "", pkgPath := "", byteOffset := 32 } rfl
  have q3 := hg 3 { name := "Lag", type := 23, offset := 6, embedded := false, tag := "", pkgPath := "", byteOffset := 48 } rfl
  have q4 := hg 4 { name := "Drift", type := 3, offset := 8, embedded := false, tag := "", pkgPath := "", byteOffset := 64 } rfl
  simp only [cells23, cells3] at q0 q1 q2 q3 q4
  obtain ⟨a0, a1, rfl, rfl⟩ := sp _ _ _ _ q0
  obtain ⟨a2, a3, rfl, rfl⟩ := sp _ _ _ _ q1
  obtain ⟨a4, a5, rfl, rfl⟩ := sp _ _ _ _ q2
  obtain ⟨a6, a7, rfl, rfl⟩ := sp _ _ _ _ q3
  obtain ⟨a8, ha, _⟩ := DataW.trod_int Tryd.underlying3 q4
  have : c8 = .int .i64 a8 := by simpa [Value.cells] using ha
  subst this
  exact ⟨a0, a1, a2, a3, a4, a5, a6, a7, a8, rfl⟩
end Go.Proofs.YtdnkjdekikjihaaDoor.BW

namespace Go.Proofs.YtdnkjdekikjihaaDoor.BW
open Go.ChangeShapes Go.WideShapes Go.ChangeAt Go.RowKit Go.Shelf Go.Proofs.YtdnkjdekikjihaaDoorW Go.Proofs.YtdnkjdekikjihaaDoorW.PrintWords

def IsRow (k : IntKind) (w : World) (a : Option Addr) (len cap : Nat) (zs : List Int) : Prop :=
  (a = none ∧ len = 0 ∧ cap = 0 ∧ zs = []) ∨
  ∃ x, a = some x ∧ len ≤ cap ∧ cap ≤ maxLen ∧ zs.length = cap ∧ (∀ i, i < zs.length → w.cell? (x.add i) = some (.int k (zs.getD i 0))) ∧ ∀ n ∈ zs, (Lit.int k n).wf = true

/-- The whole law, as a call. -/
theorem walk (a0 a1 a2 a3 a4 a5 a6 a7 a8 : Int) (A1 : Option Addr) (len1 cap1 : Nat) (z1 : List Int) (A2 : Option Addr) (len2 cap2 : Nat) (z2 : List Int) (sec lev : Int) (w : World)
    (w1 : IsRow .i64 w A1 len1 cap1 z1) (w2 : IsRow .u32 w A2 len2 cap2 z2) (y2 : len2 * 4 ≤ 140737488351232) (hs : (Lit.int .u8 sec).wf = true) (hE : G.Ends w) :
    Calls Tryd.prog 3 #[.agg #[.int .i64 a0, .int .i64 a1, .int .i64 a2, .int .i64 a3, .int .i64 a4, .int .i64 a5, .int .i64 a6, .int .i64 a7, .int .i64 a8], .slice A1 len1 cap1, .slice A2 len2 cap2, .int .u8 sec, .int .i64 lev] w fun e w' => e = .returned (.bool true) ∧ Below w.heap.size w w' := by
  obtain ⟨l1, rfl, hr1, hm1, hw1, hc1⟩ := ReadsInt.ofRowC w1
  obtain ⟨l2, rfl, hr2, hm2, hw2, hc2⟩ := ReadsInt.ofRowC w2
  have hsec : 0 ≤ sec ∧ sec ≤ 255 := by
    have := hs
    simp [Lit.wf, IntKind.min, IntKind.max, IntKind.signed, IntKind.bits] at this
    omega
  have hv2 : ∀ x ∈ l2, 0 ≤ x ∧ x < 4294967296 := fun x hx => by
    have := hw2 x hx
    simp [Lit.wf, IntKind.min, IntKind.max, IntKind.signed, IntKind.bits] at this
    omega
  exact PE.cottonpadlaw04_BurnWider.calls 200 a0 a1 a2 a3 a4 a5 a6 a7 a8 A1 cap1 l1 A2 cap2 l2 sec lev true w (Kd.C_of_reads (d := (0 : Int)) (h1 := fun _ => rfl) hr1) hc1 (Kd.C_of_reads (d := (0 : Int)) (h1 := fun _ => rfl) hr2) hc2 hE rfl (G.wider_pure a0 a1 a2 a3 a4 a5 a6 a7 a8 l1 l2 sec lev (by omega) hv2 hsec.1 hsec.2)

set_option maxRecDepth 100000 in
theorem lifted (os : Os) (started : os.Started) (H : Type) (enc : TypeId × Value → H) :
    ReturnsInHanded {} Tryd.checked os 3 .any (fun w args => (Rows.burnWiderSpec.pre enc Tryd.prog Tryd.f3 [] false w args ∧ laidMetH Tryd.prog Rows.burnWiderRow.laid w) ∧ sizedMet enc Tryd.prog Tryd.f3 (OpenSpec.ofChange Rows.burnWiderSpec) false w args)
      (Rows.burnWiderSpec.post enc Tryd.prog Tryd.f3 false true false false) := by
  refine returnsInHanded_of_change_and (C := Tryd.checked) (X := fun w _ => laidMetH Tryd.prog Rows.burnWiderRow.laid w) (fun _ _ _ hh h => h.of_heap hh) own started (by kernel_rfl) Tryd.func3
    (ChangeSpec.witness_shaped (enc := enc) (C := Tryd.checked) (os := os) (X := fun w _ => laidMetH Tryd.prog Rows.burnWiderRow.laid w) false (World.doorLaid Tryd.prog 600 os) #[.agg #[.int .i64 0, .int .i64 0, .int .i64 0, .int .i64 0, .int .i64 0, .int .i64 0, .int .i64 0, .int .i64 0, .int .i64 0], .slice none 0 0, .slice none 0 0, .int .u8 0, .int .i64 0] 8 rfl (World.shaped_of_RefB (by kernel_rfl) (by kernel_rfl)) (by kernel_rfl) (by kernel_rfl) (by kernel_rfl) (door_met os _)) ?_
  intro W base args ds gs before hval0 hW _ hsz0 hL _
  have hsz : (DataW.weightsEach Tryd.prog (Tryd.f3.params.toList ++ Rows.burnWiderSpec.plain.varTypes Tryd.prog) (ds ++ gs)).all (· ≤ reachBytes) = true := hsz0
  have hval : ∀ (j : Nat) t v, Tryd.f3.params[j]? = some t → args[j]? = some v → Value.okWide Tryd.prog W .any base t v := hval0
  have hW' := hW
  obtain ⟨p, q, hA0, hV, rfl, hfz, hnd⟩ := hW
  have hA : DataW.TrodAll enc Tryd.prog W 0 (fun _ => true) true Tryd.f3.params.toList args.toList ds p := hA0
  rw [Tryd.params3] at hA hval hsz
  obtain ⟨v0, vs0, d0, ds0, p0, q0, hargs, rfl, rfl, h0, r0⟩ := trodAll_cons hA
  obtain ⟨v1, vs1, d1, ds1, p1, q1, rfl, rfl, rfl, h1, r1⟩ := trodAll_cons r0
  obtain ⟨v2, vs2, d2, ds2, p2, q2, rfl, rfl, rfl, h2, r2⟩ := trodAll_cons r1
  obtain ⟨v3, vs3, d3, ds3, p3, q3, rfl, rfl, rfl, h3, r3⟩ := trodAll_cons r2
  obtain ⟨v4, vs4, d4, ds4, p4, q4, rfl, rfl, rfl, h4, r4⟩ := trodAll_cons r3
  obtain ⟨rfl, rfl, rfl⟩ := trodAll_nil r4
  obtain rfl : args = #[v0, v1, v2, v3, v4] := by cases args; simp_all
  obtain ⟨rfl, rfl⟩ := trodVars_none hV
  obtain ⟨a0, a1, a2, a3, a4, a5, a6, a7, a8, rfl⟩ := open_hood (hval 0 25 v0 rfl rfl) h0
  obtain ⟨A1, len1, cap1, rfl⟩ := okWide_slice Tryd.underlying26 (hval 1 26 v1 rfl rfl)
  obtain ⟨A2, len2, cap2, rfl⟩ := okWide_slice Tryd.underlying27 (hval 2 27 v2 rfl rfl)
  have k0 := h0
  have k1 := h1
  have k2 := h2
  have lt0 : ∀ x ∈ p0, x.block < W.heap.size := by obtain ⟨m, hm⟩ := k0; exact DataW.trod_lt m _ _ _ hm
  have lt1 : ∀ x ∈ p1, x.block < W.heap.size := by obtain ⟨m, hm⟩ := k1; exact DataW.trod_lt m _ _ _ hm
  have lt2 : ∀ x ∈ p2, x.block < W.heap.size := by obtain ⟨m, hm⟩ := k2; exact DataW.trod_lt m _ _ _ hm
  obtain ⟨z1, w1⟩ : ∃ zs, IsRow .i64 W A1 len1 cap1 zs := by
    obtain ⟨fuel, hf⟩ := h1
    rcases open_ints Tryd.underlying26 Tryd.underlying3 (by kernel_rfl) hf with ⟨hcs, _⟩ | ⟨x, l, c, zs, hcs, _, hl, hm, hz, _, hcell, hwz⟩
    · simp [Value.cells] at hcs
      obtain ⟨rfl, rfl, rfl⟩ := hcs
      exact ⟨[], .inl ⟨rfl, rfl, rfl, rfl⟩⟩
    · simp [Value.cells] at hcs
      obtain ⟨rfl, rfl, rfl⟩ := hcs
      exact ⟨zs, .inr ⟨_, rfl, hl, hm, by simpa using hz, hcell, hwz⟩⟩
  obtain ⟨z2, w2⟩ : ∃ zs, IsRow .u32 W A2 len2 cap2 zs := by
    obtain ⟨fuel, hf⟩ := h2
    rcases open_ints Tryd.underlying27 Tryd.underlying62 (by kernel_rfl) hf with ⟨hcs, _⟩ | ⟨x, l, c, zs, hcs, _, hl, hm, hz, _, hcell, hwz⟩
    · simp [Value.cells] at hcs
      obtain ⟨rfl, rfl, rfl⟩ := hcs
      exact ⟨[], .inl ⟨rfl, rfl, rfl, rfl⟩⟩
    · simp [Value.cells] at hcs
      obtain ⟨rfl, rfl, rfl⟩ := hcs
      exact ⟨zs, .inr ⟨_, rfl, hl, hm, by simpa using hz, hcell, hwz⟩⟩
  have y2 : len2 * 4 ≤ 140737488351232 := PrintWords.sized_ints hsz (j := 2) (t := 27) rfl rfl Tryd.underlying27 Tryd.underlying62 (by kernel_rfl) (by kernel_rfl) h2
  obtain ⟨sec, rfl, rfl, rfl, w3⟩ := open_int Tryd.underlying5 (hval 3 5 v3 rfl rfl) h3
  obtain ⟨lev, rfl, rfl, rfl, w4⟩ := open_int Tryd.underlying3 (hval 4 3 v4 rfl rfl) h4
  clear hA0 hval0 hsz0 hsz
  refine (walk a0 a1 a2 a3 a4 a5 a6 a7 a8 A1 len1 cap1 z1 A2 len2 cap2 z2 sec lev W w1 w2 y2 w3 (of_laid hL)).mono fun e W' ⟨he, bel⟩ => ?_
  subst he
  exact ⟨_, rfl, _, _, _, [], _, [], hW', trodAll_mk1 (shut_bool Tryd.underlying4 _), (trodAll_cons_mk (Below.trod laidOut (by kernel_rfl) (of_decide_eq_true (by kernel_rfl)) k0 bel lt0) (trodAll_cons_mk (Below.trod laidOut (by kernel_rfl) (of_decide_eq_true (by kernel_rfl)) k1 bel lt1) (trodAll_cons_mk (Below.trod laidOut (by kernel_rfl) (of_decide_eq_true (by kernel_rfl)) k2 bel lt2) (trodAll_cons_mk (shut_int Tryd.underlying5 w3) (trodAll_cons_mk (shut_int Tryd.underlying3 w4) trodAll_mk0))))), rfl, bel.frame _, fun h => by cases h⟩

theorem over : Rows.BurnWiderSaid :=
  OpenClaim.holds_of_wide 3 Tryd.f3 rfl rfl rfl rfl rfl rfl rfl ⟨rfl, rfl, rfl, rfl, rfl⟩ rfl rfl rfl rfl rfl (by kernel_rfl) Tryd.func3 (by kernel_rfl)
    (of_decide_eq_true (by kernel_rfl)) (by unfold Func.isWrapper; first | (rw [if_pos (by decide +kernel)]; kernel_rfl) | (rw [if_neg (by decide +kernel)]; exact ⟨rfl, rfl⟩))
    (fun os started H enc _ => lifted os started H enc)

theorem card : Rows.BurnWiderCardSaid :=
  Claim7.holds_tied_plain_at .later [] [.funcs] true (true, "0ca5a9d51aa89878dfaa674986366ffc4c3efcc90aea3a4ae78c97c4fa3aeeed") true
    over (fun _ h => by cases h) (by kernel_rfl) (fun _ h => by cases h) burnWider_row_tie rfl ⟨rfl, rfl⟩ (by kernel_rfl) rfl
    (fun f fn hf hfn => by
      obtain rfl : f = 3 := Option.some.inj ((show Tryd.prog.funcNamed "cottonpad/cottonpadlaw04.BurnWider" = some 3 by kernel_rfl).symm.trans hf) |>.symm
      obtain rfl : fn = Tryd.f3 := (Option.some.inj (Tryd.func3.symm.trans hfn)).symm
      exact ⟨by kernel_rfl, fun j t ht => by
        rw [Tryd.params3] at ht
        have hm : t ∈ [25, 26, 27, 5, 3] := by simpa using Array.mem_of_getElem? ht
        have hall : ([25, 26, 27, 5, 3].all fun u => !Tryd.prog.wantsStandIn u) = true := by kernel_rfl
        exact (show Tryd.prog.wantsStandIn t = false by simpa using List.all_eq_true.1 hall t hm)⟩)
    (by kernel_rfl)
end Go.Proofs.YtdnkjdekikjihaaDoor.BW

namespace Go.Proofs.YtdnkjdekikjihaaDoor
/-- The tied card of BurnWider. -/
theorem burnWider_holds : Rows.BurnWiderCardSaid := BW.card
end Go.Proofs.YtdnkjdekikjihaaDoor
