import Derived.Test.YtdnkjdekikjihaaDoorGg
import Derived.Test.YtdnkjdekikjihaaDoorGf
namespace Go.Proofs.YtdnkjdekikjihaaDoor.G
open Go.RowKit Go.Shelf Go.Proofs.YtdnkjdekikjihaaDoorW.PrintWords Go.Proofs.YtdnkjdekikjihaaDoor.PA

theorem Ends.below {w w' : World} (h : Ends w) (hb : Below w.heap.size w w') : Ends w' := by
 obtain ⟨x0, x1, x2, x3⟩ := h
 have z := World.block_lt_of_cell? w _ x0
 exact ⟨(hb.cell z).trans x0, (hb.cell (p := ⟨0, 1, none⟩) z).trans x1, (hb.cell (p := ⟨0, 2, none⟩) z).trans x2, (hb.cell (p := ⟨0, 3, none⟩) z).trans x3⟩

/-- The heat of n seconds from a on, at the lag that is x over the least. -/
def oneSum (a0 a1 a2 a3 a4 a5 a6 a8 : Int) (l : List Int) (a : Int) (n : Nat) (x : Int) : Int × Int :=
 (sums (fun k => heatLo a0 a2 a4 a8 l k (a6 + x)) a n, sums (fun k => heatHi a1 a3 a5 a8 l k (a6 + x)) a n)
/-- .. at all lags. -/
def allSum (a0 a1 a2 a3 a4 a5 a6 a7 a8 : Int) (l : List Int) (a : Int) (n : Nat) : Int × Int :=
 wide ((List.finRange (a7 - a6 + 1).toNat).map fun x => oneSum a0 a1 a2 a3 a4 a5 a6 a8 l a n (x.1 : Int))
def burn_Sum.f (a0 a1 a2 a3 a4 a5 a6 a7 a8 : Int) (l : List Int) (fr tt : Int) : Option (Int × Int × Int) :=
 if HoodOk a0 a1 a2 a3 a4 a5 a6 a7 a8 l ∧ 0 ≤ fr ∧ fr ≤ tt ∧ tt ≤ max 0 (l.length - a7) then some ((allSum a0 a1 a2 a3 a4 a5 a6 a7 a8 l fr (tt - fr).toNat).1, (allSum a0 a1 a2 a3 a4 a5 a6 a7 a8 l fr (tt - fr).toNat).2, 0) else none
def burn_Heat.f (a0 a1 a2 a3 a4 a5 a6 a7 a8 : Int) (l : List Int) (s : Int) : Option (Int × Int × Int) :=
 if HoodOk a0 a1 a2 a3 a4 a5 a6 a7 a8 l ∧ 0 ≤ s ∧ s < max 0 (l.length - a7) then some ((allSum a0 a1 a2 a3 a4 a5 a6 a7 a8 l s 1).1, (allSum a0 a1 a2 a3 a4 a5 a6 a7 a8 l s 1).2, 0) else none

/-- The contract of (duct).sum, at a valid hood. -/
theorem sum_ok (a0 a1 a2 a3 a4 a5 a6 a7 a8 : Int) (A1 : Option Addr) (c1 : Nat) (l : List Int) (sec a b : Int) (w : World) (hr : Kd.C (Kd.int .i64) w A1 l.length l) (hE : Ends w) (ok : HoodOk a0 a1 a2 a3 a4 a5 a6 a7 a8 l) (h0 : 0 ≤ a) (h1 : a ≤ b) (h2 : b ≤ max 0 (l.length - a7))
  (r : Int × Int) (hr' : allSum a0 a1 a2 a3 a4 a5 a6 a7 a8 l a (b - a).toNat = r) :
  Calls Tryd.prog 34 #[.agg #[.int .i64 a0, .int .i64 a1, .int .i64 a2, .int .i64 a3, .int .i64 a4, .int .i64 a5, .int .i64 a6, .int .i64 a7, .int .i64 a8, .slice A1 l.length c1, .int .i64 sec], .int .i64 a, .int .i64 b] w fun e w' =>
   e = .returned (.agg #[.int .i64 r.1, .int .i64 r.2]) ∧ Below w.heap.size w w' := by
 obtain ⟨⟨k0, k1, k2⟩, ⟨k3, k4, k5⟩, ⟨k6, k7, k8⟩, ⟨k9, k10, k11⟩, ⟨k12, k13⟩, k14, k15⟩ := ok
 have e : b = a + ((b - a).toNat : Int) := by omega
 have H := sum_in a0 a1 a2 a3 a4 a5 a6 a7 a8 A1 c1 l sec a (b - a).toNat w hE hr (a7 - a6 + 1).toNat k9 (by omega) (by omega) k11 h0 (by omega) (by omega) k14 (fun i hi0 hi1 => ?_) k0 k1 k2 k12 k13 k3 k4 k5 k6 k7 k8 _ rfl
 ·
  rw [← e] at H
  have H2 := callsIn_wide.1 H
  refine H2.mono ?_
  rintro e w' ⟨rfl, hb⟩
  subst hr'
  exact ⟨rfl, hb⟩
 ·
  have : rd l i ∈ l := by
   unfold rd
   have : i.toNat < l.length := by omega
   simp [this]
  exact k15 _ this

theorem c_two (w : World) (a b : Int) (t : Nat) : Kd.C (Kd.int .i64) (w.alloc (.cells #[.int .i64 a, .int .i64 b] t)) (some ⟨w.heap.size, 0, none⟩) [a, b].length [a, b] := by
 refine Kd.C_of_reads (d := 0) (h1 := fun _ => rfl) ⟨rfl, by simp, fun _ => ⟨_, rfl, fun j hj => ?_⟩⟩
 rcases j with _ | _ | j
 ·
  simp [Addr.add, go_sem]
 ·
  simp [Addr.add, go_sem]
 ·
  simp at hj; omega
theorem c_one (w : World) (a : Int) (t : Nat) : Kd.C (Kd.int .i64) (w.alloc (.cells #[.int .i64 a] t)) (some ⟨w.heap.size, 0, none⟩) [a].length [a] := by
 refine Kd.C_of_reads (d := 0) (h1 := fun _ => rfl) ⟨rfl, by simp, fun _ => ⟨_, rfl, fun j hj => ?_⟩⟩
 rcases j with _ | j
 ·
  simp [Addr.add, go_sem]
 ·
  simp at hj
set_option maxHeartbeats 4000000 in
set_option maxRecDepth 100000 in
theorem burn_Sum.calls (a0 a1 a2 a3 a4 a5 a6 a7 a8 : Int) (A1 : Option Addr) (c1 : Nat) (l1 : List Int) (a b : Int) (r1 r2 r3 : Int) (w : World) (hr1 : Kd.C (Kd.int .i64) w A1 l1.length l1) (hc1 : l1.length ≤ c1) (hE : Ends w)
  (h : burn_Sum.f a0 a1 a2 a3 a4 a5 a6 a7 a8 l1 a b = some (r1, r2, r3)) :
  Calls Tryd.prog 12 #[.agg #[.int .i64 a0, .int .i64 a1, .int .i64 a2, .int .i64 a3, .int .i64 a4, .int .i64 a5, .int .i64 a6, .int .i64 a7, .int .i64 a8], .slice A1 l1.length c1, .int .i64 a, .int .i64 b] w fun e w' =>
   e = .returned (.tuple #[.agg #[.int .i64 r1, .int .i64 r2], .int .i64 r3]) ∧ Below w.heap.size w w' := by
 unfold burn_Sum.f at h
 split at h
 case isFalse => cases h
 case isTrue hc =>
 obtain ⟨ok, h0, h1, h2⟩ := hc
 have HR := Aside0.mk hr1
 have HE := Aside0.mk hE
 have HO := Aside0.mk ok
 obtain ⟨r, hr⟩ : ∃ r, allSum a0 a1 a2 a3 a4 a5 a6 a7 a8 l1 a (b - a).toNat = r := ⟨_, rfl⟩
 rw [hr] at h
 have HX := Aside0.mk hr
 simp only [Option.some.injEq, Prod.mk.injEq] at h
 obtain ⟨rfl, rfl, rfl⟩ := h
 obtain ⟨n, hn⟩ : ∃ n : Int, n = max 0 (l1.length - a7) := ⟨_, rfl⟩
 have HN := Aside0.mk hn
 rw [← hn] at h2
 have hin : burn_in.f 0 n [a, b] = some true := in_ok (by intro x hx; simp at hx; rcases hx with rfl | rfl <;> omega)
 have HIN := Aside0.mk hin
 have hgt : ¬ (b < a) := by omega
 clear hr1 hE ok hr hin hn
 go_enter Tryd.func12, Tryd.ntmps12
 go_wp2_with fail
 obtain ⟨W, hW⟩ : ∃ W, W = (w.alloc (.cells #[.int .i64 a0, .int .i64 a1, .int .i64 a2, .int .i64 a3, .int .i64 a4, .int .i64 a5, .int .i64 a6, .int .i64 a7, .int .i64 a8] 25)).alloc (.cells #[.int .i64 0, .int .i64 0] 23) := ⟨_, rfl⟩
 rw [← hW]
 have hBw : Below w.heap.size w W := by rw [hW]; go_grown
 have cz0 : W.cell? ⟨w.heap.size + 1, 0, none⟩ = some (.int .i64 0) := by rw [hW]; simp [go_sem]
 have cz1 : W.cell? ⟨w.heap.size + 1, 1, none⟩ = some (.int .i64 0) := by rw [hW]; simp [go_sem]
 have fz0 : W.frozen? ⟨w.heap.size + 1, 0, none⟩ = false := by rw [hW]; simp [go_sem]
 have fz1 : W.frozen? ⟨w.heap.size + 1, 1, none⟩ = false := by rw [hW]; simp [go_sem]
 have n1 : w.heap.size + 1 < W.heap.size := by rw [hW]; simp
 clear hW
 refine (open_ok a0 a1 a2 a3 a4 a5 a6 a7 a8 A1 c1 l1 _ (Kd.C_below HR.out hBw) ‹_› HO.out n HN.out).mono ?_
 rintro e w1 ⟨rfl, hb⟩
 replace hBw := hBw.trans (hb.mono hBw.size)
 replace cz0 := (hb.cell (p := ⟨w.heap.size + 1, 0, none⟩) n1).trans cz0
 replace cz1 := (hb.cell (p := ⟨w.heap.size + 1, 1, none⟩) n1).trans cz1
 replace fz0 := (hb.frozen (p := ⟨w.heap.size + 1, 0, none⟩) n1).trans fz0
 replace fz1 := (hb.frozen (p := ⟨w.heap.size + 1, 1, none⟩) n1).trans fz1
 replace n1 := Nat.lt_of_lt_of_le n1 hb.size
 clear hb
 clear W
 go_wp2_with fail
 obtain ⟨V, hV⟩ : ∃ V, V = w1.alloc (.cells #[.int .i64 a0, .int .i64 a1, .int .i64 a2, .int .i64 a3, .int .i64 a4, .int .i64 a5, .int .i64 a6, .int .i64 a7, .int .i64 a8, .slice A1 l1.length c1, .int .i64 n] 64) := ⟨_, rfl⟩
 rw [← hV]
 have hVs : V.heap.size = w1.heap.size + 1 := by rw [hV]; simp
 have hBV : Below w1.heap.size w1 V := by rw [hV]; go_grown
 have hd : ∀ j, V.cell? ⟨w1.heap.size, j, none⟩ = (#[.int .i64 a0, .int .i64 a1, .int .i64 a2, .int .i64 a3, .int .i64 a4, .int .i64 a5, .int .i64 a6, .int .i64 a7, .int .i64 a8, .slice A1 l1.length c1, .int .i64 n] : Array Value)[j]? := fun j => by rw [hV]; exact World.cell?_alloc_new w1 _ 64 j
 clear hV
 rw [← hVs]
 refine (burn_in.calls 0 n _ _ [a, b] true _ (c_two V a b 3) (by simp) HIN.out).mono ?_
 rintro e w2 ⟨rfl, hb2⟩
 have hb3 : Below V.heap.size V w2 := by
  have : Below V.heap.size V (V.alloc (.cells #[.int .i64 a, .int .i64 b] 3)) := by go_grown
  exact this.trans (hb2.mono (by simp))
 clear hb2
 have n2 : w1.heap.size < V.heap.size := by omega
 have d0 : w2.cell? ⟨w1.heap.size, 0, none⟩ = some (.int .i64 a0) := (hb3.cell (p := ⟨w1.heap.size, 0, none⟩) n2).trans (hd 0)
 have d1 : w2.cell? ⟨w1.heap.size, 1, none⟩ = some (.int .i64 a1) := (hb3.cell (p := ⟨w1.heap.size, 1, none⟩) n2).trans (hd 1)
 have d2 : w2.cell? ⟨w1.heap.size, 2, none⟩ = some (.int .i64 a2) := (hb3.cell (p := ⟨w1.heap.size, 2, none⟩) n2).trans (hd 2)
 have d3 : w2.cell? ⟨w1.heap.size, 3, none⟩ = some (.int .i64 a3) := (hb3.cell (p := ⟨w1.heap.size, 3, none⟩) n2).trans (hd 3)
 have d4 : w2.cell? ⟨w1.heap.size, 4, none⟩ = some (.int .i64 a4) := (hb3.cell (p := ⟨w1.heap.size, 4, none⟩) n2).trans (hd 4)
 have d5 : w2.cell? ⟨w1.heap.size, 5, none⟩ = some (.int .i64 a5) := (hb3.cell (p := ⟨w1.heap.size, 5, none⟩) n2).trans (hd 5)
 have d6 : w2.cell? ⟨w1.heap.size, 6, none⟩ = some (.int .i64 a6) := (hb3.cell (p := ⟨w1.heap.size, 6, none⟩) n2).trans (hd 6)
 have d7 : w2.cell? ⟨w1.heap.size, 7, none⟩ = some (.int .i64 a7) := (hb3.cell (p := ⟨w1.heap.size, 7, none⟩) n2).trans (hd 7)
 have d8 : w2.cell? ⟨w1.heap.size, 8, none⟩ = some (.int .i64 a8) := (hb3.cell (p := ⟨w1.heap.size, 8, none⟩) n2).trans (hd 8)
 have d9 : w2.cell? ⟨w1.heap.size, 9, none⟩ = some (.slice A1 l1.length c1) := (hb3.cell (p := ⟨w1.heap.size, 9, none⟩) n2).trans (hd 9)
 have d10 : w2.cell? ⟨w1.heap.size, 10, none⟩ = some (.int .i64 n) := (hb3.cell (p := ⟨w1.heap.size, 10, none⟩) n2).trans (hd 10)
 replace cz0 := (hb3.cell (p := ⟨w.heap.size + 1, 0, none⟩) (by simp; omega)).trans ((hBV.cell (p := ⟨w.heap.size + 1, 0, none⟩) n1).trans cz0)
 replace cz1 := (hb3.cell (p := ⟨w.heap.size + 1, 1, none⟩) (by simp; omega)).trans ((hBV.cell (p := ⟨w.heap.size + 1, 1, none⟩) n1).trans cz1)
 replace fz0 := (hb3.frozen (p := ⟨w.heap.size + 1, 0, none⟩) (by simp; omega)).trans ((hBV.frozen (p := ⟨w.heap.size + 1, 0, none⟩) n1).trans fz0)
 replace fz1 := (hb3.frozen (p := ⟨w.heap.size + 1, 1, none⟩) (by simp; omega)).trans ((hBV.frozen (p := ⟨w.heap.size + 1, 1, none⟩) n1).trans fz1)
 replace hBw := (hBw.trans (hBV.mono hBw.size)).trans (hb3.mono (Nat.le_trans hBw.size hBV.size))
 replace n1 : w.heap.size + 1 < w2.heap.size := by have := hb3.size; omega
 have n3 : w1.heap.size < w2.heap.size := by have := hb3.size; omega
 clear hd hb3 hBV n2 hVs
 skip
 go_wp2_with fail
 refine (sum_ok a0 a1 a2 a3 a4 a5 a6 a7 a8 A1 c1 l1 n a b _ (Kd.C_below HR.out hBw) (HE.out.below hBw) HO.out h0 h1 (HN.out ▸ h2) r HX.out).mono ?_
 rintro e w3 ⟨rfl, hb⟩
 replace cz0 := (hb.cell (p := ⟨w.heap.size + 1, 0, none⟩) n1).trans cz0
 replace cz1 := (hb.cell (p := ⟨w.heap.size + 1, 1, none⟩) n1).trans cz1
 replace fz0 := (hb.frozen (p := ⟨w.heap.size + 1, 0, none⟩) n1).trans fz0
 replace fz1 := (hb.frozen (p := ⟨w.heap.size + 1, 1, none⟩) n1).trans fz1
 replace hBw := hBw.trans (hb.mono hBw.size)
 clear hb d0 d1 d2 d3 d4 d5 d6 d7 d8 d9 d10
 go_wp2
 obtain ⟨t0, t1, t2, t3, t4⟩ := two_set (.int .i64 r.1) (.int .i64 r.2) cz0 cz1 fz0 fz1
 refine bodyPost_ret (v := .tuple #[.agg #[.int .i64 r.1, .int .i64 r.2], .int .i64 0]) (by simp [results, Tryd.results12, go_sem, t0, t1]) rfl ⟨rfl, (hBw.setCell (by simp) _).setCell (by simp) _⟩
set_option maxHeartbeats 4000000 in
set_option maxRecDepth 100000 in
theorem burn_Heat.calls (a0 a1 a2 a3 a4 a5 a6 a7 a8 : Int) (A1 : Option Addr) (c1 : Nat) (l1 : List Int) (s : Int) (r1 r2 r3 : Int) (w : World) (hr1 : Kd.C (Kd.int .i64) w A1 l1.length l1) (hc1 : l1.length ≤ c1) (hE : Ends w)
  (h : burn_Heat.f a0 a1 a2 a3 a4 a5 a6 a7 a8 l1 s = some (r1, r2, r3)) :
  Calls Tryd.prog 11 #[.agg #[.int .i64 a0, .int .i64 a1, .int .i64 a2, .int .i64 a3, .int .i64 a4, .int .i64 a5, .int .i64 a6, .int .i64 a7, .int .i64 a8], .slice A1 l1.length c1, .int .i64 s] w fun e w' =>
   e = .returned (.tuple #[.agg #[.int .i64 r1, .int .i64 r2], .int .i64 r3]) ∧ Below w.heap.size w w' := by
 unfold burn_Heat.f at h
 split at h
 case isFalse => cases h
 case isTrue hc =>
 obtain ⟨ok, h0, h2⟩ := hc
 have HR := Aside0.mk hr1
 have HE := Aside0.mk hE
 have HO := Aside0.mk ok
 obtain ⟨r, hr⟩ : ∃ r, allSum a0 a1 a2 a3 a4 a5 a6 a7 a8 l1 s 1 = r := ⟨_, rfl⟩
 rw [hr] at h
 have HX := Aside0.mk hr
 simp only [Option.some.injEq, Prod.mk.injEq] at h
 obtain ⟨rfl, rfl, rfl⟩ := h
 obtain ⟨n, hn⟩ : ∃ n : Int, n = max 0 (l1.length - a7) := ⟨_, rfl⟩
 have HN := Aside0.mk hn
 rw [← hn] at h2
 have hs1 : IntKind.i64.wrap (n - 1) = n - 1 := IntWalk.i64_in _ (by have := ok.2.2.2.2.2.1; have := ok.2.2.2.1; omega)
 have hs2 : IntKind.i64.wrap (s + 1) = s + 1 := IntWalk.i64_in _ (by have := ok.2.2.2.2.2.1; have := ok.2.2.2.1; omega)
 have hin : burn_in.f 0 (n - 1) [s] = some true := in_ok (by intro x hx; simp at hx; omega)
 have HIN := Aside0.mk hin
 clear hr1 hE ok hr hin hn
 go_enter Tryd.func11, Tryd.ntmps11
 go_wp2_with fail
 obtain ⟨W, hW⟩ : ∃ W, W = (w.alloc (.cells #[.int .i64 a0, .int .i64 a1, .int .i64 a2, .int .i64 a3, .int .i64 a4, .int .i64 a5, .int .i64 a6, .int .i64 a7, .int .i64 a8] 25)).alloc (.cells #[.int .i64 0, .int .i64 0] 23) := ⟨_, rfl⟩
 rw [← hW]
 have hBw : Below w.heap.size w W := by rw [hW]; go_grown
 have cz0 : W.cell? ⟨w.heap.size + 1, 0, none⟩ = some (.int .i64 0) := by rw [hW]; simp [go_sem]
 have cz1 : W.cell? ⟨w.heap.size + 1, 1, none⟩ = some (.int .i64 0) := by rw [hW]; simp [go_sem]
 have fz0 : W.frozen? ⟨w.heap.size + 1, 0, none⟩ = false := by rw [hW]; simp [go_sem]
 have fz1 : W.frozen? ⟨w.heap.size + 1, 1, none⟩ = false := by rw [hW]; simp [go_sem]
 have n1 : w.heap.size + 1 < W.heap.size := by rw [hW]; simp
 clear hW
 refine (open_ok a0 a1 a2 a3 a4 a5 a6 a7 a8 A1 c1 l1 _ (Kd.C_below HR.out hBw) ‹_› HO.out n HN.out).mono ?_
 rintro e w1 ⟨rfl, hb⟩
 replace hBw := hBw.trans (hb.mono hBw.size)
 replace cz0 := (hb.cell (p := ⟨w.heap.size + 1, 0, none⟩) n1).trans cz0
 replace cz1 := (hb.cell (p := ⟨w.heap.size + 1, 1, none⟩) n1).trans cz1
 replace fz0 := (hb.frozen (p := ⟨w.heap.size + 1, 0, none⟩) n1).trans fz0
 replace fz1 := (hb.frozen (p := ⟨w.heap.size + 1, 1, none⟩) n1).trans fz1
 replace n1 := Nat.lt_of_lt_of_le n1 hb.size
 clear hb
 clear W
 go_wp2_with fail
 obtain ⟨V, hV⟩ : ∃ V, V = w1.alloc (.cells #[.int .i64 a0, .int .i64 a1, .int .i64 a2, .int .i64 a3, .int .i64 a4, .int .i64 a5, .int .i64 a6, .int .i64 a7, .int .i64 a8, .slice A1 l1.length c1, .int .i64 n] 64) := ⟨_, rfl⟩
 rw [← hV]
 have hVs : V.heap.size = w1.heap.size + 1 := by rw [hV]; simp
 have hBV : Below w1.heap.size w1 V := by rw [hV]; go_grown
 have hd : ∀ j, V.cell? ⟨w1.heap.size, j, none⟩ = (#[.int .i64 a0, .int .i64 a1, .int .i64 a2, .int .i64 a3, .int .i64 a4, .int .i64 a5, .int .i64 a6, .int .i64 a7, .int .i64 a8, .slice A1 l1.length c1, .int .i64 n] : Array Value)[j]? := fun j => by rw [hV]; exact World.cell?_alloc_new w1 _ 64 j
 clear hV
 rw [← hVs]
 refine (burn_in.calls 0 (n - 1) _ _ [s] true _ (c_one V s 3) (by simp) HIN.out).mono ?_
 rintro e w2 ⟨rfl, hb2⟩
 have hb3 : Below V.heap.size V w2 := by
  have : Below V.heap.size V (V.alloc (.cells #[.int .i64 s] 3)) := by go_grown
  exact this.trans (hb2.mono (by simp))
 clear hb2
 have n2 : w1.heap.size < V.heap.size := by omega
 have d0 : w2.cell? ⟨w1.heap.size, 0, none⟩ = some (.int .i64 a0) := (hb3.cell (p := ⟨w1.heap.size, 0, none⟩) n2).trans (hd 0)
 have d1 : w2.cell? ⟨w1.heap.size, 1, none⟩ = some (.int .i64 a1) := (hb3.cell (p := ⟨w1.heap.size, 1, none⟩) n2).trans (hd 1)
 have d2 : w2.cell? ⟨w1.heap.size, 2, none⟩ = some (.int .i64 a2) := (hb3.cell (p := ⟨w1.heap.size, 2, none⟩) n2).trans (hd 2)
 have d3 : w2.cell? ⟨w1.heap.size, 3, none⟩ = some (.int .i64 a3) := (hb3.cell (p := ⟨w1.heap.size, 3, none⟩) n2).trans (hd 3)
 have d4 : w2.cell? ⟨w1.heap.size, 4, none⟩ = some (.int .i64 a4) := (hb3.cell (p := ⟨w1.heap.size, 4, none⟩) n2).trans (hd 4)
 have d5 : w2.cell? ⟨w1.heap.size, 5, none⟩ = some (.int .i64 a5) := (hb3.cell (p := ⟨w1.heap.size, 5, none⟩) n2).trans (hd 5)
 have d6 : w2.cell? ⟨w1.heap.size, 6, none⟩ = some (.int .i64 a6) := (hb3.cell (p := ⟨w1.heap.size, 6, none⟩) n2).trans (hd 6)
 have d7 : w2.cell? ⟨w1.heap.size, 7, none⟩ = some (.int .i64 a7) := (hb3.cell (p := ⟨w1.heap.size, 7, none⟩) n2).trans (hd 7)
 have d8 : w2.cell? ⟨w1.heap.size, 8, none⟩ = some (.int .i64 a8) := (hb3.cell (p := ⟨w1.heap.size, 8, none⟩) n2).trans (hd 8)
 have d9 : w2.cell? ⟨w1.heap.size, 9, none⟩ = some (.slice A1 l1.length c1) := (hb3.cell (p := ⟨w1.heap.size, 9, none⟩) n2).trans (hd 9)
 have d10 : w2.cell? ⟨w1.heap.size, 10, none⟩ = some (.int .i64 n) := (hb3.cell (p := ⟨w1.heap.size, 10, none⟩) n2).trans (hd 10)
 replace cz0 := (hb3.cell (p := ⟨w.heap.size + 1, 0, none⟩) (by simp; omega)).trans ((hBV.cell (p := ⟨w.heap.size + 1, 0, none⟩) n1).trans cz0)
 replace cz1 := (hb3.cell (p := ⟨w.heap.size + 1, 1, none⟩) (by simp; omega)).trans ((hBV.cell (p := ⟨w.heap.size + 1, 1, none⟩) n1).trans cz1)
 replace fz0 := (hb3.frozen (p := ⟨w.heap.size + 1, 0, none⟩) (by simp; omega)).trans ((hBV.frozen (p := ⟨w.heap.size + 1, 0, none⟩) n1).trans fz0)
 replace fz1 := (hb3.frozen (p := ⟨w.heap.size + 1, 1, none⟩) (by simp; omega)).trans ((hBV.frozen (p := ⟨w.heap.size + 1, 1, none⟩) n1).trans fz1)
 replace hBw := (hBw.trans (hBV.mono hBw.size)).trans (hb3.mono (Nat.le_trans hBw.size hBV.size))
 replace n1 : w.heap.size + 1 < w2.heap.size := by have := hb3.size; omega
 have n3 : w1.heap.size < w2.heap.size := by have := hb3.size; omega
 clear hd hb3 hBV n2 hVs
 skip
 go_wp2_with fail
 refine (sum_ok a0 a1 a2 a3 a4 a5 a6 a7 a8 A1 c1 l1 n s (s + 1) _ (Kd.C_below HR.out hBw) (HE.out.below hBw) HO.out h0 (by omega) (by have := HN.out; omega) r (by rw [show s + 1 - s = 1 by omega]; exact HX.out)).mono ?_
 rintro e w3 ⟨rfl, hb⟩
 replace cz0 := (hb.cell (p := ⟨w.heap.size + 1, 0, none⟩) n1).trans cz0
 replace cz1 := (hb.cell (p := ⟨w.heap.size + 1, 1, none⟩) n1).trans cz1
 replace fz0 := (hb.frozen (p := ⟨w.heap.size + 1, 0, none⟩) n1).trans fz0
 replace fz1 := (hb.frozen (p := ⟨w.heap.size + 1, 1, none⟩) n1).trans fz1
 replace hBw := hBw.trans (hb.mono hBw.size)
 clear hb d0 d1 d2 d3 d4 d5 d6 d7 d8 d9 d10
 go_wp2
 obtain ⟨t0, t1, t2, t3, t4⟩ := two_set (.int .i64 r.1) (.int .i64 r.2) cz0 cz1 fz0 fz1
 refine bodyPost_ret (v := .tuple #[.agg #[.int .i64 r.1, .int .i64 r.2], .int .i64 0]) (by simp [results, Tryd.results11, go_sem, t0, t1]) rfl ⟨rfl, (hBw.setCell (by simp) _).setCell (by simp) _⟩
end Go.Proofs.YtdnkjdekikjihaaDoor.G
