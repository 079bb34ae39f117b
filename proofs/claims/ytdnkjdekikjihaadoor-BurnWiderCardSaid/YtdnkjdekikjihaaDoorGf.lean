import Derived.Test.YtdnkjdekikjihaaDoorGd
import Derived.Test.YtdnkjdekikjihaaDoorGe
import Derived.Maps.AppendAt
namespace Go.Proofs.YtdnkjdekikjihaaDoor.G
open Go.RowKit Go.Shelf Go.Proofs.YtdnkjdekikjihaaDoorW.PrintWords
attribute [local go_sem] Oper.semAt_some

theorem lags (n : Nat) (cs : Array Value) (w : World) :
  CallsIn Fence.wide n Tryd.prog 29 #[.agg cs] w fun e w' => e = .returned (.func (.func 55) #[] #[.pointer (some ⟨w.heap.size, 0, none⟩)]) ∧ w' = w.alloc (.cells cs 64) := by
 refine callsIn_of_wp Tryd.func29 rfl trivial ?_ rfl
 simp only [Tryd.ntmps29, List.size_toArray, List.length_cons, List.length_nil, Nat.reduceAdd, Nat.reduceSub, Array.replicate_succ, Array.replicate_zero, List.push_toArray, List.append_toArray, List.nil_append, List.cons_append]
 gi_wp2
 go_ret
 exact ⟨rfl, rfl⟩

theorem lags_stops (n : Nat) (Bd m : Nat) (g0 g1 : Int) (h0g : 0 ≤ g0) (h2g : g1 ≤ 30) (hm : g1 = g0 + (m : Int) - 1) (w : World) (hb : Bd < w.heap.size)
  (c6 : w.cell? ⟨Bd, 6, none⟩ = some (.int .i64 g0)) (c7 : w.cell? ⟨Bd, 7, none⟩ = some (.int .i64 g1)) :
  SeqStopsK Fence.wide n Tryd.prog 55 #[.pointer (some ⟨Bd, 0, none⟩)] (fun x : Fin m => #[Value.int .i64 (g0 + (x.1 : Int))]) (KeepsB Bd) (fun ys => ys = List.finRange m) (fun pre => pre <+: List.finRange m) m w := fun l J Jx W hW _ _ hY h0 => by
 have c6' := (hW.cell (p := ⟨Bd, 6, none⟩) hb).trans c6
 have c7' := (hW.cell (p := ⟨Bd, 7, none⟩) hb).trans c7
 exact lags1_in n l Bd m g0 g1 h0g h2g hm J Jx hY W c6' c7' h0

def heatLo (b0 f0 j0 dr : Int) (l : List Int) (k lag : Int) : Int := j0 * f0 * max 0 (b0 - rd l (k + lag) - dr)
def heatHi (b1 f1 j1 dr : Int) (l : List Int) (k lag : Int) : Int := j1 * f1 * max 0 (b1 - rd l (k + lag) + dr)
theorem heatLo_bd {b0 f0 j0 dr : Int} {l : List Int} {k lag : Int} (hb0 : 0 ≤ b0) (hb2 : b0 ≤ 1000000) (e0 : 0 ≤ rd l (k + lag)) (r0 : 0 ≤ dr) (hf0 : 0 ≤ f0) (hf2 : f0 ≤ 10000) (hj0 : 0 ≤ j0) (hj2 : j0 ≤ 30000) :
  0 ≤ heatLo b0 f0 j0 dr l k lag ∧ heatLo b0 f0 j0 dr l k lag ≤ 300300000000000 := by
 have := prod_le hj0 hj2 hf0 hf2 (c := max 0 (b0 - rd l (k + lag) - dr)) (C := 1001000) (by omega) (by omega)
 unfold heatLo
 omega
theorem heatHi_bd {b1 f1 j1 dr : Int} {l : List Int} {k lag : Int} (hb0 : 0 ≤ b1) (hb2 : b1 ≤ 1000000) (e0 : 0 ≤ rd l (k + lag)) (r0 : 0 ≤ dr) (r1 : dr ≤ 1000) (hf0 : 0 ≤ f1) (hf2 : f1 ≤ 10000) (hj0 : 0 ≤ j1) (hj2 : j1 ≤ 30000) :
  0 ≤ heatHi b1 f1 j1 dr l k lag ∧ heatHi b1 f1 j1 dr l k lag ≤ 300300000000000 := by
 have := prod_le hj0 hj2 hf0 hf2 (c := max 0 (b1 - rd l (k + lag) + dr)) (C := 1001000) (by omega) (by omega)
 unfold heatHi
 omega
/-- f from + .. + f (from + n - 1) -/
def sums (f : Int → Int) (a : Int) : Nat → Int
 | 0 => 0
 | n + 1 => sums f a n + f (a + n)

theorem sums_bd {f : Int → Int} {a B : Int} {n : Nat} (h : ∀ i : Nat, i < n → 0 ≤ f (a + i) ∧ f (a + i) ≤ B) : 0 ≤ sums f a n ∧ sums f a n ≤ n * B := by
 induction n with
 | zero => simp [sums]
 | succ n ih =>
  have h1 := ih (fun i hi => h i (by omega))
  have h2 := h n (by omega)
  simp only [sums]
  rw [show ((n + 1 : Nat) : Int) * B = n * B + B by rw [Int.natCast_add, Int.add_mul]; simp]
  omega
theorem en55 : Enters Tryd.prog 55 := enters_of Tryd.func55 (by kernel_rfl) rfl
theorem info23 : (Tryd.prog.info? 23).map (fun i => (i.zero, i.size, i.bytes)) = some (some (.agg #[.int .i64 0, .int .i64 0]), 2, 16) := by kernel_rfl

/-- Below n all blocks but B are as they were. -/
def SameBut (n B : Nat) (W W' : World) : Prop := ∀ k, k < n → k ≠ B → W'.heap[k]? = W.heap[k]?
theorem SameBut.trans {n B : Nat} {X Y Z : World} (h : SameBut n B X Y) (k : SameBut n B Y Z) : SameBut n B X Z := fun j h1 h2 => (k j h1 h2).trans (h j h1 h2)
theorem SameBut.cell {n B : Nat} {W W' : World} (h : SameBut n B W W') {p : Addr} (h1 : p.block < n) (h2 : p.block ≠ B) : W'.cell? p = W.cell? p := World.cell?_of_block (h p.block h1 h2)

/-- 'out = append(out, ..)', out in a box that lies below the rows. -/
theorem appended2 {W w1 : World} {n₀ B : Nat} {t e : TypeId} {size : Nat} {v v' : Value} {k m : Nat} {xs ys : List Value} {tmp : Obj}
  (hv : Boxed W B t v) (hB : B < n₀) (hrow : W.ownsRow n₀ e size v k xs) (hn₀ : n₀ ≤ W.heap.size)
  (hown' : w1.ownsRow n₀ e size v' m ys) (hgrow : (W.alloc tmp).grownBy w1 v.ownBlock) :
  Boxed w1 B t v ∧ Boxed (w1.setCell ⟨B, 0, none⟩ v') B t v' ∧ (w1.setCell ⟨B, 0, none⟩ v').ownsRow n₀ e size v' m ys ∧ KeepsFrom n₀ W (w1.setCell ⟨B, 0, none⟩ v') ∧ SameBut n₀ B W (w1.setCell ⟨B, 0, none⟩ v') ∧ Below 0 W (w1.setCell ⟨B, 0, none⟩ v') := by
 have hrl : ∀ k, v.ownBlock = some k → n₀ ≤ k := fun k h => (hrow.lt k h).1
 have hne : some B ≠ v.ownBlock := fun h => by have := hrl B h.symm; omega
 have hv1 : Boxed w1 B t v := (hv.alloc tmp).kept hgrow hne
 have hs : W.heap.size ≤ w1.heap.size := by have := hgrow.size; simp at this; omega
 have hold : ∀ k, k < W.heap.size → some k ≠ v.ownBlock → w1.heap[k]? = W.heap[k]? := fun k h1 h2 => (hgrow.block k (by simp; omega) h2).trans (Below.heap_alloc _ _ _ h1)
 refine ⟨hv1, hv1.set v', hown'.kept (grownBy_setCell' w1 B v') (.inr (fun h => ?_)), ⟨by simpa [World.setCell] using hs, fun k o hk ho hc => ?_⟩, fun k hk hkB => ?_, ?_⟩
 ·
  have := (hown'.lt B h).1; omega
 ·
  have hlt : k < W.heap.size := (Array.getElem?_eq_some_iff.1 ho).1
  rw [Below.heap_setCell _ _ _ _ (show k ≠ (⟨B, 0, none⟩ : Addr).block by simp; omega), hold k hlt (fun h => ?_)]
  ·
   exact ho
  ·
   rcases hrow.2 with ⟨rfl, _⟩ | ⟨g, cap, cur, rfl, _, hgb, _⟩
   ·
    simp [Value.ownBlock] at h
   ·
    obtain rfl : k = g := by simpa [Value.ownBlock] using h
    rw [hgb] at ho; cases ho; simp [Obj.isCells] at hc
 ·
  rw [Below.heap_setCell _ _ _ _ (by simpa using hkB)]
  exact hold k (by omega) (fun h => by have := hrl k h.symm; omega)
 ·
  have b1 : Below 0 W (W.alloc tmp) := (Below.refl 0 W).alloc (Nat.zero_le _) _
  have b2 : Below 0 W w1 := ⟨hgrow.os.trans b1.os, hgrow.tape.trans b1.tape, hgrow.output.trans b1.output, hs, fun k hk => by omega⟩
  exact b2.setCell (Nat.zero_le _) _

theorem two_set {W : World} {B : Nat} {v0 v1 : Value} (u0 u1 : Value) (h0 : W.cell? ⟨B, 0, none⟩ = some v0) (h1 : W.cell? ⟨B, 1, none⟩ = some v1) (f0 : W.frozen? ⟨B, 0, none⟩ = false) (f1 : W.frozen? ⟨B, 1, none⟩ = false) :
  ((W.setCell ⟨B, 0, none⟩ u0).setCell ⟨B, 1, none⟩ u1).cell? ⟨B, 0, none⟩ = some u0 ∧ ((W.setCell ⟨B, 0, none⟩ u0).setCell ⟨B, 1, none⟩ u1).cell? ⟨B, 1, none⟩ = some u1 ∧
   ((W.setCell ⟨B, 0, none⟩ u0).setCell ⟨B, 1, none⟩ u1).frozen? ⟨B, 0, none⟩ = false ∧ ((W.setCell ⟨B, 0, none⟩ u0).setCell ⟨B, 1, none⟩ u1).frozen? ⟨B, 1, none⟩ = false ∧ ((W.setCell ⟨B, 0, none⟩ u0).setCell ⟨B, 1, none⟩ u1).heap.size = W.heap.size := by
 refine ⟨(World.cell?_setCell_other _ _ _ _ (by simp)).trans (World.cell?_setCell_same _ _ _ h0), World.cell?_setCell_same _ _ _ ((World.cell?_setCell_other _ _ _ _ (by simp)).trans h1), ?_, ?_, by simp [World.setCell]⟩
 ·
  simp only [World.frozen?_setCell]; exact f0
 ·
  simp only [World.frozen?_setCell]; exact f1
theorem two_alloc {W : World} {B : Nat} {v0 v1 : Value} (o : Obj) (hB : B < W.heap.size) (h : W.cell? ⟨B, 0, none⟩ = some v0 ∧ W.cell? ⟨B, 1, none⟩ = some v1 ∧ W.frozen? ⟨B, 0, none⟩ = false ∧ W.frozen? ⟨B, 1, none⟩ = false) :
  (W.alloc o).cell? ⟨B, 0, none⟩ = some v0 ∧ (W.alloc o).cell? ⟨B, 1, none⟩ = some v1 ∧ (W.alloc o).frozen? ⟨B, 0, none⟩ = false ∧ (W.alloc o).frozen? ⟨B, 1, none⟩ = false ∧ B < (W.alloc o).heap.size :=
 ⟨(World.cell?_alloc_lt _ _ _ hB).trans h.1, (World.cell?_alloc_lt _ _ _ hB).trans h.2.1, (World.frozen?_alloc_old _ _ _ (Nat.ne_of_lt hB)).trans h.2.2.1, (World.frozen?_alloc_old _ _ _ (Nat.ne_of_lt hB)).trans h.2.2.2, by simp; omega⟩

/-- What the loop over lags has collected. -/
def SumI (W0 : World) (B : Nat) {m : Nat} (f : Fin m → Int × Int) (pre : List (Fin m)) (W : World) : Prop :=
 ∃ v, Boxed W B 73 v ∧ W.ownsRow W0.heap.size 23 2 v pre.length (flat (pre.map f)) ∧ (v = .slice none 0 0 ↔ pre = []) ∧ SameBut W0.heap.size B W0 W ∧ Below 0 W0 W
theorem sumI_own {W0 : World} {B : Nat} (hB : B < W0.heap.size) {m : Nat} (f : Fin m → Int × Int) : OwnFrom W0.heap.size (SumI W0 B f) := by
 rintro pre W W' row ⟨v, hv, hr, hn, hs, hb⟩ hg hrow
 refine ⟨v, hv.kept hg (fun e => ?_), hr.kept hg ?_, hn, fun k h1 h2 => (hg.block k (Nat.lt_of_lt_of_le h1 hb.size) (fun e => ?_)).trans (hs k h1 h2), ⟨hg.os.trans hb.os, hg.tape.trans hb.tape, hg.output.trans hb.output, Nat.le_trans hb.size hg.size, fun k hk => by omega⟩⟩
 ·
  have := (hrow B e.symm).1; omega
 ·
  rcases hr.2 with ⟨rfl, _⟩ | ⟨g, cap, cur, rfl, _, hgb, _⟩
  ·
   exact .inl rfl
  ·
   refine .inr fun e => ?_
   obtain ⟨_, o, ho, hc⟩ := hrow g (by rw [← e]; rfl)
   rw [hgb] at ho; cases ho; simp [Obj.isCells] at hc
 ·
  have := (hrow k e.symm).1; omega

set_option maxRecDepth 100000 in
set_option maxHeartbeats 4000000 in
theorem sum_in (b0 b1 f0 f1 j0 j1 g0 g1 dr : Int) (A : Option Addr) (c : Nat) (l : List Int) (sec a : Int) (n : Nat) (w : World) (hE : Ends w) (hr : Kd.C (Kd.int .i64) w A l.length l)
  (m : Nat) (h0g : 0 ≤ g0) (hm0 : 0 < m) (hm : g1 = g0 + (m : Int) - 1) (h2g : g1 ≤ 30) (ha : 0 ≤ a) (hn : n ≤ 120) (hab : 0 < n → a + n + g1 ≤ l.length) (hl : l.length ≤ 120) (hv : ∀ i : Int, 0 ≤ i → i < l.length → 0 ≤ rd l i ∧ rd l i ≤ 1000000)
  (hb0 : 0 ≤ b0) (hb1 : b0 ≤ b1) (hb2 : b1 ≤ 1000000) (r0 : 0 ≤ dr) (r1 : dr ≤ 1000) (hf0 : 0 ≤ f0) (hf1 : f0 ≤ f1) (hf2 : f1 ≤ 10000) (hj0 : 0 ≤ j0) (hj1 : j0 ≤ j1) (hj2 : j1 ≤ 30000)
  (f : Fin m → Int × Int) (hf : f = fun x => (sums (fun k => heatLo b0 f0 j0 dr l k (g0 + (x.1 : Int))) a n, sums (fun k => heatHi b1 f1 j1 dr l k (g0 + (x.1 : Int))) a n)) :
  CallsIn Fence.wide 9 Tryd.prog 34 #[.agg #[.int .i64 b0, .int .i64 b1, .int .i64 f0, .int .i64 f1, .int .i64 j0, .int .i64 j1, .int .i64 g0, .int .i64 g1, .int .i64 dr, .slice A l.length c, .int .i64 sec], .int .i64 a, .int .i64 (a + n)] w fun e w' =>
   e = .returned (.agg #[.int .i64 (wide ((List.finRange m).map f)).1, .int .i64 (wide ((List.finRange m).map f)).2]) ∧ Below w.heap.size w w' := by
 have HR := Aside0.mk hr
 have HV := Aside0.mk hv
 have HF := Aside0.mk hf
 have HE := Aside0.mk hE
 have HM := Aside0.mk hm
 have hg1 : g0 ≤ 30 := by omega
 have hg2 : g0 ≤ g1 := by omega
 clear hr hv hf hE hm
 refine callsIn_of_wp_marks Tryd.func34 rfl trivial ?_ rfl
 simp only [Tryd.ntmps34, List.size_toArray, List.length_cons, List.length_nil, Nat.reduceAdd, Nat.reduceSub, Array.replicate_succ, Array.replicate_zero, List.push_toArray, List.append_toArray, List.nil_append, List.cons_append]
 gi_wp2
 refine ⟨trivial, (lags _ _ _).mono ?_⟩
 rintro e w' ⟨rfl, rfl⟩
 gi_wp2
 obtain ⟨W0, hW0⟩ : ∃ W0, W0 = (((((w.alloc (.cells #[.int .i64 b0, .int .i64 b1, .int .i64 f0, .int .i64 f1, .int .i64 j0, .int .i64 j1, .int .i64 g0, .int .i64 g1, .int .i64 dr, .slice A l.length c, .int .i64 sec] 64)).alloc (.cells #[.int .i64 a] 3)).alloc (.cells #[.int .i64 (a + n)] 3)).alloc (.cells #[.int .i64 0, .int .i64 0] 23)).alloc (.cells #[.slice none 0 0] 73)).alloc (.cells #[.int .i64 b0, .int .i64 b1, .int .i64 f0, .int .i64 f1, .int .i64 j0, .int .i64 j1, .int .i64 g0, .int .i64 g1, .int .i64 dr, .slice A l.length c, .int .i64 sec] 64) := ⟨_, rfl⟩
 rw [← hW0]
 have hS0 : W0.heap.size = w.heap.size + 6 := by rw [hW0]; simp
 have hBw : Below w.heap.size w W0 := by rw [hW0]; go_grown
 have hB1 : Below (w.heap.size + 1) (w.alloc (.cells #[.int .i64 b0, .int .i64 b1, .int .i64 f0, .int .i64 f1, .int .i64 j0, .int .i64 j1, .int .i64 g0, .int .i64 g1, .int .i64 dr, .slice A l.length c, .int .i64 sec] 64)) W0 := by rw [hW0]; go_grown
 have hb4 : Boxed W0 (w.heap.size + 4) 73 (.slice none 0 0) := by
  rw [hW0]
  exact (Below.heap_alloc _ _ _ (by simp)).trans (by have := World.alloc_heap_new ((((w.alloc (.cells #[.int .i64 b0, .int .i64 b1, .int .i64 f0, .int .i64 f1, .int .i64 j0, .int .i64 j1, .int .i64 g0, .int .i64 g1, .int .i64 dr, .slice A l.length c, .int .i64 sec] 64)).alloc (.cells #[.int .i64 a] 3)).alloc (.cells #[.int .i64 (a + n)] 3)).alloc (.cells #[.int .i64 0, .int .i64 0] 23)) (.cells #[.slice none 0 0] 73); simpa using this)
 have c6 : W0.cell? ⟨w.heap.size + 5, 6, none⟩ = some (.int .i64 g0) := by rw [hW0]; simp [go_sem]
 have c7 : W0.cell? ⟨w.heap.size + 5, 7, none⟩ = some (.int .i64 g1) := by rw [hW0]; simp [go_sem]
 have HW := Aside0.mk hW0
 clear hW0
 have HS := Aside0.mk hS0
 refine wpIn_rangeFunc_ownG rfl (by omega) (gf := 55) (lb := #[.pointer (some ⟨w.heap.size + 5, 0, none⟩)]) rfl trivial en55 (lags_stops _ (w.heap.size + 5) m g0 g1 h0g h2g HM.out W0 (by omega) c6 c7) keepsB_t (keepsB_b (by omega)) (Below.refl _ _) (fun _ => rfl)
  (SumI W0 (w.heap.size + 4) f) (fun _ _ _ => False) (sumI_own (by omega) f) (fun _ _ _ _ _ hs _ _ => hs) ⟨_, hb4, World.ownsRow_nil _ _ _ _, by simp, fun _ _ _ => rfl, Below.refl _ _⟩ ?a₁ ?assign ?body ?done ?stop
 case assign =>
  intro l x W K hK
  gi_wp2
  exact hK
 case stop =>
  rintro D c pre W _ _ h _
  exact h.elim
 case body =>
  rintro lp pre x W ⟨v, hv, hr, hn0, hs, hb⟩ hlen
  have hsz : W0.heap.size ≤ W.heap.size := hb.size
  have cc := fun (p : Addr) (h1 : p.block < W0.heap.size) (h2 : p.block ≠ w.heap.size + 4) => hs.cell h1 h2
  have d := HW.out
  have k0 : W.cell? ⟨w.heap.size + 1, 0, none⟩ = some (.int .i64 a) := (cc _ (by simp; omega) (by simp)).trans (by rw [d]; simp [go_sem])
  have k1 : W.cell? ⟨w.heap.size + 1 + 1, 0, none⟩ = some (.int .i64 (a + n)) := (cc _ (by simp; omega) (by simp)).trans (by rw [d]; simp [go_sem])
  clear d cc
  have n0 : w.heap.size < W.heap.size := by omega
  have n1 : w.heap.size + 1 < W.heap.size := by omega
  have n2 : w.heap.size + 1 + 1 < W.heap.size := by omega
  have HH := Aside0.mk (And.intro hs (And.intro hb hr))
  have HN := Aside0.mk hn0
  clear hs hb hr hn0
  gi_wp2
  obtain ⟨lag, hlag⟩ : ∃ lag, g0 + (x.1 : Int) = lag := ⟨_, rfl⟩
  have hl0 : 0 ≤ lag := by omega
  have hl1 : lag ≤ g1 := by have := x.2; have := HM.out; omega
  obtain ⟨lo, hlo⟩ : ∃ lo : Int → Int, lo = fun k => heatLo b0 f0 j0 dr l k lag := ⟨_, rfl⟩
  obtain ⟨hi, hhi⟩ : ∃ hi : Int → Int, hi = fun k => heatHi b1 f1 j1 dr l k lag := ⟨_, rfl⟩
  rw [hlag]
  have HX := Aside0.mk hlag
  have HLO := Aside0.mk hlo
  have HHI := Aside0.mk hhi
  clear hlo hhi hlag
  have hbd : ∀ i : Nat, i < n → (0 ≤ lo (a + i) ∧ lo (a + i) ≤ 300300000000000) ∧ (0 ≤ hi (a + i) ∧ hi (a + i) ≤ 300300000000000) := fun i hi => by
   have hb' := hab (by omega)
   have hvv := HV.out (a + i + lag) (by omega) (by omega)
   rw [HLO.out, HHI.out]
   exact ⟨heatLo_bd (k := a + i) hb0 (by omega) hvv.1 r0 hf0 (by omega) hj0 (by omega), heatHi_bd (k := a + i) (by omega) hb2 hvv.1 r0 r1 (by omega) hf2 (by omega) hj2⟩
  have HBD := Aside0.mk hbd
  clear hbd
  gi_loopw [10, 11, 18] (fun _ _ i wr => ∃ k : Nat, k ≤ n ∧ i = .int .i64 k ∧ Below W.heap.size W wr ∧ wr.cell? ⟨W.heap.size, 0, none⟩ = some (.int .i64 (sums lo a k)) ∧ wr.cell? ⟨W.heap.size, 1, none⟩ = some (.int .i64 (sums hi a k)) ∧ wr.frozen? ⟨W.heap.size, 0, none⟩ = false ∧ wr.frozen? ⟨W.heap.size, 1, none⟩ = false ∧ W.heap.size < wr.heap.size) (fun _ _ i _ => n - (intOf i).toNat)
  case atStart => exact ⟨0, Nat.zero_le _, rfl, by go_grown, by simp [sums], by simp [sums], by simp, by simp, by simp⟩
  case round =>
   obtain ⟨k, hk, rfl, hbr, q0, q1, y0, y1, hsr⟩ := hrel
   by_cases hlt : k < n
   ·
    have ht : (k : Int) < a + n - a := by omega
    have d : ∀ j, wr.cell? ⟨w.heap.size, j, none⟩ = (#[.int .i64 b0, .int .i64 b1, .int .i64 f0, .int .i64 f1, .int .i64 j0, .int .i64 j1, .int .i64 g0, .int .i64 g1, .int .i64 dr, .slice A l.length c, .int .i64 sec] : Array Value)[j]? := fun j => by
     refine (hbr.cell (p := ⟨w.heap.size, j, none⟩) n0).trans ((HH.out.1.cell (p := ⟨w.heap.size, j, none⟩) (by simp; omega) (by simp)).trans ?_)
     exact (hB1.cell (p := ⟨w.heap.size, j, none⟩) (by simp)).trans (World.cell?_alloc_new w _ 64 j)
    have k0r : wr.cell? ⟨w.heap.size + 1, 0, none⟩ = some (.int .i64 a) := (hbr.cell (p := ⟨w.heap.size + 1, 0, none⟩) n1).trans k0
    have hBr : Below w.heap.size w wr := by
     have b1 : Below w.heap.size W0 W := ⟨HH.out.2.1.os, HH.out.2.1.tape, HH.out.2.1.output, HH.out.2.1.size, fun k hk => HH.out.1 k (by omega) (by omega)⟩
     exact (hBw.trans b1).trans (hbr.mono (by omega))
    have hlen2 := hab (by omega)
    obtain ⟨ad, hA, hel⟩ := Kd.at_int (Kd.C_below HR.out hBr) (a + k + lag) (by omega) (by omega)
    have hvv := HV.out (a + k + lag) (by omega) (by omega)
    subst hA
    have hEr : Ends wr := by
     obtain ⟨x0, x1, x2, x3⟩ := HE.out
     have z := World.block_lt_of_cell? w _ x0
     exact ⟨(hBr.cell z).trans x0, (hBr.cell (p := ⟨0, 1, none⟩) z).trans x1, (hBr.cell (p := ⟨0, 2, none⟩) z).trans x2, (hBr.cell (p := ⟨0, 3, none⟩) z).trans x3⟩
    have hheat := heat b0 b1 f0 f1 j0 j1 g0 g1 dr ad c l sec (a + k) lag wr hEr (by omega) hl0 (by omega) (by omega) (by omega) hel hvv.1 hvv.2 hb0 hb1 hb2 r0 r1 hf0 hf1 hf2 hj0 hj1 hj2
    rw [show j0 * f0 * max 0 (b0 - rd l (a + k + lag) - dr) = lo (a + k) by rw [HLO.out]; rfl, show j1 * f1 * max 0 (b1 - rd l (a + k + lag) + dr) = hi (a + k) by rw [HHI.out]; rfl] at hheat
    have HHeat := Aside0.mk hheat
    have bd := HBD.out k hlt
    have s0 := sums_bd (f := lo) (a := a) (n := k) (fun i hi => (HBD.out i (by omega)).1)
    have s1 := sums_bd (f := hi) (a := a) (n := k) (fun i hi => (HBD.out i (by omega)).2)
    obtain ⟨⟨v0, v1⟩, v2, v3⟩ := bd
    have u0 : 0 ≤ sums lo a k ∧ sums lo a k ≤ 36036000000000000 := by omega
    have u1 : 0 ≤ sums hi a k ∧ sums hi a k ≤ 36036000000000000 := by omega
    obtain ⟨u00, u01⟩ := u0
    obtain ⟨u10, u11⟩ := u1
    clear hheat hEr hel hvv s0 s1 hlen2 hBr
    gi_wp2
    refine ⟨trivial, (CallsIn.inRound lp (callsIn_wide.2 HHeat.out)).mono ?_⟩
    rintro e w3 ⟨rfl, hb3⟩
    clear d k0r
    have hp0 := (hb3.cell (p := ⟨W.heap.size, 0, none⟩) hsr).trans q0
    have hp1 := (hb3.cell (p := ⟨W.heap.size, 1, none⟩) hsr).trans q1
    have hz0 := (hb3.frozen (p := ⟨W.heap.size, 0, none⟩) hsr).trans y0
    have hz1 := (hb3.frozen (p := ⟨W.heap.size, 1, none⟩) hsr).trans y1
    have hsr3 : W.heap.size < w3.heap.size := Nat.lt_of_lt_of_le hsr hb3.size
    have hbr3 : Below W.heap.size W w3 := hbr.trans (hb3.mono (Nat.le_of_lt hsr))
    clear hb3 hbr q0 q1 y0 y1 hsr
    gi_wp2
    go_roundw
    case rel =>
     refine ⟨k + 1, by omega, by go_num, by go_grown, ?_⟩
     obtain ⟨t0, t1, t2, t3, t4⟩ := two_set (.int .i64 (sums lo a k + lo (a + k))) (.int .i64 (sums hi a k + hi (a + k))) hp0 hp1 hz0 hz1
     exact two_alloc _ (by rw [t4]; exact hsr3) ⟨t0, t1, t2, t3⟩
    case measure => simp [intOf]; omega
   ·
    obtain rfl : k = n := by omega
    have ht : ¬ ((k : Int) < a + k - a) := by omega
    have hvr : Boxed wr (w.heap.size + 4) 73 v := (hbr.block _ (by omega)).trans hv
    have hvc := hvr.cell
    have hvf := hvr.frozen
    have hrr : wr.ownsRow W0.heap.size 23 2 v pre.length (flat (pre.map f)) := HH.out.2.2.kept (grown_of_below hbr none) (by cases v.ownBlock <;> simp)
    have hmm : m ≤ 31 := by have := HM.out; omega
    have hlen3 : pre.length ≤ 31 := by omega
    have hbt : W0.heap.size ≤ wr.heap.size := by have := hbr.size; omega
    obtain ⟨i0, hi, hz0, hz1, hz2⟩ := info_parts info23
    have HX2 := Aside0.mk hrr
    clear hrr
    have HI := Aside0.mk (And.intro hi (And.intro hz0 (And.intro hz1 hz2)))
    clear hi hz0 hz1 hz2
    gi_wp2_with (gi_at_builtin; refine wpListIn_append_own _ rfl _ _ 73 rfl W0.heap.size 23 i0 (.agg #[.int .i64 0, .int .i64 0]) 2 16 Tryd.underlying73 HI.out.1 HI.out.2.1 HI.out.2.2.1 HI.out.2.2.2 rfl (by decide) _ _ _ rfl (HX2.out.alloc _) ⟨wr.heap.size, 0, none⟩ 1 1 [.int .i64 (sums lo a k), .int .i64 (sums hi a k)] rfl rfl (World.news_of_block (cs := #[.int .i64 (sums lo a k), .int .i64 (sums hi a k)]) (t := 23) (fr := (0, 0)) (heap_alloc_new wr _)) (by simp [Value.oneCell']) (by unfold maxLen; omega) (by omega) (by simp; omega) ?_; intro v' w1 hown' hgrow hnil; obtain ⟨g', cap', rfl⟩ := ownsRow_succ hown'; obtain ⟨p1, p2, p3, p4, p5, p6⟩ := appended2 hvr (show w.heap.size + 4 < W0.heap.size by omega) HX2.out hbt hown' hgrow; have pc := p1.cell; have pf := p1.frozen; have PP := Aside0.mk (And.intro p2 (And.intro p3 (And.intro p4 (And.intro p5 (And.intro p6 (And.intro hown' hnil)))))); clear p1 p2 p3 p4 p5 p6 hown' hgrow hnil)
    obtain ⟨p2, p3, p4, p5, p6, _, _⟩ := PP.out
    have kW : KeepsFrom W0.heap.size W wr := ⟨hbr.size, fun j o _ hj _ => (hbr.block j (Array.getElem?_eq_some_iff.1 hj).1).trans hj⟩
    have sW : SameBut W0.heap.size (w.heap.size + 4) W wr := fun j h1 _ => hbr.block j (by omega)
    have ef : f x = (sums lo a k, sums hi a k) := by rw [HF.out, HLO.out, HHI.out]; simp only [HX.out]
    have efl : flat ((pre ++ [x]).map f) = flat (pre.map f) ++ [.int .i64 (sums lo a k), .int .i64 (sums hi a k)] := by
     rw [List.map_append, flat_append, List.map_cons, List.map_nil, ef]; rfl
    rw [← HS.out]
    refine ⟨kW.trans p4, keepsB_t (hbr.block (w.heap.size + 5) (by omega)) (p5 (w.heap.size + 5) (by omega) (by omega)), _, p2, ?_, by simp, (HH.out.1.trans sW).trans p5, (HH.out.2.1.trans (hbr.mono (Nat.zero_le _))).trans p6⟩
    rw [efl, List.length_append]
    exact p3
 case done =>
  rintro D ys W hD rfl ⟨v, hv, hr, hn0, hs, hb⟩ hK
  have hlen : (List.finRange m).length = m := by simp
  have hlf : ((List.finRange m).map f).length = m := by simp
  rw [hlen] at hr
  have hvne : v ≠ .slice none 0 0 := fun e => by have := hn0.1 e; rw [this] at hlen; simp at hlen; omega
  obtain ⟨m', rfl⟩ : ∃ m', m = m' + 1 := ⟨m - 1, by omega⟩
  obtain ⟨gr, cap, rfl⟩ := ownsRow_succ hr
  have hvc := hv.cell
  have hw := widest gr cap W0.heap.size ((List.finRange (m' + 1)).map f) (by simp) (by have := HM.out; simp; omega) W (by rw [hlf]; exact hr)
  rw [hlf] at hw
  obtain ⟨z, hz⟩ : ∃ z, wide ((List.finRange (m' + 1)).map f) = z := ⟨_, rfl⟩
  rw [hz] at hw
  have HZ := Aside0.mk hz
  have HWI := Aside0.mk hw
  have HK := Aside0.mk hK
  have HB := Aside0.mk (And.intro hs hb)
  clear hw hv hr hn0 hvne hlen hlf hz hs hb hK
  gi_wp2
  refine ⟨trivial, (callsIn_wide.2 HWI.out).mono ?_⟩
  rintro e w2 ⟨rfl, hb2⟩
  have d := HW.out
  have hWs : W0.heap.size ≤ W.heap.size := HB.out.2.size
  have r0 : w2.cell? ⟨w.heap.size + 1 + 1 + 1, 0, none⟩ = some (.int .i64 0) := (hb2.cell (by simp; omega)).trans ((HB.out.1.cell (by simp; omega) (by simp)).trans (by rw [d]; simp [go_sem]))
  have r1 : w2.cell? ⟨w.heap.size + 1 + 1 + 1, 1, none⟩ = some (.int .i64 0) := (hb2.cell (by simp; omega)).trans ((HB.out.1.cell (by simp; omega) (by simp)).trans (by rw [d]; simp [go_sem]))
  have q0 : w2.frozen? ⟨w.heap.size + 1 + 1 + 1, 0, none⟩ = false := (hb2.frozen (by simp; omega)).trans ((World.frozen?_of_block (a := ⟨w.heap.size + 1 + 1 + 1, 0, none⟩) (HB.out.1 _ (by simp; omega) (by simp))).trans (by rw [d]; simp [go_sem]))
  have q1 : w2.frozen? ⟨w.heap.size + 1 + 1 + 1, 1, none⟩ = false := (hb2.frozen (by simp; omega)).trans ((World.frozen?_of_block (a := ⟨w.heap.size + 1 + 1 + 1, 1, none⟩) (HB.out.1 _ (by simp; omega) (by simp))).trans (by rw [d]; simp [go_sem]))
  have hD2 : w2.heap[D]? = some (.deferred (some [])) := (hb2.block D (Array.getElem?_eq_some_iff.1 HK.out).1).trans HK.out
  have HD2 := Aside0.mk hD2
  clear d hD2
  gi_wp2
  obtain ⟨t0, t1, t2, t3, t4⟩ := two_set (.int .i64 z.1) (.int .i64 z.2) r0 r1 q0 q1
  obtain ⟨X, hX⟩ : ∃ X, X = (w2.setCell ⟨w.heap.size + 1 + 1 + 1, 0, none⟩ (.int .i64 z.1)).setCell ⟨w.heap.size + 1 + 1 + 1, 1, none⟩ (.int .i64 z.2) := ⟨_, rfl⟩
  have hDX : X.heap[D]? = some (.deferred (some [])) := by
   rw [hX, Below.heap_setCell _ _ _ _ (by simp; omega), Below.heap_setCell _ _ _ _ (by simp; omega)]; exact HD2.out
  have hbX : Below w.heap.size w X := by
   have b1 : Below w.heap.size W0 W := ⟨HB.out.2.os, HB.out.2.tape, HB.out.2.output, HB.out.2.size, fun k hk => HB.out.1 k (by omega) (by omega)⟩
   have b2 := ((hBw.trans b1).trans (hb2.mono (by omega)))
   rw [hX]
   exact (b2.setCell (by simp; omega) _).setCell (by simp; omega) _
  rw [← hX] at t0 t1 t4 ⊢
  have hDs : D < X.heap.size := (Array.getElem?_eq_some_iff.1 hDX).1
  clear hX
  refine ⟨by simp, .inl ⟨_, _, rfl, run_takeDeferred hDX, ?_⟩⟩
  have c0 : (X.putObj D (.deferred none)).cell? ⟨w.heap.size + 1 + 1 + 1, 0, none⟩ = some (.int .i64 z.1) := (World.cell?_of_block (a := ⟨w.heap.size + 1 + 1 + 1, 0, none⟩) (World.putObj_heap_other (by simp; omega))).trans t0
  have c1 : (X.putObj D (.deferred none)).cell? ⟨w.heap.size + 1 + 1 + 1, 1, none⟩ = some (.int .i64 z.2) := (World.cell?_of_block (a := ⟨w.heap.size + 1 + 1 + 1, 1, none⟩) (World.putObj_heap_other (by simp; omega))).trans t1
  refine ⟨.agg #[.int .i64 z.1, .int .i64 z.2], by simp [results, Tryd.results34, go_sem, c0, c1], by rw [HZ.out], ?_⟩
  exact hbX.grown (grownBy_putObj' X D _) hbX.size (fun k e => by cases e; omega)
end Go.Proofs.YtdnkjdekikjihaaDoor.G
