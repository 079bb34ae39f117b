import Derived.Test.YtdnkjdekikjihaaDoorGh
import Derived.Test.YtdnkjdekikjihaaDoorIm
import Derived.Shelf.RegionOpen
import Derived.Sort.QuietIn
import Derived.Test.YtdnkjdekikjihaaDoorWEqStruct
import Derived.Test.YtdnkjdekikjihaaDoorSc
import Derived.Test.YtdnkjdekikjihaaDoorGj
namespace Go.Proofs.YtdnkjdekikjihaaDoor.G
open Go.RowKit Go.Shelf Go.Proofs.YtdnkjdekikjihaaDoorW.PrintWords Go.Proofs.YtdnkjdekikjihaaDoor.PA Go.Proofs.YtdnkjdekikjihaaDoor.Im
attribute [local go_sem] Oper.semAt_some

def spanV (p : Int × Int) : Value := .agg #[.int .i64 p.1, .int .i64 p.2]
/-- One lag, after k seconds: in which seconds the level may be reached first (s0: what was known), and whether it surely was. -/
def scan (lo hi : Int → Int) (lev : Int) (s0 : Option (Int × Int)) : Nat → Option (Int × Int) × Bool
 | 0 => (s0, false)
 | k + 1 => if (scan lo hi lev s0 k).2 then scan lo hi lev s0 k else if hi k < lev then ((scan lo hi lev s0 k).1, false) else (some (match (scan lo hi lev s0 k).1 with | some o => join o (k, k) | none => (k, k)), decide (lev ≤ lo k))
/-- What is known of all lags (the map 'reached'; how many are sure), after one lag more. -/
def lagStep (lo hi : Int → Int → Int) (lev g0 : Int) (n : Nat) {m : Nat} (S : (Int → Option (Int × Int)) × Nat) (x : Fin m) : (Int → Option (Int × Int)) × Nat :=
 let r := scan (fun k => lo k (g0 + x.1)) (fun k => hi k (g0 + x.1)) lev (S.1 (g0 + x.1)) n
 (fun g => if g = g0 + x.1 then r.1 else S.1 g, S.2 + if r.2 then 1 else 0)
def lagsAll (lo hi : Int → Int → Int) (lev g0 : Int) (n : Nat) {m : Nat} (pre : List (Fin m)) : (Int → Option (Int × Int)) × Nat := pre.foldl (lagStep lo hi lev g0 n) (fun _ => none, 0)
theorem lagsAll_snoc (lo hi : Int → Int → Int) (lev g0 : Int) (n : Nat) {m : Nat} (pre : List (Fin m)) (x : Fin m) : lagsAll lo hi lev g0 n (pre ++ [x]) = lagStep lo hi lev g0 n (lagsAll lo hi lev g0 n pre) x := by
 simp [lagsAll, List.foldl_append]
theorem lagsAll_count (lo hi : Int → Int → Int) (lev g0 : Int) (n : Nat) {m : Nat} (pre : List (Fin m)) : (lagsAll lo hi lev g0 n pre).2 ≤ pre.length := by
 suffices h : ∀ (l : List (Fin m)) (S : (Int → Option (Int × Int)) × Nat), (l.foldl (lagStep lo hi lev g0 n) S).2 ≤ S.2 + l.length by
  have := h pre (fun _ => none, 0); simpa [lagsAll] using this
 intro l
 induction l with
 | nil => intro S; simp
 | cons x l ih =>
  intro S
  have := ih (lagStep lo hi lev g0 n S x)
  have h2 : (lagStep lo hi lev g0 n S x).2 ≤ S.2 + 1 := by simp only [lagStep]; split <;> omega
  simp only [List.foldl_cons, List.length_cons]
  omega
/-- Block b is a map that reads as f. -/
def FMap (W : World) (b : Nat) (f : Int → Option (Int × Int)) : Prop := ∃ l, IMap W b l ∧ ∀ g, Im.look l g = (f g).map spanV
theorem FMap.lt {W : World} {b : Nat} {f : Int → Option (Int × Int)} (h : FMap W b f) : b < W.heap.size := by obtain ⟨l, h, _⟩ := h; exact h.lt
theorem FMap.same {W W' : World} {b : Nat} {f : Int → Option (Int × Int)} (h : FMap W b f) (hs : W'.heap[b]? = W.heap[b]?) : FMap W' b f := by
 obtain ⟨l, h, hf⟩ := h
 exact ⟨l, h.same hs, hf⟩
theorem zero23 (w : World) : (zeroValue 23).run Tryd.prog w = .ok (.agg #[.int .i64 0, .int .i64 0]) w := by kernel_rfl

/-- The contract of (duct).heat, at a valid hood. -/
theorem heat_ok (a0 a1 a2 a3 a4 a5 a6 a7 a8 : Int) (A1 : Option Addr) (c1 : Nat) (l1 : List Int) (sec : Int) (k : Nat) (lag : Int) (w : World) (hr1 : Kd.C (Kd.int .i64) w A1 l1.length l1) (hE : Ends w) (ok : HoodOk a0 a1 a2 a3 a4 a5 a6 a7 a8 l1)
  (N : Nat) (hn : (N : Int) = max 0 (l1.length - a7)) (hk : k < N) (h1 : a6 ≤ lag) (h2 : lag ≤ a7) :
  Calls Tryd.prog 30 #[.agg #[.int .i64 a0, .int .i64 a1, .int .i64 a2, .int .i64 a3, .int .i64 a4, .int .i64 a5, .int .i64 a6, .int .i64 a7, .int .i64 a8, .slice A1 l1.length c1, .int .i64 sec], .int .i64 k, .int .i64 lag] w fun e w' =>
   e = .returned (.agg #[.int .i64 (heatLo a0 a2 a4 a8 l1 k lag), .int .i64 (heatHi a1 a3 a5 a8 l1 k lag)]) ∧ Below w.heap.size w w' := by
 obtain ⟨⟨k0, k1, k2⟩, ⟨k3, k4, k5⟩, ⟨k6, k7, k8⟩, ⟨k9, k10, k11⟩, ⟨k12, k13⟩, k14, k15⟩ := ok
 obtain ⟨ad, rfl, hel⟩ := Kd.at_int hr1 (k + lag) (by omega) (by omega)
 have hm : rd l1 (k + lag) ∈ l1 := by
  unfold rd
  have : ((k : Int) + lag).toNat < l1.length := by omega
  simp [this]
 have hv := k15 _ hm
 exact heat a0 a1 a2 a3 a4 a5 a6 a7 a8 ad c1 l1 sec k lag w hE (by omega) (by omega) (by omega) (by omega) (by omega) hel hv.1 hv.2 k0 k1 k2 k12 k13 k3 k4 k5 k6 k7 k8

/-- Below n all blocks but B and C are as they were. -/
def SameBut2 (n B C : Nat) (W W' : World) : Prop := ∀ k, k < n → k ≠ B → k ≠ C → W'.heap[k]? = W.heap[k]?
theorem SameBut2.trans {n B C : Nat} {X Y Z : World} (h : SameBut2 n B C X Y) (k : SameBut2 n B C Y Z) : SameBut2 n B C X Z := fun j h1 h2 h3 => (k j h1 h2 h3).trans (h j h1 h2 h3)
theorem SameBut2.cell {n B C : Nat} {W W' : World} (h : SameBut2 n B C W W') {p : Addr} (h1 : p.block < n) (h2 : p.block ≠ B) (h3 : p.block ≠ C) : W'.cell? p = W.cell? p := World.cell?_of_block (h p.block h1 h2 h3)
/-- What the loop over lags has come to: map b, counter C. -/
def FirstI (W0 : World) (b C : Nat) {m : Nat} (f : List (Fin m) → (Int → Option (Int × Int)) × Nat) (pre : List (Fin m)) (W : World) : Prop :=
 FMap W b (f pre).1 ∧ W.cell? ⟨C, 0, none⟩ = some (.int .i64 (f pre).2) ∧ W.frozen? ⟨C, 0, none⟩ = false ∧ SameBut2 W0.heap.size b C W0 W ∧ Below 0 W0 W
theorem firstI_own {W0 : World} {b C : Nat} (hb : b < W0.heap.size) (hC : C < W0.heap.size) {m : Nat} (f : List (Fin m) → (Int → Option (Int × Int)) × Nat) : OwnFrom W0.heap.size (FirstI W0 b C f) := by
 rintro pre W W' row ⟨h1, h2, h3, h4, h5⟩ hg hrow
 have hk : ∀ k, k < W0.heap.size → W'.heap[k]? = W.heap[k]? := fun k hk => hg.block k (Nat.lt_of_lt_of_le hk h5.size) (fun e => by have := (hrow k e.symm).1; omega)
 exact ⟨h1.same (hk b hb), (World.cell?_of_block (a := ⟨C, 0, none⟩) (hk C hC)).trans h2, (World.frozen?_of_block (a := ⟨C, 0, none⟩) (hk C hC)).trans h3, fun k k1 k2 k3 => (hk k k1).trans (h4 k k1 k2 k3),
  ⟨hg.os.trans h5.os, hg.tape.trans h5.tape, hg.output.trans h5.output, Nat.le_trans h5.size hg.size, fun k hk => by omega⟩⟩

theorem scan_sure {lo hi : Int → Int} {lev : Int} {s0 : Option (Int × Int)} {k : Nat} (h : (scan lo hi lev s0 k).2 = true) : ∀ {j : Nat}, k ≤ j → scan lo hi lev s0 j = scan lo hi lev s0 k := by
 intro j hj
 induction j with
 | zero =>
   obtain rfl : k = 0 := by omega
   rfl
 | succ j ih =>
  rcases Nat.lt_or_eq_of_le hj with h1 | rfl
  ·
   have e := ih (by omega)
   simp only [scan, e, h, if_true]
  ·
   rfl
theorem step_is {L H : Int → Int → Int} {lev g0 lag : Int} {N m : Nat} {f : List (Fin m) → (Int → Option (Int × Int)) × Nat} (hf : f = lagsAll L H lev g0 N) {pre : List (Fin m)} {x : Fin m} {S : (Int → Option (Int × Int)) × Nat} (hS : S = f pre) (hlag : g0 + (x.1 : Int) = lag)
  {lo hi : Int → Int} (hlo : lo = fun k => L k lag) (hhi : hi = fun k => H k lag) :
  f (pre ++ [x]) = (fun g => if g = lag then (scan lo hi lev (S.1 lag) N).1 else S.1 g, S.2 + if (scan lo hi lev (S.1 lag) N).2 then 1 else 0) := by
 subst hf hS hlag hlo hhi
 rw [lagsAll_snoc]
 rfl
/-- The end of a round. -/
theorem firstI_next {W0 W X : World} {b C Bd : Nat} {m : Nat} {f : List (Fin m) → (Int → Option (Int × Int)) × Nat} {pre : List (Fin m)} {x : Fin m} {S : (Int → Option (Int × Int)) × Nat} (hb : b < W0.heap.size) (hC : C < W0.heap.size) (hBd : Bd < W0.heap.size) (h1 : Bd ≠ b) (h2 : Bd ≠ C)
  (k1 : SameBut2 W0.heap.size b C W0 W) (k2 : Below 0 W0 W) (hf : f (pre ++ [x]) = S) (hm : FMap X b S.1) (hc : X.cell? ⟨C, 0, none⟩ = some (.int .i64 S.2)) (hfr : X.frozen? ⟨C, 0, none⟩ = false) (hs : SameBut2 W.heap.size b C W X) (hbe : Below 0 W X) :
  KeepsFrom W0.heap.size W X ∧ KeepsB Bd W X ∧ FirstI W0 b C f (pre ++ [x]) X := by
 have := k2.size
 refine ⟨⟨hbe.size, fun j o hj ho _ => (hs j (Array.getElem?_eq_some_iff.1 ho).1 (by omega) (by omega)).trans ho⟩, hs Bd (by omega) h1 h2, by rw [hf]; exact hm, by rw [hf]; exact hc, hfr, ?_, k2.trans hbe⟩
 exact k1.trans (fun j j1 j2 j3 => hs j (by omega) j2 j3)

theorem lagsAll_keys {lo hi : Int → Int → Int} {lev g0 : Int} {n m : Nat} {pre : List (Fin m)} {g : Int} (h : (lagsAll lo hi lev g0 n pre).1 g ≠ none) : g0 ≤ g ∧ g < g0 + m := by
 suffices H : ∀ (l : List (Fin m)) (S : (Int → Option (Int × Int)) × Nat), (∀ g, S.1 g ≠ none → g0 ≤ g ∧ g < g0 + m) → ∀ g, (l.foldl (lagStep lo hi lev g0 n) S).1 g ≠ none → g0 ≤ g ∧ g < g0 + m from
  H pre _ (fun g hg => absurd rfl hg) g h
 intro l
 induction l with
 | nil => intro S hS; exact hS
 | cons x l ih =>
  intro S hS
  refine ih _ (fun g hg => ?_)
  simp only [lagStep] at hg
  split at hg
  ·
   rename_i e
   have := x.2
   omega
  ·
   exact hS g hg
theorem keys_len {l : List (Int × Value)} {g0 : Int} {m : Nat} (hn : (l.map (·.1)).Nodup) (h : ∀ p ∈ l, g0 ≤ p.1 ∧ p.1 < g0 + m) : l.length ≤ m := by
 have := nodup_len (l.map (·.1)) ((List.range m).map fun i : Nat => g0 + (i : Int)) hn (fun x hx => by
  obtain ⟨p, hp, rfl⟩ := List.mem_map.1 hx
  have := h p hp
  exact List.mem_map.2 ⟨(p.1 - g0).toNat, List.mem_range.2 (by omega), by omega⟩)
 simpa using this

theorem wide_spec (xs : List (Int × Int)) (h : xs ≠ []) : (∀ p ∈ xs, (wide xs).1 ≤ p.1 ∧ p.2 ≤ (wide xs).2) ∧ (∃ p ∈ xs, p.1 = (wide xs).1) ∧ ∃ p ∈ xs, p.2 = (wide xs).2 := by
 cases xs with
 | nil => exact absurd rfl h
 | cons x l =>
  clear h
  suffices H : ∀ (l : List (Int × Int)) (x : Int × Int), (∀ p ∈ x :: l, (l.foldl join x).1 ≤ p.1 ∧ p.2 ≤ (l.foldl join x).2) ∧ (∃ p ∈ x :: l, p.1 = (l.foldl join x).1) ∧ ∃ p ∈ x :: l, p.2 = (l.foldl join x).2 from H l x
  intro l
  induction l with
  | nil => intro x; simp
  | cons y l ih =>
   intro x
   obtain ⟨h1, ⟨p, hp, e1⟩, q, hq, e2⟩ := ih (join x y)
   simp only [List.foldl_cons]
   have hj := h1 (join x y) (by simp)
   have j1 : (join x y).1 ≤ x.1 ∧ (join x y).1 ≤ y.1 ∧ ((join x y).1 = x.1 ∨ (join x y).1 = y.1) := by simp only [join]; omega
   have j2 : x.2 ≤ (join x y).2 ∧ y.2 ≤ (join x y).2 ∧ ((join x y).2 = x.2 ∨ (join x y).2 = y.2) := by simp only [join]; omega
   refine ⟨fun z hz => ?_, ?_, ?_⟩
   ·
    simp only [List.mem_cons] at hz
    rcases hz with rfl | rfl | hz
    ·
     omega
    ·
     omega
    ·
     exact h1 z (by simp [hz])
   ·
    simp only [List.mem_cons] at hp
    rcases hp with rfl | hp
    ·
     rcases j1.2.2 with e | e
     ·
      exact ⟨x, by simp, by omega⟩
     ·
      exact ⟨y, by simp, by omega⟩
    ·
     exact ⟨p, by simp [hp], e1⟩
   ·
    simp only [List.mem_cons] at hq
    rcases hq with rfl | hq
    ·
     rcases j2.2.2 with e | e
     ·
      exact ⟨x, by simp, by omega⟩
     ·
      exact ⟨y, by simp, by omega⟩
    ·
     exact ⟨q, by simp [hq], e2⟩
theorem wide_same {xs ys : List (Int × Int)} (h : xs ≠ []) (hm : ∀ z, z ∈ xs ↔ z ∈ ys) : wide xs = wide ys := by
 have hy : ys ≠ [] := by
  cases xs with
  | nil => exact absurd rfl h
  | cons x l => exact List.ne_nil_of_mem ((hm x).1 (by simp))
 obtain ⟨a1, ⟨p, hp, a2⟩, q, hq, a3⟩ := wide_spec xs h
 obtain ⟨b1, ⟨p', hp', b2⟩, q', hq', b3⟩ := wide_spec ys hy
 have c1 := b1 p ((hm p).1 hp)
 have c2 := b1 q ((hm q).1 hq)
 have c3 := a1 p' ((hm p').2 hp')
 have c4 := a1 q' ((hm q').2 hq')
 exact Prod.ext (by omega) (by omega)

theorem row_kept {W w' : World} {base e sz k r : Nat} {v : Value} {xs : List Value} (h : W.ownsRow base e sz v k xs) (hg : W.grownBy w' (some r)) (hr : r < base) : w'.ownsRow base e sz v k xs := by
 refine h.kept hg ?_
 rcases h.2 with ⟨rfl, _⟩ | ⟨g, cap, cur, rfl, _, hgb, _⟩
 ·
  exact .inl rfl
 ·
  refine .inr fun e => ?_
  have h1 := (h.lt g rfl).1
  simp [Value.ownBlock] at e
  omega

theorem row_none {W w' : World} {base e sz k : Nat} {v : Value} {xs : List Value} (h : W.ownsRow base e sz v k xs) (hg : W.grownBy w' none) : w'.ownsRow base e sz v k xs :=
 h.kept hg (by cases v.ownBlock <;> simp)
theorem grown_drewN (w : World) (n : Nat) : w.grownBy (w.drewN n) none := ⟨rfl, rfl, rfl, Nat.le_refl _, fun _ _ _ => rfl⟩

/-- What the loop over the map has collected (block n: the iterator). -/
def CollI (W : World) (b : Nat) (l : List (Int × Value)) (v : Value) (wr : World) : Prop :=
 ∃ done Zs, IIter wr W.heap.size b l done ∧ wr.ownsRow (W.heap.size + 1) 23 2 v Zs.length (flat Zs) ∧ (v = .slice none 0 0 ↔ Zs = []) ∧ Zs.length ≤ done.length ∧ (∀ z, z ∈ Zs ↔ ∃ p ∈ done, p.2 = spanV z) ∧ (∀ i, i < W.heap.size → wr.heap[i]? = W.heap[i]?) ∧ Below 0 W wr ∧ W.heap.size + 1 ≤ wr.heap.size

theorem collI_next {W wr w3 w4 : World} {b : Nat} {l done : List (Int × Value)} {p : Int × Value} {v' : Value} {Zs' : List (Int × Int)} (hit : IIter wr W.heap.size b l done) (hit3 : IIter w3 W.heap.size b l (done ++ [p])) (hb : b < W.heap.size) (g3 : wr.grownBy w3 (some W.heap.size))
  (hsame : ∀ i, i < W.heap.size → wr.heap[i]? = W.heap[i]?) (hbelow : Below 0 W wr) (hsize : W.heap.size + 1 ≤ wr.heap.size) (k4 : ∀ i, i < W.heap.size + 1 → w4.heap[i]? = w3.heap[i]?) (b4 : Below 0 w3 w4)
  (row4 : w4.ownsRow (W.heap.size + 1) 23 2 v' Zs'.length (flat Zs')) (hnil' : v' = .slice none 0 0 ↔ Zs' = []) (hlen' : Zs'.length ≤ done.length + 1) (hmem' : ∀ z, z ∈ Zs' ↔ ∃ q ∈ done ++ [p], q.2 = spanV z) :
  CollI W b l v' w4 ∧ l.length - came w4 W.heap.size < l.length - came wr W.heap.size := by
 have hit4 := hit3.same (k4 b (by omega)) (k4 W.heap.size (by omega))
 refine ⟨⟨done ++ [p], Zs', hit4, row4, hnil', by simpa using hlen', hmem', ?_, ?_, ?_⟩, ?_⟩
 ·
  intro i hi
  exact (k4 i (by omega)).trans ((g3.block i (by omega) (by simp; omega)).trans (hsame i hi))
 ·
  have b3 : Below 0 wr w3 := ⟨g3.os, g3.tape, g3.output, g3.size, fun k hk => by omega⟩
  exact (hbelow.trans b3).trans b4
 ·
  have := g3.size; have := b4.size; omega
 ·
  rw [hit4.came, hit.came]
  have := iiter_len hit4
  simp at this ⊢
  omega
theorem nil_or_snoc {α : Type} (l : List α) : l = [] ∨ ∃ a b, l = a ++ [b] := by
 rcases List.eq_nil_or_concat l with h | ⟨a, b, h⟩
 ·
  exact .inl h
 ·
  exact .inr ⟨a, b, by rw [h, List.concat_eq_append]⟩
theorem eqA23 (d : Nat) (w : World) (x0 y0 : Int) (x1 y1 : Int) :
  (Op.equalIn (d + 2) 23 (.agg #[.int .i64 x0, .int .i64 x1]) (.agg #[.int .i64 y0, .int .i64 y1])).run Tryd.prog w = .ok (x0 == y0 && (x1 == y1)) w := by
 refine eqA_of Tryd.underlying23 (by kernel_rfl) ?_
 refine eqf_cons (by rfl) (by go_simp; rfl) (by go_simp; rfl) (by go_simp) ?_
 exact eqf_last (by rfl) (by go_simp; rfl) (by go_simp; rfl) (by go_simp)
attribute [local go_sem high] eqA23
theorem spanV_inj {a b : Int × Int} (h : spanV a = spanV b) : a = b := by
 simp only [spanV, Value.agg.injEq, Array.mk.injEq, List.cons.injEq, Value.int.injEq, true_and, and_true] at h
 exact Prod.ext h.1 h.2
theorem mem_next {done : List (Int × Value)} {g : Int} {s : Int × Int} {Zs : List (Int × Int)} (h : ∀ z, z ∈ Zs ↔ ∃ q ∈ done, q.2 = spanV z) : ∀ z, z ∈ Zs ++ [s] ↔ ∃ q ∈ done ++ [(g, spanV s)], q.2 = spanV z := by
 intro z
 rw [List.mem_append, h z]
 simp only [List.mem_append, List.mem_singleton]
 constructor
 ·
  rintro (⟨q, hq, e⟩ | rfl)
  ·
   exact ⟨q, .inl hq, e⟩
  ·
   exact ⟨_, .inr rfl, rfl⟩
 ·
  rintro ⟨q, hq | rfl, e⟩
  ·
   exact .inl ⟨q, hq, e⟩
  ·
   exact .inr (spanV_inj e).symm
theorem mem_again {done : List (Int × Value)} {g : Int} {s : Int × Int} {Zs : List (Int × Int)} (h : ∀ z, z ∈ Zs ↔ ∃ q ∈ done, q.2 = spanV z) (hs : s ∈ Zs) : ∀ z, z ∈ Zs ↔ ∃ q ∈ done ++ [(g, spanV s)], q.2 = spanV z := by
 intro z
 rw [← mem_next h z]
 simp only [List.mem_append, List.mem_singleton]
 constructor
 ·
  exact .inl
 ·
  rintro (h | rfl)
  ·
   exact h
  ·
   exact hs

/-- The spans of the lags at which the level may be reached. -/
def vals (S : (Int → Option (Int × Int)) × Nat) (a6 : Int) (m : Nat) : List (Int × Int) := (List.finRange m).filterMap fun x => S.1 (a6 + (x.1 : Int))
def firstOut (S : (Int → Option (Int × Int)) × Nat) (a6 : Int) (m : Nat) : Int × Int × Int :=
 if vals S a6 m = [] then (0, 0, 0) else ((wide (vals S a6 m)).1, (wide (vals S a6 m)).2, if S.2 = m then 2 else 1)
theorem vals_mem {S : (Int → Option (Int × Int)) × Nat} {a6 : Int} {m : Nat} {l done : List (Int × Value)} {Zs : List (Int × Int)} (hlk : ∀ g, Im.look l g = (S.1 g).map spanV) (hn : (l.map (·.1)).Nodup) (hkeys : ∀ g, S.1 g ≠ none → a6 ≤ g ∧ g < a6 + m)
  (hperm : done.Perm l) (hmem : ∀ z, z ∈ Zs ↔ ∃ p ∈ done, p.2 = spanV z) : ∀ z, z ∈ Zs ↔ z ∈ vals S a6 m := by
 intro z
 rw [hmem z]
 unfold vals
 rw [List.mem_filterMap]
 constructor
 ·
  rintro ⟨p, hp, e⟩
  have h1 := (mem_look hn p).1 (hperm.mem_iff.1 hp)
  rw [hlk, e] at h1
  cases h2 : S.1 p.1 with
  | none => rw [h2] at h1; cases h1
  | some s =>
   rw [h2] at h1
   have e2 := spanV_inj (Option.some.inj h1)
   have hk := hkeys p.1 (by rw [h2]; simp)
   refine ⟨⟨(p.1 - a6).toNat, by omega⟩, List.mem_finRange _, ?_⟩
   rw [show a6 + (((p.1 - a6).toNat : Nat) : Int) = p.1 by omega, h2, e2]
 ·
  rintro ⟨x, _, hx⟩
  have h1 := hlk (a6 + (x.1 : Int))
  rw [hx] at h1
  exact ⟨(a6 + (x.1 : Int), spanV z), hperm.mem_iff.2 ((mem_look hn _).2 h1), rfl⟩

set_option maxRecDepth 100000 in
set_option maxHeartbeats 6000000 in
theorem first_in (a0 a1 a2 a3 a4 a5 a6 a7 a8 : Int) (A1 : Option Addr) (c1 : Nat) (l1 : List Int) (lev : Int) (w : World) (hr1 : Kd.C (Kd.int .i64) w A1 l1.length l1) (hc1 : l1.length ≤ c1) (hE : Ends w) (ok : HoodOk a0 a1 a2 a3 a4 a5 a6 a7 a8 l1) (hlev : 1 ≤ lev)
  (N : Nat) (hn : (N : Int) = max 0 (l1.length - a7)) (m : Nat) (hm : a7 = a6 + (m : Int) - 1) (f : List (Fin m) → (Int → Option (Int × Int)) × Nat) (hf : f = lagsAll (heatLo a0 a2 a4 a8 l1) (heatHi a1 a3 a5 a8 l1) lev a6 N) (r : Int × Int × Int) (hres : firstOut (f (List.finRange m)) a6 m = r) :
  CallsIn Fence.wide 9 Tryd.prog 10 #[.agg #[.int .i64 a0, .int .i64 a1, .int .i64 a2, .int .i64 a3, .int .i64 a4, .int .i64 a5, .int .i64 a6, .int .i64 a7, .int .i64 a8], .slice A1 l1.length c1, .int .i64 lev] w fun e w' => e = .returned (.tuple #[.agg #[.int .i64 r.1, .int .i64 r.2.1], .int .u8 r.2.2, .int .i64 0]) ∧ Below w.heap.size w w' := by
 have HR := Aside0.mk hr1
 have HE := Aside0.mk hE
 have HO := Aside0.mk ok
 have HN := Aside0.mk hn
 have HF := Aside0.mk hf
 have HRES := Aside0.mk hres
 have HM := Aside0.mk hm
 have hm0 : 0 < m := by have := ok.2.2.2.1; omega
 have hm31 : m ≤ 31 := by have := ok.2.2.2.1; omega
 have hg0 : 0 ≤ a6 ∧ a6 ≤ a7 ∧ a7 ≤ 30 := ok.2.2.2.1
 obtain ⟨hg0, hg1, hg2⟩ := hg0
 have hlv : ¬ (lev < 1) := by omega
 have hN120 : N ≤ 120 := by have := ok.2.2.2.2.2.1; omega
 clear hr1 hE ok hn hf hm hres
 refine callsIn_of_wp_marks Tryd.func10 rfl trivial ?_ rfl
 simp only [Tryd.ntmps10, List.size_toArray, List.length_cons, List.length_nil, Nat.reduceAdd, Nat.reduceSub, Array.replicate_succ, Array.replicate_zero, List.push_toArray, List.append_toArray, List.nil_append, List.cons_append]
 gi_wp2
 obtain ⟨W, hW⟩ : ∃ W, W = ((w.alloc (.cells #[.int .i64 a0, .int .i64 a1, .int .i64 a2, .int .i64 a3, .int .i64 a4, .int .i64 a5, .int .i64 a6, .int .i64 a7, .int .i64 a8] 25)).alloc (.cells #[.int .i64 lev] 3)).alloc (.cells #[.int .i64 0, .int .i64 0] 23) := ⟨_, rfl⟩
 rw [← hW]
 have hBw : Below w.heap.size w W := by rw [hW]; go_grown
 have HW := Aside0.mk hW
 have hs : W.heap.size = w.heap.size + 1 + 1 + 1 := by rw [hW]; simp
 clear hW
 refine ⟨trivial, (callsIn_wide.2 (open_ok a0 a1 a2 a3 a4 a5 a6 a7 a8 A1 c1 l1 _ (Kd.C_below HR.out hBw) ‹_› HO.out N HN.out)).mono ?_⟩
 rintro e w1 ⟨rfl, hb⟩
 have n1 : w.heap.size + 1 < W.heap.size := by omega
 have n2 : w.heap.size + 1 + 1 < W.heap.size := by omega
 have cl : w1.cell? ⟨w.heap.size + 1, 0, none⟩ = some (.int .i64 lev) := (hb.cell (p := ⟨w.heap.size + 1, 0, none⟩) n1).trans (by rw [HW.out]; simp [go_sem])
 have cz0 : w1.cell? ⟨w.heap.size + 1 + 1, 0, none⟩ = some (.int .i64 0) := (hb.cell (p := ⟨w.heap.size + 1 + 1, 0, none⟩) n2).trans (by rw [HW.out]; simp [go_sem])
 have cz1 : w1.cell? ⟨w.heap.size + 1 + 1, 1, none⟩ = some (.int .i64 0) := (hb.cell (p := ⟨w.heap.size + 1 + 1, 1, none⟩) n2).trans (by rw [HW.out]; simp [go_sem])
 have fz0 : w1.frozen? ⟨w.heap.size + 1 + 1, 0, none⟩ = false := (hb.frozen (p := ⟨w.heap.size + 1 + 1, 0, none⟩) n2).trans (by rw [HW.out]; simp [go_sem])
 have fz1 : w1.frozen? ⟨w.heap.size + 1 + 1, 1, none⟩ = false := (hb.frozen (p := ⟨w.heap.size + 1 + 1, 1, none⟩) n2).trans (by rw [HW.out]; simp [go_sem])
 replace n1 := Nat.lt_of_lt_of_le n1 hb.size
 replace n2 := Nat.lt_of_lt_of_le n2 hb.size
 replace hBw := hBw.trans (hb.mono hBw.size)
 clear hb hs
 have hmk := fun (X : World) => run_makeMap (P := Tryd.prog) 67 X
 gi_wp2
 clear hmk
 refine ⟨trivial, (lags _ _ _).mono ?_⟩
 rintro e w' ⟨rfl, rfl⟩
 gi_wp2
 obtain ⟨W0, hW0⟩ : ∃ W0, W0 = ((((w1.alloc (.cells #[.int .i64 a0, .int .i64 a1, .int .i64 a2, .int .i64 a3, .int .i64 a4, .int .i64 a5, .int .i64 a6, .int .i64 a7, .int .i64 a8, .slice A1 l1.length c1, .int .i64 N] 64)).alloc (.map #[] 0)).alloc (.cells #[.map (some (w1.heap.size + 1))] 67)).alloc (.cells #[.int .i64 0] 3)).alloc (.cells #[.int .i64 a0, .int .i64 a1, .int .i64 a2, .int .i64 a3, .int .i64 a4, .int .i64 a5, .int .i64 a6, .int .i64 a7, .int .i64 a8, .slice A1 l1.length c1, .int .i64 N] 64) := ⟨_, rfl⟩
 rw [← hW0]
 have hS0 : W0.heap.size = w1.heap.size + 5 := by rw [hW0]; simp
 have hB01 : Below w1.heap.size w1 W0 := by rw [hW0]; go_grown
 have cd : ∀ j, W0.cell? ⟨w1.heap.size, j, none⟩ = (#[.int .i64 a0, .int .i64 a1, .int .i64 a2, .int .i64 a3, .int .i64 a4, .int .i64 a5, .int .i64 a6, .int .i64 a7, .int .i64 a8, .slice A1 l1.length c1, .int .i64 N] : Array Value)[j]? := fun j => by
  have hB1 : Below (w1.heap.size + 1) (w1.alloc (.cells #[.int .i64 a0, .int .i64 a1, .int .i64 a2, .int .i64 a3, .int .i64 a4, .int .i64 a5, .int .i64 a6, .int .i64 a7, .int .i64 a8, .slice A1 l1.length c1, .int .i64 N] 64)) W0 := by rw [hW0]; go_grown
  exact (hB1.cell (p := ⟨w1.heap.size, j, none⟩) (by simp)).trans (World.cell?_alloc_new w1 _ 64 j)
 have c2 : W0.cell? ⟨w1.heap.size + 1 + 1, 0, none⟩ = some (.map (some (w1.heap.size + 1))) := by rw [hW0]; simp [go_sem]
 have c3 : W0.cell? ⟨w1.heap.size + 1 + 1 + 1, 0, none⟩ = some (.int .i64 0) := by rw [hW0]; simp [go_sem]
 have f3 : W0.frozen? ⟨w1.heap.size + 1 + 1 + 1, 0, none⟩ = false := by rw [hW0]; simp [go_sem]
 have c6 : W0.cell? ⟨w1.heap.size + 4, 6, none⟩ = some (.int .i64 a6) := by rw [hW0]; simp [go_sem]
 have c7 : W0.cell? ⟨w1.heap.size + 4, 7, none⟩ = some (.int .i64 a7) := by rw [hW0]; simp [go_sem]
 have hmap : FMap W0 (w1.heap.size + 1) (fun _ => none) := by
  refine ⟨[], ?_, fun g => rfl⟩
  have h1 := imap_made (w1.alloc (.cells #[.int .i64 a0, .int .i64 a1, .int .i64 a2, .int .i64 a3, .int .i64 a4, .int .i64 a5, .int .i64 a6, .int .i64 a7, .int .i64 a8, .slice A1 l1.length c1, .int .i64 N] 64))
  have h2 : Below (w1.heap.size + 1 + 1) ((w1.alloc (.cells #[.int .i64 a0, .int .i64 a1, .int .i64 a2, .int .i64 a3, .int .i64 a4, .int .i64 a5, .int .i64 a6, .int .i64 a7, .int .i64 a8, .slice A1 l1.length c1, .int .i64 N] 64)).alloc (.map #[] 0)) W0 := by rw [hW0]; go_grown
  have h3 : (w1.alloc (.cells #[.int .i64 a0, .int .i64 a1, .int .i64 a2, .int .i64 a3, .int .i64 a4, .int .i64 a5, .int .i64 a6, .int .i64 a7, .int .i64 a8, .slice A1 l1.length c1, .int .i64 N] 64)).heap.size = w1.heap.size + 1 := by simp
  rw [h3] at h1
  exact h1.same (h2.block _ (by omega))
 have HC := Aside0.mk cd
 clear hW0 cd
 have HS := Aside0.mk hS0
 have f0 : f [] = (fun _ => none, 0) := by rw [HF.out]; rfl
 have FF := Aside0.mk f0
 refine wpIn_rangeFunc_ownG rfl (by omega) (gf := 55) (lb := #[.pointer (some ⟨w1.heap.size + 4, 0, none⟩)]) rfl trivial en55 (lags_stops _ (w1.heap.size + 4) m a6 a7 hg0 hg2 HM.out W0 (by omega) c6 c7) keepsB_t (keepsB_b (by omega)) (Below.refl _ _) (fun _ => rfl)
  (FirstI W0 (w1.heap.size + 1) (w1.heap.size + 1 + 1 + 1) f) (fun _ _ _ => False) (firstI_own (by omega) (by omega) f) (fun _ _ _ _ _ hs _ _ => hs) ⟨by rw [FF.out]; exact hmap, by rw [FF.out]; exact c3, f3, fun _ _ _ _ => rfl, Below.refl _ _⟩ ?a₁ ?assign ?body ?done ?stop
 case assign =>
  intro l x W K hK
  gi_wp2
  exact hK
 case stop =>
  rintro D c pre W _ _ h _
  exact h.elim
 case body =>
  rintro lp pre x W ⟨hm1, hcnt, hfr, hsb, hbe⟩ hlen
  have hsz : W0.heap.size ≤ W.heap.size := hbe.size
  have hd : ∀ j, W.cell? ⟨w1.heap.size, j, none⟩ = (#[.int .i64 a0, .int .i64 a1, .int .i64 a2, .int .i64 a3, .int .i64 a4, .int .i64 a5, .int .i64 a6, .int .i64 a7, .int .i64 a8, .slice A1 l1.length c1, .int .i64 N] : Array Value)[j]? := fun j => (hsb.cell (p := ⟨w1.heap.size, j, none⟩) (by simp; omega) (by simp) (by show w1.heap.size ≠ _; omega)).trans (HC.out j)
  have e2 : W.cell? ⟨w1.heap.size + 1 + 1, 0, none⟩ = some (.map (some (w1.heap.size + 1))) := (hsb.cell (p := ⟨w1.heap.size + 1 + 1, 0, none⟩) (by simp; omega) (by simp) (by simp)).trans c2
  have el : W.cell? ⟨w.heap.size + 1, 0, none⟩ = some (.int .i64 lev) := (hsb.cell (p := ⟨w.heap.size + 1, 0, none⟩) (by simp; omega) (by simp; omega) (by simp; omega)).trans ((hB01.cell (p := ⟨w.heap.size + 1, 0, none⟩) n1).trans cl)
  have hBW : Below w.heap.size w W := by
   have b1 := hBw.trans (hB01.mono hBw.size)
   have b2 : Below w.heap.size W0 W := ⟨hbe.os, hbe.tape, hbe.output, hbe.size, fun k hk => hsb k (by have := hBw.size; omega) (by have := hBw.size; omega) (by have := hBw.size; omega)⟩
   exact b1.trans b2
  have HD := Aside0.mk hd
  have HK := Aside0.mk (And.intro hsb hbe)
  have hcn : (f pre).2 ≤ 31 := by rw [HF.out]; exact Nat.le_trans (lagsAll_count _ _ _ _ _ _) (by omega)
  have q10 : W.cell? ⟨w1.heap.size, 10, none⟩ = some (.int .i64 N) := hd 10
  clear hd hsb hbe
  gi_wp2
  obtain ⟨lag, hlag⟩ : ∃ lag, a6 + (x.1 : Int) = lag := ⟨_, rfl⟩
  have hl0 : a6 ≤ lag := by omega
  have hl1 : lag ≤ a7 := by have := x.2; have := HM.out; omega
  rw [hlag]
  have HX := Aside0.mk hlag
  clear hlag
  obtain ⟨lo, hlo⟩ : ∃ lo : Int → Int, lo = fun k => heatLo a0 a2 a4 a8 l1 k lag := ⟨_, rfl⟩
  obtain ⟨hi, hhi⟩ : ∃ hi : Int → Int, hi = fun k => heatHi a1 a3 a5 a8 l1 k lag := ⟨_, rfl⟩
  have HLO := Aside0.mk hlo
  have HHI := Aside0.mk hhi
  clear hlo hhi
  obtain ⟨S, hS⟩ : ∃ S, S = f pre := ⟨_, rfl⟩
  rw [← hS] at hm1 hcnt hcn
  have HSS := Aside0.mk hS
  clear hS
  refine wpIn_scope_straight (wpIn_seq_k (fun K0 hK0 => wpIn_label (hK0 _ _ ?_)))
  gi_wp2
  gi_loopw [13, 14, 15, 16, 39] (fun _ _ _ _ i wr => ∃ k : Nat, k ≤ N ∧ i = .int .i64 k ∧ FMap wr (w1.heap.size + 1) (fun g => if g = lag then (scan lo hi lev (S.1 lag) k).1 else S.1 g) ∧ (scan lo hi lev (S.1 lag) k).2 = false ∧ wr.cell? ⟨w1.heap.size + 1 + 1 + 1, 0, none⟩ = some (.int .i64 S.2) ∧ wr.frozen? ⟨w1.heap.size + 1 + 1 + 1, 0, none⟩ = false ∧ SameBut2 W.heap.size (w1.heap.size + 1) (w1.heap.size + 1 + 1 + 1) W wr ∧ Below 0 W wr) (fun _ _ _ _ i _ => N - (intOf i).toNat)
  case atStart => 
   refine ⟨0, Nat.zero_le _, rfl, ?_, rfl, hcnt, hfr, fun _ _ _ _ => rfl, Below.refl _ _⟩
   have : (fun g => if g = lag then (scan lo hi lev (S.1 lag) 0).1 else S.1 g) = S.1 := by
    funext g
    split
    ·
     rename_i h; subst h; rfl
    ·
     rfl
   rw [this]
   exact hm1
  case round =>
   obtain ⟨k, hk, rfl, hmr, hsc, q0, y0, hsr, hbr⟩ := hrel
   have hws : W.heap.size ≤ wr.heap.size := hbr.size
   by_cases hlt : k < N
   ·
    have ht : (k : Int) < N := by omega
    have d : ∀ j, wr.cell? ⟨w1.heap.size, j, none⟩ = (#[.int .i64 a0, .int .i64 a1, .int .i64 a2, .int .i64 a3, .int .i64 a4, .int .i64 a5, .int .i64 a6, .int .i64 a7, .int .i64 a8, .slice A1 l1.length c1, .int .i64 N] : Array Value)[j]? := fun j => (hsr.cell (p := ⟨w1.heap.size, j, none⟩) (by simp; omega) (by simp) (by show w1.heap.size ≠ _; omega)).trans (HD.out j)
    have r2 : wr.cell? ⟨w1.heap.size + 1 + 1, 0, none⟩ = some (.map (some (w1.heap.size + 1))) := (hsr.cell (p := ⟨w1.heap.size + 1 + 1, 0, none⟩) (by simp; omega) (by simp) (by simp)).trans e2
    have rl : wr.cell? ⟨w.heap.size + 1, 0, none⟩ = some (.int .i64 lev) := (hsr.cell (p := ⟨w.heap.size + 1, 0, none⟩) (by simp; omega) (by simp; omega) (by simp; omega)).trans el
    have hBr : Below w.heap.size w wr := hBW.trans ⟨hbr.os, hbr.tape, hbr.output, hbr.size, fun j hj => hsr j (by have := hBW.size; omega) (by omega) (by omega)⟩
    have hheat := heat_ok a0 a1 a2 a3 a4 a5 a6 a7 a8 A1 c1 l1 N k lag wr (Kd.C_below HR.out hBr) (HE.out.below hBr) HO.out N HN.out hlt hl0 hl1
    rw [show heatLo a0 a2 a4 a8 l1 k lag = lo k by rw [HLO.out], show heatHi a1 a3 a5 a8 l1 k lag = hi k by rw [HHI.out]] at hheat
    have HHeat := Aside0.mk hheat
    have m1 : w.heap.size + 1 < wr.heap.size := by omega
    have m2 : w1.heap.size + 1 + 1 < wr.heap.size := by omega
    have m3 : w1.heap.size + 1 + 1 + 1 < wr.heap.size := by omega
    clear hheat
    gi_wp2
    refine ⟨trivial, (CallsIn.inRound lp (callsIn_wide.2 HHeat.out)).mono ?_⟩
    rintro e w3 ⟨rfl, hb3⟩
    replace r2 := (hb3.cell (p := ⟨w1.heap.size + 1 + 1, 0, none⟩) m2).trans r2
    replace rl := (hb3.cell (p := ⟨w.heap.size + 1, 0, none⟩) m1).trans rl
    replace q0 := (hb3.cell (p := ⟨w1.heap.size + 1 + 1 + 1, 0, none⟩) m3).trans q0
    replace y0 := (hb3.frozen (p := ⟨w1.heap.size + 1 + 1 + 1, 0, none⟩) m3).trans y0
    replace hmr := hmr.same (hb3.block _ (by omega))
    replace m1 := Nat.lt_of_lt_of_le m1 hb3.size
    replace m2 := Nat.lt_of_lt_of_le m2 hb3.size
    replace m3 := Nat.lt_of_lt_of_le m3 hb3.size
    replace hsr : SameBut2 W.heap.size (w1.heap.size + 1) (w1.heap.size + 1 + 1 + 1) W w3 := fun j j1 j2 j3 => (hb3.block j (by omega)).trans (hsr j j1 j2 j3)
    replace hbr : Below 0 W w3 := hbr.trans (hb3.mono (Nat.zero_le _))
    have hKP := Aside0.mk (And.intro hsr hbr)
    clear d hBr hb3 hsr hbr hws
    by_cases hc : hi k < lev
    ·
     gi_wp2
     go_roundw
     case rel =>
      have e1 : scan lo hi lev (S.1 lag) (k + 1) = ((scan lo hi lev (S.1 lag) k).1, false) := by
       simp only [scan, hsc, Bool.false_eq_true, if_false, hc, if_true]
      refine ⟨k + 1, by omega, by go_num, ?_, by rw [e1], ?_, ?_, ?_, ?_⟩
      ·
       rw [e1]
       refine hmr.same (Below.heap_alloc _ _ _ (by omega))
      ·
       exact (World.cell?_alloc_lt _ _ _ m3).trans q0
      ·
       exact (World.frozen?_alloc_old _ _ _ (Nat.ne_of_lt m3)).trans y0
      ·
       exact fun j j1 j2 j3 => (Below.heap_alloc _ _ _ (by have := hKP.out.2.size; have := hKP.out.1; omega)).trans (hKP.out.1 j j1 j2 j3)
      ·
       exact hKP.out.2.alloc (Nat.zero_le _) _
     case measure => simp [intOf]; omega
    ·
     obtain ⟨l, him, hlk⟩ := hmr
     obtain ⟨Y, hY⟩ : ∃ Y, Y = w3.alloc (.cells #[.int .i64 (lo k), .int .i64 (hi k)] 23) := ⟨_, rfl⟩
     have hYs : Y.heap.size = w3.heap.size + 1 := by rw [hY]; simp
     have imY : IMap Y (w1.heap.size + 1) l := him.same (by rw [hY]; exact Below.heap_alloc _ _ _ (by omega))
     have hlook := run_lookup_ok (P := Tryd.prog) Tryd.underlying3 Tryd.underlying67 imY (zero23 Y) lag
     have hst := hlk lag
     simp only [if_true] at hst
     rw [hst] at hlook
     cases hs1 : (scan lo hi lev (S.1 lag) k).1 with
     | none =>
      rw [hs1] at hlook
      simp only [Option.map_none, Option.getD_none, Option.isSome_none] at hlook
      rw [hY] at hlook
      have HLK := Aside0.mk hlk
      clear hst hlk
      have HY := Aside0.mk (And.intro hY (And.intro hYs imY))
      clear hY hYs imY him
      have m1' : w.heap.size + 1 < w3.heap.size + 1 := by omega
      have m2' : w1.heap.size + 1 + 1 < w3.heap.size + 1 := by omega
      have m3' : w1.heap.size + 1 + 1 + 1 < w3.heap.size + 1 := by omega
      obtain ⟨w4, hu, im4, g4, s4⟩ := run_update (P := Tryd.prog) (w := Y.alloc (.cells #[.int .i64 0, .int .i64 0] 23)) Tryd.underlying3 Tryd.underlying67 (HY.out.2.2.same (Below.heap_alloc _ _ _ (by have := HY.out.2.1; omega))) lag (.agg #[.int .i64 k, .int .i64 k])
      have hb4 : Below 0 W w4 := by
       have b1 : Below 0 W (Y.alloc (.cells #[.int .i64 0, .int .i64 0] 23)) := by rw [HY.out.1]; exact (hKP.out.2.alloc (Nat.zero_le _) _).alloc (Nat.zero_le _) _
       exact ⟨g4.os.trans b1.os, g4.tape.trans b1.tape, g4.output.trans b1.output, Nat.le_trans b1.size g4.size, fun k hk => by omega⟩
      have hs4 : w4.heap.size = w3.heap.size + 1 + 1 := by rw [s4]; simp [HY.out.2.1]
      have z1 : ∀ i, i < w3.heap.size + 1 → i ≠ w1.heap.size + 1 → w4.heap[i]? = Y.heap[i]? := fun i hi1 hi2 => (g4.block i (by simp [HY.out.2.1]; omega) (by simp; omega)).trans (Below.heap_alloc _ _ _ (by have := HY.out.2.1; omega))
      have p0 : w4.cell? ⟨w3.heap.size, 0, none⟩ = some (.int .i64 (lo k)) := (World.cell?_of_block (a := ⟨w3.heap.size, 0, none⟩) (z1 _ (by simp) (by show w3.heap.size ≠ _; omega))).trans (by rw [HY.out.1]; simp [go_sem])
      have rl4 : w4.cell? ⟨w.heap.size + 1, 0, none⟩ = some (.int .i64 lev) := (World.cell?_of_block (a := ⟨w.heap.size + 1, 0, none⟩) (z1 _ (by show w.heap.size + 1 < _; omega) (by show w.heap.size + 1 ≠ _; omega))).trans (by rw [HY.out.1]; exact (World.cell?_alloc_lt _ _ _ m1).trans rl)
      have q4 : w4.cell? ⟨w1.heap.size + 1 + 1 + 1, 0, none⟩ = some (.int .i64 S.2) := (World.cell?_of_block (a := ⟨w1.heap.size + 1 + 1 + 1, 0, none⟩) (z1 _ m3' (by show w1.heap.size + 1 + 1 + 1 ≠ w1.heap.size + 1; omega))).trans (by rw [HY.out.1]; exact (World.cell?_alloc_lt _ _ _ m3).trans q0)
      have y4 : w4.frozen? ⟨w1.heap.size + 1 + 1 + 1, 0, none⟩ = false := (World.frozen?_of_block (a := ⟨w1.heap.size + 1 + 1 + 1, 0, none⟩) (z1 _ m3' (by show w1.heap.size + 1 + 1 + 1 ≠ w1.heap.size + 1; omega))).trans (by rw [HY.out.1]; exact (World.frozen?_alloc_old _ _ _ (Nat.ne_of_lt m3)).trans y0)
      have hsr4 : SameBut2 W.heap.size (w1.heap.size + 1) (w1.heap.size + 1 + 1 + 1) W w4 := fun j j1 j2 j3 => by
       have hw3 := hKP.out.2.size
       have e := z1 j (by omega) j2
       rw [HY.out.1, Below.heap_alloc _ _ _ (show j < w3.heap.size by omega)] at e
       exact e.trans (hKP.out.1 j j1 j2 j3)
      have hm4 : FMap w4 (w1.heap.size + 1) (fun g => if g = lag then (scan lo hi lev (S.1 lag) (k + 1)).1 else S.1 g) := by
       refine ⟨_, im4, fun g => ?_⟩
       have hl := HLK.out g
       rw [look_put]
       by_cases hg : g = lag
       ·
        subst hg
        simp only [if_true, scan, hsc, Bool.false_eq_true, if_false, hc, hs1, Option.map_some]
        rfl
       ·
        simp only [hg, if_false] at hl ⊢
        exact hl
      have hsc4 : (scan lo hi lev (S.1 lag) (k + 1)).2 = decide (lev ≤ lo k) := by
       simp only [scan, hsc, Bool.false_eq_true, if_false, hc]
      have H4 := Aside0.mk (And.intro hsr4 (And.intro hb4 (And.intro hm4 hsc4)))
      clear hsr4 hb4 hm4 hsc4 z1 im4
      have hn4 : w3.heap.size < w4.heap.size := by omega
      rw [HY.out.1] at hu
      clear hs4 s4 g4
      by_cases hle : lev ≤ lo k
      ·
       gi_wp2
       simp only [Exit.noGoto, Exit.inBlock]
       have hsx := scan_sure (lo := lo) (hi := hi) (lev := lev) (s0 := S.1 lag) (k := k + 1) (by rw [H4.out.2.2.2]; simp [hle]) (show k + 1 ≤ N by omega)
       have hst := step_is HF.out HSS.out HX.out HLO.out HHI.out
       rw [hsx, H4.out.2.2.2] at hst
       have hw3 := hKP.out.2.size
       have hk1 := HK.out
       refine firstI_next (by omega) (by omega) (Bd := w1.heap.size + 4) (by omega) (by omega) (by omega) hk1.1 hk1.2 hst ?_ ?_ ?_ ?_ ?_
       ·
        exact H4.out.2.2.1.same (Below.heap_setCell _ _ _ _ (by show w1.heap.size + 1 ≠ w1.heap.size + 1 + 1 + 1; omega))
       ·
        rw [World.cell?_setCell_same _ _ _ q4]
        simp [hle]
       ·
        rw [World.frozen?_setCell]; exact y4
       ·
        exact fun j j1 j2 j3 => (Below.heap_setCell _ _ _ _ (by show j ≠ w1.heap.size + 1 + 1 + 1; omega)).trans (H4.out.1 j j1 j2 j3)
       ·
        exact H4.out.2.1.setCell (Nat.zero_le _) _
      ·
       gi_wp2
       go_roundw
       case rel => exact ⟨k + 1, by omega, by go_num, H4.out.2.2.1, by rw [H4.out.2.2.2]; simp [hle], q4, y4, H4.out.1, H4.out.2.1⟩
       case measure => simp [intOf]; omega
     | some o =>
      rw [hs1] at hlook
      simp only [Option.map_some, Option.getD_some, Option.isSome_some, spanV] at hlook
      rw [hY] at hlook
      have HLK := Aside0.mk hlk
      clear hst hlk
      have HY := Aside0.mk (And.intro hY (And.intro hYs imY))
      clear hY hYs imY him
      have m1' : w.heap.size + 1 < w3.heap.size + 1 := by omega
      have m2' : w1.heap.size + 1 + 1 < w3.heap.size + 1 := by omega
      have m3' : w1.heap.size + 1 + 1 + 1 < w3.heap.size + 1 := by omega
      have hmix : Tryd.prog.follows .mixedOrders = true := by kernel_rfl
      gi_wp2
      obtain ⟨Z, hZ⟩ : ∃ Z, Z = (w3.alloc (.cells #[.int .i64 (lo k), .int .i64 (hi k)] 23)).alloc (.cells #[.int .i64 o.1, .int .i64 o.2] 23) := ⟨_, rfl⟩
      rw [← hZ]
      have hZs : Z.heap.size = w3.heap.size + 1 + 1 := by rw [hZ]; simp
      have hYZ : ∀ j, j < w3.heap.size + 1 → Z.heap[j]? = Y.heap[j]? := fun j hj => by rw [hZ, HY.out.1]; exact Below.heap_alloc _ _ _ (by simp; omega)
      have v2 : Z.cell? ⟨w1.heap.size + 1 + 1, 0, none⟩ = some (.map (some (w1.heap.size + 1))) := by rw [hZ]; exact (World.cell?_alloc_lt _ _ _ (by simp; omega)).trans ((World.cell?_alloc_lt _ _ _ m2).trans r2)
      have v0 : Z.cell? ⟨w3.heap.size + 1, 0, none⟩ = some (.int .i64 o.1) := by rw [hZ]; simp [go_sem]
      have v1 : Z.cell? ⟨w3.heap.size + 1, 1, none⟩ = some (.int .i64 o.2) := by rw [hZ]; simp [go_sem]
      have imZ : IMap Z (w1.heap.size + 1) l := HY.out.2.2.same (hYZ _ (by omega))
      have hbZ : Below 0 W Z := by rw [hZ]; exact (hKP.out.2.alloc (Nat.zero_le _) _).alloc (Nat.zero_le _) _
      have hbd : Below Z.heap.size Z Z.drew := (Below.refl _ _).drew
      have HZ := Aside0.mk (And.intro hZ (And.intro hYZ (And.intro imZ hbZ)))
      have u2 : w1.heap.size + 1 + 1 < Z.heap.size := by omega
      have u3 : w3.heap.size + 1 < Z.heap.size := by omega
      have HZs := Aside0.mk hZs
      clear hZ hYZ imZ hbZ hlook hZs
      refine region17 lp (w1.heap.size + 1 + 1) (w3.heap.size + 1) (w1.heap.size + 1) o k lag l _ _ _ _ _ _ _ _ _ _ _ _ _ _ _ _ _ _ _ _ _ _ _ _ _ _ _ _ _ _ _ _ _ _ _ _ _ _ _ _ _ _ _ _ _ _ _ _ _ _ _ _ _ _ _ _ _ _ _ _ _ _ _ _ _ _ _ _ _ _ _ _ _ _ _ _ _ _ _ _ _ _ _ _ _ _ _ _ _ _ _ _ _ _ _ _ _ _ _ _ _ _ _ _ _ _ _ _ _ _ _ _ _ _ _ _ Z _ u2 u3 (by omega) v2 v0 v1 HZ.out.2.2.1 ?_ _ (by kernel_rfl)
      intro w4 im4 hB4 h44
      have hb4 : Below 0 W w4 := HZ.out.2.2.2.trans hB4
      have hc' : ¬ hi k < lev := by omega
      have z1 : ∀ i, i < w3.heap.size + 1 → i ≠ w1.heap.size + 1 → w4.heap[i]? = Y.heap[i]? := fun i hi1 hi2 => (h44 i (by have := HZs.out; omega) hi2).trans (HZ.out.2.1 i hi1)
      have p0 : w4.cell? ⟨w3.heap.size, 0, none⟩ = some (.int .i64 (lo k)) := (World.cell?_of_block (a := ⟨w3.heap.size, 0, none⟩) (z1 _ (by simp) (by show w3.heap.size ≠ _; omega))).trans (by rw [HY.out.1]; simp [go_sem])
      have rl4 : w4.cell? ⟨w.heap.size + 1, 0, none⟩ = some (.int .i64 lev) := (World.cell?_of_block (a := ⟨w.heap.size + 1, 0, none⟩) (z1 _ (by show w.heap.size + 1 < _; omega) (by show w.heap.size + 1 ≠ _; omega))).trans (by rw [HY.out.1]; exact (World.cell?_alloc_lt _ _ _ m1).trans rl)
      have q4 : w4.cell? ⟨w1.heap.size + 1 + 1 + 1, 0, none⟩ = some (.int .i64 S.2) := (World.cell?_of_block (a := ⟨w1.heap.size + 1 + 1 + 1, 0, none⟩) (z1 _ m3' (by show w1.heap.size + 1 + 1 + 1 ≠ w1.heap.size + 1; omega))).trans (by rw [HY.out.1]; exact (World.cell?_alloc_lt _ _ _ m3).trans q0)
      have y4 : w4.frozen? ⟨w1.heap.size + 1 + 1 + 1, 0, none⟩ = false := (World.frozen?_of_block (a := ⟨w1.heap.size + 1 + 1 + 1, 0, none⟩) (z1 _ m3' (by show w1.heap.size + 1 + 1 + 1 ≠ w1.heap.size + 1; omega))).trans (by rw [HY.out.1]; exact (World.frozen?_alloc_old _ _ _ (Nat.ne_of_lt m3)).trans y0)
      have hsr4 : SameBut2 W.heap.size (w1.heap.size + 1) (w1.heap.size + 1 + 1 + 1) W w4 := fun j j1 j2 j3 => by
       have hw3 := hKP.out.2.size
       have e := z1 j (by omega) j2
       rw [HY.out.1, Below.heap_alloc _ _ _ (show j < w3.heap.size by omega)] at e
       exact e.trans (hKP.out.1 j j1 j2 j3)
      have hm4 : FMap w4 (w1.heap.size + 1) (fun g => if g = lag then (scan lo hi lev (S.1 lag) (k + 1)).1 else S.1 g) := by
       refine ⟨_, im4, fun g => ?_⟩
       have hl := HLK.out g
       rw [look_put]
       by_cases hg : g = lag
       ·
        subst hg
        simp only [if_true, scan, hsc, Bool.false_eq_true, if_false, hc', hs1, Option.map_some]
        rfl
       ·
        simp only [hg, if_false] at hl ⊢
        exact hl
      have hsc4 : (scan lo hi lev (S.1 lag) (k + 1)).2 = decide (lev ≤ lo k) := by
       simp only [scan, hsc, Bool.false_eq_true, if_false, hc']
      have H4 := Aside0.mk (And.intro hsr4 (And.intro hb4 (And.intro hm4 hsc4)))
      clear hsr4 hb4 hm4 hsc4 z1 im4
      have hn4 : w3.heap.size < w4.heap.size := by have := hB4.size; have := HZs.out; omega
      clear h44 hB4
      by_cases hle : lev ≤ lo k
      ·
       gi_wp2
       try simp only [Exit.noGoto, Exit.inBlock]
       have hsx := scan_sure (lo := lo) (hi := hi) (lev := lev) (s0 := S.1 lag) (k := k + 1) (by rw [H4.out.2.2.2]; simp [hle]) (show k + 1 ≤ N by omega)
       have hst := step_is HF.out HSS.out HX.out HLO.out HHI.out
       rw [hsx, H4.out.2.2.2] at hst
       have hw3 := hKP.out.2.size
       have hk1 := HK.out
       refine firstI_next (by omega) (by omega) (Bd := w1.heap.size + 4) (by omega) (by omega) (by omega) hk1.1 hk1.2 hst ?_ ?_ ?_ ?_ ?_
       ·
        exact H4.out.2.2.1.same (Below.heap_setCell _ _ _ _ (by show w1.heap.size + 1 ≠ w1.heap.size + 1 + 1 + 1; omega))
       ·
        rw [World.cell?_setCell_same _ _ _ q4]
        simp [hle]
       ·
        rw [World.frozen?_setCell]; exact y4
       ·
        exact fun j j1 j2 j3 => (Below.heap_setCell _ _ _ _ (by show j ≠ w1.heap.size + 1 + 1 + 1; omega)).trans (H4.out.1 j j1 j2 j3)
       ·
        exact H4.out.2.1.setCell (Nat.zero_le _) _
      ·
       gi_wp2
       go_roundw
       case rel => exact ⟨k + 1, by omega, by go_num, H4.out.2.2.1, by rw [H4.out.2.2.2]; simp [hle], q4, y4, H4.out.1, H4.out.2.1⟩
       case measure => simp [intOf]; omega
   ·
    obtain rfl : k = N := by omega
    have ht : ¬ ((k : Int) < k) := by omega
    gi_wp2
    try simp only [Exit.noGoto, Exit.inBlock]
    have hst := step_is HF.out HSS.out HX.out HLO.out HHI.out
    rw [hsc] at hst
    have hk1 := HK.out
    exact firstI_next (by omega) (by omega) (Bd := w1.heap.size + 4) (by omega) (by omega) (by omega) hk1.1 hk1.2 hst hmr (by simpa using q0) y0 hsr hbr
 case done =>
  rintro D ys W hD rfl ⟨⟨l, him, hlk⟩, hcnt, hfr, hsb, hbe⟩ hK
  have hsz : W0.heap.size ≤ W.heap.size := hbe.size
  have hd : ∀ j, W.cell? ⟨w1.heap.size, j, none⟩ = (#[.int .i64 a0, .int .i64 a1, .int .i64 a2, .int .i64 a3, .int .i64 a4, .int .i64 a5, .int .i64 a6, .int .i64 a7, .int .i64 a8, .slice A1 l1.length c1, .int .i64 N] : Array Value)[j]? := fun j => (hsb.cell (p := ⟨w1.heap.size, j, none⟩) (by simp; omega) (by simp) (by show w1.heap.size ≠ _; omega)).trans (HC.out j)
  have e2 : W.cell? ⟨w1.heap.size + 1 + 1, 0, none⟩ = some (.map (some (w1.heap.size + 1))) := (hsb.cell (p := ⟨w1.heap.size + 1 + 1, 0, none⟩) (by simp; omega) (by simp) (by simp)).trans c2
  have hBW : Below w.heap.size w W := by
   have b1 := hBw.trans (hB01.mono hBw.size)
   have b2 : Below w.heap.size W0 W := ⟨hbe.os, hbe.tape, hbe.output, hbe.size, fun k hk => hsb k (by have := hBw.size; omega) (by have := hBw.size; omega) (by have := hBw.size; omega)⟩
   exact b1.trans b2
  have ez : ∀ j, W.cell? ⟨w.heap.size + 1 + 1, j, none⟩ = w1.cell? ⟨w.heap.size + 1 + 1, j, none⟩ := fun j => (hsb.cell (p := ⟨w.heap.size + 1 + 1, j, none⟩) (by simp; omega) (by simp; omega) (by simp; omega)).trans (hB01.cell (p := ⟨w.heap.size + 1 + 1, j, none⟩) n2)
  have ef : ∀ j, W.frozen? ⟨w.heap.size + 1 + 1, j, none⟩ = w1.frozen? ⟨w.heap.size + 1 + 1, j, none⟩ := fun j => (World.frozen?_of_block (a := ⟨w.heap.size + 1 + 1, j, none⟩) (hsb _ (by simp; omega) (by simp; omega) (by simp; omega))).trans (hB01.frozen (p := ⟨w.heap.size + 1 + 1, j, none⟩) n2)
  have z0 := (ez 0).trans cz0
  have z1 := (ez 1).trans cz1
  have y0 := (ef 0).trans fz0
  have y1 := (ef 1).trans fz1
  have l6 : W.cell? ⟨w1.heap.size, 6, none⟩ = some (.int .i64 a6) := hd 6
  have l7 : W.cell? ⟨w1.heap.size, 7, none⟩ = some (.int .i64 a7) := hd 7
  have HIM := Aside0.mk him
  have HLK := Aside0.mk hlk
  have HKK := Aside0.mk hK
  have HBW := Aside0.mk hBW
  clear hd ez ef hsb hbe him hlk hK hBW cz0 cz1 fz0 fz1 c2 c3 f3 c6 c7 cl hmap
  gi_wp2_with (gi_at_range; refine wpListIn_range_im _ rfl _ 67 rfl Tryd.underlying67 (w1.heap.size + 1) rfl HIM.out ?_; intro w2 q1 q2 q3)
  go_frame
  have hspan : ∀ p ∈ l, ∃ s, p.2 = spanV s := fun p hp => by
   have h1 := (mem_look HIM.out.nodup p).1 hp
   rw [HLK.out] at h1
   cases h2 : (f (List.finRange m)).1 p.1 with
   | none => rw [h2] at h1; cases h1
   | some s => rw [h2] at h1; exact ⟨s, (Option.some.inj h1).symm⟩
  have hl31 : l.length ≤ 31 := Nat.le_trans (keys_len (g0 := a6) (m := m) HIM.out.nodup (fun p hp => lagsAll_keys (lo := heatLo a0 a2 a4 a8 l1) (hi := heatHi a1 a3 a5 a8 l1) (lev := lev) (n := N) (pre := List.finRange m) (by
   rw [← HF.out]
   have h1 := (mem_look HIM.out.nodup p).1 hp
   rw [HLK.out] at h1
   intro e
   rw [e] at h1
   cases h1))) hm31
  have HSP := Aside0.mk hspan
  have HQ := Aside0.mk (And.intro q1 (And.intro q2 q3))
  clear hspan q1 q2 q3
  gi_loopw [17] (fun v wr => CollI W (w1.heap.size + 1) l v wr) (fun _ wr => l.length - came wr W.heap.size)
  case atStart =>
   have g := HQ.out.2.1
   exact ⟨[], [], HQ.out.1, World.ownsRow_nil _ _ _ _, by simp, Nat.le_refl _, by simp, fun i hi => g.block i hi (by simp), ⟨g.os, g.tape, g.output, g.size, fun k hk => by omega⟩, by have := HQ.out.2.2; omega⟩
  case round =>
   obtain ⟨done, Zs, hit, hrow, hnil, hlen, hmem, hsame, hbelow, hsize⟩ := hrel
   gi_wp2_with (gi_at_next; refine wpListIn_next_im _ rfl _ rfl (w1.heap.size + 1) W.heap.size rfl hit ?_ ?_)
   ·
    intro hall
    have hperm := iiter_perm hit (fun p hp => hall p.1 p.2 hp)
    have hv := vals_mem (S := f (List.finRange m)) (a6 := a6) (m := m) HLK.out HIM.out.nodup (fun g hg => lagsAll_keys (lo := heatLo a0 a2 a4 a8 l1) (hi := heatHi a1 a3 a5 a8 l1) (lev := lev) (n := N) (pre := List.finRange m) (by rw [← HF.out]; exact hg)) hperm hmem
    have hw1W : w1.heap.size + 5 ≤ W.heap.size := by omega
    have cW : ∀ p : Addr, p.block < W.heap.size → wr.cell? p = W.cell? p := fun p hp => World.cell?_of_block (hsame _ hp)
    have fW : ∀ p : Addr, p.block < W.heap.size → wr.frozen? p = W.frozen? p := fun p hp => World.frozen?_of_block (hsame _ hp)
    replace z0 := (cW ⟨w.heap.size + 1 + 1, 0, none⟩ (by simp; omega)).trans z0
    replace z1 := (cW ⟨w.heap.size + 1 + 1, 1, none⟩ (by simp; omega)).trans z1
    replace y0 := (fW ⟨w.heap.size + 1 + 1, 0, none⟩ (by simp; omega)).trans y0
    replace y1 := (fW ⟨w.heap.size + 1 + 1, 1, none⟩ (by simp; omega)).trans y1
    replace l6 := (cW ⟨w1.heap.size, 6, none⟩ (by simp; omega)).trans l6
    replace l7 := (cW ⟨w1.heap.size, 7, none⟩ (by simp; omega)).trans l7
    replace hcnt := (cW ⟨w1.heap.size + 1 + 1 + 1, 0, none⟩ (by simp; omega)).trans hcnt
    have hDr : wr.heap[D]? = some (.deferred (some [])) := (hsame D (Array.getElem?_eq_some_iff.1 HKK.out).1).trans HKK.out
    have HDR := Aside0.mk hDr
    have HV := Aside0.mk (And.intro hv (And.intro hsame (And.intro hbelow hrow)))
    have HITX := Aside0.mk hit
    clear hv hsame hbelow hDr cW fW hperm hmem hit
    rcases nil_or_snoc Zs with rfl | ⟨Z0, last, rfl⟩
    ·
     obtain rfl := hnil.2 rfl
     have hBr : Below w.heap.size w wr := HBW.out.trans ⟨HV.out.2.2.1.os, HV.out.2.2.1.tape, HV.out.2.2.1.output, HV.out.2.2.1.size, fun j hj => HV.out.2.1 j (by have := HBW.out.size; omega)⟩
     have hres : firstOut (f (List.finRange m)) a6 m = (0, 0, 0) := by
      have hv : vals (f (List.finRange m)) a6 m = [] := List.eq_nil_iff_forall_not_mem.2 (fun z hz => by have := (HV.out.1 z).2 hz; simp at this)
      unfold firstOut
      rw [if_pos hv]
     have HR0 := Aside0.mk hres
     clear hres
     gi_wp2
     obtain ⟨t0, t1, t2, t3, t4⟩ := two_set (.int .i64 0) (.int .i64 0) z0 z1 y0 y1
     obtain ⟨X, hX⟩ : ∃ X, X = (wr.setCell ⟨w.heap.size + 1 + 1, 0, none⟩ (.int .i64 0)).setCell ⟨w.heap.size + 1 + 1, 1, none⟩ (.int .i64 0) := ⟨_, rfl⟩
     have hDX : X.heap[D]? = some (.deferred (some [])) := by
      rw [hX, Below.heap_setCell _ _ _ _ (by simp; omega), Below.heap_setCell _ _ _ _ (by simp; omega)]; exact HDR.out
     have hbX : Below w.heap.size w X := by
      rw [hX]
      exact (hBr.setCell (by simp; omega) _).setCell (by simp; omega) _
     rw [← hX] at t0 t1 t4 ⊢
     have hDs : D < X.heap.size := (Array.getElem?_eq_some_iff.1 hDX).1
     clear hX
     refine ⟨by simp, .inl ⟨_, _, rfl, run_takeDeferred hDX, ?_⟩⟩
     have c0' : (X.putObj D (.deferred none)).cell? ⟨w.heap.size + 1 + 1, 0, none⟩ = some (.int .i64 0) := (World.cell?_of_block (a := ⟨w.heap.size + 1 + 1, 0, none⟩) (World.putObj_heap_other (by simp; omega))).trans t0
     have c1' : (X.putObj D (.deferred none)).cell? ⟨w.heap.size + 1 + 1, 1, none⟩ = some (.int .i64 0) := (World.cell?_of_block (a := ⟨w.heap.size + 1 + 1, 1, none⟩) (World.putObj_heap_other (by simp; omega))).trans t1
     refine ⟨.tuple #[.agg #[.int .i64 0, .int .i64 0], .int .u8 0, .int .i64 0], by simp [results, Tryd.results10, go_sem, c0', c1'], by rw [← HRES.out, HR0.out], ?_⟩
     exact hbX.grown (grownBy_putObj' X D _) hbX.size (fun k e => by cases e; omega)
    ·
     have hrow3 := HV.out.2.2.2
     rw [List.length_append] at hrow3
     simp only [List.length_cons, List.length_nil, Nat.zero_add] at hrow3
     obtain ⟨g', cap', rfl⟩ := ownsRow_succ hrow3
     have hBr : Below w.heap.size w wr := HBW.out.trans ⟨HV.out.2.2.1.os, HV.out.2.2.1.tape, HV.out.2.2.1.output, HV.out.2.2.1.size, fun j hj => HV.out.2.1 j (by have := HBW.out.size; omega)⟩
     have hlz : Z0.length + 1 ≤ 31 := by have := iiter_len HITX.out; have h2 := hlen; rw [List.length_append] at h2; simp only [List.length_cons, List.length_nil] at h2; omega
     obtain ⟨z, hz⟩ : ∃ z, wide (Z0 ++ [last]) = z := ⟨_, rfl⟩
     have hres : ∀ kn : Int, kn = (if (f (List.finRange m)).2 = m then 2 else 1) → firstOut (f (List.finRange m)) a6 m = (z.1, z.2, kn) := fun kn hkn => by
      have hw := wide_same (xs := Z0 ++ [last]) (by simp) HV.out.1
      have hv : vals (f (List.finRange m)) a6 m ≠ [] := List.ne_nil_of_mem ((HV.out.1 last).1 (by simp))
      unfold firstOut
      rw [if_neg hv, ← hw, hz, hkn]
     have hwd := widest g' cap' (W.heap.size + 1) (Z0 ++ [last]) (by simp) (by simp; omega) wr (by rw [List.length_append]; exact hrow3)
     rw [hz, List.length_append, List.length_cons, List.length_nil, Nat.zero_add] at hwd
     have HWD := Aside0.mk hwd
     have HR0 := Aside0.mk hres
     clear hwd hres hrow3 hz
     have hne0 : ((Z0.length : Int) + 1 == 0) = false := by simp; omega
     have hm2 : a7 - a6 + 1 = (m : Int) := by have := HM.out; omega
     by_cases hsu : (f (List.finRange m)).2 = m
     ·
      gi_wp2
      refine ⟨trivial, (callsIn_wide.2 HWD.out).mono ?_⟩
      rintro e w5 ⟨rfl, hb5⟩
      have hs5 := hb5.size
      have hws := HV.out.2.2.1.size
      replace z0 := (hb5.cell (p := ⟨w.heap.size + 1 + 1, 0, none⟩) (by simp; omega)).trans z0
      replace z1 := (hb5.cell (p := ⟨w.heap.size + 1 + 1, 1, none⟩) (by simp; omega)).trans z1
      replace y0 := (hb5.frozen (p := ⟨w.heap.size + 1 + 1, 0, none⟩) (by simp; omega)).trans y0
      replace y1 := (hb5.frozen (p := ⟨w.heap.size + 1 + 1, 1, none⟩) (by simp; omega)).trans y1
      have HDR5 := Aside0.mk ((hb5.block D (Array.getElem?_eq_some_iff.1 HDR.out).1).trans HDR.out)
      have hB5 := hBr.trans (hb5.mono hBr.size)
      have HR5 := Aside0.mk (HR0.out 2 (by rw [if_pos hsu]))
      clear hb5
      gi_wp2
      obtain ⟨t0, t1, t2, t3, t4⟩ := two_set (.int .i64 z.1) (.int .i64 z.2) z0 z1 y0 y1
      obtain ⟨X, hX⟩ : ∃ X, X = (w5.setCell ⟨w.heap.size + 1 + 1, 0, none⟩ (.int .i64 z.1)).setCell ⟨w.heap.size + 1 + 1, 1, none⟩ (.int .i64 z.2) := ⟨_, rfl⟩
      have hDX : X.heap[D]? = some (.deferred (some [])) := by
       rw [hX, Below.heap_setCell _ _ _ _ (by simp; omega), Below.heap_setCell _ _ _ _ (by simp; omega)]; exact HDR5.out
      have hbX : Below w.heap.size w X := by
       rw [hX]
       exact (hB5.setCell (by simp; omega) _).setCell (by simp; omega) _
      rw [← hX] at t0 t1 t4 ⊢
      have hDs : D < X.heap.size := (Array.getElem?_eq_some_iff.1 hDX).1
      clear hX
      refine ⟨by simp, .inl ⟨_, _, rfl, run_takeDeferred hDX, ?_⟩⟩
      have c0' : (X.putObj D (.deferred none)).cell? ⟨w.heap.size + 1 + 1, 0, none⟩ = some (.int .i64 z.1) := (World.cell?_of_block (a := ⟨w.heap.size + 1 + 1, 0, none⟩) (World.putObj_heap_other (by simp; omega))).trans t0
      have c1' : (X.putObj D (.deferred none)).cell? ⟨w.heap.size + 1 + 1, 1, none⟩ = some (.int .i64 z.2) := (World.cell?_of_block (a := ⟨w.heap.size + 1 + 1, 1, none⟩) (World.putObj_heap_other (by simp; omega))).trans t1
      refine ⟨.tuple #[.agg #[.int .i64 z.1, .int .i64 z.2], .int .u8 2, .int .i64 0], by simp [results, Tryd.results10, go_sem, c0', c1'], by rw [← HRES.out, HR5.out], ?_⟩
      exact hbX.grown (grownBy_putObj' X D _) hbX.size (fun k e => by cases e; omega)
     ·
      gi_wp2
      refine ⟨trivial, (callsIn_wide.2 HWD.out).mono ?_⟩
      rintro e w5 ⟨rfl, hb5⟩
      have hs5 := hb5.size
      have hws := HV.out.2.2.1.size
      replace z0 := (hb5.cell (p := ⟨w.heap.size + 1 + 1, 0, none⟩) (by simp; omega)).trans z0
      replace z1 := (hb5.cell (p := ⟨w.heap.size + 1 + 1, 1, none⟩) (by simp; omega)).trans z1
      replace y0 := (hb5.frozen (p := ⟨w.heap.size + 1 + 1, 0, none⟩) (by simp; omega)).trans y0
      replace y1 := (hb5.frozen (p := ⟨w.heap.size + 1 + 1, 1, none⟩) (by simp; omega)).trans y1
      have HDR5 := Aside0.mk ((hb5.block D (Array.getElem?_eq_some_iff.1 HDR.out).1).trans HDR.out)
      have hB5 := hBr.trans (hb5.mono hBr.size)
      have HR5 := Aside0.mk (HR0.out 1 (by rw [if_neg hsu]))
      clear hb5
      gi_wp2
      obtain ⟨t0, t1, t2, t3, t4⟩ := two_set (.int .i64 z.1) (.int .i64 z.2) z0 z1 y0 y1
      obtain ⟨X, hX⟩ : ∃ X, X = (w5.setCell ⟨w.heap.size + 1 + 1, 0, none⟩ (.int .i64 z.1)).setCell ⟨w.heap.size + 1 + 1, 1, none⟩ (.int .i64 z.2) := ⟨_, rfl⟩
      have hDX : X.heap[D]? = some (.deferred (some [])) := by
       rw [hX, Below.heap_setCell _ _ _ _ (by simp; omega), Below.heap_setCell _ _ _ _ (by simp; omega)]; exact HDR5.out
      have hbX : Below w.heap.size w X := by
       rw [hX]
       exact (hB5.setCell (by simp; omega) _).setCell (by simp; omega) _
      rw [← hX] at t0 t1 t4 ⊢
      have hDs : D < X.heap.size := (Array.getElem?_eq_some_iff.1 hDX).1
      clear hX
      refine ⟨by simp, .inl ⟨_, _, rfl, run_takeDeferred hDX, ?_⟩⟩
      have c0' : (X.putObj D (.deferred none)).cell? ⟨w.heap.size + 1 + 1, 0, none⟩ = some (.int .i64 z.1) := (World.cell?_of_block (a := ⟨w.heap.size + 1 + 1, 0, none⟩) (World.putObj_heap_other (by simp; omega))).trans t0
      have c1' : (X.putObj D (.deferred none)).cell? ⟨w.heap.size + 1 + 1, 1, none⟩ = some (.int .i64 z.2) := (World.cell?_of_block (a := ⟨w.heap.size + 1 + 1, 1, none⟩) (World.putObj_heap_other (by simp; omega))).trans t1
      refine ⟨.tuple #[.agg #[.int .i64 z.1, .int .i64 z.2], .int .u8 1, .int .i64 0], by simp [results, Tryd.results10, go_sem, c0', c1'], by rw [← HRES.out, HR5.out], ?_⟩
      exact hbX.grown (grownBy_putObj' X D _) hbX.size (fun k e => by cases e; omega)
   ·
    intro g pv w3 hpl hpd hit3 hg3 hs3 hen
    obtain ⟨s, hs⟩ := HSP.out _ hpl
    simp only at hs
    subst hs
    simp only [spanV] at hen
    have hrow3 := row_kept hrow hg3 (by omega)
    have hlz : Zs.length ≤ 31 := Nat.le_trans hlen (Nat.le_trans (iiter_len hit) hl31)
    obtain ⟨i0, hi, hz0', hz1', hz2'⟩ := info_parts info23
    have HI := Aside0.mk (And.intro hi (And.intro hz0' (And.intro hz1' hz2')))
    clear hi hz0' hz1' hz2'
    have HR3 := Aside0.mk hrow3
    have HH := Aside0.mk (And.intro hrow (And.intro hlen (And.intro hmem (And.intro hsame (And.intro hbelow hg3)))))
    have HIT := Aside0.mk (And.intro hit hit3)
    clear hrow3 hrow hmem hsame hbelow hg3 hit hit3
    have hmix : Tryd.prog.follows .mixedOrders = true := by kernel_rfl
    rcases nil_or_snoc Zs with rfl | ⟨Z0, last, rfl⟩
    ·
     obtain rfl := hnil.2 rfl
     gi_wp2
     gi_quiet (fail)
     obtain ⟨X, hX⟩ : ∃ X, X = (w3.alloc (.cells #[.int .i64 s.1, .int .i64 s.2] 23)).drewN nq := ⟨_, rfl⟩
     rw [← hX]
     have gX : w3.grownBy X none := by rw [hX]; exact (World.grownBy_alloc _ _ _).trans (grown_drewN _ _)
     have xs0 : X.cell? ⟨wr.heap.size, 0, none⟩ = some (.int .i64 s.1) := by rw [hX, ← hs3]; simp [go_sem]
     have xs1 : X.cell? ⟨wr.heap.size, 1, none⟩ = some (.int .i64 s.2) := by rw [hX, ← hs3]; simp [go_sem]
     have hXs : W.heap.size + 1 ≤ X.heap.size := by have := gX.size; omega
     have HX2 := Aside0.mk (row_none HR3.out gX)
     have HXX := Aside0.mk hX
     have HGX := Aside0.mk gX
     clear hX gX
     gi_wp2_with (gi_at_builtin; refine wpListIn_append_own _ rfl _ _ 73 rfl (W.heap.size + 1) 23 i0 (.agg #[.int .i64 0, .int .i64 0]) 2 16 Tryd.underlying73 HI.out.1 HI.out.2.1 HI.out.2.2.1 HI.out.2.2.2 rfl (by decide) _ _ _ rfl (HX2.out.alloc _) ⟨X.heap.size, 0, none⟩ 1 1 [.int .i64 s.1, .int .i64 s.2] rfl rfl (World.news_of_block (cs := #[.int .i64 s.1, .int .i64 s.2]) (t := 23) (fr := (0, 0)) (heap_alloc_new X _)) (by simp [Value.oneCell']) (by unfold maxLen; omega) (by omega) (by simp; omega) ?_; intro v' w4 hown' hgrow hnil')
     have gX := HGX.out
     have kx : ∀ i, i < W.heap.size + 1 → w4.heap[i]? = w3.heap[i]? := fun i hi => by
      have hx := gX.block i (by omega) (by simp)
      refine (hgrow.block i (by simp; omega) ?_).trans ((Below.heap_alloc _ _ _ (by omega)).trans hx)
      exact fun e => by have := (HX2.out.lt i e.symm).1; omega
     have bx : Below 0 w3 w4 := ⟨hgrow.os.trans gX.os, hgrow.tape.trans gX.tape, hgrow.output.trans gX.output, by have := hgrow.size; have := gX.size; simp at *; omega, fun k hk => by omega⟩
     exact collI_next (Zs' := [] ++ [s]) HIT.out.1 HIT.out.2 (by have := HBW.out; omega) HH.out.2.2.2.2.2 HH.out.2.2.2.1 HH.out.2.2.2.2.1 hsize kx bx (by rw [flat_append, List.length_append]; exact hown') (by simp [hnil']) (by rw [List.length_append]; exact Nat.add_le_add_right HH.out.2.1 1) (mem_next HH.out.2.2.1)
    ·
     have hrow3 := HR3.out
     rw [List.length_append] at hrow3 hlz
     simp only [List.length_cons, List.length_nil, Nat.zero_add] at hrow3 hlz
     obtain ⟨g', cap', rfl⟩ := ownsRow_succ hrow3
     have hg' : g' < w3.heap.size := (hrow3.lt g' rfl).2
     have hcl := flat_get (Z0 ++ [last]) Z0.length (by simp)
     have k0 := hrow3.cells (g := g') rfl (2 * Z0.length) _ hcl.1
     have k1 := hrow3.cells (g := g') rfl (2 * Z0.length + 1) _ hcl.2
     rw [add_plain] at k0 k1
     simp only [List.getElem_append_right (Nat.le_refl _), Nat.sub_self, List.getElem_cons_zero] at k0 k1
     have hd : ((Z0.length : Int) + 1 == 0) = false := by simp; omega
     have hcap : Z0.length + 1 ≤ cap' := by
      rcases hrow3.2 with ⟨h, _⟩ | ⟨_, c, _, h, _, _, h2, _⟩
      ·
       cases h
      ·
       injection h with _ _ h; subst h; exact h2
     clear hcl hrow3
     gi_wp2
     obtain ⟨Y, hY⟩ : ∃ Y, Y = w3.alloc (.cells #[.int .i64 s.1, .int .i64 s.2] 23) := ⟨_, rfl⟩
     rw [← hY]
     have s0 : Y.cell? ⟨wr.heap.size, 0, none⟩ = some (.int .i64 s.1) := by rw [hY, ← hs3]; simp [go_sem]
     have s1 : Y.cell? ⟨wr.heap.size, 1, none⟩ = some (.int .i64 s.2) := by rw [hY, ← hs3]; simp [go_sem]
     have k0' : Y.cell? ⟨g', Z0.length * 2, none⟩ = some (.int .i64 last.1) := by rw [hY, Nat.mul_comm]; exact (World.cell?_alloc_lt _ _ _ hg').trans k0
     have k1' : Y.cell? ⟨g', Z0.length * 2 + 1, none⟩ = some (.int .i64 last.2) := by rw [hY, Nat.mul_comm]; exact (World.cell?_alloc_lt _ _ _ hg').trans k1
     clear k0 k1
     have HY := Aside0.mk hY
     clear hY
     by_cases hsl : s = last
     ·
      subst hsl
      gi_quiet (fail)
      gi_wp2
      have gX : w3.grownBy (Y.drewN nq) none := by rw [HY.out]; exact (World.grownBy_alloc _ _ _).trans (grown_drewN _ _)
      have kx : ∀ i, i < W.heap.size + 1 → (Y.drewN nq).heap[i]? = w3.heap[i]? := fun i hi => gX.block i (by omega) (by simp)
      have bx : Below 0 w3 (Y.drewN nq) := ⟨gX.os, gX.tape, gX.output, gX.size, fun k hk => by omega⟩
      exact collI_next (Zs' := Z0 ++ [s]) HIT.out.1 HIT.out.2 (by have := HBW.out; omega) HH.out.2.2.2.2.2 HH.out.2.2.2.1 HH.out.2.2.2.2.1 hsize kx bx (row_none HR3.out gX) hnil (Nat.le_succ_of_le HH.out.2.1) (mem_again HH.out.2.2.1 (by simp))
     ·
      have hb : (!(s.1 == last.1) || !(s.2 == last.2)) = true := by
       rcases Classical.em (s.1 = last.1) with h1 | h1
       ·
        have h2 : s.2 ≠ last.2 := fun h2 => hsl (Prod.ext h1 h2)
        simp [h2]
       ·
        simp [h1]
      gi_quiet (fail)
      obtain ⟨X, hX⟩ : ∃ X, X = Y.drewN nq := ⟨_, rfl⟩
      rw [← hX]
      have gX : w3.grownBy X none := by rw [hX, HY.out]; exact (World.grownBy_alloc _ _ _).trans (grown_drewN _ _)
      have xs0 : X.cell? ⟨wr.heap.size, 0, none⟩ = some (.int .i64 s.1) := by rw [hX]; assumption
      have xs1 : X.cell? ⟨wr.heap.size, 1, none⟩ = some (.int .i64 s.2) := by rw [hX]; assumption
      have hXs : W.heap.size + 1 ≤ X.heap.size := by have := gX.size; omega
      have HX2 := Aside0.mk (row_none HR3.out gX)
      rw [List.length_append, List.length_cons, List.length_nil, Nat.zero_add] at HX2
      have HXX := Aside0.mk hX
      have HGX := Aside0.mk gX
      clear hX gX
      gi_wp2_with (gi_at_builtin; refine wpListIn_append_own _ rfl _ _ 73 rfl (W.heap.size + 1) 23 i0 (.agg #[.int .i64 0, .int .i64 0]) 2 16 Tryd.underlying73 HI.out.1 HI.out.2.1 HI.out.2.2.1 HI.out.2.2.2 rfl (by decide) _ _ _ rfl (HX2.out.alloc _) ⟨X.heap.size, 0, none⟩ 1 1 [.int .i64 s.1, .int .i64 s.2] rfl rfl (World.news_of_block (cs := #[.int .i64 s.1, .int .i64 s.2]) (t := 23) (fr := (0, 0)) (heap_alloc_new X _)) (by simp [Value.oneCell']) (by unfold maxLen; omega) (by omega) (by simp; omega) ?_; intro v' w4 hown' hgrow hnil')
      have gX := HGX.out
      have kx : ∀ i, i < W.heap.size + 1 → w4.heap[i]? = w3.heap[i]? := fun i hi => by
       have hx := gX.block i (by omega) (by simp)
       refine (hgrow.block i (by simp; omega) ?_).trans ((Below.heap_alloc _ _ _ (by omega)).trans hx)
       exact fun e => by have := (HX2.out.lt i e.symm).1; omega
      have bx : Below 0 w3 w4 := ⟨hgrow.os.trans gX.os, hgrow.tape.trans gX.tape, hgrow.output.trans gX.output, by have := hgrow.size; have := gX.size; simp at *; omega, fun k hk => by omega⟩
      exact collI_next (Zs' := (Z0 ++ [last]) ++ [s]) HIT.out.1 HIT.out.2 (by have := HBW.out; omega) HH.out.2.2.2.2.2 HH.out.2.2.2.1 HH.out.2.2.2.2.1 hsize kx bx (by rw [flat_append, List.length_append, List.length_append]; exact hown') (by simp [hnil']) (by rw [List.length_append]; exact Nat.add_le_add_right HH.out.2.1 1) (mem_next HH.out.2.2.1)
end Go.Proofs.YtdnkjdekikjihaaDoor.G
