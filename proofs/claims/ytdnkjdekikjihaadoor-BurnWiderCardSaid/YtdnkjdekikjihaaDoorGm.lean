import Derived.Test.YtdnkjdekikjihaaDoorGi
namespace Go.Proofs.YtdnkjdekikjihaaDoor.G

/-! ### What a wider hood tells -/
theorem mul_mono {a b c d : Int} (h0 : 0 ≤ a) (h1 : a ≤ b) (h2 : 0 ≤ c) (h3 : c ≤ d) : a * c ≤ b * d :=
 Int.mul_le_mul h1 h3 h2 (by omega)
theorem heatLo_wider {b b' f f' j j' d d' : Int} {l : List Int} {k g : Int} (hb : b' ≤ b) (hf0 : 0 ≤ f') (hf : f' ≤ f) (hj0 : 0 ≤ j') (hj : j' ≤ j) (hd : d ≤ d') : heatLo b' f' j' d' l k g ≤ heatLo b f j d l k g := by
 unfold heatLo
 exact mul_mono (Int.mul_nonneg hj0 hf0) (mul_mono hj0 hj hf0 hf) (by omega) (by omega)
theorem heatHi_wider {b b' f f' j j' d d' : Int} {l : List Int} {k g : Int} (hb : b ≤ b') (hf0 : 0 ≤ f) (hf : f ≤ f') (hj0 : 0 ≤ j) (hj : j ≤ j') (hd : d ≤ d') : heatHi b f j d l k g ≤ heatHi b' f' j' d' l k g := by
 unfold heatHi
 exact mul_mono (Int.mul_nonneg hj0 hf0) (mul_mono hj0 hj hf0 hf) (by omega) (by omega)
theorem heat_le {b0 b1 f0 f1 j0 j1 d : Int} {l : List Int} {k g : Int} (hb : b0 ≤ b1) (hf0 : 0 ≤ f0) (hf : f0 ≤ f1) (hj0 : 0 ≤ j0) (hj : j0 ≤ j1) (hd : 0 ≤ d) : heatLo b0 f0 j0 d l k g ≤ heatHi b1 f1 j1 d l k g := by
 unfold heatLo heatHi
 exact mul_mono (Int.mul_nonneg hj0 hf0) (mul_mono hj0 hj hf0 hf) (by omega) (by omega)
theorem sums_le {f g : Int → Int} {a : Int} : ∀ {n : Nat}, (∀ i, f i ≤ g i) → sums f a n ≤ sums g a n
 | 0, _ => Int.le_refl _
 | n + 1, h => by
  have h1 := sums_le (n := n) (a := a) h
  have h2 := h (a + n)
  simp only [sums]
  omega
/-- Of two collections, each of the first has one in the second that has it. -/
theorem wide_wider {xs ys : List (Int × Int)} (hx : xs ≠ []) (h : ∀ p ∈ xs, ∃ q ∈ ys, q.1 ≤ p.1 ∧ p.2 ≤ q.2) : (wide ys).1 ≤ (wide xs).1 ∧ (wide xs).2 ≤ (wide ys).2 := by
 obtain ⟨_, ⟨p, hp, e1⟩, q, hq, e2⟩ := wide_spec xs hx
 obtain ⟨p', hp', k1, k2⟩ := h p hp
 obtain ⟨q', hq', k3, k4⟩ := h q hq
 have hy : ys ≠ [] := List.ne_nil_of_mem hp'
 obtain ⟨b1, _, _⟩ := wide_spec ys hy
 have c1 := b1 p' hp'
 have c2 := b1 q' hq'
 omega
theorem scan_some {lo hi : Int → Int} {lev : Int} : ∀ {n : Nat}, (scan lo hi lev none n).2 = true → (scan lo hi lev none n).1 ≠ none
 | 0, h => by simp [scan] at h
 | n + 1, h => by
  simp only [scan] at h ⊢
  split at h
  ·
   rename_i h1
   simp only [h1, if_true]
   exact scan_some h1
  ·
   rename_i h1
   simp only [h1] at h ⊢
   split at h
   ·
    simp at h
   ·
    rename_i h2
    simp [h2]
theorem scan_wider {lo hi lo' hi' : Int → Int} {lev : Int} (h1 : ∀ k, lo' k ≤ lo k) (h2 : ∀ k, hi k ≤ hi' k) (h3 : ∀ k, lo k ≤ hi k) : ∀ n : Nat,
  ((scan lo' hi' lev none n).2 = true → (scan lo hi lev none n).2 = true) ∧ ∀ o, (scan lo hi lev none n).1 = some o → ∃ o', (scan lo' hi' lev none n).1 = some o' ∧ o'.1 ≤ o.1 ∧ o.2 ≤ o'.2 := by
 intro n
 induction n with
 | zero => simp [scan]
 | succ n ih =>
  obtain ⟨i1, i2⟩ := ih
  have a1 := h1 n
  have a2 := h2 n
  have a3 := h3 n
  cases hb' : (scan lo' hi' lev none n).2 with
  | true =>
   have hb := i1 hb'
   simp only [scan, hb, hb', if_true]
   exact ⟨fun _ => trivial, i2⟩
  | false =>
   simp only [scan, hb', Bool.false_eq_true, if_false]
   cases hb : (scan lo hi lev none n).2 with
   | true =>
    simp only [if_true]
    refine ⟨fun _ => hb, fun o ho => ?_⟩
    obtain ⟨o', e, k1, k2⟩ := i2 o ho
    split
    ·
     exact ⟨o', e, k1, k2⟩
    ·
     refine ⟨_, rfl, ?_⟩
     rw [e]
     simp only [join]
     omega
   | false =>
    simp only [Bool.false_eq_true, if_false]
    by_cases c : hi n < lev
    ·
     rw [if_pos c]
     by_cases c' : hi' n < lev
     ·
      rw [if_pos c']
      exact ⟨fun h => h, i2⟩
     ·
      rw [if_neg c']
      refine ⟨fun h => ?_, fun o ho => ?_⟩
      ·
       simp only [decide_eq_true_eq] at h; omega
      ·
       obtain ⟨o', e, k1, k2⟩ := i2 o ho
       refine ⟨_, rfl, ?_⟩
       rw [e]
       simp only [join]
       omega
    ·
     rw [if_neg c, if_neg (show ¬ hi' n < lev by omega)]
     refine ⟨fun h => ?_, fun o ho => ?_⟩
     ·
      simp only [decide_eq_true_eq] at h ⊢; omega
     ·
      refine ⟨_, rfl, ?_⟩
      simp only [Option.some.injEq] at ho
      subst ho
      cases he : (scan lo hi lev none n).1 with
      | none =>
       simp only
       cases he' : (scan lo' hi' lev none n).1 with
       | none => simp
       | some o' => simp only [join]; omega
      | some o =>
       obtain ⟨o', e, k1, k2⟩ := i2 o he
       simp only [e, join]
       omega

/-- What the scan of a lag by itself is. -/
def scanAt (lo hi : Int → Int → Int) (lev : Int) (n : Nat) (g : Int) : Option (Int × Int) × Bool := scan (fun k => lo k g) (fun k => hi k g) lev none n
theorem lagsAll_take (lo hi : Int → Int → Int) (lev g0 : Int) (n : Nat) {m : Nat} : ∀ k, k ≤ m →
  (∀ x : Fin m, (lagsAll lo hi lev g0 n ((List.finRange m).take k)).1 (g0 + (x.1 : Int)) = if x.1 < k then (scanAt lo hi lev n (g0 + (x.1 : Int))).1 else none) ∧
  ((lagsAll lo hi lev g0 n ((List.finRange m).take k)).2 = k ↔ ∀ x : Fin m, x.1 < k → (scanAt lo hi lev n (g0 + (x.1 : Int))).2 = true) := by
 intro k
 induction k with
 | zero => intro _; simp [lagsAll]
 | succ k ih =>
  intro hk
  obtain ⟨h1, h2⟩ := ih (by omega)
  have hc := lagsAll_count lo hi lev g0 n ((List.finRange m).take k)
  rw [finRange_take_length (by omega)] at hc
  rw [finRange_take_succ (show k < m by omega), lagsAll_snoc]
  have e : (lagsAll lo hi lev g0 n ((List.finRange m).take k)).1 (g0 + (k : Int)) = none := by
   have := h1 ⟨k, by omega⟩
   simpa using this
  constructor
  ·
   intro x
   simp only [lagStep, e]
   by_cases hx : x.1 = k
   ·
    rw [hx]
    simp [scanAt]
   ·
    rw [if_neg (by omega), h1 x]
    by_cases h : x.1 < k
    ·
     rw [if_pos h, if_pos (by omega)]
    ·
     rw [if_neg h, if_neg (by omega)]
  ·
   simp only [lagStep, e]
   have es : (scanAt lo hi lev n (g0 + (k : Int))) = scan (fun k_1 => lo k_1 (g0 + (k : Int))) (fun k_1 => hi k_1 (g0 + (k : Int))) lev none n := rfl
   rw [← es]
   constructor
   ·
    intro h x hx
    have hs : (scanAt lo hi lev n (g0 + (k : Int))).2 = true := by
     cases hh : (scanAt lo hi lev n (g0 + (k : Int))).2 with
     | true => rfl
     | false => rw [hh] at h; simp at h; omega
    rw [hs] at h
    simp only [if_true] at h
    by_cases hxk : x.1 = k
    ·
     rw [hxk]; exact hs
    ·
     exact h2.1 (by omega) x (by omega)
   ·
    intro h
    have hs := h ⟨k, by omega⟩ (by simp)
    simp only at hs
    rw [hs]
    simp only [if_true]
    have := h2.2 (fun x hx => h x (by omega))
    omega
theorem lagsAll_all (lo hi : Int → Int → Int) (lev g0 : Int) (n m : Nat) :
  (∀ x : Fin m, (lagsAll lo hi lev g0 n (List.finRange m)).1 (g0 + (x.1 : Int)) = (scanAt lo hi lev n (g0 + (x.1 : Int))).1) ∧
  ((lagsAll lo hi lev g0 n (List.finRange m)).2 = m ↔ ∀ x : Fin m, (scanAt lo hi lev n (g0 + (x.1 : Int))).2 = true) := by
 obtain ⟨h1, h2⟩ := lagsAll_take lo hi lev g0 n (m := m) m (Nat.le_refl _)
 rw [finRange_take_all] at h1 h2
 exact ⟨fun x => by rw [h1 x, if_pos x.2], by rw [h2]; exact ⟨fun h x => h x x.2, fun h x _ => h x⟩⟩
theorem vals_is (lo hi : Int → Int → Int) (lev g0 : Int) (n m : Nat) (z : Int × Int) :
  z ∈ vals (lagsAll lo hi lev g0 n (List.finRange m)) g0 m ↔ ∃ g, g0 ≤ g ∧ g < g0 + m ∧ (scanAt lo hi lev n g).1 = some z := by
 obtain ⟨h1, _⟩ := lagsAll_all lo hi lev g0 n m
 unfold vals
 rw [List.mem_filterMap]
 constructor
 ·
  rintro ⟨x, _, hx⟩
  rw [h1 x] at hx
  exact ⟨_, by omega, by have := x.2; omega, hx⟩
 ·
  rintro ⟨g, a, b, hg⟩
  refine ⟨⟨(g - g0).toNat, by omega⟩, List.mem_finRange _, ?_⟩
  rw [h1]
  rw [show g0 + ((((⟨(g - g0).toNat, by omega⟩ : Fin m)).1 : Nat) : Int) = g by show g0 + (((g - g0).toNat : Nat) : Int) = g; omega]
  exact hg
theorem sure_is (lo hi : Int → Int → Int) (lev g0 : Int) (n m : Nat) :
  (lagsAll lo hi lev g0 n (List.finRange m)).2 = m ↔ ∀ g, g0 ≤ g → g < g0 + m → (scanAt lo hi lev n g).2 = true := by
 obtain ⟨_, h2⟩ := lagsAll_all lo hi lev g0 n m
 rw [h2]
 constructor
 ·
  intro h g a b
  have := h ⟨(g - g0).toNat, by omega⟩
  rw [show g0 + ((((⟨(g - g0).toNat, by omega⟩ : Fin m)).1 : Nat) : Int) = g by show g0 + (((g - g0).toNat : Nat) : Int) = g; omega] at this
  exact this
 ·
  intro h x
  exact h _ (by omega) (by have := x.2; omega)

/-- First, of a wider hood. -/
theorem first_wider {lo hi lo' hi' : Int → Int → Int} {lev g0 g0' : Int} {n m m' : Nat} (h1 : ∀ k g, lo' k g ≤ lo k g) (h2 : ∀ k g, hi k g ≤ hi' k g) (h3 : ∀ k g, lo k g ≤ hi k g) (hg : g0' ≤ g0) (hm : 0 < m) (hmm : g0' + (m' : Int) = g0 + m)
  {r r' : Int × Int × Int} (hr : firstOut (lagsAll lo hi lev g0 n (List.finRange m)) g0 m = r) (hr' : firstOut (lagsAll lo' hi' lev g0' n (List.finRange m')) g0' m' = r') :
  (r'.2.2 = 1 ∨ r.2.2 = r'.2.2) ∧ (r.2.2 ≠ 0 → r'.1 ≤ r.1 ∧ r.2.1 ≤ r'.2.1) := by
 have W : ∀ g, _ := fun g => scan_wider (lo := fun k => lo k g) (hi := fun k => hi k g) (lo' := fun k => lo' k g) (hi' := fun k => hi' k g) (lev := lev) (fun k => h1 k g) (fun k => h2 k g) (fun k => h3 k g) n
 have V := vals_is lo hi lev g0 n m
 have V' := vals_is lo' hi' lev g0' n m'
 have S := sure_is lo hi lev g0 n m
 have S' := sure_is lo' hi' lev g0' n m'
 have C : ∀ p ∈ vals (lagsAll lo hi lev g0 n (List.finRange m)) g0 m, ∃ q ∈ vals (lagsAll lo' hi' lev g0' n (List.finRange m')) g0' m', q.1 ≤ p.1 ∧ p.2 ≤ q.2 := fun p hp => by
  obtain ⟨g, a, b, e⟩ := (V p).1 hp
  obtain ⟨o', e', k1, k2⟩ := (W g).2 p e
  exact ⟨o', (V' o').2 ⟨g, by omega, by omega, e'⟩, k1, k2⟩
 unfold firstOut at hr hr'
 by_cases c : vals (lagsAll lo hi lev g0 n (List.finRange m)) g0 m = []
 ·
  rw [if_pos c] at hr
  subst hr
  refine ⟨?_, fun h => absurd rfl h⟩
  by_cases c' : vals (lagsAll lo' hi' lev g0' n (List.finRange m')) g0' m' = []
  ·
   rw [if_pos c'] at hr'; subst hr'; exact .inr rfl
  ·
   rw [if_neg c'] at hr'
   by_cases s : (lagsAll lo' hi' lev g0' n (List.finRange m')).2 = m'
   ·
    exfalso
    have hs := S'.1 s g0 hg (by omega)
    have hs2 := (W g0).1 hs
    have := scan_some hs2
    cases hh : (scan (fun k => lo k g0) (fun k => hi k g0) lev none n).1 with
    | none => exact this hh
    | some z =>
     have : z ∈ vals (lagsAll lo hi lev g0 n (List.finRange m)) g0 m := (V z).2 ⟨g0, by omega, by omega, hh⟩
     rw [c] at this; cases this
   ·
    rw [if_neg s] at hr'; subst hr'; exact .inl rfl
 ·
  have hw := wide_wider c C
  have c' : vals (lagsAll lo' hi' lev g0' n (List.finRange m')) g0' m' ≠ [] := by
   obtain ⟨p, hp⟩ := List.exists_mem_of_ne_nil _ c
   obtain ⟨q, hq, _⟩ := C p hp
   exact List.ne_nil_of_mem hq
  rw [if_neg c] at hr
  rw [if_neg c'] at hr'
  subst hr hr'
  refine ⟨?_, fun _ => hw⟩
  by_cases s : (lagsAll lo' hi' lev g0' n (List.finRange m')).2 = m'
  ·
   have : (lagsAll lo hi lev g0 n (List.finRange m)).2 = m := S.2 (fun g a b => (W g).1 (S'.1 s g (by omega) (by omega)))
   rw [if_pos s, if_pos this]
   exact .inr rfl
  ·
   rw [if_neg s]; exact .inl rfl

/-- Sum, of a wider hood. -/
theorem allSum_wider {a0 a1 a2 a3 a4 a5 a6 a7 a8 b0 b1 b2 b3 b4 b5 b6 b8 : Int} {l : List Int} {a : Int} {n : Nat} (h0 : b0 ≤ a0) (h1 : a1 ≤ b1) (g2 : 0 ≤ b2) (h2 : b2 ≤ a2) (g3 : 0 ≤ a3) (h3 : a3 ≤ b3) (g4 : 0 ≤ b4) (h4 : b4 ≤ a4) (g5 : 0 ≤ a5) (h5 : a5 ≤ b5) (h6 : b6 ≤ a6) (h7 : a6 ≤ a7) (h8 : a8 ≤ b8) :
  (allSum b0 b1 b2 b3 b4 b5 b6 a7 b8 l a n).1 ≤ (allSum a0 a1 a2 a3 a4 a5 a6 a7 a8 l a n).1 ∧ (allSum a0 a1 a2 a3 a4 a5 a6 a7 a8 l a n).2 ≤ (allSum b0 b1 b2 b3 b4 b5 b6 a7 b8 l a n).2 := by
 unfold allSum
 refine wide_wider ?_ ?_
 ·
  have : 0 < (a7 - a6 + 1).toNat := by omega
  intro e
  have := congrArg List.length e
  simp at this
  omega
 ·
  intro p hp
  obtain ⟨x, _, rfl⟩ := List.mem_map.1 hp
  have hx := x.2
  refine ⟨_, List.mem_map.2 ⟨⟨(a6 + (x.1 : Int) - b6).toNat, by omega⟩, List.mem_finRange _, rfl⟩, ?_⟩
  have e : b6 + (((a6 + (x.1 : Int) - b6).toNat : Nat) : Int) = a6 + (x.1 : Int) := by omega
  simp only [oneSum, e]
  exact ⟨sums_le (fun i => heatLo_wider h0 g2 h2 g4 h4 h8), sums_le (fun i => heatHi_wider h1 g3 h3 g5 h5 h8)⟩
end Go.Proofs.YtdnkjdekikjihaaDoor.G
