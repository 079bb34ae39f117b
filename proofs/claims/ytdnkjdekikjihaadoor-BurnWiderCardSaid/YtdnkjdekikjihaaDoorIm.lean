import Derived.Maps.RangeWalk
import Derived.Maps.OwnIn
import Derived.Maps.OwnSet
import Derived.WalkKit
import Derived.Sort.MapsRangeIn
namespace Go.Proofs.YtdnkjdekikjihaaDoor.Im
open Go Go.RowKit

/-- Block b is a map with int keys; its entries, in the order in which they were made. -/
def IMap (w : World) (b : Nat) (l : List (Int × Value)) : Prop :=
 ∃ es clock, w.heap[b]? = some (.map es clock) ∧ es.toList.map (fun e => (e.key, e.val)) = l.map (fun p => (Value.int .i64 p.1, p.2)) ∧ (l.map (·.1)).Nodup ∧ (es.toList.map (·.born)).Nodup ∧ ∀ e ∈ es.toList, e.born < clock

/-- The element at a key. -/
def look (l : List (Int × Value)) (x : Int) : Option Value := (l.find? fun p => p.1 == x).map (·.2)
def put (l : List (Int × Value)) (x : Int) (v : Value) : List (Int × Value) := if l.any (fun p => p.1 == x) then l.map (fun p => if p.1 == x then (x, v) else p) else l ++ [(x, v)]
def del (l : List (Int × Value)) (x : Int) : List (Int × Value) := l.filter fun p => p.1 != x

theorem nodup_ix {α β : Type} {f : α → β} {l : List α} (hn : (l.map f).Nodup) {i j : Nat} (hi : i < l.length) (hj : j < l.length) (h : f l[i] = f l[j]) : i = j := by
 have hp := List.pairwise_iff_getElem.1 hn
 rcases Nat.lt_trichotomy i j with q | q | q
 ·
  exact (hp i j (by simpa using hi) (by simpa using hj) q (by simpa using h)).elim
 ·
  exact q
 ·
  exact (hp j i (by simpa using hj) (by simpa using hi) q (by simpa using h.symm)).elim
theorem map_erase {α β : Type} (f : α → β) : ∀ (l : List α) (j : Nat), (l.eraseIdx j).map f = (l.map f).eraseIdx j
 | [], _ => by simp
 | _ :: _, 0 => by simp
 | a :: l, j + 1 => by simp [map_erase f l j]
theorem nodup_len {α : Type} : ∀ (a b : List α), a.Nodup → (∀ x ∈ a, x ∈ b) → a.length ≤ b.length
 | [], _, _, _ => by simp
 | x :: a, b, hn, h => by
  obtain ⟨s, t, rfl⟩ := List.append_of_mem (h x (by simp))
  rw [List.nodup_cons] at hn
  have := nodup_len a (s ++ t) hn.2 (fun y hy => by
   have h1 := h y (by simp [hy])
   have h2 : y ≠ x := fun e => hn.1 (e ▸ hy)
   simp only [List.mem_append, List.mem_cons] at h1 ⊢
   rcases h1 with h1 | h1 | h1
   ·
    exact .inl h1
   ·
    exact (h2 h1).elim
   ·
    exact .inr h1)
  simp only [List.length_append, List.length_cons] at this ⊢
  omega

section
variable {P : Program} {w : World} {b : Nat} {l : List (Int × Value)}

theorem imap_made (w : World) : IMap (w.alloc (.map #[] 0)) w.heap.size [] := ⟨#[], 0, heap_alloc_new w _, by simp, by simp, by simp, by simp⟩
theorem IMap.lt (h : IMap w b l) : b < w.heap.size := by
 obtain ⟨es, clock, hb, _⟩ := h
 exact (Array.getElem?_eq_some_iff.1 hb).1
theorem IMap.same {w' : World} (h : IMap w b l) (hs : w'.heap[b]? = w.heap[b]?) : IMap w' b l := by
 obtain ⟨es, clock, hb, r⟩ := h
 exact ⟨es, clock, hs.trans hb, r⟩

/-- What is found. -/
theorem find_is (x : Int) : ∀ (es : List MapEntry) (l : List (Int × Value)) (i : Nat), es.map (fun e => (e.key, e.val)) = l.map (fun p => (Value.int .i64 p.1, p.2)) →
  Instr.findNow (.int .i64) (.int .i64 x) es i = some ((l.findIdx? fun p => p.1 == x).bind fun j => (l[j]?).map fun p => (i + j, p.2))
 | [], [], _, _ => by simp [Instr.findNow]
 | e :: es, p :: l, i, h => by
  simp only [List.map_cons, List.cons.injEq, Prod.mk.injEq] at h
  obtain ⟨⟨hk, hv⟩, ht⟩ := h
  unfold Instr.findNow
  rw [hk]
  by_cases hx : p.1 = x
  ·
   subst hx
   simp [Instr.sameNow, hv, List.findIdx?_cons]
  ·
   have h1 : (x == p.1) = false := by simpa using fun e => hx e.symm
   have h2 : (p.1 == x) = false := by simpa using hx
   rw [List.findIdx?_cons]
   simp only [Instr.sameNow, if_true, h1, h2]
   rw [find_is x es l (i + 1) ht]
   simp only [Bool.false_eq_true, if_false]
   cases l.findIdx? (fun p => p.1 == x) with
   | none => rfl
   | some j => simp [Nat.add_assoc, Nat.add_comm 1 j]
 | [], _ :: _, _, h => by simp at h
 | _ :: _, [], _, h => by simp at h

abbrev ix (l : List (Int × Value)) (x : Int) : Option Nat := l.findIdx? fun p => p.1 == x
theorem look_ix (l : List (Int × Value)) (x : Int) : look l x = (ix l x).bind fun j => (l[j]?).map (·.2) := by
 unfold look ix
 induction l with
 | nil => rfl
 | cons p l ih =>
  rw [List.find?_cons, List.findIdx?_cons]
  cases h : p.1 == x with
  | true => simp
  | false =>
   simp only [Bool.false_eq_true, if_false]
   rw [ih]
   cases l.findIdx? (fun p => p.1 == x) <;> simp
theorem findKey_run (hk : P.underlying 3 = some (.int .i64)) {es : List MapEntry} (h : es.map (fun e => (e.key, e.val)) = l.map (fun p => (Value.int .i64 p.1, p.2))) (x : Int) :
  (Instr.findKey 3 (.int .i64 x) es).run P w = .ok ((ix l x).bind fun j => (l[j]?).map fun p => (j, p.2)) w := by
 have := find_is x es l 0 h
 simp only [Nat.zero_add] at this
 exact MapKept.run_findKey hk this
theorem checkKey_run (hk : P.underlying 3 = some (.int .i64)) (e : Bool) (x : Int) : (Instr.checkKey e 10000 3 (.int .i64 x)).run P w = .ok () w :=
 MapKept.run_checkKey hk (by simp [MapKept.IsKey]) e 9999
/-- v, ok := m[x] -/
theorem run_lookup_ok (hk : P.underlying 3 = some (.int .i64)) {t e : TypeId} (ht : P.underlying t = some (.map 3 e)) (h : IMap w b l) {z : Value} (hz : (zeroValue e).run P w = .ok z w) (x : Int) :
  (Instr.lookup t (.map (some b)) (.int .i64 x) true).run P w = .ok (.tuple #[(look l x).getD z, .bool (look l x).isSome]) w := by
 obtain ⟨es, clock, hb, he, _⟩ := h
 simp only [Instr.lookup, Sem.run_bind, run_underlying ht, MapKept.run_getObj_map hb, checkKey_run hk, findKey_run hk he, Result.andThen, Sem.run_pure, look_ix]
 cases hi : ix l x with
 | none => simp [hz, Result.andThen]
 | some j =>
  have hj : j < l.length := by
   have := List.findIdx?_eq_some_iff_getElem.1 hi
   exact this.1
  simp [hj]
/-- m[x] -/
theorem run_lookup (hk : P.underlying 3 = some (.int .i64)) {t e : TypeId} (ht : P.underlying t = some (.map 3 e)) (h : IMap w b l) {z : Value} (hz : (zeroValue e).run P w = .ok z w) (x : Int) :
  (Instr.lookup t (.map (some b)) (.int .i64 x) false).run P w = .ok ((look l x).getD z) w := by
 obtain ⟨es, clock, hb, he, _⟩ := h
 simp only [Instr.lookup, Sem.run_bind, run_underlying ht, MapKept.run_getObj_map hb, checkKey_run hk, findKey_run hk he, Result.andThen, Sem.run_pure, look_ix]
 cases hi : ix l x with
 | none => simp [hz, Result.andThen]
 | some j =>
  have hj : j < l.length := by
   have := List.findIdx?_eq_some_iff_getElem.1 hi
   exact this.1
  simp [hj]
/-- m[x] of a nil map -/
theorem run_lookup_nil (hk : P.underlying 3 = some (.int .i64)) {t e : TypeId} (ht : P.underlying t = some (.map 3 e)) {z : Value} (hz : (zeroValue e).run P w = .ok z w) (x : Int) :
  (Instr.lookup t (.map none) (.int .i64 x) false).run P w = .ok z w := by
 have := findKey_run (w := w) (l := []) hk (es := []) rfl x
 simp only [Instr.lookup, Sem.run_bind, run_underlying ht, checkKey_run hk, Result.andThen, Sem.run_pure]
 simp [this, hz, Result.andThen]
theorem any_ix (l : List (Int × Value)) (x : Int) : (l.any fun p => p.1 == x) = (ix l x).isSome := by
 simp [ix]
theorem grown_set {o : Obj} (o' : Obj) (hb : w.heap[b]? = some o) : w.grownBy { w with heap := w.heap.setIfInBounds b o' } (some b) :=
 ⟨rfl, rfl, rfl, by simp, fun k _ hne => (MapKept.heap_set hb).2 k (fun e => hne (by rw [e]))⟩
theorem put_hit {x : Int} {j : Nat} (v : Value) (hn : (l.map (·.1)).Nodup) (hi : ix l x = some j) : put l x v = l.modify j (fun _ => (x, v)) := by
 have h1 := any_ix l x
 rw [hi] at h1
 unfold put
 rw [h1]
 simp only [Option.isSome_some, if_true]
 obtain ⟨hj, hx, _⟩ := List.findIdx?_eq_some_iff_getElem.1 hi
 have hx : l[j].1 = x := by simpa using hx
 apply List.ext_getElem
 ·
  simp
 ·
  intro i h1 h2
  rw [List.getElem_map, List.getElem_modify]
  have hi1 : i < l.length := by simpa using h1
  by_cases e : j = i
  ·
   subst e; simp [hx]
  ·
   have : l[i].1 ≠ x := fun h => e (nodup_ix hn hj hi1 (hx.trans h.symm))
   simp [this, e]
/-- m[x] = v -/
theorem run_update (hk : P.underlying 3 = some (.int .i64)) {t e : TypeId} (ht : P.underlying t = some (.map 3 e)) (h : IMap w b l) (x : Int) (v : Value) :
  ∃ w', (Instr.mapUpdate t (.map (some b)) (.int .i64 x) v).run P w = .ok () w' ∧ IMap w' b (put l x v) ∧ w.grownBy w' (some b) ∧ w'.heap.size = w.heap.size := by
 obtain ⟨es, clock, hb, he, hn, hs, hc⟩ := h
 have hlen : es.size = l.length := by have := congrArg List.length he; simpa using this
 cases hi : ix l x with
 | none =>
  have hf := findKey_run (w := w) hk he x
  rw [hi] at hf
  refine ⟨{ w with heap := w.heap.setIfInBounds b (.map (es.push { key := .int .i64 x, val := v, born := clock }) (clock + 1)) }, ?_, ⟨_, _, (MapKept.heap_set hb).1, ?_, ?_, ?_, ?_⟩, grown_set _ hb, by simp⟩
  ·
   simp [Instr.mapUpdate, Sem.run_bind, run_underlying ht, MapKept.run_getObj_map hb, checkKey_run hk, hf, Result.andThen, MapKept.run_setObj_map _ hb]
  ·
   have : put l x v = l ++ [(x, v)] := by unfold put; rw [any_ix, hi]; rfl
   rw [this]
   simp [he]
  ·
   have : put l x v = l ++ [(x, v)] := by unfold put; rw [any_ix, hi]; rfl
   rw [this, List.map_append, List.nodup_append]
   refine ⟨hn, by simp, ?_⟩
   intro a ha b' hb' e
   simp only [List.map_cons, List.map_nil, List.mem_singleton] at hb'
   subst e; subst hb'
   rw [List.findIdx?_eq_none_iff] at hi
   obtain ⟨p, hp, rfl⟩ := List.mem_map.1 ha
   have := hi p hp
   simp at this
  ·
   simp only [Array.toList_push, List.map_append, List.map_cons, List.map_nil]
   rw [List.nodup_append]
   refine ⟨hs, by simp, ?_⟩
   intro a ha b' hb' e
   simp only [List.mem_singleton] at hb'
   obtain ⟨p, hp, rfl⟩ := List.mem_map.1 ha
   have := hc p hp
   omega
  ·
   intro q hq
   simp only [Array.toList_push, List.mem_append, List.mem_singleton] at hq
   rcases hq with hq | rfl
   ·
    have := hc q hq; omega
   ·
    simp
 | some j =>
  obtain ⟨hj, hx, _⟩ := List.findIdx?_eq_some_iff_getElem.1 hi
  have hx : l[j].1 = x := by simpa using hx
  have hf := findKey_run (w := w) hk he x
  rw [hi] at hf
  simp only [Option.bind_some, List.getElem?_eq_getElem hj, Option.map_some] at hf
  have hjs : j < es.size := by omega
  have hek : es[j].key = .int .i64 x := by
   have := congrArg (fun q => (q[j]?).map (·.1)) he
   simp [hj, hjs, hx] at this
   exact this
  refine ⟨{ w with heap := w.heap.setIfInBounds b (.map (es.modify j fun e => { e with key := .int .i64 x, val := v }) clock) }, ?_, ⟨_, _, (MapKept.heap_set hb).1, ?_, ?_, ?_, ?_⟩, grown_set _ hb, by simp⟩
  ·
   simp [Instr.mapUpdate, Sem.run_bind, run_underlying ht, MapKept.run_getObj_map hb, checkKey_run hk, hf, Result.andThen, hjs, hek, MapKept.run_keyThatStays (d := .int .i64) (k := .int .i64 x) (by simp [MapKept.IsKey]), MapKept.run_setObj_map _ hb]
  ·
   rw [put_hit v hn hi]
   apply List.ext_getElem
   ·
    simp [hlen]
   ·
    intro i h1 h2
    have hie : i < es.size := by simpa using h1
    have hil : i < l.length := by simpa using h2
    have h3 := congrArg (fun q => q[i]?) he
    simp [hie, hil] at h3
    simp only [List.getElem_map, List.getElem_modify, Array.getElem_toList, Array.getElem_modify]
    by_cases e : j = i
    ·
     subst e; simp
    ·
     simp [e, h3]
  ·
   rw [put_hit v hn hi]
   have : (l.modify j fun _ => (x, v)).map (·.1) = l.map (·.1) := by
    apply List.ext_getElem
    ·
     simp
    ·
     intro i h1 h2
     simp only [List.getElem_map, List.getElem_modify]
     by_cases e : j = i
     ·
      subst e; simp [hx]
     ·
      simp [e]
   rw [this]; exact hn
  ·
   have : (es.modify j fun e => { e with key := .int .i64 x, val := v }).toList.map (·.born) = es.toList.map (·.born) := by
    apply List.ext_getElem
    ·
     simp
    ·
     intro i h1 h2
     simp only [List.getElem_map, Array.getElem_toList, Array.getElem_modify]
     split <;> rfl
   rw [this]; exact hs
  ·
   intro q hq
   obtain ⟨i, hi', rfl⟩ := List.getElem_of_mem hq
   simp only [Array.getElem_toList, Array.getElem_modify]
   have hie : i < es.size := by simpa using hi'
   have := hc es[i] (by simp)
   split <;> exact this
theorem filter_erase {α : Type} (p : α → Bool) : ∀ (l : List α) (j : Nat) (hj : j < l.length), p l[j] = false → (∀ i (h : i < l.length), i ≠ j → p l[i] = true) → l.filter p = l.eraseIdx j
 | [], _, h, _, _ => by simp at h
 | a :: l, 0, _, h0, h1 => by
  have h0 : p a = false := by simpa using h0
  simp only [List.filter_cons, h0, Bool.false_eq_true, if_false, List.eraseIdx_zero, List.tail_cons]
  rw [List.filter_eq_self]
  intro x hx
  obtain ⟨i, hi, rfl⟩ := List.getElem_of_mem hx
  exact h1 (i + 1) (by simpa using hi) (by omega)
 | a :: l, j + 1, hj, h0, h1 => by
  have ha : p a = true := h1 0 (by simp) (by omega)
  simp only [List.filter_cons, ha, if_true, List.eraseIdx_cons_succ, List.cons.injEq, true_and]
  exact filter_erase p l j (by simpa using hj) (by simpa using h0) (fun i hi hne => h1 (i + 1) (by simpa using hi) (by omega))
/-- delete(m, x) -/
theorem run_delete (hk : P.underlying 3 = some (.int .i64)) {t e ty u : TypeId} (ht : P.underlying t = some (.map 3 e)) (h : IMap w b l) (x : Int) :
  ∃ w', (Builtin.delete_ #[t, u] ty #[.map (some b), .int .i64 x]).run P w = .ok (.tuple #[]) w' ∧ IMap w' b (del l x) ∧ w.grownBy w' (some b) ∧ w'.heap.size = w.heap.size := by
 obtain ⟨es, clock, hb, he, hn, hs, hc⟩ := h
 have hlen : es.size = l.length := by have := congrArg List.length he; simpa using this
 cases hi : ix l x with
 | none =>
  have hf := findKey_run (w := w) hk he x
  rw [hi] at hf
  have hdel : del l x = l := by
   unfold del
   rw [List.filter_eq_self]
   intro p hp
   rw [List.findIdx?_eq_none_iff] at hi
   have := hi p hp
   simpa using this
  refine ⟨{ w with heap := w.heap.setIfInBounds b (.map es clock) }, ?_, ⟨_, _, (MapKept.heap_set hb).1, by rw [hdel]; exact he, by rw [hdel]; exact hn, hs, hc⟩, grown_set _ hb, by simp⟩
  simp [Builtin.delete_, Sem.run_bind, run_underlying ht, MapKept.run_getObj_map hb, checkKey_run hk, hf, Result.andThen, MapKept.run_setObj_map _ hb]
 | some j =>
  obtain ⟨hj, hx, _⟩ := List.findIdx?_eq_some_iff_getElem.1 hi
  have hx : l[j].1 = x := by simpa using hx
  have hf := findKey_run (w := w) hk he x
  rw [hi] at hf
  simp only [Option.bind_some, List.getElem?_eq_getElem hj, Option.map_some] at hf
  have hjs : j < es.size := by omega
  have hdel : del l x = l.eraseIdx j := by
   unfold del
   refine filter_erase _ l j hj (by simp [hx]) (fun i hi' hne => ?_)
   have : l[i].1 ≠ x := fun h => hne (nodup_ix hn hi' hj (h.trans hx.symm))
   simpa using this
  have hel : (es.eraseIdxIfInBounds j).toList = es.toList.eraseIdx j := by
   unfold Array.eraseIdxIfInBounds; rw [dif_pos hjs]; simp
  refine ⟨{ w with heap := w.heap.setIfInBounds b (.map (es.eraseIdxIfInBounds j) clock) }, ?_, ⟨_, _, (MapKept.heap_set hb).1, ?_, ?_, ?_, ?_⟩, grown_set _ hb, by simp⟩
  ·
   simp [Builtin.delete_, Sem.run_bind, run_underlying ht, MapKept.run_getObj_map hb, checkKey_run hk, hf, Result.andThen, MapKept.run_setObj_map _ hb]
  ·
   rw [hel, hdel, map_erase, map_erase, he]
  ·
   rw [hdel, map_erase]; exact (List.eraseIdx_sublist _ _).nodup hn
  ·
   rw [hel, map_erase]; exact (List.eraseIdx_sublist _ _).nodup hs
  ·
   rw [hel]; exact fun q hq => hc q ((List.eraseIdx_sublist _ _).subset hq)
theorem run_len (t : TypeId) {e : TypeId} (ht : P.underlying t = some (.map 3 e)) (ty : TypeId) (h : IMap w b l) : (Builtin.len_ #[t] ty #[.map (some b)]).run P w = .ok (.int .i64 l.length) w := by
 obtain ⟨es, clock, hb, he, _⟩ := h
 have hlen : es.size = l.length := by have := congrArg List.length he; simpa using this
 simp [Builtin.len_, Sem.run_bind, run_underlying ht, MapKept.run_getObj_map hb, Result.andThen, goInt, hlen]

theorem IMap.nodup {w : World} {b : Nat} {l : List (Int × Value)} (h : IMap w b l) : (l.map (·.1)).Nodup := by
 obtain ⟨es, clock, _, _, hn, _⟩ := h
 exact hn
theorem look_map (l : List (Int × Value)) (x : Int) (v : Value) (y : Int) : look (l.map (fun p => if p.1 == x then (x, v) else p)) y = if y = x then (if l.any (fun p => p.1 == x) then some v else none) else look l y := by
 unfold look
 induction l with
 | nil => simp
 | cons p l ih =>
  simp only [List.map_cons, List.find?_cons, List.any_cons]
  by_cases hx : p.1 = x
  ·
   subst hx
   simp only [beq_self_eq_true, if_true, Bool.true_or]
   by_cases hy : y = p.1
   ·
    subst hy; simp
   ·
    have : (p.1 == y) = false := by simpa using fun e => hy e.symm
    simp only [this]
    rw [ih]
    simp [hy]
  ·
   have h1 : (p.1 == x) = false := by simpa using hx
   simp only [h1, Bool.false_eq_true, if_false, Bool.false_or]
   by_cases hy : y = x
   ·
    subst hy
    rw [if_pos rfl] at ih ⊢
    simp only [h1]
    exact ih
   ·
    simp only [hy, if_false] at ih ⊢
    cases hp : p.1 == y with
    | true => rfl
    | false => exact ih
theorem look_put (l : List (Int × Value)) (x : Int) (v : Value) (y : Int) : look (put l x v) y = if y = x then some v else look l y := by
 unfold put
 split
 ·
  rename_i h
  rw [look_map, h]
  rfl
 ·
  rename_i h
  unfold look
  rw [List.find?_append]
  by_cases hy : y = x
  ·
   subst hy
   have : l.find? (fun p => p.1 == y) = none := by
    rw [List.find?_eq_none]
    intro p hp hq
    exact h (List.any_eq_true.2 ⟨p, hp, hq⟩)
   simp [this]
  ·
   have : (x == y) = false := by simpa using fun e => hy e.symm
   simp [hy, this]
theorem look_del (l : List (Int × Value)) (x y : Int) : look (del l x) y = if y = x then none else look l y := by
 unfold look del
 induction l with
 | nil => simp
 | cons p l ih =>
  simp only [List.filter_cons, List.find?_cons]
  by_cases hx : p.1 = x
  ·
   subst hx
   simp only [bne_self_eq_false, Bool.false_eq_true, if_false]
   rw [ih]
   by_cases hy : y = p.1
   ·
    simp [hy]
   ·
    have : (p.1 == y) = false := by simpa using fun e => hy e.symm
    simp [hy, this]
  ·
   have h1 : (p.1 != x) = true := by simpa using hx
   simp only [h1, if_true, List.find?_cons]
   cases hp : p.1 == y with
   | true =>
    have : p.1 = y := by simpa using hp
    subst this
    simp [hx]
   | false => exact ih
theorem mem_look {l : List (Int × Value)} (hn : (l.map (·.1)).Nodup) (p : Int × Value) : p ∈ l ↔ look l p.1 = some p.2 := by
 unfold look
 induction l with
 | nil => simp
 | cons q l ih =>
  rw [List.map_cons, List.nodup_cons] at hn
  rw [List.mem_cons, List.find?_cons]
  cases hq : q.1 == p.1 with
  | true =>
   have hq' : q.1 = p.1 := by simpa using hq
   simp only [Option.map_some, Option.some.injEq]
   constructor
   ·
    rintro (rfl | h)
    ·
     rfl
    ·
     exact (hn.1 (List.mem_map.2 ⟨p, h, hq'.symm⟩)).elim
   ·
    intro h
    left
    exact Prod.ext hq'.symm h.symm
  | false =>
   have hq' : ¬ (q.1 = p.1) := by simpa using hq
   rw [← ih hn.2]
   constructor
   ·
    rintro (rfl | h)
    ·
     exact (hq' rfl).elim
    ·
     exact h
   ·
    exact .inr

/-- Block r is an iterator over map b (which reads as l, and is not changed while it goes): done has come. -/
def IIter (w : World) (r b : Nat) (l done : List (Int × Value)) : Prop :=
 ∃ es clock seen, w.heap[b]? = some (.map es clock) ∧ es.toList.map (fun e => (e.key, e.val)) = l.map (fun p => (Value.int .i64 p.1, p.2)) ∧ (l.map (·.1)).Nodup ∧ (es.toList.map (·.born)).Nodup ∧ (∀ e ∈ es.toList, e.born < clock) ∧
  w.heap[r]? = some (.mapIter (some b) clock seen clock) ∧ r ≠ b ∧ (done.map (·.1)).Nodup ∧ (∀ p ∈ done, p ∈ l) ∧
  (∀ (i : Nat) (h : i < es.size) (h' : i < l.length), es[i].born ∈ seen.toList ↔ l[i] ∈ done) ∧ seen.size = done.length
theorem IIter.map {r : Nat} {done : List (Int × Value)} (h : IIter w r b l done) : IMap w b l := by
 obtain ⟨es, clock, seen, hb, he, hn, hs, hc, _⟩ := h
 exact ⟨es, clock, hb, he, hn, hs, hc⟩
theorem IIter.same {w' : World} {r : Nat} {done : List (Int × Value)} (h : IIter w r b l done) (hb : w'.heap[b]? = w.heap[b]?) (hr : w'.heap[r]? = w.heap[r]?) : IIter w' r b l done := by
 obtain ⟨es, clock, seen, h1, he, hn, hs, hc, h2, rest⟩ := h
 exact ⟨es, clock, seen, hb.trans h1, he, hn, hs, hc, hr.trans h2, rest⟩
theorem run_range {t e : TypeId} (ht : P.underlying t = some (.map 3 e)) (h : IMap w b l) :
  ∃ w', (Instr.range t (.map (some b))).run P w = .ok (.pointer (some ⟨w.heap.size, 0, none⟩)) w' ∧ IIter w' w.heap.size b l [] ∧ w.grownBy w' none ∧ w'.heap.size = w.heap.size + 1 := by
 obtain ⟨es, clock, hb, he, hn, hs, hc⟩ := h
 have hlt := (Array.getElem?_eq_some_iff.1 hb).1
 refine ⟨w.alloc (.mapIter (some b) clock #[] clock), ?_, ⟨es, clock, #[], (Below.heap_alloc _ _ _ hlt).trans hb, he, hn, hs, hc, heap_alloc_new w _, by omega, by simp, by simp, by simp, by simp⟩, World.grownBy_alloc _ _ _, by simp⟩
 simp only [Instr.range, Sem.run_bind, run_underlying ht, MapKept.run_getObj_map hb, Result.andThen, Sem.run_pure]
 rfl
open Go.ChangeMaps (setBlock) in
theorem run_next {r : Nat} {done : List (Int × Value)} (ty : TypeId) (h : IIter w r b l done) :
  ((∀ p ∈ l, p ∈ done) ∧ (Instr.next (.pointer (some ⟨r, 0, none⟩)) false ty).run P w = .ok (.tuple #[.bool false]) w) ∨
  ∃ p w', p ∈ l ∧ p ∉ done ∧ (Instr.next (.pointer (some ⟨r, 0, none⟩)) false ty).run P w = .ok (.tuple #[.bool true, .int .i64 p.1, p.2]) w' ∧ IIter w' r b l (done ++ [p]) ∧ w.grownBy w' (some r) ∧ w'.heap.size = w.heap.size ∧
   (Instr.entry (.pointer (some ⟨r, 0, none⟩))).run P w' = .ok (.tuple #[.int .i64 p.1, p.2]) w' := by
 obtain ⟨es, clock, seen, hb, he, hn, hs, hc, hr, hrb, hdn, hdl, hseen, hcount⟩ := h
 have hlen : es.size = l.length := by have := congrArg List.length he; simpa using this
 rcases run_next_at (P := P) w ty r b clock clock seen es clock hr hb hc (Nat.le_refl _) with ⟨h0, hrun⟩ | ⟨e, hmem, w1, hw1, hrun⟩
 ·
  refine .inl ⟨fun p hp => ?_, hrun⟩
  obtain ⟨i, hi, rfl⟩ := List.getElem_of_mem hp
  have hie : i < es.size := by omega
  rw [← hseen i hie hi]
  by_cases hc' : es[i].born ∈ seen.toList
  ·
   exact hc'
  ·
   have : es[i] ∈ (leftOf es seen).toList := by
    unfold leftOf
    simp
    simpa using hc'
   have h00 : (leftOf es seen).toList = [] := by
    have : (leftOf es seen).toList.length = 0 := by simpa using h0
    exact List.length_eq_zero_iff.1 this
   rw [h00] at this
   simp at this
 ·
  have hmem' : e ∈ es.toList ∧ e.born ∉ seen.toList := by
   unfold leftOf at hmem
   simp at hmem ⊢
   exact hmem
  obtain ⟨i, hi, rfl⟩ := List.getElem_of_mem hmem'.1
  have hie : i < es.size := by simpa using hi
  have hil : i < l.length := by omega
  have h3 := congrArg (fun q => q[i]?) he
  simp [hie, hil] at h3
  have hnd : l[i] ∉ done := fun hd => hmem'.2 (by simpa using (hseen i hie hil).2 hd)
  have hheap : w1.heap = w.heap := by rcases hw1 with rfl | rfl <;> rfl
  have hlt := (Array.getElem?_eq_some_iff.1 hr).1
  simp only [Array.getElem_toList] at hrun
  rw [h3.1, h3.2] at hrun
  refine .inr ⟨l[i], _, List.getElem_mem hil, hnd, hrun, ⟨es, clock, seen.push es[i].born, ?_, he, hn, hs, hc, ?_, hrb, ?_, ?_, ?_, by simp [hcount]⟩, ?_, ?_, ?_⟩
  ·
   show (w1.heap.setIfInBounds r _)[b]? = _
   rw [hheap]
   exact ((MapKept.heap_set hr).2 b (fun e => hrb e.symm)).trans hb
  ·
   show (w1.heap.setIfInBounds r _)[r]? = _
   rw [hheap]
   exact (MapKept.heap_set hr).1
  ·
   rw [List.map_append, List.nodup_append]
   refine ⟨hdn, by simp, ?_⟩
   intro a ha b' hb' e
   simp only [List.map_cons, List.map_nil, List.mem_singleton] at hb'
   obtain ⟨p, hp, rfl⟩ := List.mem_map.1 ha
   have hpl := hdl p hp
   obtain ⟨j, hj, rfl⟩ := List.getElem_of_mem hpl
   have hji : j = i := nodup_ix hn hj hil (e.trans hb')
   subst hji
   exact hnd hp
  ·
   intro p hp
   rcases List.mem_append.1 hp with hp | hp
   ·
    exact hdl p hp
   ·
    simp only [List.mem_singleton] at hp; subst hp; exact List.getElem_mem hil
  ·
   intro j hj hj'
   simp only [Array.toList_push, List.mem_append, List.mem_singleton]
   rw [hseen j hj hj']
   constructor
   ·
    rintro (h | h)
    ·
     exact .inl h
    ·
     refine .inr ?_
     have hji : j = i := nodup_ix hs (by simpa using hj) (by simpa using hie) (by simpa using h)
     subst hji
     rfl
   ·
    rintro (h | h)
    ·
     exact .inl h
    ·
     refine .inr ?_
     have hji : j = i := nodup_ix hn hj' hil (by rw [h])
     subst hji
     rfl
  ·
   rcases hw1 with rfl | rfl
   ·
    exact grown_set _ hr
   ·
    exact ⟨rfl, rfl, rfl, by show _ ≤ (w.heap.setIfInBounds r _).size; simp, fun k _ hne => (MapKept.heap_set hr).2 k (fun e => hne (by rw [e]))⟩
  ·
   show (w1.heap.setIfInBounds r _).size = _
   rw [hheap]; simp
  ·
   have q1 : (setBlock w1 r (.mapIter (some b) clock (seen.push es[i].born) clock)).heap[r]? = some (.mapIter (some b) clock (seen.push es[i].born) clock) := by
    show (w1.heap.setIfInBounds r _)[r]? = _
    rw [hheap]; exact (MapKept.heap_set hr).1
   have q2 : (setBlock w1 r (.mapIter (some b) clock (seen.push es[i].born) clock)).heap[b]? = some (.map es clock) := by
    show (w1.heap.setIfInBounds r _)[b]? = _
    rw [hheap]; exact ((MapKept.heap_set hr).2 b (fun e => hrb e.symm)).trans hb
   have hfind : es.find? (fun q => q.born == es[i].born) = some es[i] := by
    rw [← Array.find?_toList, List.find?_eq_some_iff_getElem]
    refine ⟨by simp, i, by simpa using hie, by simp, fun j hj => ?_⟩
    have hpw := List.pairwise_iff_getElem.1 hs
    have := hpw j i (by simp; omega) (by simpa using hie) hj
    simpa using this
   simp only [Instr.entry, getObj, Sem.run_bind, Sem.run, q1, q2, Result.andThen, Array.back?_push]
   simp [hfind, h3.1, h3.2]
/-- How many have come. -/
def came (w : World) (r : Nat) : Nat := match w.heap[r]? with | some (.mapIter _ _ seen _) => seen.size | _ => 0
theorem IIter.came {r : Nat} {done : List (Int × Value)} (h : IIter w r b l done) : came w r = done.length := by
 obtain ⟨es, clock, seen, hb, he, hn, hs, hc, hr, hrb, hdn, hdl, hseen, hcount⟩ := h
 unfold Im.came
 rw [hr]
 exact hcount
theorem iiter_perm {r : Nat} {done : List (Int × Value)} (h : IIter w r b l done) (hall : ∀ p ∈ l, p ∈ done) : done.Perm l := by
 obtain ⟨es, clock, seen, hb, he, hn, hs, hc, hr, hrb, hdn, hdl, hseen, hcount⟩ := h
 have h1 : done.Nodup := (List.Pairwise.of_map _ (fun a b hab e => hab (by rw [e])) hdn)
 have h2 : l.Nodup := (List.Pairwise.of_map _ (fun a b hab e => hab (by rw [e])) hn)
 exact (List.perm_ext_iff_of_nodup h1 h2).2 (fun p => ⟨hdl p, hall p⟩)
theorem iiter_len {r : Nat} {done : List (Int × Value)} (h : IIter w r b l done) : done.length ≤ l.length := by
 obtain ⟨es, clock, seen, hb, he, hn, hs, hc, hr, hrb, hdn, hdl, hseen, hcount⟩ := h
 have h1 : done.Nodup := (List.Pairwise.of_map _ (fun a b hab e => hab (by rw [e])) hdn)
 exact nodup_len _ _ h1 hdl
end
section
variable {F : Fence} {nF : Nat} {P : Program} (w : World) {ops : Array Oper} {rest : List Oper} {o : Oper} {a : Act} {Q : Exit → Act → World → Prop}
theorem wpListIn_lookup_ok_im (hg : o.guard = none) (m x : Operand) (t : TypeId) (hop : o.op = Op.lookup t m x true) (hk : P.underlying 3 = some (.int .i64)) {e : TypeId} (ht : P.underlying t = some (.map 3 e)) (b : Nat) {l : List (Int × Value)} {z : Value} (hz : (zeroValue e).run P w = .ok z w) (hm : a.eval m = .map (some b)) (h : IMap w b l) (k : Int) (hx : a.eval x = .int .i64 k)
  (hK : wpListIn F nF P ops Q rest (a.put o.dst (.tuple #[(look l k).getD z, .bool (look l k).isSome])) w) :
  wpListIn F nF P ops Q (o :: rest) a w := by
 refine wpListIn_plain hg fun K' hK' => ?_
 have hrun := run_lookup_ok hk ht h hz k
 unfold Oper.wpIn
 refine ⟨by simp [Oper.about, hop], ?_⟩
 rw [Oper.semAt_plain F _ _ (by rw [hop]; intro c hc'; cases hc')]
 simp [execOp, hop, hm, hx, hrun, Result.andThen]
 exact hK' _ _ hK
theorem wpListIn_lookup_im (hg : o.guard = none) (m x : Operand) (t : TypeId) (hop : o.op = Op.lookup t m x false) (hk : P.underlying 3 = some (.int .i64)) {e : TypeId} (ht : P.underlying t = some (.map 3 e)) (b : Nat) {l : List (Int × Value)} {z : Value} (hz : (zeroValue e).run P w = .ok z w) (hm : a.eval m = .map (some b)) (h : IMap w b l) (k : Int) (hx : a.eval x = .int .i64 k)
  (hK : wpListIn F nF P ops Q rest (a.put o.dst ((look l k).getD z)) w) :
  wpListIn F nF P ops Q (o :: rest) a w := by
 refine wpListIn_plain hg fun K' hK' => ?_
 have hrun := run_lookup hk ht h hz k
 unfold Oper.wpIn
 refine ⟨by simp [Oper.about, hop], ?_⟩
 rw [Oper.semAt_plain F _ _ (by rw [hop]; intro c hc'; cases hc')]
 simp [execOp, hop, hm, hx, hrun, Result.andThen]
 exact hK' _ _ hK
theorem wpListIn_update_im (hg : o.guard = none) (m x v : Operand) (t : TypeId) (hop : o.op = Op.mapUpdate t m x v) (hk : P.underlying 3 = some (.int .i64)) {e : TypeId} (ht : P.underlying t = some (.map 3 e)) (b : Nat) {l : List (Int × Value)} (hm : a.eval m = .map (some b)) (h : IMap w b l) (k : Int) (hx : a.eval x = .int .i64 k) (u : Value) (hv : a.eval v = u)
  (hK : ∀ w', IMap w' b (put l k u) → w.grownBy w' (some b) → w'.heap.size = w.heap.size → wpListIn F nF P ops Q rest (a.put o.dst undef) w') :
  wpListIn F nF P ops Q (o :: rest) a w := by
 refine wpListIn_plain hg fun K' hK' => ?_
 obtain ⟨w', hrun, r1, r2, r3⟩ := run_update hk ht h k u
 unfold Oper.wpIn
 refine ⟨by simp [Oper.about, hop], ?_⟩
 rw [Oper.semAt_plain F _ _ (by rw [hop]; intro c hc'; cases hc')]
 simp [execOp, hop, hm, hx, hv, hrun, Result.andThen]
 exact hK' _ _ (hK w' r1 r2 r3)
theorem wpListIn_delete_im (hg : o.guard = none) (m x : Operand) (t k' : TypeId) (hop : o.op = Op.call { callee := Callee.builtin Builtin.delete, args := #[m, x], argTypes := #[t, k'] }) (hk : P.underlying 3 = some (.int .i64)) {e : TypeId} (ht : P.underlying t = some (.map 3 e)) (b : Nat) {l : List (Int × Value)} (hm : a.eval m = .map (some b)) (h : IMap w b l) (k : Int) (hx : a.eval x = .int .i64 k)
  (hK : ∀ w', IMap w' b (del l k) → w.grownBy w' (some b) → w'.heap.size = w.heap.size → wpListIn F nF P ops Q rest (a.put o.dst (.tuple #[])) w') :
  wpListIn F nF P ops Q (o :: rest) a w := by
 refine wpListIn_plain hg fun K' hK' => ?_
 obtain ⟨w', hrun, r1, r2, r3⟩ := run_delete (ty := o.type) (u := k') hk ht h k
 unfold Oper.wpIn
 refine ⟨by simp [Oper.about, hop, resolve, Target.leads, Sem.run_pure], ?_⟩
 rw [Oper.semAt_plain F _ _ (by rw [hop]; intro c hc'; cases hc')]
 simp [execOp, hop, resolve, invoke, builtin, hm, hx, hrun, Result.andThen]
 exact hK' _ _ (hK w' r1 r2 r3)
theorem wpListIn_len_im (hg : o.guard = none) (m : Operand) (t : TypeId) (hop : o.op = Op.call { callee := Callee.builtin Builtin.len, args := #[m], argTypes := #[t] }) {e : TypeId} (ht : P.underlying t = some (.map 3 e)) (b : Nat) {l : List (Int × Value)} (hm : a.eval m = .map (some b)) (h : IMap w b l)
  (hK : wpListIn F nF P ops Q rest (a.put o.dst (.int .i64 l.length)) w) :
  wpListIn F nF P ops Q (o :: rest) a w := by
 refine wpListIn_plain hg fun K' hK' => ?_
 have hrun := run_len t ht o.type h
 unfold Oper.wpIn
 refine ⟨by simp [Oper.about, hop, resolve, Target.leads, Sem.run_pure], ?_⟩
 rw [Oper.semAt_plain F _ _ (by rw [hop]; intro c hc'; cases hc')]
 simp [execOp, hop, resolve, invoke, builtin, hm, hrun, Result.andThen]
 exact hK' _ _ hK
theorem wpListIn_range_im (hg : o.guard = none) (m : Operand) (t : TypeId) (hop : o.op = Op.range t m) {e : TypeId} (ht : P.underlying t = some (.map 3 e)) (b : Nat) {l : List (Int × Value)} (hm : a.eval m = .map (some b)) (h : IMap w b l)
  (hK : ∀ w', IIter w' w.heap.size b l [] → w.grownBy w' none → w'.heap.size = w.heap.size + 1 → wpListIn F nF P ops Q rest (a.put o.dst (.pointer (some ⟨w.heap.size, 0, none⟩))) w') :
  wpListIn F nF P ops Q (o :: rest) a w := by
 refine wpListIn_plain hg fun K' hK' => ?_
 obtain ⟨w', hrun, r1, r2, r3⟩ := run_range ht h
 unfold Oper.wpIn
 refine ⟨by simp [Oper.about, hop], ?_⟩
 rw [Oper.semAt_plain F _ _ (by rw [hop]; intro c hc'; cases hc')]
 simp [execOp, hop, hm, hrun, Result.andThen]
 exact hK' _ _ (hK w' r1 r2 r3)
theorem wpListIn_next_im (hg : o.guard = none) (it : Operand) (hop : o.op = Op.next it false) (b r : Nat) {l done : List (Int × Value)} (hit : a.eval it = .pointer (some ⟨r, 0, none⟩)) (h : IIter w r b l done)
  (hDone : (∀ p ∈ l, p ∈ done) → wpListIn F nF P ops Q rest (a.put o.dst (.tuple #[.bool false])) w)
  (hMore : ∀ (p : Int × Value) (w' : World), p ∈ l → p ∉ done → IIter w' r b l (done ++ [p]) → w.grownBy w' (some r) → w'.heap.size = w.heap.size → (Instr.entry (.pointer (some ⟨r, 0, none⟩))).run P w' = .ok (.tuple #[.int .i64 p.1, p.2]) w' → wpListIn F nF P ops Q rest (a.put o.dst (.tuple #[.bool true, .int .i64 p.1, p.2])) w') :
  wpListIn F nF P ops Q (o :: rest) a w := by
 refine wpListIn_plain hg fun K' hK' => ?_
 unfold Oper.wpIn
 refine ⟨by simp [Oper.about, hop], ?_⟩
 rw [Oper.semAt_plain F _ _ (by rw [hop]; intro c hc'; cases hc')]
 rcases run_next (P := P) o.type h with ⟨h0, hrun⟩ | ⟨p, w', h1, h2, hrun, h3, h4, h5, h6⟩
 ·
  simp [execOp, hop, hit, hrun, Result.andThen]
  exact hK' _ _ (hDone h0)
 ·
  simp [execOp, hop, hit, hrun, Result.andThen]
  exact hK' _ _ (hMore p w' h1 h2 h3 h4 h5 h6)
theorem wpList_lookup_ok_im (hg : o.guard = none) (m x : Operand) (t : TypeId) (hop : o.op = Op.lookup t m x true) (hk : P.underlying 3 = some (.int .i64)) {e : TypeId} (ht : P.underlying t = some (.map 3 e)) (b : Nat) {l : List (Int × Value)} {z : Value} (hz : (zeroValue e).run P w = .ok z w) (hm : a.eval m = .map (some b)) (h : IMap w b l) (k : Int) (hx : a.eval x = .int .i64 k)
  (hK : wpList P ops Q rest (a.put o.dst (.tuple #[(look l k).getD z, .bool (look l k).isSome])) w) :
  wpList P ops Q (o :: rest) a w := by
 refine wpList_plain hg fun K' hK' => ?_
 have hrun := run_lookup_ok hk ht h hz k
 unfold Oper.wp
 simp [execOp, hop, hm, hx, hrun, Result.andThen]
 exact hK' _ _ hK
theorem wpList_lookup_im (hg : o.guard = none) (m x : Operand) (t : TypeId) (hop : o.op = Op.lookup t m x false) (hk : P.underlying 3 = some (.int .i64)) {e : TypeId} (ht : P.underlying t = some (.map 3 e)) (b : Nat) {l : List (Int × Value)} {z : Value} (hz : (zeroValue e).run P w = .ok z w) (hm : a.eval m = .map (some b)) (h : IMap w b l) (k : Int) (hx : a.eval x = .int .i64 k)
  (hK : wpList P ops Q rest (a.put o.dst ((look l k).getD z)) w) :
  wpList P ops Q (o :: rest) a w := by
 refine wpList_plain hg fun K' hK' => ?_
 have hrun := run_lookup hk ht h hz k
 unfold Oper.wp
 simp [execOp, hop, hm, hx, hrun, Result.andThen]
 exact hK' _ _ hK
theorem wpList_update_im (hg : o.guard = none) (m x v : Operand) (t : TypeId) (hop : o.op = Op.mapUpdate t m x v) (hk : P.underlying 3 = some (.int .i64)) {e : TypeId} (ht : P.underlying t = some (.map 3 e)) (b : Nat) {l : List (Int × Value)} (hm : a.eval m = .map (some b)) (h : IMap w b l) (k : Int) (hx : a.eval x = .int .i64 k) (u : Value) (hv : a.eval v = u)
  (hK : ∀ w', IMap w' b (put l k u) → w.grownBy w' (some b) → w'.heap.size = w.heap.size → wpList P ops Q rest (a.put o.dst undef) w') :
  wpList P ops Q (o :: rest) a w := by
 refine wpList_plain hg fun K' hK' => ?_
 obtain ⟨w', hrun, r1, r2, r3⟩ := run_update hk ht h k u
 unfold Oper.wp
 simp [execOp, hop, hm, hx, hv, hrun, Result.andThen]
 exact hK' _ _ (hK w' r1 r2 r3)
theorem wpList_delete_im (hg : o.guard = none) (m x : Operand) (t k' : TypeId) (hop : o.op = Op.call { callee := Callee.builtin Builtin.delete, args := #[m, x], argTypes := #[t, k'] }) (hk : P.underlying 3 = some (.int .i64)) {e : TypeId} (ht : P.underlying t = some (.map 3 e)) (b : Nat) {l : List (Int × Value)} (hm : a.eval m = .map (some b)) (h : IMap w b l) (k : Int) (hx : a.eval x = .int .i64 k)
  (hK : ∀ w', IMap w' b (del l k) → w.grownBy w' (some b) → w'.heap.size = w.heap.size → wpList P ops Q rest (a.put o.dst (.tuple #[])) w') :
  wpList P ops Q (o :: rest) a w := by
 refine wpList_plain hg fun K' hK' => ?_
 obtain ⟨w', hrun, r1, r2, r3⟩ := run_delete (ty := o.type) (u := k') hk ht h k
 unfold Oper.wp
 simp [execOp, hop, resolve, invoke, builtin, hm, hx, hrun, Result.andThen]
 exact hK' _ _ (hK w' r1 r2 r3)
theorem wpList_len_im (hg : o.guard = none) (m : Operand) (t : TypeId) (hop : o.op = Op.call { callee := Callee.builtin Builtin.len, args := #[m], argTypes := #[t] }) {e : TypeId} (ht : P.underlying t = some (.map 3 e)) (b : Nat) {l : List (Int × Value)} (hm : a.eval m = .map (some b)) (h : IMap w b l)
  (hK : wpList P ops Q rest (a.put o.dst (.int .i64 l.length)) w) :
  wpList P ops Q (o :: rest) a w := by
 refine wpList_plain hg fun K' hK' => ?_
 have hrun := run_len t ht o.type h
 unfold Oper.wp
 simp [execOp, hop, resolve, invoke, builtin, hm, hrun, Result.andThen]
 exact hK' _ _ hK
theorem wpList_range_im (hg : o.guard = none) (m : Operand) (t : TypeId) (hop : o.op = Op.range t m) {e : TypeId} (ht : P.underlying t = some (.map 3 e)) (b : Nat) {l : List (Int × Value)} (hm : a.eval m = .map (some b)) (h : IMap w b l)
  (hK : ∀ w', IIter w' w.heap.size b l [] → w.grownBy w' none → w'.heap.size = w.heap.size + 1 → wpList P ops Q rest (a.put o.dst (.pointer (some ⟨w.heap.size, 0, none⟩))) w') :
  wpList P ops Q (o :: rest) a w := by
 refine wpList_plain hg fun K' hK' => ?_
 obtain ⟨w', hrun, r1, r2, r3⟩ := run_range ht h
 unfold Oper.wp
 simp [execOp, hop, hm, hrun, Result.andThen]
 exact hK' _ _ (hK w' r1 r2 r3)
theorem wpList_next_im (hg : o.guard = none) (it : Operand) (hop : o.op = Op.next it false) (b r : Nat) {l done : List (Int × Value)} (hit : a.eval it = .pointer (some ⟨r, 0, none⟩)) (h : IIter w r b l done)
  (hDone : (∀ p ∈ l, p ∈ done) → wpList P ops Q rest (a.put o.dst (.tuple #[.bool false])) w)
  (hMore : ∀ (p : Int × Value) (w' : World), p ∈ l → p ∉ done → IIter w' r b l (done ++ [p]) → w.grownBy w' (some r) → w'.heap.size = w.heap.size → (Instr.entry (.pointer (some ⟨r, 0, none⟩))).run P w' = .ok (.tuple #[.int .i64 p.1, p.2]) w' → wpList P ops Q rest (a.put o.dst (.tuple #[.bool true, .int .i64 p.1, p.2])) w') :
  wpList P ops Q (o :: rest) a w := by
 refine wpList_plain hg fun K' hK' => ?_
 unfold Oper.wp
 rcases run_next (P := P) o.type h with ⟨h0, hrun⟩ | ⟨p, w', h1, h2, hrun, h3, h4, h5, h6⟩
 ·
  simp [execOp, hop, hit, hrun, Result.andThen]
  exact hK' _ _ (hDone h0)
 ·
  simp [execOp, hop, hit, hrun, Result.andThen]
  exact hK' _ _ (hMore p w' h1 h2 h3 h4 h5 h6)
end
end Go.Proofs.YtdnkjdekikjihaaDoor.Im
