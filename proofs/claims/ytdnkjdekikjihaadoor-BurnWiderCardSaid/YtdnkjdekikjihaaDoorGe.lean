import Derived.Test.YtdnkjdekikjihaaDoorGb
namespace Go.Proofs.YtdnkjdekikjihaaDoor.G
open Go.RowKit Go.Shelf Go.Proofs.YtdnkjdekikjihaaDoorW.PrintWords

def join (a b : Int × Int) : Int × Int := (min a.1 b.1, max a.2 b.2)
def wide : List (Int × Int) → Int × Int
  | [] => (0, 0)
  | x :: l => l.foldl join x
def flat (xs : List (Int × Int)) : List Value := xs.flatMap fun p => [.int .i64 p.1, .int .i64 p.2]
theorem flat_length (xs : List (Int × Int)) : (flat xs).length = xs.length * 2 := by
  induction xs with
  | nil => rfl
  | cons x l ih => simp [flat] at *; omega
theorem flat_append (xs ys : List (Int × Int)) : flat (xs ++ ys) = flat xs ++ flat ys := by simp [flat]
theorem flat_get (xs : List (Int × Int)) (i : Nat) (h : i < xs.length) : (flat xs)[2 * i]? = some (.int .i64 xs[i].1) ∧ (flat xs)[2 * i + 1]? = some (.int .i64 xs[i].2) := by
  induction xs generalizing i with
  | nil => simp at h
  | cons x l ih =>
    cases i with
    | zero => simp [flat]
    | succ i =>
      have := ih i (by simpa using h)
      simp only [flat, List.flatMap_cons] at *
      rw [show 2 * (i + 1) = 2 * i + 2 by omega, show 2 * i + 2 + 1 = 2 * i + 1 + 2 by omega]
      simpa using this

set_option maxHeartbeats 1000000 in
theorem both (a0 a1 b0 b1 : Int) (w : World) : Calls Tryd.prog 31 #[.agg #[.int .i64 a0, .int .i64 a1], .agg #[.int .i64 b0, .int .i64 b1]] w fun e w' =>
    e = .returned (.agg #[.int .i64 (min a0 b0), .int .i64 (max a1 b1)]) ∧ Below w.heap.size w w' := by
  obtain ⟨m, hm⟩ : ∃ m, min a0 b0 = m := ⟨_, rfl⟩
  obtain ⟨x, hx⟩ : ∃ x, max a1 b1 = x := ⟨_, rfl⟩
  have hm2 : (if b0 < a0 then b0 else a0) = m := by rw [← hm]; split <;> omega
  have hx2 : (if a1 < b1 then b1 else a1) = x := by rw [← hx]; split <;> omega
  rw [hm, hx]
  have HM := Aside0.mk hm
  have HX := Aside0.mk hx
  clear hm hx
  go_enter Tryd.func31, Tryd.ntmps31
  go_wp2
  exact bodyPost_ret (v := .agg #[.int .i64 m, .int .i64 x]) (by simp [results, Tryd.results31, go_sem]) rfl ⟨rfl, by go_grown⟩

/-- after k joins -/
def widek (xs : List (Int × Int)) (k : Nat) : Int × Int := wide (xs.take (k + 1))
theorem widek_zero {xs : List (Int × Int)} (h : 0 < xs.length) : widek xs 0 = xs[0] := by
  cases xs with
  | nil => simp at h
  | cons x l => simp [widek, wide]
theorem widek_succ {xs : List (Int × Int)} {k : Nat} (h : k + 1 < xs.length) : widek xs (k + 1) = join (widek xs k) xs[k + 1] := by
  cases xs with
  | nil => simp at h
  | cons x l =>
    have h2 : k < l.length := by simpa using h
    simp only [widek, List.take_succ_cons, wide, List.getElem_cons_succ]
    rw [List.take_succ_eq_append_getElem h2, List.foldl_append]
    rfl
theorem widek_all {xs : List (Int × Int)} {k : Nat} (h : xs.length ≤ k + 1) : widek xs k = wide xs := by
  rw [widek, List.take_of_length_le h]

set_option maxRecDepth 100000 in
set_option maxHeartbeats 2000000 in
theorem widest (g cap base : Nat) (xs : List (Int × Int)) (h0 : 0 < xs.length) (hl : xs.length ≤ 1000) (w : World) (row : w.ownsRow base 23 2 (.slice (some ⟨g, 0, none⟩) xs.length cap) xs.length (flat xs)) :
    Calls Tryd.prog 32 #[.slice (some ⟨g, 0, none⟩) xs.length cap, .func (.func 31) #[] #[]] w fun e w' => e = .returned (.agg #[.int .i64 (wide xs).1, .int .i64 (wide xs).2]) ∧ Below w.heap.size w w' := by
  have hg : g < w.heap.size := (row.lt g rfl).2
  have hcell : ∀ i (h : i < xs.length), w.cell? ⟨g, 2 * i, none⟩ = some (.int .i64 xs[i].1) ∧ w.cell? ⟨g, 2 * i + 1, none⟩ = some (.int .i64 xs[i].2) := fun i h => by
    have a := row.cells (g := g) rfl (2 * i) _ (flat_get xs i h).1
    have b := row.cells (g := g) rfl (2 * i + 1) _ (flat_get xs i h).2
    rw [add_plain] at a b
    exact ⟨a, b⟩
  have hcap : xs.length ≤ cap := by
    rcases row.2 with ⟨h, _⟩ | ⟨_, c, _, h, _, _, h2, _⟩
    · cases h
    · injection h with _ _ h; subst h; exact h2
  have c0 := hcell 0 h0
  have c00 := c0.1
  have c01 := c0.2
  clear c0 row
  have HC := Aside0.mk hcell
  clear hcell
  simp only [Nat.mul_zero, Nat.zero_add] at c00 c01
  by_cases h1 : xs.length = 1
  · have e1 : wide xs = xs[0] := by rw [← widek_zero h0, widek_all (by omega)]
    rw [e1]
    clear e1
    have hz : ((xs.length - 1 : Nat) : Int) = 0 := by omega
    have hz2 : decide ((0 : Int) < ((xs.length - 1 : Nat) : Int)) = false := by rw [hz]; rfl
    have HZ := Aside0.mk h1
    clear h1
    go_enter Tryd.func32, Tryd.ntmps32
    go_wp2
    all_goals
      refine wp_loop_rounds 1 ?_
      rw [rounds_succ]
      go_wp2
      exact bodyPost_ret (v := .agg #[.int .i64 xs[0].1, .int .i64 xs[0].2]) (by simp [results, Tryd.results32, go_sem]) rfl ⟨rfl, by go_grown⟩
  · have hcap1 : ¬ (cap = 1) := by omega
    go_enter Tryd.func32, Tryd.ntmps32
    go_wp2
    go_loopw [7, 14] (fun _ i wr => ∃ k : Nat, k + 1 ≤ xs.length ∧ i = .int .i64 k ∧ Below w.heap.size w wr ∧ wr.cell? ⟨w.heap.size, 0, none⟩ = some (.int .i64 0) ∧ wr.cell? ⟨w.heap.size, 1, none⟩ = some (.int .i64 0) ∧ wr.frozen? ⟨w.heap.size, 0, none⟩ = false ∧ wr.frozen? ⟨w.heap.size, 1, none⟩ = false ∧
      wr.cell? ⟨w.heap.size + 1, 0, none⟩ = some (.int .i64 (widek xs k).1) ∧ wr.cell? ⟨w.heap.size + 1, 1, none⟩ = some (.int .i64 (widek xs k).2) ∧ wr.frozen? ⟨w.heap.size + 1, 0, none⟩ = false ∧ wr.frozen? ⟨w.heap.size + 1, 1, none⟩ = false ∧ w.heap.size + 1 < wr.heap.size) (fun _ i _ => xs.length - (intOf i).toNat)
    case atStart =>
      refine ⟨0, by omega, rfl, by go_grown, ?_⟩
      rw [widek_zero h0]
      simp [go_sem]
    case round =>
      obtain ⟨k, hk, rfl, hb, z0, z1, y0, y1, a0, a1, b0, b1, hs⟩ := hrel
      by_cases hlt : k + 1 < xs.length
      · have hck := HC.out (k + 1) hlt
        have q0 := (hb.cell (p := ⟨g, 2 * (k + 1), none⟩) hg).trans hck.1
        have q1 := (hb.cell (p := ⟨g, 2 * (k + 1) + 1, none⟩) hg).trans hck.2
        clear hck
        rw [show 2 * (k + 1) = 2 + k * 2 by omega] at q0 q1
        have hk2 : (k : Int) < ((xs.length - 1 : Nat) : Int) := by omega
        obtain ⟨y, hy⟩ : ∃ y, xs[k + 1] = y := ⟨_, rfl⟩
        rw [hy] at q0 q1
        have hws := widek_succ hlt
        rw [hy] at hws
        have HY := Aside0.mk hws
        clear hws hy
        go_wp2_with fail
        refine (both _ _ _ _ _).mono ?_
        rintro e w2 ⟨rfl, hb2⟩
        have hA : ∀ p : Addr, p.block < wr.heap.size → w2.cell? p = wr.cell? p := fun p hp => (hb2.cell (by simp; omega)).trans (World.cell?_alloc_lt _ _ _ hp)
        have hF : ∀ p : Addr, p.block < wr.heap.size → w2.frozen? p = wr.frozen? p := fun p hp => (hb2.frozen (by simp; omega)).trans (World.frozen?_alloc_old _ _ _ (Nat.ne_of_lt hp))
        have hs2 : wr.heap.size + 1 ≤ w2.heap.size := by simpa using hb2.size
        have hbw : Below w.heap.size w w2 := hb.trans (((Below.refl _ wr).alloc hb.size _).trans (hb2.mono (by simp; have := hb.size; omega)))
        replace a0 := (hA ⟨w.heap.size + 1, 0, none⟩ hs).trans a0
        replace a1 := (hA ⟨w.heap.size + 1, 1, none⟩ hs).trans a1
        replace b0 := (hF ⟨w.heap.size + 1, 0, none⟩ hs).trans b0
        replace b1 := (hF ⟨w.heap.size + 1, 1, none⟩ hs).trans b1
        replace z0 := (hA ⟨w.heap.size, 0, none⟩ (by simp; omega)).trans z0
        replace z1 := (hA ⟨w.heap.size, 1, none⟩ (by simp; omega)).trans z1
        replace y0 := (hF ⟨w.heap.size, 0, none⟩ (by simp; omega)).trans y0
        replace y1 := (hF ⟨w.heap.size, 1, none⟩ (by simp; omega)).trans y1
        clear hA hF hb2 hb q0 q1
        go_wp2
        go_roundw
        case rel =>
          refine ⟨k + 1, by omega, by go_num, by go_grown, ?_⟩
          rw [HY.out]
          have n1 : (w2.setCell ⟨w.heap.size + 1, 0, none⟩ (.int .i64 (min (widek xs k).1 y.1))).cell? ⟨w.heap.size + 1, 1, none⟩ = some (.int .i64 (widek xs k).2) := (World.cell?_setCell_other _ _ _ _ (by simp)).trans a1
          refine ⟨?_, ?_, ?_, ?_, ?_, ?_, ?_, ?_, ?_⟩
          · rw [World.cell?_setCell_other _ _ _ _ (by intro h; injection h; omega), World.cell?_setCell_other _ _ _ _ (by intro h; injection h; omega)]; exact z0
          · rw [World.cell?_setCell_other _ _ _ _ (by intro h; injection h; omega), World.cell?_setCell_other _ _ _ _ (by intro h; injection h; omega)]; exact z1
          · simp only [World.frozen?_setCell]; exact y0
          · simp only [World.frozen?_setCell]; exact y1
          · rw [World.cell?_setCell_other _ _ _ _ (by intro h; injection h; omega)]; exact World.cell?_setCell_same _ _ _ a0
          · exact World.cell?_setCell_same _ _ _ n1
          · simp only [World.frozen?_setCell]; exact b0
          · simp only [World.frozen?_setCell]; exact b1
          · simp [World.setCell]; omega
        case measure => simp [intOf]; omega
      · have hk2 : ¬ ((k : Int) < ((xs.length - 1 : Nat) : Int)) := by omega
        have e1 : widek xs k = wide xs := widek_all (by omega)
        rw [e1] at a0 a1
        clear e1
        go_wp2
        have n1 : (wr.setCell ⟨w.heap.size, 0, none⟩ (.int .i64 (wide xs).1)).cell? ⟨w.heap.size, 1, none⟩ = some (.int .i64 0) := (World.cell?_setCell_other _ _ _ _ (by simp)).trans z1
        have x1 := World.cell?_setCell_same (wr.setCell ⟨w.heap.size, 0, none⟩ (.int .i64 (wide xs).1)) ⟨w.heap.size, 1, none⟩ (.int .i64 (wide xs).2) n1
        have x0 : ((wr.setCell ⟨w.heap.size, 0, none⟩ (.int .i64 (wide xs).1)).setCell ⟨w.heap.size, 1, none⟩ (.int .i64 (wide xs).2)).cell? ⟨w.heap.size, 0, none⟩ = some (.int .i64 (wide xs).1) :=
          (World.cell?_setCell_other _ _ _ _ (by simp)).trans (World.cell?_setCell_same _ _ _ z0)
        exact bodyPost_ret (v := .agg #[.int .i64 (wide xs).1, .int .i64 (wide xs).2]) (by simp [results, Tryd.results32, go_sem, x0, x1]) rfl ⟨rfl, by go_grown⟩
end Go.Proofs.YtdnkjdekikjihaaDoor.G
