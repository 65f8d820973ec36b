import PyProof.Rows.All
import Wide.All
import OpenK.AllK
import Wide.FinOn
import HandS.ForMost
import HandS.Zip
import KE.KDictZip
import HandS.SortInts
import HandS.Conv
import HandS.TupLen
import KE.GoesNew
import KE.KDictWalk
import KE.KDictDisplayH
import HandS.Sort
import HandS.DictTup
import HandS.IsInst
import HandS.TupLe
import HandS.Style
import HandS.Wide
import HandS.Walk
import HandS.WordsDict
import KE.KDictCopyH
import PySem.Challenge.RW_nearreach_k64_whole_alike_or_parted
set_option autoImplicit false
set_option linter.all false
/-! K64: the mathematics in plain Lean: words and their numbers, breadth first search, tables, classes, cuts. -/
namespace K64

/-! ### words -/
def num (m : Nat) (w : List Nat) : Nat := w.foldl (fun n i => n * m + 1 + i) 0
def Ok (m : Nat) (w : List Nat) : Prop := ∀ i ∈ w, i < m
theorem num_nil (m : Nat) : num m [] = 0 := rfl
theorem num_snoc (m : Nat) (w : List Nat) (i : Nat) : num m (w ++ [i]) = num m w * m + 1 + i := by
  simp [num, List.foldl_append]
theorem ok_nil (m : Nat) : Ok m [] := fun i h => by simp at h
theorem Ok.snoc {m : Nat} {w : List Nat} {i : Nat} (h : Ok m w) (hi : i < m) : Ok m (w ++ [i]) := fun j hj => by
  rcases List.mem_append.mp hj with z | z
  · exact h j z
  · rw [List.mem_singleton.mp z]; exact hi
theorem Ok.left {m : Nat} {u v : List Nat} (h : Ok m (u ++ v)) : Ok m u := fun j hj => h j (List.mem_append_left _ hj)
theorem Ok.right {m : Nat} {u v : List Nat} (h : Ok m (u ++ v)) : Ok m v := fun j hj => h j (List.mem_append_right _ hj)
theorem Ok.append {m : Nat} {u v : List Nat} (h : Ok m u) (k : Ok m v) : Ok m (u ++ v) := fun j hj => (List.mem_append.mp hj).elim (h j) (k j)
theorem Ok.last {m : Nat} {u : List Nat} {i : Nat} (h : Ok m (u ++ [i])) : i < m := h i (by simp)
theorem Ok.tail {m i : Nat} {u : List Nat} (h : Ok m (i :: u)) : Ok m u := fun j hj => h j (List.mem_cons_of_mem _ hj)
theorem Ok.head {m i : Nat} {u : List Nat} (h : Ok m (i :: u)) : i < m := h i (by simp)
theorem Ok.take {m : Nat} {u : List Nat} (h : Ok m u) (k : Nat) : Ok m (u.take k) := fun j hj => h j (List.mem_of_mem_take hj)
theorem Ok.drop {m : Nat} {u : List Nat} (h : Ok m u) (k : Nat) : Ok m (u.drop k) := fun j hj => h j (List.mem_of_mem_drop hj)
theorem snoc_cases {α : Type} (l : List α) : l = [] ∨ ∃ r a, l = r ++ [a] := by
  by_cases h : l = []
  · exact .inl h
  · exact .inr ⟨l.dropLast, l.getLast h, (List.dropLast_concat_getLast h).symm⟩
theorem snoc_ind {α : Type} {P : List α → Prop} (h0 : P []) (h1 : ∀ r a, P r → P (r ++ [a])) : ∀ (n : Nat) (l : List α), l.length = n → P l
  | 0, l, e => by rw [List.length_eq_zero_iff.mp e]; exact h0
  | n + 1, l, e => by
    rcases snoc_cases l with z | ⟨r, a, z⟩
    · rw [z] at e; simp at e
    · subst z
      exact h1 r a (snoc_ind h0 h1 n r (by simpa using e))
theorem mul_lt_step {a b m i : Nat} (h : a < b) (hi : i < m) : a * m + 1 + i < b * m + 1 := by
  have : (a + 1) * m ≤ b * m := Nat.mul_le_mul_right m h
  rw [Nat.add_mul, Nat.one_mul] at this
  omega
theorem num_mono_snoc {m : Nat} {u v : List Nat} {i j : Nat} (h : num m u < num m v) (hi : i < m) : num m (u ++ [i]) < num m (v ++ [j]) := by
  rw [num_snoc, num_snoc]
  have := mul_lt_step h hi
  omega
theorem num_le_snoc {m : Nat} {u v : List Nat} {i : Nat} (h : num m u ≤ num m v) : num m (u ++ [i]) ≤ num m (v ++ [i]) := by
  rw [num_snoc, num_snoc]
  have := Nat.mul_le_mul_right m h
  omega
theorem num_inj {m : Nat} : ∀ (n : Nat) (u v : List Nat), u.length = n → Ok m u → Ok m v → num m u = num m v → u = v
  | 0, u, v, e, _, _, h => by
    have e0 := List.length_eq_zero_iff.mp e
    subst e0
    rcases snoc_cases v with z | ⟨r, a, z⟩
    · exact z.symm
    · subst z
      rw [num_nil, num_snoc] at h
      omega
  | n + 1, u, v, e, hu, hv, h => by
    rcases snoc_cases u with z | ⟨r, a, z⟩
    · rw [z] at e; simp at e
    · subst z
      rcases snoc_cases v with z | ⟨s, b, z⟩
      · subst z
        rw [num_nil, num_snoc] at h
        omega
      · subst z
        have ha := hu.last
        have hb := hv.last
        rw [num_snoc, num_snoc] at h
        have e1 : num m r = num m s := by
          rcases Nat.lt_trichotomy (num m r) (num m s) with q | q | q
          · have := mul_lt_step q ha; omega
          · exact q
          · have := mul_lt_step q hb; omega
        have e2 : a = b := by rw [e1] at h; omega
        rw [num_inj n r s (by simpa using e) hu.left hv.left e1, e2]
theorem num_lt_of_length {m : Nat} : ∀ (n : Nat) (u v : List Nat), u.length = n → n < v.length → Ok m u → num m u < num m v
  | 0, u, v, e, hl, _ => by
    have e0 := List.length_eq_zero_iff.mp e
    subst e0
    rcases snoc_cases v with z | ⟨r, a, z⟩
    · subst z; simp at hl
    · subst z
      rw [num_nil, num_snoc]
      omega
  | n + 1, u, v, e, hl, hu => by
    rcases snoc_cases u with z | ⟨r, a, z⟩
    · rw [z] at e; simp at e
    · subst z
      rcases snoc_cases v with z | ⟨s, b, z⟩
      · subst z; simp at hl
      · subst z
        exact num_mono_snoc (num_lt_of_length n r s (by simpa using e) (by simpa using hl) hu.left) hu.last
theorem num_lt_append {m : Nat} : ∀ (x y u v : List Nat), x.length = y.length → Ok m x → num m u < num m v → num m (u ++ x) < num m (v ++ y)
  | [], [], u, v, _, _, h => by simpa using h
  | [], _ :: _, _, _, e, _, _ => by simp at e
  | _ :: _, [], _, _, e, _, _ => by simp at e
  | a :: x, b :: y, u, v, e, hx, h => by
    have := num_lt_append x y (u ++ [a]) (v ++ [b]) (by simpa using e) hx.tail (num_mono_snoc h hx.head)
    simpa using this
/-- two words of one length that part at the place k -/
theorem num_lt_first {m : Nat} {u v : List Nat} {k a b : Nat} (hl : u.length = v.length) (hu : Ok m u) (ha : u[k]? = some a) (hb : v[k]? = some b) (hp : u.take k = v.take k) (h : a < b) : num m u < num m v := by
  obtain ⟨k1, e1⟩ := List.getElem?_eq_some_iff.mp ha
  obtain ⟨k2, e2⟩ := List.getElem?_eq_some_iff.mp hb
  have s1 : u = (u.take k ++ [a]) ++ u.drop (k + 1) := by
    rw [List.append_assoc, List.singleton_append, ← e1, List.getElem_cons_drop, List.take_append_drop]
  have s2 : v = (v.take k ++ [b]) ++ v.drop (k + 1) := by
    rw [List.append_assoc, List.singleton_append, ← e2, List.getElem_cons_drop, List.take_append_drop]
  rw [s1, s2]
  refine num_lt_append _ _ _ _ (by simp [hl]) (hu.drop _) ?_
  rw [num_snoc, num_snoc, hp]
  omega

/-! ### small things about lists -/
theorem get_snoc {α : Type} {l : List α} {x y : α} {j : Nat} : (l ++ [x])[j]? = some y ↔ l[j]? = some y ∨ (j = l.length ∧ x = y) := by
  rcases Nat.lt_trichotomy j l.length with h | h | h
  · rw [List.getElem?_append_left h]
    constructor
    · exact .inl
    · rintro (z | ⟨z, _⟩)
      · exact z
      · omega
  · subst h
    rw [List.getElem?_append_right (Nat.le_refl _), Nat.sub_self]
    constructor
    · intro z; exact .inr ⟨rfl, by simpa using z⟩
    · rintro (z | ⟨_, z⟩)
      · rw [List.getElem?_eq_none (Nat.le_refl _)] at z; cases z
      · rw [z]; rfl
  · rw [List.getElem?_eq_none (by simp; omega)]
    constructor
    · intro z; cases z
    · rintro (z | ⟨z, _⟩)
      · rw [List.getElem?_eq_none (by omega)] at z; cases z
      · omega
theorem lt_of_get {α : Type} {l : List α} {j : Nat} {x : α} (h : l[j]? = some x) : j < l.length := (List.getElem?_eq_some_iff.mp h).1
theorem get_of_lt {α : Type} {l : List α} {j : Nat} (h : j < l.length) : ∃ x, l[j]? = some x := ⟨l[j], List.getElem?_eq_getElem h⟩
theorem full {l : List Nat} {k : Nat} (hn : l.Nodup) (hb : ∀ x ∈ l, x < k) (hl : l.length = k) : ∀ x, x < k → x ∈ l := fun x hx => Classical.byContradiction fun h => by
  have h1 : (x :: l).Nodup := List.nodup_cons.mpr ⟨h, hn⟩
  have h2 : (x :: l) ⊆ List.range k := fun y hy => by
    rcases List.mem_cons.mp hy with z | z
    · rw [z]; exact List.mem_range.mpr hx
    · exact List.mem_range.mpr (hb y z)
  have h3 := List.Nodup.length_le_of_subset h1 h2
  rw [List.length_cons, List.length_range] at h3
  omega

/-! ### breadth first search -/
section
variable {α : Type} {step : α → Nat → α} {m : Nat} {a0 : α}
def run (step : α → Nat → α) (a : α) (w : List Nat) : α := w.foldl step a
theorem run_nil (step : α → Nat → α) (a : α) : run step a [] = a := rfl
theorem run_snoc (step : α → Nat → α) (a : α) (w : List Nat) (i : Nat) : run step a (w ++ [i]) = step (run step a w) i := by
  simp [run, List.foldl_append]
theorem run_cons (step : α → Nat → α) (a : α) (w : List Nat) (i : Nat) : run step a (i :: w) = run step (step a i) w := rfl
theorem run_append (step : α → Nat → α) (a : α) (u v : List Nat) : run step a (u ++ v) = run step (run step a u) v := by
  simp [run, List.foldl_append]

/-- the search in its course: turn at', the signs below i of it done -/
structure Bfs (step : α → Nat → α) (m : Nat) (a0 : α) (L : List (α × List Nat)) (at' i : Nat) : Prop where
  head : L[0]? = some (a0, [])
  nodup : (L.map (·.1)).Nodup
  runs : ∀ (j : Nat) p, L[j]? = some p → run step a0 p.2 = p.1 ∧ Ok m p.2 ∧ p.2.length ≤ j
  mono : ∀ (j k : Nat) p q, L[j]? = some p → L[k]? = some q → j < k → num m p.2 < num m q.2
  bound : ∀ (j : Nat) p q, L[at']? = some p → L[j]? = some q → num m q.2 < num m p.2 * m + 1 + i
  closed : ∀ (j : Nat) p k, L[j]? = some p → k < m → (j < at' ∨ (j = at' ∧ k < i)) → ∃ (l : Nat) (q : α × List Nat), L[l]? = some q ∧ q.1 = step p.1 k ∧ num m q.2 ≤ num m p.2 * m + 1 + k
theorem Bfs.init (step : α → Nat → α) (m : Nat) (a0 : α) : Bfs step m a0 [(a0, [])] 0 0 where
  head := rfl
  nodup := by simp
  runs := fun j p h => by
    have hj := lt_of_get h
    have : j = 0 := by simpa using hj
    subst this
    cases h
    exact ⟨rfl, ok_nil m, Nat.le_refl _⟩
  mono := fun j k p q hp hq h => by
    have := lt_of_get hq
    simp at this
    omega
  bound := fun j p q hp hq => by
    have hj := lt_of_get hq
    have : j = 0 := by simpa using hj
    subst this
    cases hp
    cases hq
    simp [num_nil]
  closed := fun j p k hp hk h => by omega
variable {L : List (α × List Nat)} {at' i : Nat}
theorem Bfs.old (B : Bfs step m a0 L at' i) {p : α × List Nat} (hp : L[at']? = some p) (hi : i < m) (hin : step p.1 i ∈ L.map (·.1)) : Bfs step m a0 L at' (i + 1) where
  head := B.head
  nodup := B.nodup
  runs := B.runs
  mono := B.mono
  bound := fun j p' q h1 h2 => Nat.lt_succ_of_lt (B.bound j p' q h1 h2)
  closed := fun j p' k h1 hk h => by
    by_cases e : j = at' ∧ k = i
    · obtain ⟨e1, e2⟩ := e
      subst e1 e2
      rw [hp] at h1
      cases h1
      obtain ⟨q, hq, e⟩ := List.mem_map.mp hin
      obtain ⟨l, hl⟩ := List.mem_iff_getElem?.mp hq
      exact ⟨l, q, hl, e, Nat.le_of_lt (B.bound l p q hp hl)⟩
    · exact B.closed j p' k h1 hk (by omega)
theorem Bfs.new (B : Bfs step m a0 L at' i) {p : α × List Nat} (hp : L[at']? = some p) (hi : i < m) (hin : step p.1 i ∉ L.map (·.1)) : Bfs step m a0 (L ++ [(step p.1 i, p.2 ++ [i])]) at' (i + 1) where
  head := by rw [get_snoc]; exact .inl B.head
  nodup := by
    rw [List.map_append, List.nodup_append]
    refine ⟨B.nodup, by simp, fun a ha b hb e => hin ?_⟩
    have : b = step p.1 i := by simpa using hb
    rw [← this, ← e]
    exact ha
  runs := fun j q h => by
    rcases get_snoc.mp h with h | ⟨e, h⟩
    · exact B.runs j q h
    · subst h
      obtain ⟨r1, r2, r3⟩ := B.runs _ p hp
      refine ⟨by rw [run_snoc, r1], r2.snoc hi, ?_⟩
      have := lt_of_get hp
      rw [List.length_append, List.length_singleton]
      omega
  mono := fun j k p' q h1 h2 h => by
    rcases get_snoc.mp h1 with h1 | ⟨e1, h1⟩
    · rcases get_snoc.mp h2 with h2 | ⟨e2, h2⟩
      · exact B.mono j k p' q h1 h2 h
      · subst h2
        rw [num_snoc]
        exact B.bound j p p' hp h1
    · have := lt_of_get h2
      rw [List.length_append, List.length_singleton] at this
      omega
  bound := fun j p' q h1 h2 => by
    have h1' : L[at']? = some p' := by
      rcases get_snoc.mp h1 with h1 | ⟨e, h1⟩
      · exact h1
      · have := lt_of_get hp
        omega
    rw [hp] at h1'
    cases h1'
    rcases get_snoc.mp h2 with h2 | ⟨e, h2⟩
    · exact Nat.lt_succ_of_lt (B.bound j p q hp h2)
    · subst h2
      rw [num_snoc]
      omega
  closed := fun j p' k h1 hk h => by
    rcases get_snoc.mp h1 with h1' | ⟨e, h1'⟩
    · by_cases e : j = at' ∧ k = i
      · obtain ⟨e1, e2⟩ := e
        subst e1 e2
        rw [hp] at h1'
        cases h1'
        refine ⟨L.length, _, get_snoc.mpr (.inr ⟨rfl, rfl⟩), rfl, ?_⟩
        rw [num_snoc]
        exact Nat.le_refl _
      · obtain ⟨l, q, hl, e1, e2⟩ := B.closed j p' k h1' hk (by omega)
        exact ⟨l, q, get_snoc.mpr (.inl hl), e1, e2⟩
    · have := lt_of_get hp
      omega
theorem Bfs.next (B : Bfs step m a0 L at' m) : Bfs step m a0 L (at' + 1) 0 where
  head := B.head
  nodup := B.nodup
  runs := B.runs
  mono := B.mono
  bound := fun j p q h1 h2 => by
    obtain ⟨p0, h0⟩ := get_of_lt (l := L) (j := at') (by have := lt_of_get h1; omega)
    have a := B.bound j p0 q h0 h2
    have b := B.mono at' (at' + 1) p0 p h0 h1 (Nat.lt_succ_self _)
    have c : (num m p0.2 + 1) * m ≤ num m p.2 * m := Nat.mul_le_mul_right m b
    rw [Nat.add_mul, Nat.one_mul] at c
    omega
  closed := fun j p k h1 hk h => B.closed j p k h1 hk (by omega)
/-- the search is through -/
structure Reach (step : α → Nat → α) (m : Nat) (a0 : α) (L : List (α × List Nat)) : Prop where
  head : L[0]? = some (a0, [])
  nodup : (L.map (·.1)).Nodup
  runs : ∀ (j : Nat) p, L[j]? = some p → run step a0 p.2 = p.1 ∧ Ok m p.2 ∧ p.2.length ≤ j
  mono : ∀ (j k : Nat) p q, L[j]? = some p → L[k]? = some q → j < k → num m p.2 < num m q.2
  closed : ∀ (j : Nat) p k, L[j]? = some p → k < m → ∃ (l : Nat) (q : α × List Nat), L[l]? = some q ∧ q.1 = step p.1 k ∧ num m q.2 ≤ num m p.2 * m + 1 + k
theorem Bfs.done (B : Bfs step m a0 L at' i) (h : L.length ≤ at') : Reach step m a0 L where
  head := B.head
  nodup := B.nodup
  runs := B.runs
  mono := B.mono
  closed := fun j p k h1 hk => B.closed j p k h1 hk (.inl (Nat.lt_of_lt_of_le (lt_of_get h1) h))
theorem Reach.rep (R : Reach step m a0 L) (v : List Nat) (hv : Ok m v) : ∃ (j : Nat) (q : α × List Nat), L[j]? = some q ∧ q.1 = run step a0 v ∧ num m q.2 ≤ num m v := by
  refine snoc_ind (P := fun v => Ok m v → ∃ (j : Nat) (q : α × List Nat), L[j]? = some q ∧ q.1 = run step a0 v ∧ num m q.2 ≤ num m v) ?_ ?_ v.length v rfl hv
  · intro _
    exact ⟨0, _, R.head, rfl, Nat.le_refl _⟩
  · intro r a ih h
    obtain ⟨j, q, h1, h2, h3⟩ := ih h.left
    obtain ⟨l, q', h4, h5, h6⟩ := R.closed j q a h1 h.last
    refine ⟨l, q', h4, by rw [h5, h2, run_snoc], ?_⟩
    have := Nat.mul_le_mul_right m h3
    rw [num_snoc]
    omega
theorem Reach.uniq (R : Reach step m a0 L) {j k : Nat} {p q : α × List Nat} (h1 : L[j]? = some p) (h2 : L[k]? = some q) (e : p.1 = q.1) : j = k := by
  have a : (L.map (·.1))[j]? = some p.1 := by rw [List.getElem?_map, h1]; rfl
  have b : (L.map (·.1))[k]? = some q.1 := by rw [List.getElem?_map, h2]; rfl
  obtain ⟨a1, a2⟩ := List.getElem?_eq_some_iff.mp a
  obtain ⟨b1, b2⟩ := List.getElem?_eq_some_iff.mp b
  have n := List.pairwise_iff_getElem.mp R.nodup
  rcases Nat.lt_trichotomy j k with z | z | z
  · exact absurd (a2.trans (e.trans b2.symm)) (n j k a1 b1 z)
  · exact z
  · exact absurd (b2.trans (e.symm.trans a2.symm)) (n k j b1 a1 z)
/-- every thing met is met by a word; and the things that words lead to are met -/
theorem Reach.mem (R : Reach step m a0 L) (v : List Nat) (hv : Ok m v) : run step a0 v ∈ L.map (·.1) := by
  obtain ⟨j, q, h1, h2, _⟩ := R.rep v hv
  exact List.mem_map.mpr ⟨q, List.mem_of_getElem? h1, h2⟩
theorem Reach.of_mem (R : Reach step m a0 L) {a : α} (h : a ∈ L.map (·.1)) : ∃ v, Ok m v ∧ run step a0 v = a := by
  obtain ⟨q, hq, e⟩ := List.mem_map.mp h
  obtain ⟨j, hj⟩ := List.mem_iff_getElem?.mp hq
  obtain ⟨h1, h2, _⟩ := R.runs j q hj
  exact ⟨q.2, h2, h1.trans e⟩
theorem Bfs.len_le (B : Bfs step m a0 L at' i) (U : List α) (hU : ∀ v, Ok m v → run step a0 v ∈ U) : L.length ≤ U.length := by
  have h : (L.map (·.1)) ⊆ U := fun x hx => by
    obtain ⟨q, hq, e⟩ := List.mem_map.mp hx
    obtain ⟨j, hj⟩ := List.mem_iff_getElem?.mp hq
    obtain ⟨h1, h2, _⟩ := B.runs j q hj
    rw [← e, ← h1]
    exact hU _ h2
  have := List.Nodup.length_le_of_subset B.nodup h
  rwa [List.length_map] at this
/-- nothing bad is met: no word leads to it -/
theorem Reach.none_bad (R : Reach step m a0 L) {bad : α → Prop} (h : ∀ (j : Nat) p, L[j]? = some p → ¬ bad p.1) (v : List Nat) (hv : Ok m v) : ¬ bad (run step a0 v) := by
  obtain ⟨j, q, h1, h2, _⟩ := R.rep v hv
  rw [← h2]
  exact h j q h1
/-- the first bad one's word is the least that leads to a bad one -/
theorem Reach.first_bad (R : Reach step m a0 L) {bad : α → Prop} {j : Nat} {p : α × List Nat} (hj : L[j]? = some p) (h : ∀ (k : Nat) q, k < j → L[k]? = some q → ¬ bad q.1) (v : List Nat) (hv : Ok m v) (hn : num m v < num m p.2) : ¬ bad (run step a0 v) := by
  obtain ⟨k, q, h1, h2, h3⟩ := R.rep v hv
  rw [← h2]
  refine h k q ?_ h1
  rcases Nat.lt_trichotomy k j with z | z | z
  · exact z
  · subst z
    rw [hj] at h1
    cases h1
    omega
  · have := R.mono j k p q hj h1 z
    omega
/-- the places in the order of the least words: what stands ahead of a place is led to by a lesser word -/
theorem Reach.ahead (R : Reach step m a0 L) {v : List Nat} (hv : Ok m v) {j k : Nat} {p : α × List Nat} (hj : L[j]? = some p) (e : p.1 = run step a0 v) (hk : k < j) : ∃ u q, Ok m u ∧ num m u < num m v ∧ L[k]? = some q ∧ q.1 = run step a0 u := by
  obtain ⟨q, hq⟩ := get_of_lt (l := L) (j := k) (by have := lt_of_get hj; omega)
  obtain ⟨j', q', h1, h2, h3⟩ := R.rep v hv
  have ej : j = j' := R.uniq hj h1 (e.trans h2.symm)
  subst ej
  rw [hj] at h1
  cases h1
  obtain ⟨r1, r2, _⟩ := R.runs k q hq
  exact ⟨q.2, q, r2, Nat.lt_of_lt_of_le (R.mono k j q p hq hj hk) h3, hq, r1.symm⟩
end
end K64
set_option autoImplicit false
set_option linter.all false
/-! K64: tables, pairs, classes, least tables, cuts, in plain Lean. -/
namespace K64

/-! ### tables -/
structure Tab where
  m : Nat
  goes : List (List Nat)
  kinds : List Int
def Tab.step (t : Tab) (r i : Nat) : Nat := (t.goes.getD r []).getD i 0
def Tab.kind (t : Tab) (r : Nat) : Int := t.kinds.getD r (-1)
/-- the kind of a word -/
def Tab.kap (t : Tab) (v : List Nat) : Int := t.kind (run t.step 0 v)
structure Tab.Wf (t : Tab) : Prop where
  pos : 0 < t.goes.length
  small : t.goes.length ≤ 32
  len : t.kinds.length = t.goes.length
  row : ∀ (r : Nat) row, t.goes[r]? = some row → row.length = t.m ∧ ∀ x ∈ row, x < t.goes.length
structure Tab.Good (t : Tab) : Prop where
  wf : t.Wf
  zero : t.kind 0 = -1
  low : ∀ r, -1 ≤ t.kind r
  reach : ∀ r, r < t.goes.length → ∃ v, Ok t.m v ∧ run t.step 0 v = r
theorem Tab.step_of {t : Tab} {r i x : Nat} {row : List Nat} (h : t.goes[r]? = some row) (hx : row[i]? = some x) : t.step r i = x := by
  have e : t.goes.getD r [] = row := by rw [List.getD_eq_getElem?_getD, h, Option.getD_some]
  unfold Tab.step
  rw [e, List.getD_eq_getElem?_getD, hx, Option.getD_some]
theorem Tab.Wf.at_ {t : Tab} (W : t.Wf) {r i : Nat} (hr : r < t.goes.length) (hi : i < t.m) : ∃ row, t.goes[r]? = some row ∧ row[i]? = some (t.step r i) ∧ t.step r i < t.goes.length := by
  obtain ⟨row, h⟩ := get_of_lt hr
  obtain ⟨h1, h2⟩ := W.row r row h
  obtain ⟨x, hx⟩ := get_of_lt (l := row) (j := i) (by omega)
  have e := Tab.step_of h hx
  exact ⟨row, h, by rw [e]; exact hx, by rw [e]; exact h2 x (List.mem_of_getElem? hx)⟩
theorem Tab.Wf.step_lt {t : Tab} (W : t.Wf) {r i : Nat} (hr : r < t.goes.length) (hi : i < t.m) : t.step r i < t.goes.length := by
  obtain ⟨_, _, _, h⟩ := W.at_ hr hi
  exact h
theorem Tab.Wf.kind_at {t : Tab} (W : t.Wf) {r : Nat} (hr : r < t.goes.length) : t.kinds[r]? = some (t.kind r) := by
  obtain ⟨x, h⟩ := get_of_lt (l := t.kinds) (j := r) (by rw [W.len]; exact hr)
  rw [h]
  unfold Tab.kind
  rw [List.getD_eq_getElem?_getD, h, Option.getD_some]
theorem Tab.Wf.run_lt {t : Tab} (W : t.Wf) : ∀ (v : List Nat) (r : Nat), r < t.goes.length → Ok t.m v → run t.step r v < t.goes.length
  | [], _, h, _ => h
  | i :: v, r, h, hv => W.run_lt v (t.step r i) (W.step_lt h hv.head) hv.tail
theorem Tab.ext_ {t u : Tab} (hm : t.m = u.m) (hg : t.goes = u.goes) (hk : t.kinds = u.kinds) : t = u := by
  cases t
  cases u
  simp_all

/-! ### two tables -/
def step2 (t u : Tab) (a : Nat × Nat) (i : Nat) : Nat × Nat := (t.step a.1 i, u.step a.2 i)
theorem run2 (t u : Tab) : ∀ (v : List Nat) (a : Nat × Nat), run (step2 t u) a v = (run t.step a.1 v, run u.step a.2 v)
  | [], _ => rfl
  | i :: v, a => by rw [run_cons, run2 t u v]; rfl
/-- what parted tells -/
def PartedIs (t u : Tab) : Option (List Nat) → Prop
  | none => ∀ v, Ok t.m v → t.kap v = u.kap v
  | some w => Ok t.m w ∧ w.length ≤ 1024 ∧ t.kap w ≠ u.kap w ∧ ∀ v, Ok t.m v → num t.m v < num t.m w → t.kap v = u.kap v
def allPairs (a b : Nat) : List (Nat × Nat) := (List.range a).flatMap fun i => (List.range b).map fun j => (i, j)
theorem mem_allPairs {a b : Nat} {p : Nat × Nat} : p ∈ allPairs a b ↔ p.1 < a ∧ p.2 < b := by
  unfold allPairs
  rw [List.mem_flatMap]
  constructor
  · rintro ⟨i, hi, h⟩
    obtain ⟨j, hj, e⟩ := List.mem_map.mp h
    rw [← e]
    exact ⟨List.mem_range.mp hi, List.mem_range.mp hj⟩
  · rintro ⟨h1, h2⟩
    exact ⟨p.1, List.mem_range.mpr h1, List.mem_map.mpr ⟨p.2, List.mem_range.mpr h2, rfl⟩⟩
theorem length_allPairs (a b : Nat) : (allPairs a b).length = a * b := by
  unfold allPairs
  induction a with
  | zero => simp
  | succ a ih => rw [List.range_succ, List.flatMap_append, List.length_append, ih]; simp [Nat.add_mul]
theorem pairs_in {t u : Tab} (W : t.Wf) (W' : u.Wf) (hm : t.m = u.m) (v : List Nat) (hv : Ok t.m v) : run (step2 t u) (0, 0) v ∈ allPairs t.goes.length u.goes.length := by
  rw [run2]
  exact mem_allPairs.mpr ⟨W.run_lt v 0 W.pos hv, W'.run_lt v 0 W'.pos (by rw [← hm]; exact hv)⟩
theorem pairs_le {t u : Tab} {L : List ((Nat × Nat) × List Nat)} {at' i : Nat} (B : Bfs (step2 t u) t.m (0, 0) L at' i) (W : t.Wf) (W' : u.Wf) (hm : t.m = u.m) : L.length ≤ 1024 := by
  have h := B.len_le (allPairs t.goes.length u.goes.length) (pairs_in W W' hm)
  rw [length_allPairs] at h
  have : t.goes.length * u.goes.length ≤ 32 * 32 := Nat.mul_le_mul W.small W'.small
  omega
theorem pairs_len {t u : Tab} {L : List ((Nat × Nat) × List Nat)} (R : Reach (step2 t u) t.m (0, 0) L) (W : t.Wf) (W' : u.Wf) (hm : t.m = u.m) : L.length ≤ 1024 := by
  have h : (L.map (·.1)) ⊆ allPairs t.goes.length u.goes.length := fun x hx => by
    obtain ⟨v, hv, e⟩ := R.of_mem hx
    rw [← e]
    exact pairs_in W W' hm v hv
  have h2 := List.Nodup.length_le_of_subset R.nodup h
  rw [length_allPairs, List.length_map] at h2
  have : t.goes.length * u.goes.length ≤ 32 * 32 := Nat.mul_le_mul W.small W'.small
  omega
theorem parted_none {t u : Tab} {L : List ((Nat × Nat) × List Nat)} (R : Reach (step2 t u) t.m (0, 0) L) (h : ∀ (j : Nat) p, L[j]? = some p → t.kind p.1.1 = u.kind p.1.2) : PartedIs t u none := fun v hv => by
  have := R.none_bad (bad := fun a => t.kind a.1 ≠ u.kind a.2) (fun j p hj hb => hb (h j p hj)) v hv
  rw [run2] at this
  exact Classical.not_not.mp this
theorem parted_some {t u : Tab} {L : List ((Nat × Nat) × List Nat)} (W : t.Wf) (W' : u.Wf) (hm : t.m = u.m) (R : Reach (step2 t u) t.m (0, 0) L) {j : Nat} {p : (Nat × Nat) × List Nat} (hj : L[j]? = some p) (hb : t.kind p.1.1 ≠ u.kind p.1.2)
    (h : ∀ (k : Nat) q, k < j → L[k]? = some q → t.kind q.1.1 = u.kind q.1.2) : PartedIs t u (some p.2) := by
  obtain ⟨r1, r2, r3⟩ := R.runs j p hj
  have := lt_of_get hj
  have := pairs_len R W W' hm
  rw [run2] at r1
  refine ⟨r2, by omega, ?_, fun v hv hn => ?_⟩
  · unfold Tab.kap
    have e1 : run t.step 0 p.2 = p.1.1 := congrArg Prod.fst r1
    have e2 : run u.step 0 p.2 = p.1.2 := congrArg Prod.snd r1
    rw [e1, e2]
    exact hb
  · have := R.first_bad (bad := fun a => t.kind a.1 ≠ u.kind a.2) hj (fun k q hk hq hb => hb (h k q hk hq)) v hv hn
    rw [run2] at this
    exact Classical.not_not.mp this
theorem PartedIs.symm {t u : Tab} (hm : t.m = u.m) : ∀ {o : Option (List Nat)}, PartedIs t u o → PartedIs u t o
  | none, h => fun v hv => (h v (by rw [hm]; exact hv)).symm
  | some w, ⟨h1, h2, h3, h4⟩ => ⟨by rw [← hm]; exact h1, h2, h3.symm, fun v hv hn => (h4 v (by rw [hm]; exact hv) (by rw [hm]; exact hn)).symm⟩
theorem PartedIs.uniq {t u : Tab} : ∀ {o o' : Option (List Nat)}, PartedIs t u o → PartedIs t u o' → o = o'
  | none, none, _, _ => rfl
  | none, some w, h, ⟨h1, _, h3, _⟩ => absurd (h w h1) h3
  | some w, none, ⟨h1, _, h3, _⟩, h => absurd (h w h1) h3
  | some w, some w', ⟨h1, _, h3, h4⟩, ⟨k1, _, k3, k4⟩ => by
    rcases Nat.lt_trichotomy (num t.m w) (num t.m w') with z | z | z
    · exact absurd (k4 w h1 z) h3
    · rw [num_inj _ w w' rfl h1 k1 z]
    · exact absurd (h4 w' k1 z) k3
/-- of tables in which words have the same kinds the same word is told -/
theorem PartedIs.move {t u t' u' : Tab} (hm : t.m = t'.m) (h1 : ∀ v, Ok t.m v → t.kap v = t'.kap v) (h2 : ∀ v, Ok t.m v → u.kap v = u'.kap v) : ∀ {o : Option (List Nat)}, PartedIs t u o → PartedIs t' u' o
  | none, h => fun v hv => by
    have hv' : Ok t.m v := by rw [hm]; exact hv
    rw [← h1 v hv', ← h2 v hv']
    exact h v hv'
  | some w, ⟨k1, k2, k3, k4⟩ => ⟨by rw [← hm]; exact k1, k2, by rw [← h1 w k1, ← h2 w k1]; exact k3, fun v hv hn => by
    have hv' : Ok t.m v := by rw [hm]; exact hv
    rw [← h1 v hv', ← h2 v hv']
    exact k4 v hv' (by rw [hm]; exact hn)⟩

/-- rows that show that two tables cut alike -/
structure Holds (t u : Tab) (rows : List (Nat × Nat)) : Prop where
  start : (0, 0) ∈ rows
  kind : ∀ p ∈ rows, p.1 < t.goes.length ∧ p.2 < u.goes.length ∧ t.kind p.1 = u.kind p.2
  go : ∀ p ∈ rows, ∀ i, i < t.m → step2 t u p i ∈ rows
theorem Holds.sound {t u : Tab} {rows : List (Nat × Nat)} (h : Holds t u rows) (v : List Nat) (hv : Ok t.m v) : t.kap v = u.kap v := by
  have key : run (step2 t u) (0, 0) v ∈ rows := by
    refine snoc_ind (P := fun v => Ok t.m v → run (step2 t u) (0, 0) v ∈ rows) ?_ ?_ v.length v rfl hv
    · intro _
      exact h.start
    · intro r a ih hr
      rw [run_snoc]
      exact h.go _ (ih hr.left) a hr.last
  have := (h.kind _ key).2.2
  rw [run2] at this
  exact this
theorem Holds.swap {t u : Tab} {rows : List (Nat × Nat)} (hm : t.m = u.m) (h : Holds t u rows) : Holds u t (rows.map fun p => (p.2, p.1)) where
  start := List.mem_map.mpr ⟨(0, 0), h.start, rfl⟩
  kind := fun p hp => by
    obtain ⟨q, hq, e⟩ := List.mem_map.mp hp
    subst e
    obtain ⟨h1, h2, h3⟩ := h.kind q hq
    exact ⟨h2, h1, h3.symm⟩
  go := fun p hp i hi => by
    obtain ⟨q, hq, e⟩ := List.mem_map.mp hp
    subst e
    exact List.mem_map.mpr ⟨step2 t u q i, h.go q hq i (by rw [hm]; exact hi), rfl⟩
theorem holds_of_reach {t u : Tab} {L : List ((Nat × Nat) × List Nat)} {rows : List (Nat × Nat)} (W : t.Wf) (W' : u.Wf) (hm : t.m = u.m) (R : Reach (step2 t u) t.m (0, 0) L) (hk : ∀ v, Ok t.m v → t.kap v = u.kap v)
    (hp : ∀ p, p ∈ rows ↔ p ∈ L.map (·.1)) : Holds t u rows where
  start := (hp _).mpr (List.mem_map.mpr ⟨_, List.mem_of_getElem? R.head, rfl⟩)
  kind := fun p h => by
    obtain ⟨v, hv, e⟩ := R.of_mem ((hp p).mp h)
    rw [run2] at e
    subst e
    exact ⟨W.run_lt v 0 W.pos hv, W'.run_lt v 0 W'.pos (by rw [← hm]; exact hv), hk v hv⟩
  go := fun p h i hi => by
    obtain ⟨v, hv, e⟩ := R.of_mem ((hp p).mp h)
    have := R.mem (v ++ [i]) (hv.snoc hi)
    rw [run_snoc, e] at this
    exact (hp _).mpr this

/-! ### classes of rooms -/
/-- a numbering of the rooms by classes that no word tells apart, in the order of the least words -/
structure Cls (t : Tab) (f : Nat → Nat) : Prop where
  zero : f 0 = 0
  kind : ∀ r s, r < t.goes.length → s < t.goes.length → f r = f s → t.kind r = t.kind s
  step : ∀ r s, r < t.goes.length → s < t.goes.length → f r = f s → ∀ i, i < t.m → f (t.step r i) = f (t.step s i)
  sep : ∀ r s, r < t.goes.length → s < t.goes.length → (∀ w, Ok t.m w → t.kind (run t.step r w) = t.kind (run t.step s w)) → f r = f s
  ord : ∀ v, Ok t.m v → ∀ j, j < f (run t.step 0 v) → ∃ u, Ok t.m u ∧ num t.m u < num t.m v ∧ f (run t.step 0 u) = j
theorem Cls.alike {t : Tab} {f : Nat → Nat} (W : t.Wf) (C : Cls t f) : ∀ (w : List Nat) (r s : Nat), r < t.goes.length → s < t.goes.length → f r = f s → Ok t.m w → t.kind (run t.step r w) = t.kind (run t.step s w)
  | [], r, s, hr, hs, e, _ => C.kind r s hr hs e
  | i :: w, r, s, hr, hs, e, hw => Cls.alike W C w _ _ (W.step_lt hr hw.head) (W.step_lt hs hw.head) (C.step r s hr hs e i hw.head) hw.tail
theorem Cls.below {t u : Tab} {f g : Nat → Nat} (W : t.Wf) (W' : u.Wf) (hm : t.m = u.m) (C : Cls t f) (D : Cls u g) (hk : ∀ v, Ok t.m v → t.kap v = u.kap v) (v : List Nat) (hv : Ok t.m v)
    (ih : ∀ x, Ok t.m x → num t.m x < num t.m v → f (run t.step 0 x) = g (run u.step 0 x)) : ¬ f (run t.step 0 v) < g (run u.step 0 v) := fun h => by
  have hv' : Ok u.m v := by rw [← hm]; exact hv
  obtain ⟨x, hx, hn, e⟩ := D.ord v hv' _ h
  rw [← hm] at hx hn
  have e2 := ih x hx hn
  rw [e] at e2
  have q := Cls.alike W C
  have rx := W.run_lt x 0 W.pos hx
  have rv := W.run_lt v 0 W.pos hv
  have e3 : g (run u.step 0 x) = g (run u.step 0 v) := by
    refine D.sep _ _ (W'.run_lt x 0 W'.pos (by rw [← hm]; exact hx)) (W'.run_lt v 0 W'.pos hv') fun w hw => ?_
    rw [← hm] at hw
    have a := hk (x ++ w) (hx.append hw)
    have b := hk (v ++ w) (hv.append hw)
    unfold Tab.kap at a b
    rw [run_append, run_append] at a b
    rw [← a, ← b]
    exact q w _ _ rx rv e2 hw
  omega
theorem Cls.uniq {t u : Tab} {f g : Nat → Nat} (W : t.Wf) (W' : u.Wf) (hm : t.m = u.m) (C : Cls t f) (D : Cls u g) (hk : ∀ v, Ok t.m v → t.kap v = u.kap v) : ∀ (n : Nat) (v : List Nat), num t.m v = n → Ok t.m v → f (run t.step 0 v) = g (run u.step 0 v) := by
  intro n
  induction n using Nat.strongRecOn with
  | ind n ih =>
    intro v hn hv
    have ih' : ∀ x, Ok t.m x → num t.m x < num t.m v → f (run t.step 0 x) = g (run u.step 0 x) := fun x hx h => ih _ (by rw [← hn]; exact h) x rfl hx
    have a := Cls.below W W' hm C D hk v hv ih'
    have b := Cls.below W' W hm.symm D C (fun y hy => (hk y (by rw [hm]; exact hy)).symm) v (by rw [← hm]; exact hv) fun x hx h => (ih' x (by rw [hm]; exact hx) (by rw [hm]; exact h)).symm
    omega

/-- f folds t into L -/
structure Fold (t L : Tab) (f : Nat → Nat) : Prop where
  m : L.m = t.m
  zero : f 0 = 0
  lt : ∀ r, r < t.goes.length → f r < L.goes.length
  kind : ∀ r, r < t.goes.length → L.kind (f r) = t.kind r
  step : ∀ r, r < t.goes.length → ∀ i, i < t.m → L.step (f r) i = f (t.step r i)
theorem Fold.run {t L : Tab} {f : Nat → Nat} (W : t.Wf) (F : Fold t L f) : ∀ (v : List Nat) (r : Nat), r < t.goes.length → Ok t.m v → run L.step (f r) v = f (run t.step r v)
  | [], _, _, _ => rfl
  | i :: v, r, hr, hv => by rw [run_cons, run_cons, F.step r hr i hv.head]; exact Fold.run W F v _ (W.step_lt hr hv.head) hv.tail
theorem Fold.kap {t L : Tab} {f : Nat → Nat} (W : t.Wf) (F : Fold t L f) (v : List Nat) (hv : Ok t.m v) : L.kap v = t.kap v := by
  have e := F.run W v 0 W.pos hv
  rw [F.zero] at e
  unfold Tab.kap
  rw [e, F.kind _ (W.run_lt v 0 W.pos hv)]
theorem Fold.holds {t L : Tab} {f : Nat → Nat} (W : t.Wf) (F : Fold t L f) : Holds t L ((List.range t.goes.length).map fun r => (r, f r)) where
  start := List.mem_map.mpr ⟨0, List.mem_range.mpr W.pos, by rw [F.zero]⟩
  kind := fun p hp => by
    obtain ⟨r, hr, e⟩ := List.mem_map.mp hp
    have hr := List.mem_range.mp hr
    subst e
    exact ⟨hr, F.lt r hr, (F.kind r hr).symm⟩
  go := fun p hp i hi => by
    obtain ⟨r, hr, e⟩ := List.mem_map.mp hp
    have hr := List.mem_range.mp hr
    subst e
    exact List.mem_map.mpr ⟨t.step r i, List.mem_range.mpr (W.step_lt hr hi), by unfold step2; rw [F.step r hr i hi]⟩
/-- L is the least table of t -/
structure LeastIs (t L : Tab) : Prop where
  wf : L.Wf
  ex : ∃ f, Cls t f ∧ Fold t L f ∧ ∀ c, c < L.goes.length → ∃ r, r < t.goes.length ∧ f r = c
theorem LeastIs.kap {t L : Tab} (W : t.Wf) (h : LeastIs t L) (v : List Nat) (hv : Ok t.m v) : L.kap v = t.kap v := let ⟨_, _, F, _⟩ := h.ex; F.kap W v hv
theorem LeastIs.m {t L : Tab} (h : LeastIs t L) : L.m = t.m := let ⟨_, _, F, _⟩ := h.ex; F.m
theorem least_le {t u L L' : Tab} {f g : Nat → Nat} (G : t.Good) (W' : u.Wf) (hm : t.m = u.m) (hk : ∀ v, Ok t.m v → t.kap v = u.kap v) (C : Cls t f) (D : Cls u g) (F' : Fold u L' g) (hs : ∀ c, c < L.goes.length → ∃ r, r < t.goes.length ∧ f r = c) {c : Nat} (hc : c < L.goes.length) :
    ∃ v, Ok t.m v ∧ c = f (run t.step 0 v) ∧ c = g (run u.step 0 v) ∧ c < L'.goes.length := by
  obtain ⟨r, hr, e⟩ := hs c hc
  obtain ⟨v, hv, ev⟩ := G.reach r hr
  have e2 := Cls.uniq G.wf W' hm C D hk _ v rfl hv
  rw [ev, e] at e2
  refine ⟨v, hv, by rw [ev, e], e2, ?_⟩
  rw [e2]
  exact F'.lt _ (W'.run_lt v 0 W'.pos (by rw [← hm]; exact hv))
theorem LeastIs.uniq {t u L L' : Tab} (G : t.Good) (G' : u.Good) (hm : t.m = u.m) (hk : ∀ v, Ok t.m v → t.kap v = u.kap v) (h : LeastIs t L) (h' : LeastIs u L') : L = L' := by
  obtain ⟨f, C, F, hs⟩ := h.ex
  obtain ⟨g, D, F', hs'⟩ := h'.ex
  have hk' : ∀ v, Ok u.m v → u.kap v = t.kap v := fun v hv => (hk v (by rw [hm]; exact hv)).symm
  have a := fun c hc => least_le (L := L) G G'.wf hm hk C D F' hs (c := c) hc
  have b := fun c hc => least_le (L := L') G' G.wf hm.symm hk' D C F hs' (c := c) hc
  have el : L.goes.length = L'.goes.length := by
    rcases Nat.lt_trichotomy L.goes.length L'.goes.length with z | z | z
    · obtain ⟨_, _, _, _, q⟩ := b _ z; omega
    · exact z
    · obtain ⟨_, _, _, _, q⟩ := a _ z; omega
  have em : L.m = L'.m := by rw [F.m, F'.m, hm]
  have est : ∀ c i, c < L.goes.length → i < L.m → L.step c i = L'.step c i := fun c i hc hi => by
    obtain ⟨v, hv, e1, e2, _⟩ := a c hc
    have hi' : i < t.m := by rw [← F.m]; exact hi
    have s1 := F.step _ (G.wf.run_lt v 0 G.wf.pos hv) i hi'
    have s2 := F'.step _ (G'.wf.run_lt v 0 G'.wf.pos (by rw [← hm]; exact hv)) i (by rw [← hm]; exact hi')
    rw [← e1, ← run_snoc t.step] at s1
    rw [← e2, ← run_snoc u.step] at s2
    rw [s1, s2]
    exact Cls.uniq G.wf G'.wf hm C D hk _ _ rfl (hv.snoc hi')
  have ekd : ∀ c, c < L.goes.length → L.kind c = L'.kind c := fun c hc => by
    obtain ⟨v, hv, e1, e2, _⟩ := a c hc
    have s1 := F.kind _ (G.wf.run_lt v 0 G.wf.pos hv)
    have s2 := F'.kind _ (G'.wf.run_lt v 0 G'.wf.pos (by rw [← hm]; exact hv))
    rw [← e1] at s1
    rw [← e2] at s2
    rw [s1, s2]
    exact hk v hv
  refine Tab.ext_ em (List.ext_getElem? fun c => ?_) (List.ext_getElem? fun c => ?_)
  · by_cases hc : c < L.goes.length
    · obtain ⟨row, hr⟩ := get_of_lt hc
      obtain ⟨row', hr'⟩ := get_of_lt (l := L'.goes) (j := c) (by omega)
      obtain ⟨l1, _⟩ := h.wf.row c row hr
      obtain ⟨l2, _⟩ := h'.wf.row c row' hr'
      rw [hr, hr']
      refine congrArg some (List.ext_getElem? fun i => ?_)
      by_cases hi : i < L.m
      · obtain ⟨x, hx⟩ := get_of_lt (l := row) (j := i) (by omega)
        obtain ⟨y, hy⟩ := get_of_lt (l := row') (j := i) (by omega)
        have := est c i hc hi
        rw [Tab.step_of hr hx, Tab.step_of hr' hy] at this
        rw [hx, hy, this]
      · rw [List.getElem?_eq_none (by omega), List.getElem?_eq_none (by omega)]
    · rw [List.getElem?_eq_none (by omega), List.getElem?_eq_none (by omega)]
  · by_cases hc : c < L.goes.length
    · rw [h.wf.kind_at hc, h'.wf.kind_at (by omega), ekd c hc]
    · have l1 := h.wf.len
      have l2 := h'.wf.len
      rw [List.getElem?_eq_none (by omega), List.getElem?_eq_none (by omega)]
/-- the foldings of the one into the other one's least table -/
theorem fold_other {t u L : Tab} {f : Nat → Nat} (G : t.Good) (W' : u.Wf) (hm : t.m = u.m) (hk : ∀ v, Ok t.m v → t.kap v = u.kap v) (C : Cls t f) (h : LeastIs u L) : Fold t L f := by
  obtain ⟨g, D, F, _⟩ := h.ex
  have key : ∀ r, r < t.goes.length → ∃ v, Ok t.m v ∧ run t.step 0 v = r ∧ f r = g (run u.step 0 v) ∧ run u.step 0 v < u.goes.length := fun r hr => by
    obtain ⟨v, hv, e⟩ := G.reach r hr
    exact ⟨v, hv, e, by rw [← e]; exact Cls.uniq G.wf W' hm C D hk _ v rfl hv, W'.run_lt v 0 W'.pos (by rw [← hm]; exact hv)⟩
  refine ⟨by rw [F.m, hm], C.zero, fun r hr => ?_, fun r hr => ?_, fun r hr i hi => ?_⟩
  · obtain ⟨v, hv, e, e2, hl⟩ := key r hr
    rw [e2]
    exact F.lt _ hl
  · obtain ⟨v, hv, e, e2, hl⟩ := key r hr
    rw [e2, F.kind _ hl, ← e]
    exact (hk v hv).symm
  · obtain ⟨v, hv, e, e2, hl⟩ := key r hr
    rw [e2, F.step _ hl i (by rw [← hm]; exact hi), ← run_snoc u.step, ← e, ← run_snoc t.step]
    exact (Cls.uniq G.wf W' hm C D hk _ _ rfl (hv.snoc hi)).symm
end K64
set_option autoImplicit false
set_option linter.all false
/-! K64: numbering, marks, the order of rooms, joined tables; cuts. In plain Lean. -/
namespace K64

/-! ### numbering keys -/
structure NumbAt {κ : Type} (ks : List κ) (told : List Nat) (D : List κ) (i : Nat) : Prop where
  len : told.length = i
  nodup : D.Nodup
  size : D.length ≤ i
  key : ∀ q, q < i → ∃ a, ks[q]? = some a ∧ D[told.getD q 0]? = some a
  has : ∀ c, c < D.length → ∃ q, q < i ∧ told.getD q 0 = c
  first : ∀ p, p < i → ∀ j, j < told.getD p 0 → ∃ q, q < p ∧ told.getD q 0 = j
  le : ∀ p, p < i → told.getD p 0 ≤ p
theorem getD_snoc_lt {l : List Nat} {x p : Nat} (h : p < l.length) : (l ++ [x]).getD p 0 = l.getD p 0 := by
  rw [List.getD_eq_getElem?_getD, List.getD_eq_getElem?_getD, List.getElem?_append_left h]
theorem getD_snoc_eq {l : List Nat} {x : Nat} : (l ++ [x]).getD l.length 0 = x := by
  rw [List.getD_eq_getElem?_getD, List.getElem?_append_right (Nat.le_refl _), Nat.sub_self]
  rfl
theorem getD_of {l : List Nat} {x p : Nat} (h : l[p]? = some x) : l.getD p 0 = x := by
  rw [List.getD_eq_getElem?_getD, h]
  rfl
theorem get_getD {l : List Nat} {p : Nat} (h : p < l.length) : l[p]? = some (l.getD p 0) := by
  obtain ⟨x, hx⟩ := get_of_lt h
  rw [hx, getD_of hx]
theorem NumbAt.init {κ : Type} (ks : List κ) : NumbAt ks [] [] 0 := ⟨rfl, List.nodup_nil, Nat.le_refl _, fun q h => by omega, fun c h => by simp at h, fun p h => by omega, fun p h => by omega⟩
theorem NumbAt.push {κ : Type} {ks : List κ} {told : List Nat} {D D' : List κ} {i c : Nat} {a : κ} (N : NumbAt ks told D i) (ha : ks[i]? = some a) (hn : D'.Nodup) (hs : D'.length ≤ i + 1) (hd : ∀ (x : Nat) b, D[x]? = some b → D'[x]? = some b) (hc : D'[c]? = some a)
    (hlt : c ≤ D.length) (hx : ∀ x, x < D'.length → x < D.length ∨ x = c) : NumbAt ks (told ++ [c]) D' (i + 1) where
  len := by rw [List.length_append, N.len]; rfl
  nodup := hn
  size := hs
  key := fun q h => by
    by_cases e : q = i
    · subst e
      refine ⟨a, ha, ?_⟩
      rw [← N.len, getD_snoc_eq]
      exact hc
    · obtain ⟨b, h1, h2⟩ := N.key q (by omega)
      refine ⟨b, h1, ?_⟩
      rw [getD_snoc_lt (by rw [N.len]; omega)]
      exact hd _ _ h2
  has := fun x h => by
    rcases hx x h with z | z
    · obtain ⟨q, h1, h2⟩ := N.has x z
      exact ⟨q, by omega, by rw [getD_snoc_lt (by rw [N.len]; omega)]; exact h2⟩
    · exact ⟨i, by omega, by rw [← N.len, getD_snoc_eq, z]⟩
  first := fun p h j hj => by
    by_cases e : p = i
    · subst e
      rw [← N.len, getD_snoc_eq] at hj
      obtain ⟨q, h1, h2⟩ := N.has j (by omega)
      exact ⟨q, h1, by rw [getD_snoc_lt (by rw [N.len]; omega)]; exact h2⟩
    · rw [getD_snoc_lt (by rw [N.len]; omega)] at hj
      obtain ⟨q, h1, h2⟩ := N.first p (by omega) j hj
      exact ⟨q, h1, by rw [getD_snoc_lt (by rw [N.len]; omega)]; exact h2⟩
  le := fun p h => by
    by_cases e : p = i
    · subst e
      have := N.size
      rw [← N.len, getD_snoc_eq, N.len]
      omega
    · rw [getD_snoc_lt (by rw [N.len]; omega)]
      exact N.le p (by omega)
theorem NumbAt.old {κ : Type} {ks : List κ} {told : List Nat} {D : List κ} {i c : Nat} {a : κ} (N : NumbAt ks told D i) (ha : ks[i]? = some a) (hc : D[c]? = some a) : NumbAt ks (told ++ [c]) D (i + 1) :=
  N.push ha N.nodup (by have := N.size; omega) (fun _ _ h => h) hc (Nat.le_of_lt (lt_of_get hc)) fun x h => .inl h
theorem NumbAt.new {κ : Type} {ks : List κ} {told : List Nat} {D : List κ} {i : Nat} {a : κ} (N : NumbAt ks told D i) (ha : ks[i]? = some a) (hc : a ∉ D) : NumbAt ks (told ++ [D.length]) (D ++ [a]) (i + 1) := by
  refine N.push ha ?_ (by have := N.size; rw [List.length_append, List.length_singleton]; omega) (fun x b h => get_snoc.mpr (.inl h)) (get_snoc.mpr (.inr ⟨rfl, rfl⟩)) (Nat.le_refl _) fun x h => ?_
  · rw [List.nodup_append]
    refine ⟨N.nodup, by simp, fun x hx y hy e => hc ?_⟩
    have : y = a := by simpa using hy
    rw [← this, ← e]
    exact hx
  · rw [List.length_append, List.length_singleton] at h
    omega
/-- the numbers told for keys -/
structure Numb {κ : Type} (ks : List κ) (told : List Nat) : Prop where
  len : told.length = ks.length
  eq : ∀ (i j : Nat) a b, ks[i]? = some a → ks[j]? = some b → (told.getD i 0 = told.getD j 0 ↔ a = b)
  first : ∀ p, p < ks.length → ∀ j, j < told.getD p 0 → ∃ q, q < p ∧ told.getD q 0 = j
  le : ∀ p, p < ks.length → told.getD p 0 ≤ p
theorem NumbAt.done {κ : Type} {ks : List κ} {told : List Nat} {D : List κ} (N : NumbAt ks told D ks.length) : Numb ks told where
  len := N.len
  eq := fun i j a b hi hj => by
    obtain ⟨a', e1, d1⟩ := N.key i (lt_of_get hi)
    obtain ⟨b', e2, d2⟩ := N.key j (lt_of_get hj)
    rw [hi] at e1
    rw [hj] at e2
    cases e1
    cases e2
    constructor
    · intro e
      rw [e, d2] at d1
      exact (Option.some.inj d1).symm
    · intro e
      subst e
      obtain ⟨l1, g1⟩ := List.getElem?_eq_some_iff.mp d1
      obtain ⟨l2, g2⟩ := List.getElem?_eq_some_iff.mp d2
      have n := List.pairwise_iff_getElem.mp N.nodup
      rcases Nat.lt_trichotomy (told.getD i 0) (told.getD j 0) with z | z | z
      · exact absurd (g1.trans g2.symm) (n _ _ l1 l2 z)
      · exact z
      · exact absurd (g2.trans g1.symm) (n _ _ l2 l1 z)
  first := N.first
  le := N.le

/-! ### marks: towards classes -/
/-- marks of a table's rooms that word-alike rooms share -/
structure Mk (t : Tab) (f : Nat → Nat) : Prop where
  first : ∀ p, p < t.goes.length → ∀ j, j < f p → ∃ q, q < p ∧ f q = j
  le : ∀ p, p < t.goes.length → f p ≤ p
  kind : ∀ r s, r < t.goes.length → s < t.goes.length → f r = f s → t.kind r = t.kind s
  sep : ∀ r s, r < t.goes.length → s < t.goes.length → (∀ w, Ok t.m w → t.kind (run t.step r w) = t.kind (run t.step s w)) → f r = f s
/-- g is f made finer by one step -/
def Finer (t : Tab) (f g : Nat → Nat) : Prop := ∀ r s, r < t.goes.length → s < t.goes.length → (g r = g s ↔ f r = f s ∧ ∀ i, i < t.m → f (t.step r i) = f (t.step s i))
theorem Mk.ofKinds {t : Tab} {told : List Nat} (W : t.Wf) (N : Numb t.kinds told) : Mk t (fun p => told.getD p 0) where
  first := fun p h => N.first p (by rw [W.len]; exact h)
  le := fun p h => N.le p (by rw [W.len]; exact h)
  kind := fun r s hr hs e => (N.eq r s _ _ (W.kind_at hr) (W.kind_at hs)).mp e
  sep := fun r s hr hs h => (N.eq r s _ _ (W.kind_at hr) (W.kind_at hs)).mpr (h [] (ok_nil _))
/-- the keys of a finer marking -/
def keysOf (t : Tab) (f : Nat → Nat) : List (List Nat) := (List.range t.goes.length).map fun r => f r :: (t.goes.getD r []).map f
theorem keys_at {t : Tab} {f : Nat → Nat} {r : Nat} (h : r < t.goes.length) : (keysOf t f)[r]? = some (f r :: (t.goes.getD r []).map f) := by
  unfold keysOf
  rw [List.getElem?_map, List.getElem?_range h]
  rfl
theorem row_map {t : Tab} (W : t.Wf) {f : Nat → Nat} {r s : Nat} (hr : r < t.goes.length) (hs : s < t.goes.length) : ((t.goes.getD r []).map f = (t.goes.getD s []).map f ↔ ∀ i, i < t.m → f (t.step r i) = f (t.step s i)) := by
  obtain ⟨row, h⟩ := get_of_lt hr
  obtain ⟨row', h'⟩ := get_of_lt hs
  obtain ⟨l1, _⟩ := W.row r row h
  obtain ⟨l2, _⟩ := W.row s row' h'
  have e1 : t.goes.getD r [] = row := by rw [List.getD_eq_getElem?_getD, h]; rfl
  have e2 : t.goes.getD s [] = row' := by rw [List.getD_eq_getElem?_getD, h']; rfl
  rw [e1, e2]
  constructor
  · intro e i hi
    obtain ⟨x, hx⟩ := get_of_lt (l := row) (j := i) (by omega)
    obtain ⟨y, hy⟩ := get_of_lt (l := row') (j := i) (by omega)
    rw [Tab.step_of h hx, Tab.step_of h' hy]
    have := congrArg (fun l => l[i]?) e
    simpa [hx, hy] using this
  · intro e
    refine List.ext_getElem? fun i => ?_
    by_cases hi : i < t.m
    · obtain ⟨x, hx⟩ := get_of_lt (l := row) (j := i) (by omega)
      obtain ⟨y, hy⟩ := get_of_lt (l := row') (j := i) (by omega)
      have := e i hi
      rw [Tab.step_of h hx, Tab.step_of h' hy] at this
      rw [List.getElem?_map, List.getElem?_map, hx, hy]
      exact congrArg some this
    · rw [List.getElem?_eq_none (by simp; omega), List.getElem?_eq_none (by simp; omega)]
theorem Finer.of {t : Tab} {f : Nat → Nat} {told : List Nat} (W : t.Wf) (N : Numb (keysOf t f) told) : Finer t f (fun p => told.getD p 0) := fun r s hr hs => by
  rw [N.eq r s _ _ (keys_at hr) (keys_at hs), List.cons.injEq, row_map W hr hs]
theorem Mk.finer {t : Tab} {f : Nat → Nat} {told : List Nat} (W : t.Wf) (M : Mk t f) (N : Numb (keysOf t f) told) : Mk t (fun p => told.getD p 0) where
  first := fun p h => N.first p (by unfold keysOf; rw [List.length_map, List.length_range]; exact h)
  le := fun p h => N.le p (by unfold keysOf; rw [List.length_map, List.length_range]; exact h)
  kind := fun r s hr hs e => M.kind r s hr hs ((Finer.of W N r s hr hs).mp e).1
  sep := fun r s hr hs h => (Finer.of W N r s hr hs).mpr ⟨M.sep r s hr hs h, fun i hi => M.sep _ _ (W.step_lt hr hi) (W.step_lt hs hi) fun w hw => h (i :: w) fun j hj => by
    rcases List.mem_cons.mp hj with z | z
    · rw [z]; exact hi
    · exact hw j z⟩
/-- marks that no step makes finer -/
structure Stab (t : Tab) (f : Nat → Nat) : Prop where
  base : Mk t f
  step : ∀ r s, r < t.goes.length → s < t.goes.length → f r = f s → ∀ i, i < t.m → f (t.step r i) = f (t.step s i)
theorem stable_of {t : Tab} {f g : Nat → Nat} {k : Nat} (W : t.Wf) (M : Mk t g) (F : Finer t f g) (hf : ∀ c, c < k → ∃ p, p < t.goes.length ∧ f p = c) (hk : ∀ p, p < t.goes.length → f p < k) (hg : ∀ p, p < t.goes.length → g p < k) : Stab t g := by
  have ch : ∃ rep : Nat → Nat, ∀ c, c < k → rep c < t.goes.length ∧ f (rep c) = c :=
    ⟨fun c => if h : c < k then Classical.choose (hf c h) else 0, fun c h => by
      simp only [dif_pos h]
      exact Classical.choose_spec (hf c h)⟩
  obtain ⟨rep, hrep⟩ := ch
  have nd : ((List.range k).map fun c => g (rep c)).Nodup := by
    rw [List.Nodup, List.pairwise_map]
    refine List.Pairwise.imp_of_mem ?_ (List.nodup_range (n := k))
    intro a b ha hb hab e
    obtain ⟨a1, a2⟩ := hrep a (List.mem_range.mp ha)
    obtain ⟨b1, b2⟩ := hrep b (List.mem_range.mp hb)
    have := ((F _ _ a1 b1).mp e).1
    rw [a2, b2] at this
    exact hab this
  have all := full nd (k := k) (fun x hx => by
    obtain ⟨c, hc, e⟩ := List.mem_map.mp hx
    rw [← e]
    exact hg _ (hrep c (List.mem_range.mp hc)).1) (by simp)
  have key : ∀ p, p < t.goes.length → g p = g (rep (f p)) := fun p hp => by
    obtain ⟨c, hc, e⟩ := List.mem_map.mp (all (g p) (hg p hp))
    have hc := List.mem_range.mp hc
    have := ((F _ _ (hrep c hc).1 hp).mp e).1
    rw [(hrep c hc).2] at this
    rw [← this, ← e]
  refine ⟨M, fun r s hr hs e i hi => ?_⟩
  have h := ((F r s hr hs).mp e).2 i hi
  rw [key _ (W.step_lt hr hi), key _ (W.step_lt hs hi), h]
/-- the rooms stand in the order of their least words -/
def InOrd (t : Tab) : Prop := ∀ v, Ok t.m v → ∀ q, q < run t.step 0 v → ∃ u, Ok t.m u ∧ num t.m u < num t.m v ∧ run t.step 0 u = q
theorem Stab.cls {t : Tab} {f : Nat → Nat} (W : t.Wf) (O : InOrd t) (S : Stab t f) : Cls t f where
  zero := by have := S.base.le 0 W.pos; omega
  kind := S.base.kind
  step := S.step
  sep := S.base.sep
  ord := fun v hv j hj => by
    obtain ⟨q, hq, e⟩ := S.base.first _ (W.run_lt v 0 W.pos hv) j hj
    obtain ⟨u, h1, h2, h3⟩ := O v hv q hq
    exact ⟨u, h1, h2, by rw [h3, e]⟩
/-- the table of the classes -/
structure Joined (t L : Tab) (f : Nat → Nat) : Prop where
  m : L.m = t.m
  wf : L.Wf
  lt : ∀ p, p < t.goes.length → f p < L.goes.length
  ex : ∀ c, c < L.goes.length → ∃ p, p < t.goes.length ∧ f p = c ∧ (∀ i, i < t.m → L.step c i = f (t.step p i)) ∧ L.kind c = t.kind p
theorem Joined.fold {t L : Tab} {f : Nat → Nat} (W : t.Wf) (S : Stab t f) (J : Joined t L f) : Fold t L f where
  m := J.m
  zero := by have := S.base.le 0 W.pos; omega
  lt := J.lt
  kind := fun r hr => by
    obtain ⟨p, hp, e, _, h⟩ := J.ex _ (J.lt r hr)
    rw [h]
    exact S.base.kind p r hp hr e
  step := fun r hr i hi => by
    obtain ⟨p, hp, e, h, _⟩ := J.ex _ (J.lt r hr)
    rw [h i hi]
    exact S.step p r hp hr e i hi
/-! ### the same rooms in another order -/
structure Iso (t t' : Tab) (pl : Nat → Nat) : Prop where
  m : t'.m = t.m
  n : t'.goes.length = t.goes.length
  zero : pl 0 = 0
  lt : ∀ r, r < t.goes.length → pl r < t.goes.length
  kind : ∀ r, r < t.goes.length → t'.kind (pl r) = t.kind r
  step : ∀ r, r < t.goes.length → ∀ i, i < t.m → t'.step (pl r) i = pl (t.step r i)
  surj : ∀ q, q < t.goes.length → ∃ r, r < t.goes.length ∧ pl r = q
theorem Iso.run {t t' : Tab} {pl : Nat → Nat} (W : t.Wf) (I : Iso t t' pl) : ∀ (v : List Nat) (r : Nat), r < t.goes.length → Ok t.m v → run t'.step (pl r) v = pl (run t.step r v)
  | [], _, _, _ => rfl
  | i :: v, r, hr, hv => by rw [run_cons, run_cons, I.step r hr i hv.head]; exact Iso.run W I v _ (W.step_lt hr hv.head) hv.tail
theorem Iso.cls {t t' : Tab} {pl f : Nat → Nat} (W : t.Wf) (I : Iso t t' pl) (C : Cls t' f) : Cls t (fun r => f (pl r)) where
  zero := by rw [I.zero]; exact C.zero
  kind := fun r s hr hs e => by
    rw [← I.kind r hr, ← I.kind s hs]
    exact C.kind _ _ (by rw [I.n]; exact I.lt r hr) (by rw [I.n]; exact I.lt s hs) e
  step := fun r s hr hs e i hi => by
    have := C.step _ _ (by rw [I.n]; exact I.lt r hr) (by rw [I.n]; exact I.lt s hs) e i (by rw [I.m]; exact hi)
    rw [I.step r hr i hi, I.step s hs i hi] at this
    exact this
  sep := fun r s hr hs h => C.sep _ _ (by rw [I.n]; exact I.lt r hr) (by rw [I.n]; exact I.lt s hs) fun w hw => by
    rw [I.m] at hw
    rw [I.run W w r hr hw, I.run W w s hs hw, I.kind _ (W.run_lt w r hr hw), I.kind _ (W.run_lt w s hs hw)]
    exact h w hw
  ord := fun v hv j hj => by
    have e : ∀ x, Ok t.m x → K64.run t'.step 0 x = pl (K64.run t.step 0 x) := fun x hx => by
      have := I.run W x 0 W.pos hx
      rw [I.zero] at this
      exact this
    rw [← e v hv] at hj
    obtain ⟨u, h1, h2, h3⟩ := C.ord v (by rw [I.m]; exact hv) j hj
    rw [I.m] at h1 h2
    exact ⟨u, h1, h2, by rw [← e u h1]; exact h3⟩
theorem least_of_iso {t t' L : Tab} {pl f : Nat → Nat} (W : t.Wf) (W' : t'.Wf) (I : Iso t t' pl) (O : InOrd t') (S : Stab t' f) (J : Joined t' L f) : LeastIs t L := by
  have F := J.fold W' S
  refine ⟨J.wf, _, I.cls W (S.cls W' O), ⟨by rw [F.m, I.m], by rw [I.zero]; exact F.zero, fun r hr => F.lt _ (by rw [I.n]; exact I.lt r hr), fun r hr => ?_, fun r hr i hi => ?_⟩, fun c hc => ?_⟩
  · rw [F.kind _ (by rw [I.n]; exact I.lt r hr), I.kind r hr]
  · rw [F.step _ (by rw [I.n]; exact I.lt r hr) i (by rw [I.m]; exact hi), I.step r hr i hi]
  · obtain ⟨p, hp, e, _⟩ := J.ex c hc
    rw [I.n] at hp
    obtain ⟨r, hr, e2⟩ := I.surj p hp
    exact ⟨r, hr, by rw [e2, e]⟩
/-! ### the rooms in the order of their least words -/
theorem order_len {t : Tab} (G : t.Good) {L : List (Nat × List Nat)} (R : Reach t.step t.m 0 L) : L.length = t.goes.length := by
  have h1 : (L.map (·.1)) ⊆ List.range t.goes.length := fun x hx => by
    obtain ⟨v, hv, e⟩ := R.of_mem hx
    rw [← e]
    exact List.mem_range.mpr (G.wf.run_lt v 0 G.wf.pos hv)
  have h2 : List.range t.goes.length ⊆ (L.map (·.1)) := fun x hx => by
    obtain ⟨v, hv, e⟩ := G.reach x (List.mem_range.mp hx)
    rw [← e]
    exact R.mem v hv
  have a := List.Nodup.length_le_of_subset R.nodup h1
  have b := List.Nodup.length_le_of_subset List.nodup_range h2
  simp only [List.length_map, List.length_range] at a b
  omega
/-- what put_in_order makes -/
structure Ordered (t t' : Tab) (ord : List Nat) (pl : Nat → Nat) : Prop where
  m : t'.m = t.m
  n : t'.goes.length = ord.length
  k : t'.kinds.length = ord.length
  put : ∀ (p : Nat) r, ord[p]? = some r → pl r = p
  row : ∀ (p : Nat) r row, ord[p]? = some r → t.goes[r]? = some row → t'.goes[p]? = some (row.map pl)
  kind : ∀ (p : Nat) r, ord[p]? = some r → t'.kind p = t.kind r
section
variable {t t' : Tab} {ord : List Nat} {pl : Nat → Nat} {L : List (Nat × List Nat)}
theorem Ordered.place (G : t.Good) (R : Reach t.step t.m 0 L) (e : L.map (·.1) = ord) (O : Ordered t t' ord pl) {r : Nat} (hr : r < t.goes.length) : ord[pl r]? = some r ∧ pl r < t.goes.length := by
  obtain ⟨v, hv, ev⟩ := G.reach r hr
  have := R.mem v hv
  rw [ev, e] at this
  obtain ⟨p, hp⟩ := List.mem_iff_getElem?.mp this
  rw [O.put p r hp]
  refine ⟨hp, ?_⟩
  have l := lt_of_get hp
  rw [← e, List.length_map, order_len G R] at l
  exact l
theorem Ordered.iso (G : t.Good) (R : Reach t.step t.m 0 L) (e : L.map (·.1) = ord) (O : Ordered t t' ord pl) : Iso t t' pl where
  m := O.m
  n := by rw [O.n, ← e, List.length_map, order_len G R]
  zero := O.put 0 0 (by rw [← e, List.getElem?_map, R.head]; rfl)
  lt := fun r hr => (O.place G R e hr).2
  kind := fun r hr => O.kind _ _ (O.place G R e hr).1
  step := fun r hr i hi => by
    obtain ⟨row, h1, h2, _⟩ := G.wf.at_ hr hi
    have := O.row _ _ row (O.place G R e hr).1 h1
    refine Tab.step_of this ?_
    rw [List.getElem?_map, h2]
    rfl
  surj := fun q hq => by
    obtain ⟨r, hr⟩ := get_of_lt (l := ord) (j := q) (by rw [← e, List.length_map, order_len G R]; exact hq)
    refine ⟨r, ?_, O.put q r hr⟩
    have : r ∈ L.map (·.1) := by rw [e]; exact List.mem_of_getElem? hr
    obtain ⟨v, hv, ev⟩ := R.of_mem this
    rw [← ev]
    exact G.wf.run_lt v 0 G.wf.pos hv
theorem Ordered.wf (G : t.Good) (R : Reach t.step t.m 0 L) (e : L.map (·.1) = ord) (O : Ordered t t' ord pl) : t'.Wf where
  pos := by rw [(O.iso G R e).n]; exact G.wf.pos
  small := by rw [(O.iso G R e).n]; exact G.wf.small
  len := by rw [O.k, O.n]
  row := fun p row h => by
    have hp := lt_of_get h
    rw [O.n] at hp
    obtain ⟨r, hr⟩ := get_of_lt hp
    have hr' : r < t.goes.length := by
      have : r ∈ L.map (·.1) := by rw [e]; exact List.mem_of_getElem? hr
      obtain ⟨v, hv, ev⟩ := R.of_mem this
      rw [← ev]
      exact G.wf.run_lt v 0 G.wf.pos hv
    obtain ⟨row0, h0⟩ := get_of_lt hr'
    have := O.row p r row0 hr h0
    rw [h] at this
    cases this
    obtain ⟨l, hx⟩ := G.wf.row r row0 h0
    refine ⟨by rw [List.length_map, l, O.m], fun x hm => ?_⟩
    obtain ⟨y, hy, ey⟩ := List.mem_map.mp hm
    rw [← ey, (O.iso G R e).n]
    exact (O.place G R e (hx y hy)).2
theorem Ordered.inOrd (G : t.Good) (R : Reach t.step t.m 0 L) (e : L.map (·.1) = ord) (O : Ordered t t' ord pl) : InOrd t' := fun v hv q hq => by
  have I := O.iso G R e
  rw [I.m] at hv
  have er : ∀ x, Ok t.m x → run t'.step 0 x = pl (run t.step 0 x) := fun x hx => by
    have := I.run G.wf x 0 G.wf.pos hx
    rw [I.zero] at this
    exact this
  have hr := G.wf.run_lt v 0 G.wf.pos hv
  rw [er v hv] at hq
  obtain ⟨h1, _⟩ := O.place G R e hr
  rw [← e, List.getElem?_map] at h1
  obtain ⟨p, hp, ep⟩ := Option.map_eq_some_iff.mp h1
  obtain ⟨u, y, hu, hn, hy, ey⟩ := R.ahead hv hp ep hq
  rw [I.m]
  refine ⟨u, hu, hn, ?_⟩
  rw [er u hu]
  exact O.put q _ (by rw [← e, List.getElem?_map, hy, ← ey]; rfl)
end

/-! ### cuts -/
/-- the longest stretch with a kind from the place a on, k places looked at -/
def longestM (κ : List Nat → Int) (w : List Nat) (a : Nat) : Nat → Option (Int × Nat)
  | 0 => none
  | k + 1 => if 0 ≤ κ ((w.drop a).take (k + 1)) then some (κ ((w.drop a).take (k + 1)), a + k + 1) else longestM κ w a k
def cutM (κ : List Nat → Int) (w : List Nat) : Nat → Nat → List (Int × Nat × Nat) × Nat
  | 0, a => ([], a)
  | f + 1, a => if a < w.length then
      match longestM κ w a (w.length - a) with
      | none => ([], a)
      | some (k, e) => ((k, a, e) :: (cutM κ w f e).1, (cutM κ w f e).2)
    else ([], a)
theorem longestM_end {κ : List Nat → Int} {w : List Nat} {a : Nat} : ∀ {n : Nat} {k : Int} {e : Nat}, longestM κ w a n = some (k, e) → a < e ∧ e ≤ a + n
  | 0, _, _, h => by cases h
  | n + 1, k, e, h => by
    unfold longestM at h
    split at h
    · cases h
      omega
    · have := longestM_end h
      omega
theorem longestM_congr {κ κ' : List Nat → Int} {w : List Nat} {a : Nat} (h : ∀ k, κ ((w.drop a).take k) = κ' ((w.drop a).take k)) : ∀ n, longestM κ w a n = longestM κ' w a n
  | 0 => rfl
  | n + 1 => by
    unfold longestM
    rw [h (n + 1), longestM_congr h n]
theorem cutM_congr {κ κ' : List Nat → Int} {w : List Nat} (h : ∀ a k, κ ((w.drop a).take k) = κ' ((w.drop a).take k)) : ∀ f a, cutM κ w f a = cutM κ' w f a
  | 0, _ => rfl
  | f + 1, a => by
    unfold cutM
    rw [longestM_congr (h a)]
    split
    · split
      · rfl
      · rw [cutM_congr h f]
    · rfl
theorem cutM_past {κ : List Nat → Int} {w : List Nat} {f a : Nat} (h : w.length ≤ a) : cutM κ w f a = ([], a) := by
  cases f with
  | zero => rfl
  | succ f => unfold cutM; rw [if_neg (by omega)]
/-- a word with a kind is one piece -/
theorem cutM_whole {κ : List Nat → Int} {w : List Nat} (hw : w ≠ []) (h : 0 ≤ κ w) : cutM κ w w.length 0 = ([(κ w, 0, w.length)], w.length) := by
  obtain ⟨n, hn⟩ : ∃ n, w.length = n + 1 := by
    cases w with
    | nil => exact absurd rfl hw
    | cons a r => exact ⟨r.length, rfl⟩
  have e : (w.drop 0).take (n + 1) = w := by rw [List.drop_zero, ← hn, List.take_length]
  rw [hn]
  unfold cutM
  rw [if_pos (by omega), Nat.sub_zero, hn]
  unfold longestM
  rw [e, if_pos h]
  simp only [Nat.zero_add]
  rw [cutM_past (by omega)]
theorem cutM_other {κ : List Nat → Int} {w : List Nat} (hw : w ≠ []) (h : ¬ 0 ≤ κ w) (k : Int) : (cutM κ w w.length 0).1 ≠ [(k, 0, w.length)] := by
  obtain ⟨n, hn⟩ : ∃ n, w.length = n + 1 := by
    cases w with
    | nil => exact absurd rfl hw
    | cons a r => exact ⟨r.length, rfl⟩
  have e : (w.drop 0).take (n + 1) = w := by rw [List.drop_zero, ← hn, List.take_length]
  rw [hn]
  unfold cutM
  rw [if_pos (by omega), Nat.sub_zero, hn]
  unfold longestM
  rw [e, if_neg h]
  split
  · intro z
    cases z
  · rename_i k' e' he
    have := longestM_end he
    intro z
    simp only [List.cons.injEq, Prod.mk.injEq] at z
    omega
theorem cutM_parts {κ κ' : List Nat → Int} {w : List Nat} (hw : w ≠ []) (hk : κ w ≠ κ' w) (h1 : -1 ≤ κ w) (h2 : -1 ≤ κ' w) : cutM κ w w.length 0 ≠ cutM κ' w w.length 0 := fun e => by
  by_cases a : 0 ≤ κ w
  · by_cases b : 0 ≤ κ' w
    · rw [cutM_whole hw a, cutM_whole hw b] at e
      simp only [Prod.mk.injEq, List.cons.injEq] at e
      exact hk e.1.1.1
    · rw [cutM_whole hw a] at e
      exact cutM_other hw b _ (congrArg Prod.fst e).symm
  · by_cases b : 0 ≤ κ' w
    · rw [cutM_whole hw b] at e
      exact cutM_other hw a _ (congrArg Prod.fst e)
    · omega
/-- a stretch is no later in the order than the whole -/
theorem num_stretch {m : Nat} {w : List Nat} (hw : Ok m w) (a k : Nat) : num m ((w.drop a).take k) ≤ num m w := by
  by_cases h : ((w.drop a).take k).length < w.length
  · exact Nat.le_of_lt (num_lt_of_length _ _ _ rfl h ((hw.drop a).take k))
  · have l1 : ((w.drop a).take k).length ≤ w.length - a := by rw [List.length_take, List.length_drop]; exact Nat.min_le_right _ _
    by_cases z : w = []
    · subst z
      simp
    · have : 0 < w.length := List.length_pos_iff.mpr z
      have ea : a = 0 := by omega
      subst ea
      rw [List.drop_zero] at h ⊢
      rw [List.length_take] at h
      rw [List.take_of_length_le (by omega)]
      exact Nat.le_refl _
end K64
set_option autoImplicit true
set_option Elab.async false
set_option linter.all false
set_option maxRecDepth 100000
set_option maxHeartbeats 4000000
/-! K64: for x in zip(t1, t2), two tuples, to ONE name: the pair given out may still be held. -/
namespace K64
open PySem PySem.Spec PyProof.Rows
section
variable {prog : Program} {w : World} {A : Around} {E : Value → Shared → Prop} {s : Shared}
/-- a zip whatever it knows of the pair that it gave out -/
def ZipAny (h : Heap) (z TI TO : Addr) : Prop := ∃ (a : Value) (f : Bool), (a = .none ∨ ∃ T : Addr, a = rawInt T) ∧
  h.get? z = some { cls := .type "zip", dict := none, data := .fields #[a, .bool f, .bool false, .ref TI, .ref TO], slots := #[] }
/-- is the pair free? in any case the zip stands -/
theorem pairFree {z TI TO : Addr} {Q : Bool → Shared → Prop} (hz : ZipAny s.heap z TI TO)
    (h : ∀ b h', ZipAny h' z TI TO → Heap.SameBut z s.heap h' → Q b { s with heap := h' }) : wpAny (model prog w) A (Builtin.SmallTypes.ownedTupleIsFree (.ref z)) Q E s := by
  obtain ⟨a, f, ha, hz⟩ := hz
  unfold Builtin.SmallTypes.ownedTupleIsFree
  rcases ha with e | ⟨T, e⟩
  · subst e
    exact wpAny_bind (wpAny_field hz rfl (x := .none) rfl (wpAny_pure (h true s.heap ⟨_, f, .inl rfl, hz⟩ (Heap.SameBut.refl _ _))))
  · subst e
    refine wpAny_bind (wpAny_field hz rfl (x := rawInt T) rfl ?_)
    show wpAny _ _ (loadIfAlive ((T : Int).toNat) >>= _) _ _ _
    rw [Int.toNat_natCast]
    have alive : ∀ {Q : Option Obj → Shared → Prop}, Q (s.heap.get? T) s → wpAny (model prog w) A (loadIfAlive T) Q E s := fun hq => fun _ _ _ => hq
    refine wpAny_bind (alive ?_)
    cases s.heap.get? T with
    | none => exact wpAny_pure (h true s.heap ⟨_, f, .inr ⟨T, rfl⟩, hz⟩ (Heap.SameBut.refl _ _))
    | some oT =>
      simp only [Option.isNone_some, Bool.false_eq_true, if_false]
      refine wpAny_bind (wpAny_field hz rfl (x := .bool f) rfl ?_)
      cases f with
      | true =>
        rw [if_neg (show ¬ ((Value.bool true != Value.bool true) = true) from Bool.false_ne_true)]
        exact wpAny_pure (h false s.heap ⟨_, true, .inr ⟨T, rfl⟩, hz⟩ (Heap.SameBut.refl _ _))
      | false =>
        rw [if_pos (show (Value.bool false != Value.bool true) = true from rfl)]
        exact wpAny_bind (wpAny_setField_rec hz (by simp) fun h1 hz1 hs1 => wpAny_pure (h false h1 ⟨_, true, .inr ⟨T, rfl⟩, hz1⟩ hs1))
variable {z TI TO i1 i2 l1 l2 : Addr} {k1 k2 : Nat} {xs ys : Array Value} {x y : Value}
theorem zip1_item {Q : Value → Shared → Prop} (D : ZipApart z TI TO i1 i2 l1 l2) (hz : ZipAny s.heap z TI TO) (hTI : IsPair s.heap TI (.ref i1) (.ref i2)) (hTO : ∃ a b, IsPair s.heap TO a b)
    (h1 : s.heap.IsTupleIter i1 l1 k1) (h2 : s.heap.IsTupleIter i2 l2 k2) (hl1 : s.heap.IsTuple l1 xs) (hl2 : s.heap.IsTuple l2 ys) (hx : xs[k1]? = some x) (hy : ys[k2]? = some y)
    (hQ : ∀ h', ZipAny h' z TI TO → (∃ a b, IsPair h' TO a b) → h'.IsTupleIter i1 l1 (k1 + 1) → h'.IsTupleIter i2 l2 (k2 + 1) → IsPair h' s.heap.objs.size x y →
      (∀ c o, c ≠ z → c ≠ TO → c ≠ i1 → c ≠ i2 → s.heap.get? c = some o → h'.get? c = some o) → Q (.ref s.heap.objs.size) { s with heap := h' }) :
    wpAny (model prog w) A (Builtin.«zip.__next__» ⟨[.ref z], []⟩) (fun fin s' => ∃ v, fin = .done (.ret v) ∧ Q v s') E s := by
  obtain ⟨a0, f0, ha0, hz0⟩ := id hz
  show wpAny _ _ (field (.ref z) 2 >>= _) _ _ _
  refine wpAny_bind (wpAny_field hz0 rfl (x := .bool false) rfl ?_)
  show wpAny _ _ (field (.ref z) 3 >>= _) _ _ _
  refine wpAny_bind (wpAny_field hz0 rfl (x := .ref TI) rfl ?_)
  refine wpAny_bind (wpAny_seqItems hTI rfl ?_)
  show wpAny _ _ (Builtin.SmallTypes.ownedTupleIsFree (.ref z) >>= _) _ _ _
  refine wpAny_bind (pairFree hz fun fr hp0 hzp hsp => ?_)
  have t1 := h1.extBut hsp.extBut D.i1z
  have t2 := h2.extBut hsp.extBut D.i2z
  have m1 := hl1.extBut hsp.extBut D.l1z
  have m2 := hl2.extBut hsp.extBut D.l2z
  obtain ⟨pa, pb, hTO⟩ := hTO
  have oT : IsPair hp0 TO pa pb := hsp.extBut _ _ D.TOz hTO
  cases fr with
  | false =>
    simp only [Bool.false_eq_true, if_false]
    refine wpAny_bind ?_
    rw [← Array.forIn_toList]
    simp only [List.forIn_cons, List.forIn_nil]
    refine wpAny_bind (wpAny_bind (wpAny_holding ?_))
    show wpAny _ _ (Builtin.SmallTypes.nextOf (.ref i1) >>= _) _ _ _
    refine wpAny_bind (RZ.nextOf_tuple_item (s := { s with heap := hp0 }) t1 m1 hx fun hp1 u1 e1 => wpAny_pure (wpAny_pure ?_))
    refine wpAny_bind (wpAny_bind (wpAny_holding ?_))
    show wpAny _ _ (Builtin.SmallTypes.nextOf (.ref i2) >>= _) _ _ _
    refine wpAny_bind (RZ.nextOf_tuple_item (s := { s with heap := hp1 }) (t2.extBut e1.extBut D.i12.symm) (m2.extBut e1.extBut D.l2i1) hy fun hp2 u2 e2 => wpAny_pure (wpAny_pure (wpAny_pure ?_)))
    show wpAny _ _ (newTuple [x, y] >>= _) _ _ _
    refine wpAny_bind (wpAny_newTuple (wpAny_pure ⟨_, rfl, ?_⟩))
    have zs : hp2.objs.size = s.heap.objs.size := by rw [e2.1, e1.1, hsp.1]
    obtain ⟨a1, f1, ha1, hz1⟩ := hzp
    have hz2 : ZipAny (hp2.push { cls := .type "tuple", data := .seq #[x, y] }) z TI TO := ⟨a1, f1, ha1, Heap.get?_push_of_some _ (e2.extBut _ _ D.i2z.symm (e1.extBut _ _ D.i1z.symm hz1))⟩
    have kp : ∀ c o, c ≠ z → c ≠ i1 → c ≠ i2 → s.heap.get? c = some o → hp2.get? c = some o := fun c o c1 c2 c3 q => e2.extBut _ _ c3 (e1.extBut _ _ c2 (hsp.extBut _ _ c1 q))
    have np : IsPair (hp2.push { cls := .type "tuple", data := .seq #[x, y] }) hp2.objs.size x y := Heap.get?_push_size _ rfl
    show Q (.ref hp2.objs.size) _
    rw [zs] at np ⊢
    exact hQ _ hz2 ⟨pa, pb, Heap.get?_push_of_some _ (kp _ _ D.TOz D.TOi1 D.TOi2 hTO)⟩ ((u1.extBut e2.extBut D.i12).at fun o q => Heap.get?_push_of_some _ q) (u2.at fun o q => Heap.get?_push_of_some _ q) np
      fun c o c1 _ c3 c4 q => Heap.get?_push_of_some _ (kp c o c1 c3 c4 q)
  | true =>
    simp only [if_true]
    obtain ⟨a1, f1, ha1, hz1⟩ := hzp
    refine wpAny_bind (wpAny_rule ?_)
    refine wpAny_bind (wpAny_field (s := { s with heap := hp0 }) hz1 rfl (x := .ref TO) rfl ?_)
    refine wpAny_bind (wpAny_setField_rec (s := { s with heap := hp0 }) hz1 (by simp) fun g0 zg0 d0 => ?_)
    replace zg0 : g0.get? z = some { cls := .type "zip", dict := none, data := .fields #[.ellipsis, .bool f1, .bool false, .ref TI, .ref TO], slots := #[] } := zg0
    replace d0 : Heap.SameBut z hp0 g0 := d0
    refine wpAny_bind ?_
    simp only [List.zipIdx_cons, List.zipIdx_nil, List.forIn_cons, List.forIn_nil]
    refine wpAny_bind (wpAny_bind (wpAny_onRaise ?_))
    show wpAny _ _ (Builtin.SmallTypes.nextOf (.ref i1) >>= _) _ _ _
    refine wpAny_bind (RZ.nextOf_tuple_item (s := { s with heap := g0 }) (t1.extBut d0.extBut D.i1z) (m1.extBut d0.extBut D.l1z) hx fun g1 u1 d1 => wpAny_pure ?_)
    have o1 : IsPair g1 TO pa pb := d1.extBut _ _ D.TOi1 (d0.extBut _ _ D.TOz oT)
    refine wpAny_bind (wpAny_seqItems (s := { s with heap := g1 }) o1 rfl ?_)
    refine wpAny_bind (wpAny_updateSeq_pair (s := { s with heap := g1 }) o1 fun g2 o2 d2 => ?_)
    replace o2 : IsPair g2 TO x pb := o2
    replace d2 : Heap.SameBut TO g1 g2 := d2
    refine wpAny_bind (wpAny_letGo (wpAny_pure ?_))
    refine wpAny_bind (wpAny_bind (wpAny_onRaise ?_))
    show wpAny _ _ (Builtin.SmallTypes.nextOf (.ref i2) >>= _) _ _ _
    refine wpAny_bind (RZ.nextOf_tuple_item (s := { s with heap := g2 }) (((t2.extBut d0.extBut D.i2z).extBut d1.extBut D.i12.symm).extBut d2.extBut D.TOi2.symm)
      (((m2.extBut d0.extBut D.l2z).extBut d1.extBut D.l2i1).extBut d2.extBut D.l2TO) hy fun g3 u2 d3 => wpAny_pure ?_)
    have o3 : IsPair g3 TO x pb := d3.extBut _ _ D.TOi2 o2
    refine wpAny_bind (wpAny_seqItems (s := { s with heap := g3 }) o3 rfl ?_)
    refine wpAny_bind (wpAny_updateSeq_pair (s := { s with heap := g3 }) o3 fun g4 o4 d4 => ?_)
    replace o4 : IsPair g4 TO x y := o4
    replace d4 : Heap.SameBut TO g3 g4 := d4
    refine wpAny_bind (wpAny_letGo (wpAny_pure (wpAny_pure ?_)))
    refine wpAny_bind (wpAny_seqItems (s := { s with heap := g4 }) o4 rfl ?_)
    refine wpAny_bind (wpAny_newTuple ?_)
    have zs : g4.objs.size = s.heap.objs.size := by rw [d4.1, d3.1, d2.1, d1.1, d0.1, hsp.1]
    have zg4 : g4.get? z = some { cls := .type "zip", dict := none, data := .fields #[.ellipsis, .bool f1, .bool false, .ref TI, .ref TO], slots := #[] } :=
      d4.extBut _ _ D.TOz.symm (d3.extBut _ _ D.i2z.symm (d2.extBut _ _ D.TOz.symm (d1.extBut _ _ D.i1z.symm zg0)))
    have kp : ∀ c o, c ≠ z → c ≠ TO → c ≠ i1 → c ≠ i2 → s.heap.get? c = some o → g4.get? c = some o := fun c o c1 c2 c3 c4 q =>
      d4.extBut _ _ c2 (d3.extBut _ _ c4 (d2.extBut _ _ c2 (d1.extBut _ _ c3 (d0.extBut _ _ c1 (hsp.extBut _ _ c1 q)))))
    have v1 : g4.IsTupleIter i1 l1 (k1 + 1) := ((u1.extBut d2.extBut D.TOi1.symm).extBut d3.extBut D.i12).extBut d4.extBut D.TOi1.symm
    have v2 : g4.IsTupleIter i2 l2 (k2 + 1) := u2.extBut d4.extBut D.TOi2.symm
    show wpAny _ _ (Builtin.SmallTypes.ownedTupleHandOut (.ref z) (.ref g4.objs.size) >>= _) _ _ _
    refine wpAny_bind ?_
    unfold Builtin.SmallTypes.ownedTupleHandOut
    have zg5 : (g4.push { cls := .type "tuple", data := .seq #[x, y] }).get? z = some { cls := .type "zip", dict := none, data := .fields #[.ellipsis, .bool f1, .bool false, .ref TI, .ref TO], slots := #[] } := Heap.get?_push_of_some _ zg4
    refine wpAny_bind (wpAny_setField_rec (s := { s with heap := g4.push { cls := .type "tuple", data := .seq #[x, y] } }) zg5 (by simp) fun g6 zg6 d6 => ?_)
    replace zg6 : g6.get? z = some { cls := .type "zip", dict := none, data := .fields #[rawInt g4.objs.size, .bool f1, .bool false, .ref TI, .ref TO], slots := #[] } := zg6
    replace d6 : Heap.SameBut z (g4.push { cls := .type "tuple", data := .seq #[x, y] }) g6 := d6
    refine wpAny_setField_rec (s := { s with heap := g6 }) zg6 (by simp) fun g7 zg7 d7 => ?_
    replace zg7 : g7.get? z = some { cls := .type "zip", dict := none, data := .fields #[rawInt g4.objs.size, .bool false, .bool false, .ref TI, .ref TO], slots := #[] } := zg7
    replace d7 : Heap.SameBut z g6 g7 := d7
    have up : ∀ c o, c ≠ z → g4.get? c = some o → g7.get? c = some o := fun c o c1 q => d7.extBut _ _ c1 (d6.extBut _ _ c1 (Heap.get?_push_of_some _ q))
    have zlt : z < g4.objs.size := Heap.lt_size zg4
    have np : IsPair g7 g4.objs.size x y := d7.extBut _ _ (Nat.ne_of_gt zlt) (d6.extBut _ _ (Nat.ne_of_gt zlt) (Heap.get?_push_size _ rfl))
    refine wpAny_pure ⟨_, rfl, ?_⟩
    show Q (.ref g4.objs.size) _
    have zz : ZipAny g7 z TI TO := ⟨_, false, .inr ⟨_, rfl⟩, zg7⟩
    rw [zs] at np ⊢
    exact hQ g7 zz ⟨x, y, up _ _ D.TOz o4⟩ (v1.at fun o q => up _ o D.i1z q) (v2.at fun o q => up _ o D.i2z q) np fun c o c1 c2 c3 c4 q => up c o c1 (kp c o c1 c2 c3 c4 q)
theorem zip1_end {Q : Fin → Shared → Prop} (hh : A.handled = none) (D : ZipApart z TI TO i1 i2 l1 l2) (hz : ZipAny s.heap z TI TO) (hTI : IsPair s.heap TI (.ref i1) (.ref i2)) (hTO : ∃ a b, IsPair s.heap TO a b)
    (h1 : s.heap.IsTupleIter i1 l1 k1) (h2 : s.heap.IsTupleIter i2 l2 k2) (hl1 : s.heap.IsTuple l1 xs) (hl2 : s.heap.IsTuple l2 ys) (hend : xs[k1]? = none ∨ ys[k2]? = none)
    (hE : ∀ h' e, (∀ c o, c ≠ z → c ≠ TO → c ≠ i1 → c ≠ i2 → s.heap.get? c = some o → h'.get? c = some o) → (∃ o, h'.get? e = some o ∧ o.cls = .type "StopIteration") → E (.ref e) { s with heap := h' }) :
    wpAny (model prog w) A (Builtin.«zip.__next__» ⟨[.ref z], []⟩) Q E s := by
  obtain ⟨a0, f0, ha0, hz0⟩ := id hz
  show wpAny _ _ (field (.ref z) 2 >>= _) _ _ _
  refine wpAny_bind (wpAny_field hz0 rfl (x := .bool false) rfl ?_)
  show wpAny _ _ (field (.ref z) 3 >>= _) _ _ _
  refine wpAny_bind (wpAny_field hz0 rfl (x := .ref TI) rfl ?_)
  refine wpAny_bind (wpAny_seqItems hTI rfl ?_)
  show wpAny _ _ (Builtin.SmallTypes.ownedTupleIsFree (.ref z) >>= _) _ _ _
  refine wpAny_bind (pairFree hz fun fr hp0 hzp hsp => ?_)
  have t1 := h1.extBut hsp.extBut D.i1z
  have t2 := h2.extBut hsp.extBut D.i2z
  have m1 := hl1.extBut hsp.extBut D.l1z
  have m2 := hl2.extBut hsp.extBut D.l2z
  obtain ⟨pa, pb, hTO⟩ := hTO
  have oT : IsPair hp0 TO pa pb := hsp.extBut _ _ D.TOz hTO
  cases fr with
  | false =>
    simp only [Bool.false_eq_true, if_false]
    refine wpAny_bind ?_
    rw [← Array.forIn_toList]
    simp only [List.forIn_cons, List.forIn_nil]
    refine wpAny_bind (wpAny_bind (wpAny_holding ?_))
    show wpAny _ _ (Builtin.SmallTypes.nextOf (.ref i1) >>= _) _ _ _
    cases hx : xs[k1]? with
    | none => exact wpAny_bind (RZ.nextOf_tuple_end (s := { s with heap := hp0 }) hh t1 m1 hx fun hp1 e e1 he => hE hp1 e (fun c o c1 _ c3 _ q => e1 _ _ c3 (hsp.extBut _ _ c1 q)) he)
    | some x =>
      have hy : ys[k2]? = none := by
        rcases hend with q | q
        · rw [hx] at q; cases q
        · exact q
      refine wpAny_bind (RZ.nextOf_tuple_item (s := { s with heap := hp0 }) t1 m1 hx fun hp1 u1 e1 => wpAny_pure (wpAny_pure ?_))
      refine wpAny_bind (wpAny_bind (wpAny_holding ?_))
      show wpAny _ _ (Builtin.SmallTypes.nextOf (.ref i2) >>= _) _ _ _
      exact wpAny_bind (RZ.nextOf_tuple_end (s := { s with heap := hp1 }) hh (t2.extBut e1.extBut D.i12.symm) (m2.extBut e1.extBut D.l2i1) hy fun hp2 e e2 he => hE hp2 e (fun c o c1 _ c3 c4 q => e2 _ _ c4 (e1.extBut _ _ c3 (hsp.extBut _ _ c1 q))) he)
  | true =>
    simp only [if_true]
    obtain ⟨a1, f1, ha1, hz1⟩ := hzp
    refine wpAny_bind (wpAny_rule ?_)
    refine wpAny_bind (wpAny_field (s := { s with heap := hp0 }) hz1 rfl (x := .ref TO) rfl ?_)
    refine wpAny_bind (wpAny_setField_rec (s := { s with heap := hp0 }) hz1 (by simp) fun g0 zg0 d0 => ?_)
    replace zg0 : g0.get? z = some { cls := .type "zip", dict := none, data := .fields #[.ellipsis, .bool f1, .bool false, .ref TI, .ref TO], slots := #[] } := zg0
    replace d0 : Heap.SameBut z hp0 g0 := d0
    refine wpAny_bind ?_
    simp only [List.zipIdx_cons, List.zipIdx_nil, List.forIn_cons, List.forIn_nil]
    refine wpAny_bind (wpAny_bind (wpAny_onRaise ?_))
    show wpAny _ _ (Builtin.SmallTypes.nextOf (.ref i1) >>= _) _ _ _
    have fin : ∀ {g : Heap} {e : Addr}, (∃ o, g.get? e = some o ∧ o.cls = .type "StopIteration") → g.get? z = some { cls := .type "zip", dict := none, data := .fields #[.ellipsis, .bool f1, .bool false, .ref TI, .ref TO], slots := #[] } →
        (∀ c o, c ≠ z → c ≠ TO → c ≠ i1 → c ≠ i2 → s.heap.get? c = some o → g.get? c = some o) → wpAny (model prog w) A (setField (.ref z) 0 .none) (fun _ s' => E (.ref e) s') E { s with heap := g } := fun {g e} he hzg kp => by
      obtain ⟨oe, hoe, hce⟩ := he
      have hez : e ≠ z := fun q => by
        subst q
        rw [hzg] at hoe
        cases hoe
        simp at hce
      exact wpAny_setField_rec (s := { s with heap := g }) hzg (by simp) fun g' _ d' => hE g' e (fun c o c1 c2 c3 c4 q => d'.extBut _ _ c1 (kp c o c1 c2 c3 c4 q)) ⟨oe, d'.extBut _ _ hez hoe, hce⟩
    cases hx : xs[k1]? with
    | none =>
      refine wpAny_bind (RZ.nextOf_tuple_end (s := { s with heap := g0 }) hh (t1.extBut d0.extBut D.i1z) (m1.extBut d0.extBut D.l1z) hx fun g1 e d1 he => ?_)
      exact fin he (d1 _ _ D.i1z.symm zg0) fun c o c1 c2 c3 c4 q => d1 _ _ c3 (d0.extBut _ _ c1 (hsp.extBut _ _ c1 q))
    | some x =>
      have hy : ys[k2]? = none := by
        rcases hend with q | q
        · rw [hx] at q; cases q
        · exact q
      refine wpAny_bind (RZ.nextOf_tuple_item (s := { s with heap := g0 }) (t1.extBut d0.extBut D.i1z) (m1.extBut d0.extBut D.l1z) hx fun g1 u1 d1 => wpAny_pure ?_)
      have o1 : IsPair g1 TO pa pb := d1.extBut _ _ D.TOi1 (d0.extBut _ _ D.TOz oT)
      refine wpAny_bind (wpAny_seqItems (s := { s with heap := g1 }) o1 rfl ?_)
      refine wpAny_bind (wpAny_updateSeq_pair (s := { s with heap := g1 }) o1 fun g2 o2 d2 => ?_)
      refine wpAny_bind (wpAny_letGo (wpAny_pure ?_))
      refine wpAny_bind (wpAny_bind (wpAny_onRaise ?_))
      show wpAny _ _ (Builtin.SmallTypes.nextOf (.ref i2) >>= _) _ _ _
      refine wpAny_bind (RZ.nextOf_tuple_end (s := { s with heap := g2 }) hh (((t2.extBut d0.extBut D.i2z).extBut d1.extBut D.i12.symm).extBut d2.extBut D.TOi2.symm)
        (((m2.extBut d0.extBut D.l2z).extBut d1.extBut D.l2i1).extBut d2.extBut D.l2TO) hy fun g3 e d3 he => ?_)
      exact fin he (d3 _ _ D.i2z.symm (d2.extBut _ _ D.TOz.symm (d1.extBut _ _ D.i1z.symm zg0))) fun c o c1 c2 c3 c4 q => d3 _ _ c4 (d2.extBut _ _ c2 (d1.extBut _ _ c3 (d0.extBut _ _ c1 (hsp.extBut _ _ c1 q))))
theorem next_zip1_item {Q : Option Value → Shared → Prop} (D : ZipApart z TI TO i1 i2 l1 l2) (hz : ZipAny s.heap z TI TO) (hTI : IsPair s.heap TI (.ref i1) (.ref i2)) (hTO : ∃ a b, IsPair s.heap TO a b)
    (h1 : s.heap.IsTupleIter i1 l1 k1) (h2 : s.heap.IsTupleIter i2 l2 k2) (hl1 : s.heap.IsTuple l1 xs) (hl2 : s.heap.IsTuple l2 ys) (hx : xs[k1]? = some x) (hy : ys[k2]? = some y)
    (hQ : ∀ h', ZipAny h' z TI TO → (∃ a b, IsPair h' TO a b) → h'.IsTupleIter i1 l1 (k1 + 1) → h'.IsTupleIter i2 l2 (k2 + 1) → IsPair h' s.heap.objs.size x y →
      (∀ c o, c ≠ z → c ≠ TO → c ≠ i1 → c ≠ i2 → s.heap.get? c = some o → h'.get? c = some o) → Q (some (.ref s.heap.objs.size)) { s with heap := h' }) :
    wpAny (model prog w) A (pyNext (.ref z)) Q E s := by
  obtain ⟨a0, f0, ha0, hz0⟩ := id hz
  have hT : s.TypeIs (.ref z) "zip" := ⟨_, hz0, rfl⟩
  unfold pyNext
  exact wpAny_bind (wpAny_attempt (wpAny_callSpecial?_slot (name := Str.ofString "__next__") hT F.slot_zip_next
    (wpAny_call_entry F.slot_zip_next hT F.entry_zip_next
      (zip1_item D hz hTI hTO h1 h2 hl1 hl2 hx hy fun h' q1 q2 q3 q4 q5 q6 => wpAny_pure (hQ h' q1 q2 q3 q4 q5 q6)) (F.args_zip_next_1 _))))
theorem next_zip1_end {Q : Option Value → Shared → Prop} (hh : A.handled = none) (D : ZipApart z TI TO i1 i2 l1 l2) (hz : ZipAny s.heap z TI TO) (hTI : IsPair s.heap TI (.ref i1) (.ref i2)) (hTO : ∃ a b, IsPair s.heap TO a b)
    (h1 : s.heap.IsTupleIter i1 l1 k1) (h2 : s.heap.IsTupleIter i2 l2 k2) (hl1 : s.heap.IsTuple l1 xs) (hl2 : s.heap.IsTuple l2 ys) (hend : xs[k1]? = none ∨ ys[k2]? = none)
    (hQ : ∀ h', (∀ c o, c ≠ z → c ≠ TO → c ≠ i1 → c ≠ i2 → s.heap.get? c = some o → h'.get? c = some o) → Q none { s with heap := h' }) : wpAny (model prog w) A (pyNext (.ref z)) Q E s := by
  obtain ⟨a0, f0, ha0, hz0⟩ := id hz
  have hT : s.TypeIs (.ref z) "zip" := ⟨_, hz0, rfl⟩
  unfold pyNext
  refine wpAny_bind (wpAny_attempt (wpAny_callSpecial?_slot (name := Str.ofString "__next__") hT F.slot_zip_next
    (wpAny_call_entry F.slot_zip_next hT F.entry_zip_next (zip1_end hh D hz hTI hTO h1 h2 hl1 hl2 hend fun h' e hk he => ?_) (F.args_zip_next_1 _))))
  obtain ⟨o, ho, hc⟩ := he
  refine wpAny_bind (wpAny_isInstance (T := "StopIteration") (b := true) ⟨o, ho, hc⟩ isSubtype_stop ?_)
  exact wpAny_pure (hQ _ hk)
end
end K64
set_option autoImplicit true
set_option Elab.async false
set_option linter.all false
set_option maxRecDepth 100000
set_option maxHeartbeats 4000000
/-! K64: rules that the hand layer lacks: enumerate(text), zip of two texts, zip of two tuples to one name, items of a dict with tuple keys, a display with a tuple key, sorted of a dict with pairs as keys. -/
namespace K64
open PySem PySem.Spec PyProof.Rows L2

/-! ### iterators of new pairs over things that are no objects -/
/-- n turns, the items of the turn's new tuple told by Pv -/
def ItNew (n : Nat) (Pv : Nat → List V → Prop) : It :=
  ⟨fun i _ => i < n, fun i H v H' => ∃ T xs, v = .ref T ∧ H T = none ∧ H' = upd H T (.tup xs) ∧ Pv i xs, fun i _ => n ≤ i⟩
theorem turn_new {P : Program} {w : World} {K : PySem.W.Frag} {tg : Expr} {I : Addr} {fp wr : List Addr} {n : Nat} {Pv : Nat → List V → Prop} {Y : Nat → Heap → Value → Heap → Prop} {tn : Nat → Heap → Prop}
    (W : ∀ A : Around, A.handled = none → GoesN P w A tg I fp wr n Y tn) (hI : I ∈ fp) (live : ∀ i h, tn i h → ∀ b ∈ fp, ∃ o, h.get? b = some o ∧ ∀ v, o.data ≠ .cell v)
    (hY : ∀ i h0 v h, Y i h0 v h → ∃ T vals xs, v = .ref T ∧ h0.objs.size ≤ T ∧ h.IsTuple T vals ∧ Vals xs vals.toList ∧ xs.length ≤ sizeLine ∧ Pv i xs)
    (hself : ∀ (A : Around) i (s : Shared) (Q : Value → Shared → Prop) (E : Value → Shared → Prop), tn i s.heap → Q (.ref I) s → wpAny (model P w) A (pyIter (.ref I)) Q E s) :
    Turn P w K tg (ItNew n Pv) fp I (fun i h => i ≤ n ∧ tn i h) where
  mem := hI
  obj := fun i h st b hb => live i h st.2 b hb
  keep := fun i h h' st k => ⟨st.1, (W callerA rfl).frame i h h' st.2 k⟩
  item := by
    intro X hP hw hK hc i pins s σ H E I0 hf st hg
    subst hP hw hK
    have G := W X.A (I0.ok.hd hc)
    have hin : i < n := hg
    refine thn (G.goes i s (fun v s2 => ∃ x H', Inv X pins σ H' s2 ∧ RelV x v ∧ (ItNew n Pv).yld i H x H' ∧ (i + 1 ≤ n ∧ tn (i + 1) s2.heap) ∧ ∀ b ∈ fp, H' b = none) E hin st.2 fun v h' tk hy st' hk htk => ?_) fun r s1 h1 => h1
    obtain ⟨T, vals, xs, rfl, hT, ht, rv, hz, pv⟩ := hY _ _ _ _ hy
    have hnT : H T = none := I0.hok.fresh hT
    have new : ObjOk X.prog X.w (upd H T (.tup xs)) h' T (.tup xs) := ⟨hz, vals.toList, rv, by rw [Array.toArray_toList]; exact ht⟩
    have I1 : Inv X pins σ (upd H T (.tup xs)) { s with heap := h', toks := tk } := I0.turnedNew (ch := wr) hk (fun b hb => hf b (G.sub b hb)) hT new
    refine ⟨.ref T, _, I1, rfl, ⟨T, xs, rfl, hnT, rfl, pv⟩, ⟨hin, st'⟩, fun b hb => ?_⟩
    obtain ⟨o, ho, _⟩ := live i _ st.2 b hb
    rw [upd_ne (Nat.ne_of_lt (Nat.lt_of_lt_of_le (Heap.lt_size ho) hT))]
    exact (hf b hb).1
  done := by
    intro X hP hw hK hc i pins s σ H E I0 hf st hg
    subst hP hw hK
    have G := W X.A (I0.ok.hd hc)
    have e : i = n := Nat.le_antisymm st.1 hg
    subst e
    exact G.stops s (fun s1 => Inv X pins σ H s1) E st.2 fun h' tk hk htk => I0.turnedL (t' := tk) (ch := wr) hk fun b hb => hf b (G.sub b hb)
  self := fun A i s Q E st h => hself A i s Q E st.2 h
/-- the turns of such a loop -/
theorem for_new {n : Nat} {Pv : Nat → List V → Prop} {g : TG} {tb : TS} {D : Ends} {σ : L2.St} {H : Hp} (Iv : Nat → L2.St → Hp → Prop) (h0 : Iv 0 σ H)
    (hs : ∀ (i : Nat) (T : Addr) (xs : List V) (σ : L2.St) (H : Hp), i < n → Pv i xs → Iv i σ H → H T = none → g (.ref T) σ (upd H T (.tup xs)) fun σ2 H2 => tb { D with nx := Iv (i + 1), ct := Iv (i + 1), bk := D.nx } σ2 H2) (hd : ∀ σ H, Iv n σ H → D.nx σ H) :
    ∃ W : Nat → Nat → L2.St → Hp → Prop, (∃ m, W 0 m σ H) ∧ ∀ i m σ H, W i m σ H →
      ((ItNew n Pv).stop i H ∧ D.nx σ H) ∨ ((ItNew n Pv).go i H ∧ ∃ N : L2.St → Hp → Prop, (∀ σ' H', N σ' H' → ∃ m', m' < m ∧ W (i + 1) m' σ' H') ∧ ∀ v H', (ItNew n Pv).yld i H v H' → g v σ H' fun σ2 H2 => tb { D with nx := N, ct := N, bk := D.nx } σ2 H2) := by
  refine ⟨fun i m σ H => m = n - i ∧ i ≤ n ∧ Iv i σ H, ⟨n, rfl, Nat.zero_le _, h0⟩, ?_⟩
  rintro i m σ H ⟨rfl, hi, p⟩
  by_cases hlt : i < n
  · refine .inr ⟨hlt, Iv (i + 1), fun σ' H' p' => ⟨n - (i + 1), by omega, rfl, hlt, p'⟩, fun v H' y => ?_⟩
    obtain ⟨T, xs, rfl, hT, rfl, pv⟩ := y
    exact hs i T xs σ H hlt pv p hT
  · have e : i = n := by omega
    subst e
    exact .inl ⟨Nat.le_refl _, hd σ H p⟩

/-! ### enumerate(text) -/
def PvEnum (x : Str) (i : Nat) (xs : List V) : Prop := ∃ c, x.cps[i]? = some c ∧ xs = [.int (i : Nat), .str ⟨#[c]⟩]
def iEnumS (ta : TA) : TI := fun σ H R => ta σ H fun vs H1 => ∃ x, vs = [.str x] ∧ R (ItNew x.cps.size (PvEnum x)) H1
theorem pi_enumS {X : Cx} {e : Expr} {ta : TA} {p pos tpos : Pos} {elts : List Expr} {kk : Nat} (hg : Gl X "enumerate") (hm : X.mg "enumerate" = none) (ha : PA X [e] ta) (hs : starEach [e] X.env = [(false, eval e X.env)] := by rfl) :
    PI X (.Tuple elts kk tpos) (.Call (.Name "enumerate" p) [e] [] pos) (iEnumS ta) := by
  refine ⟨fun pins s σ H R I h => ?_⟩
  refine Call_ (ld_blt I hg hm boot_enumerate (PyProof.Rows.callWith_type1 (thn (ha.run pos pins s σ H _ I h) fun us s1 ⟨vs, H1, I1, r1, q1⟩ => ?_) hs rfl))
  obtain ⟨x, ex, q⟩ := q1
  subst ex
  cases r1 with
  | cons r rr =>
    cases rr
    obtain ⟨t, rfl⟩ := r
    refine call_enumerate_str fun h' he hit hsz hk => wpAny_pyIter_enum he ?_
    have I2 : Inv X pins σ H1 { s1 with heap := h' } := I1.kept (t' := s1.toks) hk
    have ne : s1.heap.objs.size + 1 ≠ s1.heap.objs.size := Nat.succ_ne_self _
    refine ⟨s1.heap.objs.size + 1, (s1.heap.objs.size + 1) :: [s1.heap.objs.size], _, ItNew x.cps.size (PvEnum x), H1, rfl, I2,
      turn_new (fun A hA => GoesN.enumFrom 0 (Draws.text (A := A.in1) (show A.in1.handled = none from hA) s1.heap.objs.size x t) (s1.heap.objs.size + 1) ne (by simp) (by simp)) (by simp)
        (fun i h st b hb => ?_) (fun i h0 v h hy => ?_) (fun A i s Q E st h => let ⟨⟨_, he⟩, _⟩ := st; wpAny_pyIter_enum he h), ⟨Nat.zero_le _, ⟨.none, ?_⟩, hit⟩, fun b hb => ?_, q⟩
    · obtain ⟨⟨old, h1⟩, o, h2, _, h4⟩ := st
      have e' : b = s1.heap.objs.size + 1 ∨ b = s1.heap.objs.size := by simpa using hb
      rcases e' with z | z
      · rw [z]; exact ⟨_, h1, fun v q => nomatch q⟩
      · rw [z]; exact ⟨o, h2, fun v q => by rw [h4] at q; cases q⟩
    · obtain ⟨T, t', xv, rfl, hT, ⟨c, u, hc, rfl⟩, ht⟩ := hy
      exact ⟨T, _, [.int (i : Nat), .str ⟨#[c]⟩], rfl, hT, ht, .cons ⟨t', by rw [Int.zero_add]⟩ (.cons ⟨u, rfl⟩ .nil), by show 2 ≤ sizeLine; decide, c, hc, rfl⟩
    · show IsEnum h' _ _ ((0 : Int) + ((0 : Nat) : Int)) .none
      exact he
    · have e' : b = s1.heap.objs.size + 1 ∨ b = s1.heap.objs.size := by simpa using hb
      have hle : s1.heap.objs.size ≤ b := by
        rcases e' with z | z
        · rw [z]; exact Nat.le_add_right _ _
        · rw [z]; exact Nat.le_refl _
      exact I1.fpOk hle (I1.hok.fresh hle)

/-! ### zip of two texts -/
def PvZip (x y : Str) (i : Nat) (xs : List V) : Prop := ∃ c d, x.cps[i]? = some c ∧ y.cps[i]? = some d ∧ xs = [.str ⟨#[c]⟩, .str ⟨#[d]⟩]
def iZipS (ta : TA) : TI := fun σ H R => ta σ H fun vs H1 => ∃ x y, vs = [.str x, .str y] ∧ R (ItNew (min x.cps.size y.cps.size) (PvZip x y)) H1
theorem pi_zipS {X : Cx} {e e2 : Expr} {ta : TA} {p pos tpos : Pos} {elts : List Expr} {kk : Nat} (hg : Gl X "zip") (hm : X.mg "zip" = none) (ha : PA X [e, e2] ta)
    (hs : starEach [e, e2] X.env = (false, eval e X.env) :: starEach [e2] X.env := by rfl) (hpl : (backTo pos (starEach [e2] X.env)).any (·.1) = false := by rfl) :
    PI X (.Tuple elts kk tpos) (.Call (.Name "zip" p) [e, e2] [] pos) (iZipS ta) := by
  refine ⟨fun pins s σ H R I h => ?_⟩
  refine Call_ (ld_blt I hg hm PyProof.Rows.boot_zip (PyProof.Rows.callWith_type1 (thn (ha.run pos pins s σ H _ I h) fun us s1 ⟨vs, H1, I1, r1, q1⟩ => ?_) hs hpl))
  obtain ⟨x, y, ex, q⟩ := q1
  subst ex
  cases r1 with
  | cons r rr =>
    cases rr with
    | cons r' rr =>
      cases rr
      obtain ⟨t, rfl⟩ := r
      obtain ⟨u, rfl⟩ := r'
      refine zip_begins2 (begins_text x t) (begins_text y u) trivial trivial fun h' hz hTI hTO h1 h2 hsz hk => wpAny_pyIter_zip hz ?_
      have I2 : Inv X pins σ H1 { s1 with heap := h' } := I1.kept (t' := s1.toks) hk
      generalize hN : s1.heap.objs.size = N at hz hTI hTO h1 h2 hsz ⊢
      refine ⟨N + 4, (N + 4) :: (N + 2) :: (N + 3) :: ([N] ++ [N + 1]), _, ItNew (min x.cps.size y.cps.size) (PvZip x y), H1, rfl, I2,
        turn_new (fun A hA => GoesN.zip2 (zip_sep2 (N := N) (fp1 := []) (fp2 := []) (fun _ q => nomatch q) (fun _ q => nomatch q)) (Draws.text (A := A.in1) (show A.in1.handled = none from hA) N x t) (Draws.text (A := A.in1) (show A.in1.handled = none from hA) (N + 1) y u)) (by simp)
          (fun i h st b hb => ?_) (fun i h0 v h hy => ?_) (fun A i s Q E st h => wpAny_pyIter_zip st.1 h), ⟨Nat.zero_le _, hz, hTI, ⟨_, _, hTO⟩, ⟨_, h1, rfl, rfl⟩, ⟨_, h2, rfl, rfl⟩⟩, fun b hb => ?_, q⟩
      · obtain ⟨k1, k2, ⟨_, _, k3⟩, ⟨o4, k4, _, d4⟩, ⟨o5, k5, _, d5⟩⟩ := st
        have e' : b = N + 4 ∨ b = N + 2 ∨ b = N + 3 ∨ b = N ∨ b = N + 1 := by simpa using hb
        rcases e' with z | z | z | z | z
        · rw [z]; exact ⟨_, k1, fun v q => nomatch q⟩
        · rw [z]; exact ⟨_, k2, fun v q => nomatch q⟩
        · rw [z]; exact ⟨_, k3, fun v q => nomatch q⟩
        · rw [z]; exact ⟨o4, k4, fun v q => by rw [d4] at q; cases q⟩
        · rw [z]; exact ⟨o5, k5, fun v q => by rw [d5] at q; cases q⟩
      · obtain ⟨T, xv, yv, rfl, hT, ⟨c, t1, hc, rfl⟩, ⟨d, t2, hd, rfl⟩, ht⟩ := hy
        exact ⟨T, _, [.str ⟨#[c]⟩, .str ⟨#[d]⟩], rfl, hT, ht, .cons ⟨_, rfl⟩ (.cons ⟨_, rfl⟩ .nil), by show 2 ≤ sizeLine; decide, c, d, hc, hd, rfl⟩
      · have e' : b = N + 4 ∨ b = N + 2 ∨ b = N + 3 ∨ b = N ∨ b = N + 1 := by simpa using hb
        have hle : s1.heap.objs.size ≤ b := by
          rw [hN]
          rcases e' with z | z | z | z | z
          · rw [z]; exact Nat.le_add_right _ _
          · rw [z]; exact Nat.le_add_right _ _
          · rw [z]; exact Nat.le_add_right _ _
          · rw [z]; exact Nat.le_refl _
          · rw [z]; exact Nat.le_add_right _ _
        exact I1.fpOk hle (I1.hok.fresh hle)

/-! ### zip of two tuples to one name -/
theorem turn_zip1 {P : Program} {w : World} {K : PySem.W.Frag} {nm : Str} {npos : Pos} {a b z TI TO i1 i2 : Addr} (D : ZipApart z TI TO i1 i2 a b) :
    Turn P w K (.Name nm npos) (RZ.ItzT K a b) [z, TI, TO, i1, i2] z (fun i h => ZipAny h z TI TO ∧ IsPair h TI (.ref i1) (.ref i2) ∧ (∃ x y, IsPair h TO x y) ∧ h.IsTupleIter i1 a i ∧ h.IsTupleIter i2 b i) where
  mem := by simp
  obj := fun i h st c hc => by
    obtain ⟨⟨_, _, _, hz⟩, hTI, ⟨x, y, hTO⟩, ⟨o1, e1, _, d1⟩, ⟨o2, e2, _, d2⟩⟩ := st
    have e' : c = z ∨ c = TI ∨ c = TO ∨ c = i1 ∨ c = i2 := by simpa using hc
    rcases e' with q | q | q | q | q
    · rw [q]; exact ⟨_, hz, fun v q => nomatch q⟩
    · rw [q]; exact ⟨_, hTI, fun v q => nomatch q⟩
    · rw [q]; exact ⟨_, hTO, fun v q => nomatch q⟩
    · rw [q]; exact ⟨o1, e1, fun v q => by rw [d1] at q; cases q⟩
    · rw [q]; exact ⟨o2, e2, fun v q => by rw [d2] at q; cases q⟩
  keep := fun i h h' st k => by
    obtain ⟨⟨z1, z2, z3, hz⟩, hTI, ⟨x, y, hTO⟩, h1, h2⟩ := st
    exact ⟨⟨z1, z2, z3, k z (by simp) _ hz⟩, k TI (by simp) _ hTI, ⟨x, y, k TO (by simp) _ hTO⟩, h1.at fun o q => k i1 (by simp) o q, h2.at fun o q => k i2 (by simp) o q⟩
  item := by
    intro X hP hw hK hc i pins s σ H E I hf st hg
    subst hP hw hK
    obtain ⟨hz, hTI, hTO, h1, h2⟩ := st
    obtain ⟨xs, ys, x, y, hqx, hqy, hx, hy⟩ := hg
    obtain ⟨its, rv, p, _⟩ := I.tuple hqx
    obtain ⟨its2, rv2, p2, _⟩ := I.tuple hqy
    obtain ⟨u, hu, ru⟩ := rv.get hx
    obtain ⟨u2, hu2, ru2⟩ := rv2.get hy
    refine next_zip1_item D hz hTI hTO h1 h2 p p2 (x := u) (y := u2) (by simpa using hu) (by simpa using hu2) fun h' z' TO' h1' h2' hT hk => ?_
    have new : ObjOk X.prog X.w (upd H s.heap.objs.size (.tup [x, y])) h' s.heap.objs.size (.tup [x, y]) :=
      ⟨by show 2 ≤ sizeLine; decide, [u, u2], .cons ru (.cons ru2 .nil), ⟨_, hT, rfl, _, rfl⟩⟩
    have I1 : Inv X pins σ (upd H s.heap.objs.size (.tup [x, y])) { s with heap := h' } :=
      I.turnedNew (t' := s.toks) (ch := [z, TI, TO, i1, i2]) (fun c o hb q => hk c o (fun q' => hb (by simp [q'])) (fun q' => hb (by simp [q'])) (fun q' => hb (by simp [q'])) (fun q' => hb (by simp [q'])) q) hf (Nat.le_refl _) new
    refine ⟨_, rfl, wpAny_pure ⟨.ref s.heap.objs.size, _, I1, rfl, ⟨_, x, y, rfl, I.hok.fresh (Nat.le_refl _), rfl, fun l hl => by rw [I.tuple_inj hl hqx]; exact hx, fun l hl => by rw [I.tuple_inj hl hqy]; exact hy⟩, ⟨z', hk _ _ D.TIz D.TITO D.TIi1 D.TIi2 hTI, TO', h1', h2'⟩, fun c hcm => ?_⟩⟩
    have hlt : c < s.heap.objs.size := by
      obtain ⟨z1, z2, z3, hz⟩ := hz
      obtain ⟨x0, y0, hTO⟩ := hTO
      have e' : c = z ∨ c = TI ∨ c = TO ∨ c = i1 ∨ c = i2 := by simpa using hcm
      rcases e' with q | q | q | q | q
      · rw [q]; exact Heap.lt_size hz
      · rw [q]; exact Heap.lt_size hTI
      · rw [q]; exact Heap.lt_size hTO
      · rw [q]; obtain ⟨_, e1, _⟩ := h1; exact Heap.lt_size e1
      · rw [q]; obtain ⟨_, e2, _⟩ := h2; exact Heap.lt_size e2
    rw [upd_ne (Nat.ne_of_lt hlt)]
    exact (hf c hcm).1
  done := by
    intro X hP hw hK hc i pins s σ H E I hf st hg
    subst hP hw hK
    obtain ⟨hz, hTI, hTO, h1, h2⟩ := st
    obtain ⟨xs, ys, hqx, hqy, hend⟩ := hg
    obtain ⟨its, rv, p, _⟩ := I.tuple hqx
    obtain ⟨its2, rv2, p2, _⟩ := I.tuple hqy
    have l1 := rv.length
    have l2 := rv2.length
    have he : its.toArray[i]? = none ∨ its2.toArray[i]? = none := by
      rcases hend with q | q
      · exact .inl (by simp; omega)
      · exact .inr (by simp; omega)
    exact next_zip1_end (I.ok.hd hc) D hz hTI hTO h1 h2 p p2 he fun h' hk => ⟨rfl, I.turnedL (t' := s.toks) (ch := [z, TI, TO, i1, i2]) (fun c o hb q =>
      hk c o (fun q' => hb (by simp [q'])) (fun q' => hb (by simp [q'])) (fun q' => hb (by simp [q'])) (fun q' => hb (by simp [q'])) q) hf⟩
  self := fun A i s Q E st h => by
    obtain ⟨⟨a0, f0, _, hz⟩, _⟩ := st
    have hT : s.TypeIs (.ref z) "zip" := ⟨_, hz, rfl⟩
    refine wpAny_pyIter_slot hT F.slot_zip_iter (wpAny_call_entry F.slot_zip_iter hT F.entry_zip_iter ?_ (F.args_zip_iter_1 _))
    show wpAny _ _ (ret (.ref z)) _ _ s
    exact wpAny_pure ⟨_, rfl, "zip", _, hT, F.slot_zip_next.lookup, h⟩
def iZip1 (K : PySem.W.Frag) (ta : TA) : TI := fun σ H R => ta σ H fun vs H1 => ∃ a b xs ys, vs = [.ref a, .ref b] ∧ SqT K H1 a xs ∧ SqT K H1 b ys ∧ R (RZ.ItzT K a b) H1
theorem pi_zip1 {X : Cx} {e e2 : Expr} {ta : TA} {p pos npos : Pos} {nm : Str} (hg : Gl X "zip") (hm : X.mg "zip" = none) (ha : PA X [e, e2] ta)
    (hs : starEach [e, e2] X.env = (false, eval e X.env) :: starEach [e2] X.env := by rfl) (hpl : (backTo pos (starEach [e2] X.env)).any (·.1) = false := by rfl) :
    PI X (.Name nm npos) (.Call (.Name "zip" p) [e, e2] [] pos) (iZip1 X.K ta) := by
  refine ⟨fun pins s σ H R I h => ?_⟩
  refine Call_ (ld_blt I hg hm PyProof.Rows.boot_zip (PyProof.Rows.callWith_type1 (thn (ha.run pos pins s σ H _ I h) fun us s1 ⟨vs, H1, I1, r1, q1⟩ => ?_) hs hpl))
  obtain ⟨a, b, xs, ys, ex, hqx, hqy, q⟩ := q1
  subst ex
  cases r1 with
  | cons r rr =>
    cases rr with
    | cons r' rr =>
      cases rr
      cases r
      cases r'
      obtain ⟨its, rv, p1, _⟩ := I1.tuple hqx
      obtain ⟨its2, rv2, p2, _⟩ := I1.tuple hqy
      obtain ⟨o1, ho1, _⟩ := id p1
      obtain ⟨o2, ho2, _⟩ := id p2
      refine RZ.call_zipT (show s1.heap.IsTuple a its.toArray from p1) (show s1.heap.IsTuple b its2.toArray from p2) fun h' hz hTI hTO h1 h2 hsz hk => wpAny_pyIter_zip hz ?_
      have I2 : Inv X pins σ H1 { s1 with heap := h' } := I1.kept (t' := s1.toks) hk
      refine ⟨s1.heap.objs.size + 4, [s1.heap.objs.size + 4, s1.heap.objs.size + 2, s1.heap.objs.size + 3, s1.heap.objs.size, s1.heap.objs.size + 1], _, _, H1, rfl, I2,
        turn_zip1 (PySem.W.ktu_apart s1.heap.objs.size a b (Heap.lt_size ho1) (Heap.lt_size ho2)), ⟨⟨.none, false, .inl rfl, hz⟩, hTI, ⟨_, _, hTO⟩, h1, h2⟩, fun c hcm => ?_, q⟩
      have e' : c = s1.heap.objs.size + 4 ∨ c = s1.heap.objs.size + 2 ∨ c = s1.heap.objs.size + 3 ∨ c = s1.heap.objs.size ∨ c = s1.heap.objs.size + 1 := by simpa using hcm
      have hle : s1.heap.objs.size ≤ c := by
        rcases e' with z | z | z | z | z
        · rw [z]; exact Nat.le_add_right _ _
        · rw [z]; exact Nat.le_add_right _ _
        · rw [z]; exact Nat.le_add_right _ _
        · rw [z]; exact Nat.le_refl _
        · rw [z]; exact Nat.le_add_right _ _
      exact I1.fpOk hle (I1.hok.fresh hle)

/-! ### the items of a locked dict with tuple keys -/
theorem frzT2 {X : Cx} {pins : List (Addr × Obj)} {σ : L2.St} {H : Hp} {s : Shared} {d : Addr} {o : Obj} {kvs : List (List Key × V)} (I : Inv X pins σ H s) (h : H d = some (.frz o (.dT kvs))) :
    (d == sysModules) = false ∧ s.heap.get? d = some o ∧ o.ExactDict ∧ ∃ (es : Array DictEntry) (ep : Nat), o.data = .dict es ep ∧ es.size = kvs.length ∧
      ∀ (i : Nat) (k : List Key) (v : V), kvs[i]? = some (k, v) → ∃ (en : DictEntry) (q : Addr), es[i]? = some en ∧ en.key = .ref q ∧ H q = some (.tup (k.map kV)) ∧ RelV v en.val := by
  obtain ⟨hd, z, hs, xs, pr, o', es, ep, ho, hx, hdt, he, _⟩ := I.hok d _ h
  rw [hd] at ho
  cases ho
  refine ⟨hs, hd, hx, es, ep, hdt, ?_, fun i k v e => ?_⟩
  · have l1 : es.size = xs.length := size_of_entries he
    have l2 : kvs.length = xs.length := Paired.length pr
    omega
  · obtain ⟨b, hb, e1, e2, e3⟩ := paired_get pr e
    have q := entry_at he i
    rw [hb] at q
    exact ⟨_, b.2.1, q, rfl, e2, e3⟩
/-- the pairs (key, value) of the locked dict, each in a new tuple -/
def ItItems (d : Addr) (o : Obj) (kvs : List (List Key × V)) : It :=
  ⟨fun i H => H d = some (.frz o (.dT kvs)) ∧ i < kvs.length, fun i H x H' => ∃ T k v q, kvs[i]? = some (k, v) ∧ x = .ref T ∧ H T = none ∧ H q = some (.tup (k.map kV)) ∧ H' = upd H T (.tup [.ref q, v]), fun i H => H d = some (.frz o (.dT kvs)) ∧ kvs.length ≤ i⟩
theorem turn_itemsT {P : Program} {w : World} {K : PySem.W.Frag} {d : Addr} {o : Obj} {es : Array DictEntry} {ep : Nat} {kvs : List (List Key × V)} {elts : List Expr} {kk : Nat} {tpos : Pos} (it : Addr) (hod : o.data = .dict es ep) (hex : o.ExactDict) (hsz : es.size = kvs.length) :
    Turn P w K (.Tuple elts kk tpos) (ItItems d o kvs) [it] it (fun i h => ∃ ok ov, IsItemIter h it d i es.size ep ok ov) where
  mem := by simp
  obj := fun i h st b hb => by
    have e : b = it := by simpa using hb
    subst e
    obtain ⟨ok, ov, e⟩ := st
    exact ⟨_, e, fun v z => nomatch z⟩
  keep := fun i h h' st k => let ⟨ok, ov, e⟩ := st; ⟨ok, ov, k it (by simp) _ e⟩
  item := by
    intro X hP hw hK hc i pins s σ H E I hf st hg
    subst hP hw hK
    obtain ⟨hd, hi⟩ := hg
    obtain ⟨hs, hgd, hx, es', ep', hdt, hsz', ent⟩ := frzT2 I hd
    obtain ⟨rfl, rfl⟩ := dict_ep hod hdt
    obtain ⟨⟨k, v⟩, hkv⟩ : ∃ p, kvs[i]? = some p := ⟨kvs[i], List.getElem?_eq_getElem hi⟩
    obtain ⟨en, q, hen, hkey, hq, rv⟩ := ent i k v hkv
    obtain ⟨hlt, een⟩ := Array.getElem?_eq_some_iff.mp hen
    obtain ⟨ok, ov, he⟩ := st
    have hil : it < s.heap.objs.size := Heap.lt_size he
    refine wpAny_pyNext_items_item_raw he ⟨o, hgd, hx, hod⟩ hlt fun h' ho hT hz hk => ?_
    refine ⟨_, rfl, wpAny_letOwnedTupleGo_items (s := { s with heap := h' }) ho fun h'' he' sb => ?_⟩
    have hT2 : h''.get? s.heap.objs.size = some { cls := .type "tuple", data := .seq #[es'[i].key, es'[i].val] } := (sb.2 _ (Nat.ne_of_gt hil)).trans hT
    rw [een, hkey] at hT2
    have new : ObjOk X.prog X.w (upd H s.heap.objs.size (.tup [.ref q, v])) h'' s.heap.objs.size (.tup [.ref q, v]) :=
      ⟨by show 2 ≤ sizeLine; decide, [.ref q, en.val], .cons rfl (.cons rv .nil), ⟨_, hT2, rfl, _, rfl⟩⟩
    have I1 : Inv X pins σ (upd H s.heap.objs.size (.tup [.ref q, v])) { s with heap := h'' } :=
      I.turnedNew (t' := s.toks) (ch := [it]) (fun b ob hb e => (sb.2 b (by simpa using hb)).trans (hk b ob (by simpa using hb) e)) hf (Nat.le_refl _) new
    refine ⟨.ref s.heap.objs.size, _, I1, rfl, ⟨_, k, v, q, hkv, rfl, I.hok.fresh (Nat.le_refl _), hq, rfl⟩, ⟨_, _, he'⟩, fun b hb => ?_⟩
    have e : b = it := by simpa using hb
    rw [e, upd_ne (Nat.ne_of_lt hil)]
    exact (hf it (by simp)).1
  done := by
    intro X hP hw hK hc i pins s σ H E I hf st hg
    subst hP hw hK
    obtain ⟨hd, hi⟩ := hg
    obtain ⟨f0, f1, f2, f3, f4, f5⟩ := hf it (by simp)
    obtain ⟨hs, hgd, hx, es', ep', hdt, hsz', ent⟩ := frzT2 I hd
    obtain ⟨rfl, rfl⟩ := dict_ep hod hdt
    obtain ⟨ok, ov, he⟩ := st
    exact wpAny_pyNext_items_end_raw (I.ok.hd hc) he ⟨o, hgd, hx, hod⟩ (by omega) fun h' eb => ⟨rfl, I.turned (t' := s.toks) (fun b ob hb e => eb b ob hb e) f0 f1 f3 f4 f5⟩
  self := fun A i s Q E st h => let ⟨_, _, e⟩ := st; wpAny_pyIter_itemiter e h
/-- e.items(), e's dict locked ahead (by the caller) -/
def iItemsT (td : TE) : TI := fun σ H R => td σ H fun x H1 => ∃ d o kvs, x = .ref d ∧ H1 d = some (.frz o (.dT kvs)) ∧ R (ItItems d o kvs) H1
theorem pi_itemsT {X : Cx} {e : Expr} {td : TE} {apos cpos tpos : Pos} {elts : List Expr} {kk : Nat} (he : PE X e td) (hbase : attributeBase e "items" X.env (eval e X.env) = eval e X.env := by rfl) (hline : (apos.endLine == cpos.line) = true := by rfl) :
    PI X (.Tuple elts kk tpos) (.Call (.Attribute e "items" apos) [] [] cpos) (iItemsT td) := by
  refine ⟨fun pins s σ H R I h => ?_⟩
  refine wpAny_Call_method (T := "dict") (id := "dict.items") hbase rfl hline F.plainAttrs_dict F.slot_dict_items F.type_dict_items (thn (he.run pins s σ H _ I h) fun u s1 ⟨x, H1, I1, rx, d, o, kvs, ex, hd, q⟩ => ?_)
  subst ex
  obtain rfl : u = Value.ref d := rx
  obtain ⟨hs, hgd, hx, es, ep, hdt, hsz, ent⟩ := frzT2 I1 hd
  have raw : s1.heap.DictRaw d es ep := ⟨o, hgd, hx, hdt⟩
  refine ⟨raw.typeIs, fun b q => ?_, ?_⟩
  · cases q
    exact ⟨o, hgd, hx.2.1⟩
  have I2 : Inv X pins σ H1 { s1 with heap := s1.heap.push { cls := .type "dict_items", data := .fields #[.ref d] } } := I1.kept (t' := s1.toks) fun b ob q => Heap.get?_push_of_some _ q
  have fin : wpAny (model X.prog X.w) X.A (pyIter (.ref s1.heap.objs.size)) (PIE X pins σ (.Tuple elts kk tpos) R) X.xe { s1 with heap := s1.heap.push { cls := .type "dict_items", data := .fields #[.ref d] } } := by
    refine wpAny_pyIter_items_raw (d := d) ⟨_, Heap.get?_push_size _ rfl, rfl, rfl⟩ (raw.at fun ob q => Heap.get?_push_of_some _ q) (pi_one (tk := s1.toks) I2 _ (turn_itemsT _ hdt hx hsz) ⟨.none, .none, ?_⟩ q)
    exact Heap.get?_push_size _ rfl
  show wpAny _ _ (callWith cpos (.builtin "dict.items") [.ref d] [] []) _ X.xe s1
  exact method_meetsIn F.slot_dict_items F.entry_dict_items rfl (PySem.evalArgs_none ⟨rfl, raw.typeIs, F.args_dict_items_1 _, _, meets_dict_items_raw d hs, ⟨es, ep, raw⟩, fin⟩)
end K64
set_option autoImplicit true
set_option Elab.async false
set_option linter.all false
set_option maxRecDepth 100000
set_option maxHeartbeats 4000000
/-! K64: a display of one pair whose key is a tuple; sorted of a dict whose keys are pairs of ints. -/
namespace K64
open PySem PySem.Spec PyProof.Rows L2

/-! ### {k: v}, k a tuple -/
def tDispT (tk tv : TE) : TE := fun σ H Q => ∀ p, H p = none → tk σ (upd H p (.dT [])) fun x H1 => tv σ H1 fun y H2 => H2 p = some (.dT []) ∧ ∃ (k : List Key) (b : Addr), x = .ref b ∧ H2 b = some (.tup (k.map kV)) ∧ Q (.ref p) (upd H2 p (.dT [(k, y)]))
theorem pe_dispT {X : Cx} {pos : Pos} {k v : Expr} {tk tv : TE} (hu : X.A.units + 1 < cLine) (hk : PE X k tk) (hv : PE X v tv) : PE X (.Dict [some k] [v] pos) (tDispT tk tv) := by
  refine ⟨fun pins s σ H Q I q => ?_⟩
  have hn := I.hok.fresh (Nat.le_refl s.heap.objs.size)
  have I1 := I.laid (a := s.heap.objs.size) (o := .dT []) (h' := s.heap.push { cls := .type "dict", data := .dict #[] }) (t' := s.toks) (fun _ _ q => Heap.get?_push_of_some _ q) (Nat.le_refl _) (dt_empty s.heap I.big)
  rw [arm_eval_Dict, zip_pairTrees [some k] [v] X.env pos rfl rfl, dictDisplay_pairs _ (by intro z; cases z) (by show 1 < 17; decide)]
  refine wpAny_bind (wpAny_standAt (wpAny_bind (wpAny_subDictH (knd := tupleKind (mixKind X.prog X.w)) (Nat.lt_of_succ_lt hu) (by show 1 ≤ 15; decide)
    (pairTrees_cons_walk (thn (hk.run pins _ σ _ _ I1 (q _ hn)) fun u s1 ⟨x, H1, I2, rx, q1⟩ => thn (hv.run pins s1 σ H1 _ I2 q1) fun w2 s2 ⟨y, H2, I3, ry, e, key, b, ex, eb, q2⟩ => pairTrees_nil_walk ?_)))))
  subst ex
  obtain rfl : u = Value.ref b := rx
  obtain ⟨z, hd, xs0, r0, dd⟩ := dt_of I3.hok e
  cases r0
  refine ⟨[(key, b, w2)], ⟨rfl, rfl, key_of I3.hok eb, trivial⟩, dd, fun h' tk' dd' hs => wpAny_pure ⟨.ref s.heap.objs.size, _, ?_, rfl, q2⟩⟩
  obtain ⟨o', es, ep, ho', hx', hdt', he', his', hnd'⟩ := dd'
  refine d_write I3 (by rw [e]; exact True.intro) hs ⟨o', ho'⟩ ⟨by show 1 ≤ sizeLine; decide, hd, [(key, b, w2)], .cons ⟨rfl, ?_, ry⟩ .nil, o', es, ep, ho', hx', hdt', he', hnd'⟩
  rw [upd_ne (ne_of eb e (fun z => nomatch z))]
  exact eb

/-! ### sorted of a dict whose keys are pairs of ints -/
section
variable {prog : Program} {w : World} {A : Around} {E : Value → Shared → Prop} {s : Shared} {T : String} {r d : Addr} {n : Nat} {P : Nat → Value → Prop} {OK : Heap → Prop}
/-- what is walked, collected -/
theorem collect_src {Q : List Value → Shared → Prop} (S : PySem.W.KdlSrc prog w T r d n P OK) (hh : A.handled = none) (hok : OK s.heap) (hn : n ≤ sizeLine)
    (hQ : ∀ h' tk (acc : Array Value), (∀ b o, s.heap.get? b = some o → h'.get? b = some o) → s.heap.objs.size ≤ h'.objs.size → ItemsOf P acc n → Q acc.toList { s with heap := h', toks := tk }) : wpAny (model prog w) A (collect (.ref r)) Q E s := by
  have hr : r < s.heap.objs.size := (S.there _ hok).1
  have hd : d < s.heap.objs.size := (S.there _ hok).2
  unfold collect
  refine wpAny_bind (wpAny_runValue (codeAny_builtin F.entry_proto_collect ?_))
  rw [Around.under_plainId F.plain_proto_collect _]
  show wpAny _ A.in1 (newList [] >>= fun l => again (.builtin "list.__iadd__" ⟨[l, .ref r], []⟩)) _ _ s
  refine wpAny_bind (wpAny_newObj_type ?_)
  refine wpAny_pure ⟨plainId_quiet F.plain_list_iadd _, codeAny_builtin F.entry_list_iadd ?_⟩
  rw [Around.under_plainId F.plain_list_iadd _]
  show wpAny _ A.in1 (Builtin.List.listExtendWith (.ref s.heap.objs.size) (.ref r) (.ref s.heap.objs.size)) _ _ _
  have hS : (s.heap.push { cls := .type "list", data := .seq ([] : List Value).toArray }).get? s.heap.objs.size = some { cls := .type "list", data := .seq #[] 0 } := Heap.get?_push_size _ rfl
  refine wpAny_mono (PySem.W.kdl_extend (A := A) (R := fun rr s' => rr = .ok (.ret (.ref s.heap.objs.size)) ∧ ∃ (h' : Heap) (tk : Nat) (acc : Array Value) (c' : Nat), s' = { s with heap := h', toks := tk } ∧
      (∀ b o, s.heap.get? b = some o → h'.get? b = some o) ∧ h'.get? s.heap.objs.size = some { cls := .type "list", dict := none, data := .seq acc c', slots := #[] } ∧ ItemsOf P acc n)
    (s := { s with heap := s.heap.push { cls := .type "list", data := .seq ([] : List Value).toArray } }) S hh (S.keep _ _ hok fun b _ o q => Heap.get?_push_of_some _ q) s.heap.objs.size (Nat.ne_of_gt hr) (Nat.ne_of_gt hd) _ 0 hS
    (fun h' tk acc c' hk e hi => ⟨rfl, h', tk, acc, c', rfl, fun b o q => hk b o (Nat.ne_of_lt (Heap.lt_size q)) (Heap.get?_push_of_some _ q), e, hi⟩) hn) (fun fin s' h => ?_) (fun e s' h => ?_)
  · cases fin with
    | done f =>
      obtain ⟨e, h', tk, acc, c', rfl, hk, hS', hi⟩ := h
      cases e
      show wpAny _ A (load s.heap.objs.size >>= _) _ _ _
      exact wpAny_bind (wpAny_load hS' (wpAny_pure (hQ h' tk acc hk (Nat.le_of_lt (Heap.lt_size hS')) hi)))
    | again c' =>
      refine ⟨h.1, codeAny_mono h.2 fun rr s'' hr' => ?_⟩
      obtain ⟨rfl, h', tk, acc, c', rfl, hk, hS', hi⟩ := hr'
      show wpAny _ A (load s.heap.objs.size >>= _) _ _ _
      exact wpAny_bind (wpAny_load hS' (wpAny_pure (hQ h' tk acc hk (Nat.le_of_lt (Heap.lt_size hS')) hi)))
  · exact absurd h.1 (by simp)
/-- sorted of what is walked, its items pairs of ints -/
theorem sorted_src {Q : Value → Shared → Prop} (S : PySem.W.KdlSrc prog w T r d n P OK) (hh : A.handled = none) (hok : OK s.heap) (hn : n ≤ sizeLine)
    (hp : ∀ i v, P i v → ∃ x y, Srt.IsPair s.heap v x y)
    (hQ : ∀ h' tk (acc : Array Value) (out : List Value) (a : Addr) (m : Nat), (∀ b o, s.heap.get? b = some o → h'.get? b = some o) → s.heap.objs.size ≤ a → ItemsOf P acc n → out.Perm acc.toList → h'.get? a = some (seqObj "list" out.toArray m) → Q (.ref a) { s with heap := h', toks := tk }) :
    wpAny (model prog w) A (call (.builtin "sorted") [.ref r]) Q E s := by
  refine Calls.call_function_entry kind_sorted plain_sorted entry_sorted (args_sorted1 _) ?_
  unfold Builtin.«sorted»
  refine wpAny_bind (m := checkCount "sorted" 1 1 _) (wpAny_pure ?_)
  refine wpAny_bind (collect_src (A := A.in1) S hh hok hn fun h1 tk acc hk sz hi => ?_)
  have hl : acc.toList.length = n := by rw [Array.length_toList, hi.1]
  refine wpAny_bind (wpAny_newList ?_ (by rw [hl]; exact hn))
  have hob : (h1.push { cls := .type "list", data := .seq acc.toList.toArray }).get? h1.objs.size = some (seqObj "list" acc.toList.toArray 0) := Heap.get?_push_size _ rfl
  have kb : ∀ b o, s.heap.get? b = some o → (h1.push { cls := .type "list", data := .seq acc.toList.toArray }).get? b = some o ∧ b ≠ h1.objs.size := fun b o e => ⟨Heap.get?_push_of_some _ (hk b o e), Nat.ne_of_lt (Heap.lt_size (hk b o e))⟩
  generalize h1.push { cls := .type "list", data := .seq acc.toList.toArray } = h2 at hob kb ⊢
  refine wpAny_bind (wpAny_holding (wpAny_call_entry slot_list_sort ⟨_, hob, rfl⟩ entry_list_sort (Srt.list_sort_any hob (by rw [hl]; exact hn) (fun h2' => Srt.pairs_sortable (by omega) (fun v hv => ?_) fun o e => ?_) fun out ho => ⟨_, rfl, ?_⟩) (args_list_sort _)))
  · obtain ⟨j, hj⟩ := List.mem_iff_getElem?.mp hv
    obtain ⟨x, y, p⟩ := hp j v (hi.2 j v (by rw [← Array.getElem?_toList]; exact hj))
    exact ⟨x, y, p.keeps fun b o e _ => (kb b o e).1⟩
  · have e' : some o = some (seqObj "list" acc.toList.toArray 0) := e.symm.trans hob
    cases e'
    intro c
    exact absurd (Value.type.inj c) (by decide)
  · obtain ⟨m, hm⟩ := sortedHeap_at (vs := acc.toList) (out := out.toArray) hob
    exact wpAny_pure ⟨_, rfl, hQ _ tk acc out _ m (fun b o e => (sortedHeap_old (kb b o e).2 (Heap.lt_size (kb b o e).1)).trans (kb b o e).1) sz hi ho hm⟩
end
def rSortedDT : List V → Hp → VK → Prop := fun vs H Q => ∃ (d : Addr) (kvs : List (List Key × V)), vs = [V.ref d] ∧ Rd H d (.dT kvs) ∧ (∀ p ∈ kvs, ∃ i j : Int, p.1 = [.inl i, .inl j]) ∧
  ∀ (bs bs' : List Addr) (p : Addr), H p = none → IsKeys H kvs bs → bs'.Perm bs → Q (.ref p) (upd H p (.lst (bs'.map V.ref)))
theorem cr_sortedDT {X : Cx} (hc : X.calm = true) : CallR X (.builtin "sorted") rSortedDT := by
  intro pins s σ H vs us Q I r h
  obtain ⟨d, kvs, rfl, hd, hk, q⟩ := h
  obtain ⟨u, rfl, rx⟩ := r.one
  cases rx
  obtain ⟨z, hs, ks, pr, o, es, ep, ho, hx, hdt, he, hn⟩ := (show ObjOk X.prog X.w H s.heap d (.dT kvs) from hd.ok I.hok)
  have l1 : es.size = ks.length := size_of_entries he
  have l2 : kvs.length = ks.length := Paired.length pr
  have ent : ∀ (j : Nat) (en : DictEntry), es[j]? = some en → ∃ x p, ks[j]? = some x ∧ kvs[j]? = some p ∧ en.key = .ref x.2.1 ∧ H x.2.1 = some (.tup (p.1.map kV)) := fun j en hj => by
    have hl := (Array.getElem?_eq_some_iff.mp hj).1
    obtain ⟨p, hp⟩ := get_of_lt (l := kvs) (j := j) (by omega)
    obtain ⟨x, hx, e1, e2, _⟩ := paired_get pr hp
    have qe := entry_at he j
    rw [hj, hx] at qe
    have e3 : en = entryOfKey (tupleKind (mixKind X.prog X.w)) x := Option.some.inj qe
    exact ⟨x, p, hx, hp, by rw [e3]; rfl, e2⟩
  refine sorted_src (kdl_raw hs hx hdt) (I.ok.hd hc) ho (by omega) (fun j v hv => ?_) fun h' tk acc out a m kp ha it perm hat => ?_
  · obtain ⟨en, hen, rfl⟩ := hv
    obtain ⟨x, p, _, hp, e1, e2⟩ := ent j en hen
    obtain ⟨i, k, ep'⟩ := hk p (List.mem_of_getElem? hp)
    rw [ep'] at e2
    obtain ⟨_, its, rv, o', ho', hc', n', hd'⟩ := (show ObjOk X.prog X.w H s.heap x.2.1 (.tup [.int i, .int k]) from I.hok _ _ e2)
    obtain ⟨u1, u2, rfl, ⟨t1, rfl⟩, ⟨t2, rfl⟩⟩ := vals2 rv
    exact ⟨i, k, x.2.1, o', t1, t2, n', e1, ho', hc', hd'⟩
  · have ea : acc.toList = (ks.map fun x => x.2.1).map Value.ref := by
      have hl : acc.toList.length = ks.length := by rw [Array.length_toList, it.1]; exact l1
      apply List.ext_getElem?
      intro j
      rw [List.map_map, List.getElem?_map]
      cases hj : acc.toList[j]? with
      | none =>
        have h1 := List.getElem?_eq_none_iff.mp hj
        rw [List.getElem?_eq_none (by omega)]
        rfl
      | some v =>
        obtain ⟨en, hen, hv⟩ := it.2 j v (by rw [← Array.getElem?_toList]; exact hj)
        obtain ⟨x, p, hx, _, e1, _⟩ := ent j en hen
        rw [hx, hv, e1]
        rfl
    rw [ea] at perm
    obtain ⟨bs', eb, pb⟩ : ∃ bs' : List Addr, out = bs'.map Value.ref ∧ bs'.Perm (ks.map fun x => x.2.1) := by
      refine ⟨out.map fun v => match v with | .ref b => b | _ => 0, ?_, ?_⟩
      · rw [List.map_map]
        have : ∀ v ∈ out, (Value.ref ∘ fun v => match v with | .ref b => b | _ => 0) v = v := fun v hv => by
          obtain ⟨b, _, e⟩ := List.mem_map.mp (perm.mem_iff.mp hv)
          rw [← e]
          rfl
        rw [List.map_congr_left this, List.map_id']
      · have := perm.map fun v => match v with | .ref b => b | _ => (0 : Addr)
        rw [List.map_map] at this
        have e2 : ((fun v => match v with | Value.ref b => b | _ => (0 : Addr)) ∘ Value.ref) = id := by funext b; rfl
        rw [e2, List.map_id] at this
        exact this
    have hl2 : (bs'.map V.ref).length ≤ sizeLine := by
      rw [List.length_map, pb.length_eq, List.length_map]
      omega
    refine ⟨.ref a, upd H a (.lst (bs'.map V.ref)), I.laid (t' := tk) kp ha ⟨hl2, out, m, ?_, hat⟩, rfl, q _ bs' a (I.hok.fresh ha) (isKeys_of pr) pb⟩
    rw [eb]
    exact vals_refs _
end K64
set_option autoImplicit true
set_option Elab.async false
set_option linter.all false
set_option maxRecDepth 100000
set_option maxHeartbeats 4000000
/-! K64: the statements of the top by their places, defs that may be called, texts, tables in the heap. -/
namespace K64
open PySem PySem.Spec PyProof.Rows L2
def topS (i : Nat) : Stmt := PySem.Challenge.pw_nearreach_k64_whole_alike_or_parted.main.body.getD i (.Pass ⟨0, 0, 0, 0⟩)
abbrev s_is_number : Stmt := topS 5
theorem sc_is_number : FnScope ["thing"] ["thing"] (defScope s_is_number) := ⟨rfl, rfl, rfl, by decide +kernel, rfl, by decide +kernel, by decide +kernel⟩
abbrev s_is_numbers : Stmt := topS 6
theorem sc_is_numbers : FnScope ["thing", "one"] ["thing"] (defScope s_is_numbers) := ⟨rfl, rfl, rfl, by decide +kernel, rfl, by decide +kernel, by decide +kernel⟩
abbrev s_asked_alike : Stmt := topS 8
theorem sc_asked_alike : FnScope ["one", "other"] ["one", "other"] (defScope s_asked_alike) := ⟨rfl, rfl, rfl, by decide +kernel, rfl, by decide +kernel, by decide +kernel⟩
abbrev s_together : Stmt := topS 9
theorem sc_together : FnScope ["one", "other", "words", "met", "at", "first", "second", "k", "sign", "there"] ["one", "other"] (defScope s_together) := ⟨rfl, rfl, rfl, by decide +kernel, rfl, by decide +kernel, by decide +kernel⟩
abbrev s_first_parted : Stmt := topS 10
theorem sc_first_parted : FnScope ["one", "other", "marks", "others", "pair", "word"] ["one", "other", "marks", "others"] (defScope s_first_parted) := ⟨rfl, rfl, rfl, by decide +kernel, rfl, by decide +kernel, by decide +kernel⟩
abbrev s_parted : Stmt := topS 11
theorem sc_parted : FnScope ["one", "other"] ["one", "other"] (defScope s_parted) := ⟨rfl, rfl, rfl, by decide +kernel, rfl, by decide +kernel, by decide +kernel⟩
abbrev s_pairs : Stmt := topS 12
theorem sc_pairs : FnScope ["one", "other"] ["one", "other"] (defScope s_pairs) := ⟨rfl, rfl, rfl, by decide +kernel, rfl, by decide +kernel, by decide +kernel⟩
abbrev s_is_pair : Stmt := topS 13
theorem sc_is_pair : FnScope ["one", "other", "thing"] ["one", "other", "thing"] (defScope s_is_pair) := ⟨rfl, rfl, rfl, by decide +kernel, rfl, by decide +kernel, by decide +kernel⟩
abbrev s_pairs_hold : Stmt := topS 14
theorem sc_pairs_hold : FnScope ["one", "other", "rows", "pair", "known", "first", "second", "there"] ["one", "other", "rows"] (defScope s_pairs_hold) := ⟨rfl, rfl, rfl, by decide +kernel, rfl, by decide +kernel, by decide +kernel⟩
abbrev s_is_text : Stmt := topS 16
theorem sc_is_text : FnScope ["tongue", "thing", "sign"] ["tongue", "thing"] (defScope s_is_text) := ⟨rfl, rfl, rfl, by decide +kernel, rfl, by decide +kernel, by decide +kernel⟩
abbrev s_ahead : Stmt := topS 17
theorem sc_ahead : FnScope ["tongue", "one", "other", "first", "second"] ["tongue", "one", "other"] (defScope s_ahead) := ⟨rfl, rfl, rfl, by decide +kernel, rfl, by decide +kernel, by decide +kernel⟩
abbrev s_longest : Stmt := topS 19
theorem sc_longest : FnScope ["table", "text", "at", "tongue", "goes", "kinds", "room", "found", "place"] ["table", "text", "at"] (defScope s_longest) := ⟨rfl, rfl, rfl, by decide +kernel, rfl, by decide +kernel, by decide +kernel⟩
abbrev s_cut : Stmt := topS 20
theorem sc_cut : FnScope ["table", "text", "pieces", "place", "found"] ["table", "text"] (defScope s_cut) := ⟨rfl, rfl, rfl, by decide +kernel, rfl, by decide +kernel, by decide +kernel⟩
abbrev s_numbered : Stmt := topS 22
theorem sc_numbered : FnScope ["keys", "numbers", "told", "key"] ["keys"] (defScope s_numbered) := ⟨rfl, rfl, rfl, by decide +kernel, rfl, by decide +kernel, by decide +kernel⟩
abbrev s_finer : Stmt := topS 23
theorem sc_finer : FnScope ["goes", "marks", "keys", "room", "row", "to"] ["goes", "marks"] (defScope s_finer) := ⟨rfl, rfl, rfl, by decide +kernel, rfl, by decide +kernel, by decide +kernel⟩
abbrev s_classes_of : Stmt := topS 24
theorem sc_classes_of : FnScope ["goes", "kinds", "most", "marks", "many"] ["goes", "kinds", "most"] (defScope s_classes_of) := ⟨rfl, rfl, rfl, by decide +kernel, rfl, by decide +kernel, by decide +kernel⟩
abbrev s_joined : Stmt := topS 25
theorem sc_joined : FnScope ["tongue", "goes", "kinds", "marks", "firsts", "room", "mark", "rows", "to"] ["tongue", "goes", "kinds", "marks"] (defScope s_joined) := ⟨rfl, rfl, rfl, by decide +kernel, rfl, by decide +kernel, by decide +kernel⟩
abbrev s_in_order : Stmt := topS 27
theorem sc_in_order : FnScope ["goes", "rooms", "found", "at", "room"] ["goes"] (defScope s_in_order) := ⟨rfl, rfl, rfl, by decide +kernel, rfl, by decide +kernel, by decide +kernel⟩
abbrev s_put_in_order : Stmt := topS 29
theorem sc_put_in_order : FnScope ["table", "rooms", "room", "places", "place", "goes", "to"] ["table"] (defScope s_put_in_order) := ⟨rfl, rfl, rfl, by decide +kernel, rfl, by decide +kernel, by decide +kernel⟩
abbrev s_least_of : Stmt := topS 30
theorem sc_least_of : FnScope ["table", "goes", "kinds"] ["table"] (defScope s_least_of) := ⟨rfl, rfl, rfl, by decide +kernel, rfl, by decide +kernel, by decide +kernel⟩
abbrev s_folding : Stmt := topS 32
theorem sc_folding : FnScope ["table", "goes", "kinds", "marks", "room", "told", "mark"] ["table"] (defScope s_folding) := ⟨rfl, rfl, rfl, by decide +kernel, rfl, by decide +kernel, by decide +kernel⟩
abbrev s_l_pen : Stmt := topS 34
theorem sc_l_pen : FnScope ["_law_script"] ["_law_script"] (defScope s_l_pen) := ⟨rfl, rfl, rfl, by decide +kernel, rfl, by decide +kernel, by decide +kernel⟩
abbrev s_l_take : Stmt := topS 35
theorem sc_l_take : FnScope ["_law_pen_here", "_law_many", "_law_found", "_law_at", "_law_cell", "_law_great", "_law_number"] ["_law_pen_here", "_law_many"] (defScope s_l_take) := ⟨rfl, rfl, rfl, by decide +kernel, rfl, by decide +kernel, by decide +kernel⟩
abbrev s_l_signs : Stmt := topS 36
theorem sc_l_signs : FnScope ["_law_some_here"] [] (defScope s_l_signs) := ⟨rfl, rfl, rfl, by decide +kernel, rfl, by decide +kernel, by decide +kernel⟩
abbrev s_l_some : Stmt := topS 37
theorem sc_l_some : FnScope ["_law_pen_here", "_law_rest", "_law_most", "_law_found", "_law_k", "_law_at"] ["_law_pen_here", "_law_rest", "_law_most"] (defScope s_l_some) := ⟨rfl, rfl, rfl, by decide +kernel, rfl, by decide +kernel, by decide +kernel⟩
abbrev s_l_cut_down : Stmt := topS 38
theorem sc_l_cut_down : FnScope ["_law_tongue", "_law_goes", "_law_kinds", "_law_turn", "_law_met", "_law_at", "_law_there", "_law_rows", "_law_room"] ["_law_tongue", "_law_goes", "_law_kinds", "_law_turn"] (defScope s_l_cut_down) := ⟨rfl, rfl, rfl, by decide +kernel, rfl, by decide +kernel, by decide +kernel⟩
abbrev s_l_table : Stmt := topS 39
theorem sc_l_table : FnScope ["_law_pen_here", "_law_tongue", "_law_most", "_law_many", "_law_road", "_law_often", "_law_goes", "_law_kinds", "_law_room", "_law_row", "_law_kind_here", "_law_sign"] ["_law_pen_here", "_law_tongue", "_law_most"] (defScope s_l_table) := ⟨rfl, rfl, rfl, by decide +kernel, rfl, by decide +kernel, by decide +kernel⟩
abbrev s_l_doubled : Stmt := topS 40
theorem sc_l_doubled : FnScope ["_law_pen_here", "_law_table_here", "_law_many", "_law_goes", "_law_at", "_law_there"] ["_law_pen_here", "_law_table_here"] (defScope s_l_doubled) := ⟨rfl, rfl, rfl, by decide +kernel, rfl, by decide +kernel, by decide +kernel⟩
abbrev s_l_bent : Stmt := topS 41
theorem sc_l_bent : FnScope ["_law_pen_here", "_law_table_here", "_law_goes", "_law_kinds", "_law_at", "_law_row"] ["_law_pen_here", "_law_table_here"] (defScope s_l_bent) := ⟨rfl, rfl, rfl, by decide +kernel, rfl, by decide +kernel, by decide +kernel⟩
abbrev s_l_two : Stmt := topS 42
theorem sc_l_two : FnScope ["_law_pen_here", "_law_road", "_law_tongue", "_law_most", "_law_one", "_law_other"] ["_law_pen_here"] (defScope s_l_two) := ⟨rfl, rfl, rfl, by decide +kernel, rfl, by decide +kernel, by decide +kernel⟩
abbrev s_l_text : Stmt := topS 43
theorem sc_l_text : FnScope ["_law_pen_here", "_law_tongue", "_law_size", "_law_k"] ["_law_pen_here", "_law_tongue"] (defScope s_l_text) := ⟨rfl, rfl, rfl, by decide +kernel, rfl, by decide +kernel, by decide +kernel⟩
abbrev s_l_kind : Stmt := topS 44
theorem sc_l_kind : FnScope ["_law_table_here", "_law_word", "_law_room", "_law_sign"] ["_law_table_here", "_law_word"] (defScope s_l_kind) := ⟨rfl, rfl, rfl, by decide +kernel, rfl, by decide +kernel, by decide +kernel⟩
abbrev s_l_alike : Stmt := topS 45
theorem sc_l_alike : FnScope ["_law_one", "_law_other", "_law_texts", "_law_rows", "_law_folded", "_law_text_here", "_law_room", "_law_first", "_law_second"] ["_law_one", "_law_other", "_law_texts"] (defScope s_l_alike) := ⟨rfl, rfl, rfl, by decide +kernel, rfl, by decide +kernel, by decide +kernel⟩
abbrev s_l_apart : Stmt := topS 46
theorem sc_l_apart : FnScope ["_law_one", "_law_other", "_law_word", "_law_texts", "_law_rows", "_law_text_here", "_law_room", "_law_k"] ["_law_one", "_law_other", "_law_word", "_law_texts"] (defScope s_l_apart) := ⟨rfl, rfl, rfl, by decide +kernel, rfl, by decide +kernel, by decide +kernel⟩
abbrev s_law : Stmt := topS 47
theorem sc_law : FnScope ["_law_script", "_law_pen_here", "_law_one", "_law_other", "_law_texts", "_law_word", "_law_k"] ["_law_script"] (defScope s_law) := ⟨rfl, rfl, rfl, by decide +kernel, rfl, by decide +kernel, by decide +kernel⟩
/-! ### defs by their names -/
/-- the def x of the top -/
structure At (K : PySem.W.Frag) (mg : Str → Option Value) (x : Str) (st : Stmt) (ps : List Str) : Prop where
  ex : ∃ (f : Addr) (fd : FuncData), Fun K x x st f fd ∧ mg x = some (.ref f) ∧ Binds K fd ps []
/-- a def that may be called by its name, at most k deep, with the promise sp -/
structure Df (P : Program) (w : World) (K : PySem.W.Frag) (mg : Str → Option Value) (base : Heap) (k : Nat) (x : Str) (sp : Sp) : Prop where
  ex : ∃ (f : Addr) (fd : FuncData) (ps : List Str), FnOk P w K mg base CX0 k f fd ps sp ∧ mg x = some (.ref f) ∧ PySem.W.keepIn K (.ref f) = true ∧ Binds K fd ps []
section
variable {P : Program} {w : World} {K : PySem.W.Frag} {mg : Str → Option Value} {base : Heap}
theorem At.df {x : Str} {st : Stmt} {N ps : List Str} {k : Nat} {sp : Sp} (F : At K mg x st ps) (S : FnScope N ps (defScope st)) (len : ∀ vs H Q E, sp vs H Q E → vs.length = ps.length)
    (hbody : ∀ (f : Addr) (cdv : Value) (A : Around) (outer : List Env) (s : Shared) (H : Hp) (vs : List V) (Q : VK) (E : XK), Room k (A.deeper (envOfC x (defScope st) s.heap.objs.size f cdv)) → sp vs H Q E →
      ∃ t, PSs (cxOf CX0 P w K mg base N x (defScope st) f cdv A outer s H E).nox (defBody st) t ∧ t { nx := fun _ H' => Q .non H', rt := Q } (start N vs) H) : Df P w K mg base (k + 1) x sp := by
  obtain ⟨f, fd, F, m, b⟩ := F.ex
  exact ⟨f, fd, ps, F.ok S len (hbody f), m, F.kp, b⟩
end
section
variable {X : Cx} {k j : Nat} {x : Str} {sp : Sp} {p pos : Pos} {e : Expr} {es : List Expr} {t : TA}
theorem pe_d (c : Df X.prog X.w X.K X.mg X.base k x sp) (hr : Room j X.A) (hk : k ≤ j) (hg : Gl X x) (ha : PA X (e :: es) t)
    (hdb : (x == ("__debug__" : Str)) = false := by decide) (he : starEach (e :: es) X.env = (false, eval e X.env) :: starEach es X.env := by rfl) (hpl : (backTo pos (starEach es X.env)).any (·.1) = false := by rfl) :
    PE X (.Call (.Name x p) (e :: es) [] pos) (tCall sp [] E0 t) := by
  obtain ⟨f, fd, ps, F, hm, kp, b⟩ := c.ex
  exact pe_call F (hr.mono hk) hg hm kp b .nil pass0 ha hdb he hpl
theorem pe_d0 (c : Df X.prog X.w X.K X.mg X.base k x sp) (hr : Room j X.A) (hk : k ≤ j) (hg : Gl X x) (hdb : (x == ("__debug__" : Str)) = false := by decide) : PE X (.Call (.Name x p) [] [] pos) (tCall sp [] E0 tNil) := by
  obtain ⟨f, fd, ps, F, hm, kp, b⟩ := c.ex
  exact pe_call0 F (hr.mono hk) hg hm kp b .nil pass0 hdb
end
/-- the built-ins are still the built-ins -/
structure Gb (mg : Str → Option Value) : Prop where
  isinstance : mg "isinstance" = none
  len : mg "len" = none
  enumerate : mg "enumerate" = none
  sorted : mg "sorted" = none
  tuple : mg "tuple" = none
  all : mg "all" = none
  zip : mg "zip" = none
  range : mg "range" = none
  max : mg "max" = none
  list : mg "list" = none
  min : mg "min" = none
  abs : mg "abs" = none
  int : mg "int" = none
  bool : mg "bool" = none
  str : mg "str" = none
theorem b_bool : bootBuiltins "bool" = some (.type "bool") := by decide +kernel
theorem b_str : bootBuiltins "str" = some (.type "str") := by decide +kernel
theorem b_list : bootBuiltins "list" = some (.type "list") := by decide +kernel
theorem b_tuple : bootBuiltins "tuple" = some (.type "tuple") := by decide +kernel
theorem b_int : bootBuiltins "int" = some (.type "int") := by decide +kernel
theorem b_abs : bootBuiltins "abs" = some (.builtin "abs") := by decide +kernel
theorem b_isinstance : bootBuiltins "isinstance" = some (.builtin "isinstance") := by decide +kernel
theorem b_max : bootBuiltins "max" = some (.builtin "max") := by decide +kernel
theorem b_min : bootBuiltins "min" = some (.builtin "min") := by decide +kernel
theorem b_all : bootBuiltins "all" = some (.builtin "all") := by decide +kernel
theorem b_sorted : bootBuiltins "sorted" = some (.builtin "sorted") := by decide +kernel
theorem b_len : bootBuiltins "len" = some (.builtin "len") := by decide +kernel

/-! ### numbers, heaps -/
abbrev nV (n : Nat) : V := .int (n : Int)
/-- the tuples stay -/
def Tups (H H' : Hp) : Prop := ∀ b xs, H b = some (.tup xs) → H' b = some (.tup xs)
theorem Tups.refl (H : Hp) : Tups H H := fun _ _ h => h
theorem Tups.trans {H H1 H2 : Hp} (a : Tups H H1) (b : Tups H1 H2) : Tups H H2 := fun c o h => b c o (a c o h)
theorem same_tups {H H' : Hp} (s : Same H H') : Tups H H' := fun b xs h => s b _ h
theorem same_upd {H : Hp} {p : Addr} {o : HO} (h : H p = none) : Same H (upd H p o) := fun b x e => by
  rw [upd_ne (ne_of_none e h)]
  exact e
/-- all but the object at p stays -/
def But (p : Addr) (H H' : Hp) : Prop := ∀ b o, b ≠ p → H b = some o → H' b = some o
theorem But.refl (p : Addr) (H : Hp) : But p H H := fun _ _ _ h => h
theorem But.trans {p : Addr} {H H1 H2 : Hp} (a : But p H H1) (b : But p H1 H2) : But p H H2 := fun c o n h => b c o n (a c o n h)
theorem But.of {p : Addr} {H H' : Hp} (s : Same H H') : But p H H' := fun b o _ h => s b o h
theorem But.upd {p : Addr} {H : Hp} {o : HO} : But p H (upd H p o) := fun b x n h => by
  rw [upd_ne n]
  exact h
theorem But.tups {p : Addr} {H H' : Hp} (b : But p H H') (hp : ∀ xs, H p ≠ some (.tup xs)) : Tups H H' := fun c xs h => b c _ (fun e => by rw [e] at h; exact hp xs h) h
theorem tups_upd {H : Hp} {p : Addr} {o : HO} (h : H p = none) : Tups H (upd H p o) := same_tups (same_upd h)
theorem tups_put {H : Hp} {p : Addr} {o : HO} (h : ∀ xs, H p ≠ some (.tup xs)) : Tups H (upd H p o) := fun b xs e => by
  rw [upd_ne (fun z => by rw [z] at e; exact h xs e)]
  exact e
theorem sizeLine_big {n : Nat} (h : n ≤ 16000000) : n < sizeLine := Nat.lt_of_le_of_lt h (by rw [sizeLine_eq]; decide)

/-! ### texts of a tongue -/
/-- the word of sign numbers as a text -/
def tx (T : Str) (w : List Nat) : Str := ⟨(w.map fun i => T.cps.toList.getD i 0).toArray⟩
/-- a tongue of m unlike signs -/
structure Tg (T : Str) (m : Nat) : Prop where
  nodup : T.cps.toList.Nodup
  size : T.cps.size = m
  pos : 1 ≤ m
  most : m ≤ 6
  ascii : ∀ c ∈ T.cps.toList, c < 128
theorem tx_nil (T : Str) : tx T [] = Str.empty := rfl
theorem tx_list (T : Str) (w : List Nat) : (tx T w).cps.toList = w.map fun i => T.cps.toList.getD i 0 := rfl
theorem tx_append (T : Str) (u v : List Nat) : tx T u ++ tx T v = tx T (u ++ v) := by
  refine TL.ext_tl ?_
  rw [TL.tl_append]
  show (tx T u).cps.toList ++ (tx T v).cps.toList = (tx T (u ++ v)).cps.toList
  rw [tx_list, tx_list, tx_list, List.map_append]
theorem tx_length (T : Str) (w : List Nat) : (tx T w).length = w.length := by
  show (tx T w).cps.size = _
  unfold tx
  rw [List.size_toArray, List.length_map]
theorem tx_size (T : Str) (w : List Nat) : (tx T w).cps.size = w.length := tx_length T w
theorem tx_one (T : Str) (i : Nat) : tx T [i] = ⟨#[T.cps.toList.getD i 0]⟩ := rfl
theorem tx_get {T : Str} {w : List Nat} {j i : Nat} (h : w[j]? = some i) : (tx T w).cps.toList[j]? = some (T.cps.toList.getD i 0) := by
  rw [tx_list, List.getElem?_map, h]
  rfl
theorem tx_getA {T : Str} {w : List Nat} {j c : Nat} (h : (tx T w).cps[j]? = some c) : ∃ i, w[j]? = some i ∧ c = T.cps.toList.getD i 0 := by
  rw [← Array.getElem?_toList, tx_list, List.getElem?_map] at h
  obtain ⟨i, h1, h2⟩ := Option.map_eq_some_iff.mp h
  exact ⟨i, h1, h2.symm⟩
section
variable {T : Str} {m : Nat}
theorem Tg.sign (G : Tg T m) {i : Nat} (h : i < m) : T.cps.toList[i]? = some (T.cps.toList.getD i 0) := by
  have hl : i < T.cps.toList.length := by rw [Array.length_toList, G.size]; exact h
  rw [List.getElem?_eq_getElem hl, List.getD_eq_getElem?_getD, List.getElem?_eq_getElem hl]
  rfl
theorem Tg.signA (G : Tg T m) {i c : Nat} (h : T.cps[i]? = some c) : i < m ∧ c = T.cps.toList.getD i 0 := by
  obtain ⟨h1, h2⟩ := Array.getElem?_eq_some_iff.mp h
  have hi : i < m := by rw [← G.size]; exact h1
  refine ⟨hi, ?_⟩
  have := G.sign hi
  rw [Array.getElem?_toList, h] at this
  exact Option.some.inj this
theorem Tg.inj (G : Tg T m) {i j : Nat} (hi : i < m) (hj : j < m) (e : T.cps.toList.getD i 0 = T.cps.toList.getD j 0) : i = j := by
  obtain ⟨l1, e1⟩ := List.getElem?_eq_some_iff.mp (G.sign hi)
  obtain ⟨l2, e2⟩ := List.getElem?_eq_some_iff.mp (G.sign hj)
  have n := List.pairwise_iff_getElem.mp G.nodup
  rcases Nat.lt_trichotomy i j with z | z | z
  · exact absurd (e1.trans (e.trans e2.symm)) (n i j l1 l2 z)
  · exact z
  · exact absurd (e2.trans (e.symm.trans e1.symm)) (n j i l2 l1 z)
theorem Tg.tx_inj (G : Tg T m) : ∀ {u v : List Nat}, Ok m u → Ok m v → tx T u = tx T v → u = v := by
  intro u v hu hv h
  have h1 : (tx T u).cps.toList = (tx T v).cps.toList := by rw [h]
  rw [tx_list, tx_list] at h1
  clear h
  induction u generalizing v with
  | nil =>
    cases v with
    | nil => rfl
    | cons b v => simp at h1
  | cons a u ih =>
    cases v with
    | nil => simp at h1
    | cons b v =>
      rw [List.map_cons, List.map_cons, List.cons.injEq] at h1
      rw [G.inj hu.head hv.head h1.1, ih hu.tail hv.tail h1.2]
/-- the sign's place is found -/
theorem Tg.find (G : Tg T m) {i : Nat} (hi : i < m) : PySem.Txt.find T (tx T [i]) = (i : Int) := by
  have key : ∀ k, PySem.StrLaws.At T (tx T [i]) T.length k ↔ T.cps.toList[k]? = some (T.cps.toList.getD i 0) := fun k => by
    rw [TL.at_iff (by intro z; cases z)]
    show ((TL.tl T).drop k).take 1 == [T.cps.toList.getD i 0] ↔ _
    constructor
    · intro z
      have z : ((TL.tl T).drop k).take 1 = [T.cps.toList.getD i 0] := eq_of_beq z
      have := congrArg (fun l => l[0]?) z
      simpa [List.getElem?_take, List.getElem?_drop] using this
    · intro z
      have e : (T.cps.toList.drop k).take 1 = [T.cps.toList.getD i 0] := by
        obtain ⟨l, e⟩ := List.getElem?_eq_some_iff.mp z
        rw [List.drop_eq_getElem_cons l, e]
        rfl
      exact beq_iff_eq.mpr e
  have fnd := PySem.StrLaws.occ_head T (tx T [i]) 1 (Nat.le_refl 1)
  unfold PySem.Txt.find
  rcases fnd with ⟨_, hn⟩ | ⟨a, r, e, ha, _⟩
  · exact absurd ((key i).mpr (G.sign hi)) (hn i)
  · rw [e]
    have h1 := (key a).mp ha
    obtain ⟨l1, e1⟩ := List.getElem?_eq_some_iff.mp h1
    have ham : a < m := by rw [Array.length_toList, G.size] at l1; exact l1
    have h2 := G.sign ham
    rw [h1] at h2
    have := G.inj hi ham (Option.some.inj h2)
    show (a : Int) = (i : Int)
    rw [this]
theorem Tg.mem (G : Tg T m) {i : Nat} (hi : i < m) : T.cps.toList.getD i 0 ∈ T.cps.toList := List.mem_of_getElem? (G.sign hi)
end

/-! ### tables in the heap -/
structure TabAt (H : Hp) (a g k : Addr) (rs : List Addr) (T : Str) (t : Tab) : Prop where
  top : H a = some (.tup [.str T, .ref g, .ref k])
  goes : H g = some (.tup (rs.map V.ref))
  kinds : H k = some (.tup (t.kinds.map V.int))
  rows : Paired (fun r row => H r = some (.tup (row.map nV))) rs t.goes
/-- v is a table with the tongue T -/
def TabV (H : Hp) (v : V) (T : Str) (t : Tab) : Prop := ∃ a g k rs, v = .ref a ∧ TabAt H a g k rs T t
section
variable {H H' : Hp} {a g k : Addr} {rs : List Addr} {T : Str} {t : Tab} {v : V}
theorem TabAt.mono (A : TabAt H a g k rs T t) (s : Tups H H') : TabAt H' a g k rs T t := ⟨s _ _ A.top, s _ _ A.goes, s _ _ A.kinds, Paired.mapP A.rows fun _ _ h => s _ _ h⟩
theorem TabV.mono (A : TabV H v T t) (s : Tups H H') : TabV H' v T t := let ⟨a, g, k, rs, e, h⟩ := A; ⟨a, g, k, rs, e, h.mono s⟩
theorem TabAt.row (A : TabAt H a g k rs T t) {r : Nat} {row : List Nat} (h : t.goes[r]? = some row) : ∃ p, rs[r]? = some p ∧ (rs.map V.ref)[r]? = some (.ref p) ∧ H p = some (.tup (row.map nV)) := by
  have key : ∀ {rs : List Addr} {l : List (List Nat)}, Paired (fun r row => H r = some (.tup (row.map nV))) rs l → ∀ {r : Nat} {row : List Nat}, l[r]? = some row → ∃ p, rs[r]? = some p ∧ H p = some (.tup (row.map nV)) := by
    intro rs l R
    induction R with
    | nil => intro r row h; simp at h
    | @cons a b l1 l2 h1 _ ih =>
      intro r row h
      cases r with
      | zero =>
        rw [List.getElem?_cons_zero] at h
        cases h
        exact ⟨a, rfl, h1⟩
      | succ r =>
        rw [List.getElem?_cons_succ] at h ⊢
        exact ih h
  obtain ⟨p, h1, h2⟩ := key A.rows h
  exact ⟨p, h1, by rw [List.getElem?_map, h1]; rfl, h2⟩
theorem TabAt.len (A : TabAt H a g k rs T t) : (rs.map V.ref).length = t.goes.length := by rw [List.length_map, Paired.length A.rows]
theorem TabAt.kind (A : TabAt H a g k rs T t) (W : t.Wf) {r : Nat} (h : r < t.goes.length) : (t.kinds.map V.int)[r]? = some (.int (t.kind r)) := by
  rw [List.getElem?_map, W.kind_at h]
  rfl
/-- the row at r and its item at i -/
theorem TabAt.step (A : TabAt H a g k rs T t) (W : t.Wf) {r i : Nat} (hr : r < t.goes.length) (hi : i < t.m) : ∃ p row, (rs.map V.ref)[r]? = some (.ref p) ∧ H p = some (.tup (row.map nV)) ∧ (row.map nV)[i]? = some (nV (t.step r i)) ∧ t.goes[r]? = some row := by
  obtain ⟨row, h1, h2, _⟩ := W.at_ hr hi
  obtain ⟨p, _, h3, h4⟩ := A.row h1
  exact ⟨p, row, h3, h4, by rw [List.getElem?_map, h2]; rfl, h1⟩
end
end K64
set_option autoImplicit true
set_option Elab.async false
set_option linter.all false
set_option maxRecDepth 100000
set_option maxHeartbeats 4000000
namespace K64
open PySem PySem.Spec PyProof.Rows L2
section
variable {P : Program} {w : World} {K : PySem.W.Frag} {mg : Str → Option Value} {base : Heap}
/-! ### is_number, is_numbers, asked_alike -/
def spIsNumber : Sp := fun vs H Q _ => ∃ i : Int, vs = [.int i] ∧ Q (.bl true) H
theorem d_is_number (F : At K mg "is_number" s_is_number ["thing"]) (B : Gb mg) : Df P w K mg base 1 "is_number" spIsNumber := by
  refine F.df sc_is_number (fun vs H Q E h => ?_) (fun f cdv A outer s H vs Q E hr h => ?_)
  · obtain ⟨i, rfl, _⟩ := h
    rfl
  obtain ⟨i, rfl, q⟩ := h
  refine ⟨_, pss_one (ps_ret (pe_and (pe_callB call_isi (by rfl) B.isinstance b_isinstance (pa_cons (pv 0) (pa_cons (pe_bltn (v := .ty "int") (by rfl) B.int b_int rfl) pa_nil)))
    (pe_one (pe_not (pe_callB call_isi (by rfl) B.isinstance b_isinstance (pa_cons (pv 0) (pa_cons (pe_bltn (v := .ty "bool") (by rfl) B.bool b_bool rfl) pa_nil))))))), ?_⟩
  refine ⟨_, rfl, .int i, .ty "int", _, _, true, rfl, .ty _, .base (.int i), kit_ty (by decide +kernel), true, rfl, iteT ?_⟩
  exact ⟨_, rfl, .int i, .ty "bool", _, _, false, rfl, .ty _, .base (.int i), kit_ty (by decide +kernel), false, rfl, q⟩
def spIsNumbers : Sp := fun vs H Q _ => ∃ (a : Addr) (ns : List Int), vs = [.ref a] ∧ H a = some (.tup (ns.map V.int)) ∧ Q (.bl true) H
theorem d_is_numbers (F : At K mg "is_numbers" s_is_numbers ["thing"]) (B : Gb mg) (D1 : Df P w K mg base 1 "is_number" spIsNumber) : Df P w K mg base 2 "is_numbers" spIsNumbers := by
  refine F.df sc_is_numbers (fun vs H Q E h => ?_) (fun f cdv A outer s H vs Q E hr h => ?_)
  · obtain ⟨a, ns, rfl, _⟩ := h
    rfl
  obtain ⟨a, ns, rfl, ha, q⟩ := h
  refine ⟨_, pss_cons (ps_if (pt_not (pt_val (pe_callB call_isi (by rfl) B.isinstance b_isinstance (pa_cons (pv 0) (pa_cons (pe_bltn (v := .ty "tuple") (by rfl) B.tuple b_tuple rfl) pa_nil))))) pss_never pss_nil)
    (pss_cons (ps_for PassesOwn.never rfl (pi_tup (pv 0)) (pg_name (i := 1) sc_is_numbers.nd rfl (.inl rfl))
      (pss_one (ps_if (pt_not (pt_val (pe_d D1 hr (by decide) (by rfl) (pa_cons (pv 1) pa_nil)))) pss_never pss_nil)))
    (pss_one (ps_ret pe_bl))), ?_⟩
  refine ⟨_, rfl, .ref a, .ty "tuple", _, _, true, rfl, .ty _, .base (.tup ha), kit_ty (by decide +kernel), true, rfl, iteF ?_⟩
  refine ⟨_, rfl, a, rfl, ⟨_, SqT.of ha⟩, for_tup (xs := ns.map V.int) (fun i σ H' => H' = H ∧ ∃ y, σ = [some (.ref a), y]) ⟨rfl, _, rfl⟩ (fun i σ H' _ ⟨e, _⟩ => by rw [e]; exact SqT.of ha) (fun i x σ H' hx ⟨e, y, es⟩ => ?_) (fun σ H' ⟨e, _⟩ => ?_)⟩
  · subst e es
    rw [List.getElem?_map] at hx
    obtain ⟨n, _, rfl⟩ := Option.map_eq_some_iff.mp hx
    exact ⟨_, rfl, n, rfl, true, rfl, iteF ⟨rfl, _, rfl⟩⟩
  · subst e
    exact q
def spAsked : Sp := fun vs H Q _ => ∃ (v u : V) (T : Str) (t t' : Tab), vs = [v, u] ∧ TabV H v T t ∧ TabV H u T t' ∧ Q .non H
theorem d_asked_alike (F : At K mg "asked_alike" s_asked_alike ["one", "other"]) : Df P w K mg base 1 "asked_alike" spAsked := by
  refine F.df sc_asked_alike (fun vs H Q E h => ?_) (fun f cdv A outer s H vs Q E hr h => ?_)
  · obtain ⟨v, u, T, t, t', rfl, _⟩ := h
    rfl
  obtain ⟨v, u, T, t, t', rfl, ⟨a, g, k, rs, rfl, ha⟩, ⟨a', g', k', rs', rfl, ha'⟩, q⟩ := h
  refine ⟨_, pss_one (ps_if (pt_cmpR op_ne (pe_ix ix_tup (pv 0) pe_int (fun _ _ => rfl)) (pe_ix ix_tup (pv 1) pe_int (fun _ _ => rfl)) (nomark _)) pss_never pss_nil), ?_⟩
  refine ⟨_, rfl, a, _, _, _, rfl, rfl, SqT.of ha.top, atI_nat (j := 0) rfl, _, rfl, a', _, _, _, rfl, rfl, SqT.of ha'.top, atI_nat (j := 0) rfl, rfl, _, rfl, ?_⟩
  rw [decide_eq_true rfl]
  exact iteF q
end
end K64
set_option autoImplicit true
set_option Elab.async false
set_option linter.all false
set_option maxRecDepth 100000
set_option maxHeartbeats 4000000
namespace K64
open PySem PySem.Spec PyProof.Rows L2
/-! ### tables of pairs as dicts -/
theorem valV_no {κ α : Type} [DecidableEq κ] (key : α → κ) (val : α → V) {k : κ} : ∀ {L : List α}, (∀ p ∈ L, key p ≠ k) → valV (L.map fun p => (key p, val p)) k = none
  | [], _ => rfl
  | p :: L, h => by
    rw [List.map_cons, valV_neg (h p (by simp))]
    exact valV_no key val fun q hq => h q (List.mem_cons_of_mem _ hq)
theorem valV_at {κ α : Type} [DecidableEq κ] (key : α → κ) (val : α → V) : ∀ {L : List α} {j : Nat} {p : α}, L[j]? = some p → (∀ (i : Nat) q, i < j → L[i]? = some q → key q ≠ key p) → valV (L.map fun p => (key p, val p)) (key p) = some (val p)
  | [], _, _, h, _ => by simp at h
  | q :: L, 0, p, h, _ => by
    rw [List.getElem?_cons_zero] at h
    cases h
    rw [List.map_cons]
    exact valV_pos (p := (key q, val q)) rfl
  | q :: L, j + 1, p, h, hn => by
    rw [List.getElem?_cons_succ] at h
    rw [List.map_cons, valV_neg (hn 0 q (by omega) rfl)]
    exact valV_at key val h fun i r hi hr => hn (i + 1) r (by omega) (by rw [List.getElem?_cons_succ]; exact hr)
/-- a pair of rooms as a key -/
def keyP (p : Nat × Nat) : List Key := [.inl (p.1 : Int), .inl (p.2 : Int)]
theorem keyP_inj {p q : Nat × Nat} (h : keyP p = keyP q) : p = q := by
  unfold keyP at h
  simp only [List.cons.injEq, Sum.inl.injEq, and_true] at h
  exact Prod.ext (by omega) (by omega)
/-- the dict of together -/
def kvsOf (T : Str) (L : List ((Nat × Nat) × List Nat)) : List (List Key × V) := L.map fun p => (keyP p.1, V.str (tx T p.2))
theorem kvs_none {T : Str} {L : List ((Nat × Nat) × List Nat)} {q : Nat × Nat} (h : q ∉ L.map (·.1)) : valV (kvsOf T L) (keyP q) = none :=
  valV_no (fun p : (Nat × Nat) × List Nat => keyP p.1) (fun p => V.str (tx T p.2)) fun p hp e => h (List.mem_map.mpr ⟨p, hp, keyP_inj e⟩)
theorem kvs_some {T : Str} {L : List ((Nat × Nat) × List Nat)} (hn : (L.map (·.1)).Nodup) {j : Nat} {p : (Nat × Nat) × List Nat} (h : L[j]? = some p) : valV (kvsOf T L) (keyP p.1) = some (.str (tx T p.2)) :=
  valV_at (fun p : (Nat × Nat) × List Nat => keyP p.1) (fun p => V.str (tx T p.2)) h fun i q hi hq e => by
    have e := keyP_inj e
    have a : (L.map (·.1))[i]? = some q.1 := by rw [List.getElem?_map, hq]; rfl
    have b : (L.map (·.1))[j]? = some p.1 := by rw [List.getElem?_map, h]; rfl
    obtain ⟨a1, a2⟩ := List.getElem?_eq_some_iff.mp a
    obtain ⟨b1, b2⟩ := List.getElem?_eq_some_iff.mp b
    exact List.pairwise_iff_getElem.mp hn i j a1 b1 hi (a2.trans (e.trans b2.symm))
theorem kvs_snoc {T : Str} {L : List ((Nat × Nat) × List Nat)} {q : (Nat × Nat) × List Nat} (h : q.1 ∉ L.map (·.1)) : putK (kvsOf T L) (keyP q.1) (.str (tx T q.2)) = kvsOf T (L ++ [q]) := by
  rw [putK_new _ (kvs_none h)]
  unfold kvsOf
  rw [List.map_append]
  rfl
/-- pairs of rooms, each in its tuple -/
def PairsAt (H : Hp) (bs : List Addr) (ps : List (Nat × Nat)) : Prop := Paired (fun (b : Addr) (p : Nat × Nat) => H b = some (.tup [nV p.1, nV p.2])) bs ps
theorem PairsAt.mono {H H' : Hp} {bs : List Addr} {ps : List (Nat × Nat)} (h : PairsAt H bs ps) (s : Tups H H') : PairsAt H' bs ps := Paired.mapP h fun _ _ e => s _ _ e
theorem PairsAt.get {H : Hp} {bs : List Addr} {ps : List (Nat × Nat)} (h : PairsAt H bs ps) {i : Nat} {p : Nat × Nat} (hi : ps[i]? = some p) : ∃ b, bs[i]? = some b ∧ H b = some (.tup [nV p.1, nV p.2]) := by
  unfold PairsAt at h
  induction h generalizing i with
  | nil => simp at hi
  | @cons a q l1 l2 h1 _ ih =>
    cases i with
    | zero =>
      rw [List.getElem?_cons_zero] at hi
      cases hi
      exact ⟨a, rfl, h1⟩
    | succ i =>
      rw [List.getElem?_cons_succ] at hi ⊢
      exact ih hi
theorem PairsAt.snoc {H : Hp} {bs : List Addr} {ps : List (Nat × Nat)} (h : PairsAt H bs ps) {b : Addr} {p : Nat × Nat} (hb : H b = some (.tup [nV p.1, nV p.2])) : PairsAt H (bs ++ [b]) (ps ++ [p]) := Paired.snoc h hb
theorem PairsAt.length {H : Hp} {bs : List Addr} {ps : List (Nat × Nat)} (h : PairsAt H bs ps) : bs.length = ps.length := Paired.length h
/-- together in its course -/
structure TogInv (H0 : Hp) (T : Str) (t t' : Tab) (d l : Addr) (L : List ((Nat × Nat) × List Nat)) (at' i : Nat) (H : Hp) : Prop where
  same : Same H0 H
  d0 : H0 d = none
  l0 : H0 l = none
  hd : H d = some (.dT (kvsOf T L))
  hl : ∃ bs, H l = some (.lst (bs.map V.ref)) ∧ PairsAt H bs (L.map (·.1))
  bfs : Bfs (step2 t t') t.m (0, 0) L at' i
theorem TogInv.tup {H0 H : Hp} {T : Str} {t t' : Tab} {d l : Addr} {L : List ((Nat × Nat) × List Nat)} {at' i : Nat} (I : TogInv H0 T t t' d l L at' i H) {p : Addr} {xs : List V} (hp : H p = none) : TogInv H0 T t t' d l L at' i (upd H p (.tup xs)) where
  same := I.same.trans (same_upd hp)
  d0 := I.d0
  l0 := I.l0
  hd := by rw [upd_ne (ne_of_none I.hd hp)]; exact I.hd
  hl := by
    obtain ⟨bs, h1, h2⟩ := I.hl
    exact ⟨bs, by rw [upd_ne (ne_of_none h1 hp)]; exact h1, h2.mono (tups_upd hp)⟩
  bfs := I.bfs
theorem TogInv.at_ {H0 H : Hp} {T : Str} {t t' : Tab} {d l : Addr} {L : List ((Nat × Nat) × List Nat)} {at' i : Nat} (I : TogInv H0 T t t' d l L at' i H) {a j : Nat} (B : Bfs (step2 t t') t.m (0, 0) L a j) : TogInv H0 T t t' d l L a j H := ⟨I.same, I.d0, I.l0, I.hd, I.hl, B⟩
section
variable {P : Program} {w : World} {K : PySem.W.Frag} {mg : Str → Option Value} {base : Heap}
def spTogether : Sp := fun vs H Q _ => ∃ (v u : V) (T : Str) (t t' : Tab), vs = [v, u] ∧ TabV H v T t ∧ TabV H u T t' ∧ t.Wf ∧ t'.Wf ∧ t.m = t'.m ∧ Tg T t.m ∧
  ∀ (H' : Hp) (d : Addr) (L : List ((Nat × Nat) × List Nat)), Same H H' → H d = none → H' d = some (.dT (kvsOf T L)) → Reach (step2 t t') t.m (0, 0) L → Q (.ref d) H'
theorem d_together (F : At K mg "together" s_together ["one", "other"]) (B : Gb mg) : Df P w K mg base 1 "together" spTogether := by
  refine F.df sc_together (fun vs H Q E h => ?_) (fun f cdv A outer s H vs Q E hr h => ?_)
  · obtain ⟨v, u, T, t, t', rfl, _⟩ := h
    rfl
  have hu := hu_of hr
  obtain ⟨v, u, T, t, t', rfl, ⟨a, g, k, rs, rfl, ha⟩, ⟨a', g', k', rs', rfl, ha'⟩, W, W', hm, G, q⟩ := h
  have nd := sc_together.nd
  refine ⟨_, pss_cons (ps_set (i := 2) nd rfl (.inl rfl) (pe_dispT hu (pe_tup (pa_cons pe_int (pa_cons pe_int pa_nil))) pe_str))
    (pss_cons (ps_set (i := 3) nd rfl (.inl rfl) (pe_lst (pa_cons (pe_tup (pa_cons pe_int (pa_cons pe_int pa_nil))) pa_nil)))
    (pss_cons (ps_set (i := 4) nd rfl (.inl rfl) pe_int)
    (pss_cons (ps_while PassesOwn.never (pt_cmpR op_lt (pv 4) (pe_callB call_len_seq (by rfl) B.len b_len (pa_cons (pv 3) pa_nil)) (nomark _))
      (pss_cons (ps_asg (pe_ix ix_list (pv 3) (pv 4) (fun _ _ => rfl)) (pg_tup rfl (pgs_cons (pg_name (i := 5) nd rfl (.inl rfl)) (pgs_cons (pg_name (i := 6) nd rfl (.inl rfl)) pgs_nil))))
      (pss_cons (ps_for PassesOwn.never rfl (pi_enumS (by rfl) B.enumerate (pa_cons (pe_ix ix_tup (pv 0) pe_int (fun _ _ => rfl)) pa_nil)) (pg_tup rfl (pgs_cons (pg_name (i := 7) nd rfl (.inl rfl)) (pgs_cons (pg_name (i := 8) nd rfl (.inl rfl)) pgs_nil)))
        (pss_cons (ps_set (i := 9) nd rfl (.inl rfl) (pe_tup (pa_cons (pe_ix ix_tup (pe_ix ix_tup (pe_ix ix_tup (pv 0) pe_int (fun _ _ => rfl)) (pv 5) (fun _ _ => rfl)) (pv 7) (fun _ _ => rfl))
            (pa_cons (pe_ix ix_tup (pe_ix ix_tup (pe_ix ix_tup (pv 1) pe_int (fun _ _ => rfl)) (pv 6) (fun _ _ => rfl)) (pv 7) (fun _ _ => rfl)) pa_nil))))
        (pss_one (ps_if (pt_cmp (pc_dnotin hu (pv 9) (pv 2)))
          (pss_cons (ps_dput hu (pv 2) (pv 9) (pe_op op_add_str (pe_dget hu (pv 2) (pe_ix ix_list (pv 3) (pv 4) (fun _ _ => rfl)) (fun _ _ => rfl)) (pv 8)) rfl)
          (pss_one (ps_expr (pe_bm PySem.F.plainAttrs_list PySem.F.slot_list_append PySem.F.type_list_append mt_append (pv 3) (pa_cons (pv 9) pa_nil))))) pss_nil))))
      (pss_one (ps_set (i := 4) nd rfl (.inl rfl) (pe_op op_add (pv 4) pe_int))))))
    (pss_one (ps_ret (pv 2)))))), ?_⟩
  -- words = {(0, 0): ''}
  intro d nd0
  refine ⟨by show 2 ≤ sizeLine; decide, fun b nb => ?_⟩
  have ndb : d ≠ b := fun e => by
    rw [← e, upd_same] at nb
    cases nb
  refine ⟨by rw [upd_ne ndb, upd_same], [.inl 0, .inl 0], b, rfl, upd_same, ?_⟩
  -- met = [(0, 0)]
  refine ⟨by show 2 ≤ sizeLine; decide, fun c nc => ⟨by show 1 ≤ sizeLine; decide, fun l nl => ?_⟩⟩
  -- the start
  have nlc : l ≠ c := fun e => by
    rw [e, upd_same] at nl
    cases nl
  have ncd : c ≠ d := fun e => by
    rw [e, upd_same] at nc
    cases nc
  have nld : l ≠ d := fun e => by
    rw [e, upd_ne ncd.symm, upd_same] at nl
    cases nl
  have nbH : H b = none := by
    rw [upd_ne ndb.symm] at nb
    exact nb
  have ncb : c ≠ b := fun e => by
    rw [e, upd_ne ndb.symm, upd_same] at nc
    cases nc
  have ncH : H c = none := by
    rw [upd_ne ncd, upd_ne ncb, upd_ne ncd] at nc
    exact nc
  have nlb : l ≠ b := fun e => by
    rw [e, upd_ne ncb.symm, upd_ne ndb.symm, upd_same] at nl
    cases nl
  have nlH : H l = none := by
    rw [upd_ne nlc, upd_ne nld, upd_ne nlb, upd_ne nld] at nl
    exact nl
  have e0 : (Str.ofString "" : Str) = tx T [] := by
    show Str.ofString "" = Str.empty
    decide +kernel
  have I0 : TogInv H T t t' d l [((0, 0), [])] 0 0 (upd (upd (upd (upd (upd H d (.dT [])) b (.tup [.int 0, .int 0])) d (.dT [([.inl 0, .inl 0], .str (Str.ofString ""))])) c (.tup [.int 0, .int 0])) l (.lst [.ref c])) := by
    refine ⟨fun x o e => ?_, nd0, nlH, ?_, ⟨[c], upd_same, .cons ?_ .nil⟩, Bfs.init _ _ _⟩
    · rw [upd_ne (ne_of_none e nlH), upd_ne (ne_of_none e ncH), upd_ne (ne_of_none e nd0), upd_ne (ne_of_none e nbH), upd_ne (ne_of_none e nd0)]
      exact e
    · rw [upd_ne nld.symm, upd_ne ncd.symm, upd_same, e0]
      rfl
    · rw [upd_ne nlc.symm, upd_same]
      rfl
  refine ⟨fun m σ H' => ∃ L at' y5 y6 y7 y8 y9, σ = [some (.ref a), some (.ref a'), some (.ref d), some (.ref l), some (nV at'), y5, y6, y7, y8, y9] ∧ TogInv H T t t' d l L at' 0 H' ∧ m = 1025 - at', ⟨_, _, 0, none, none, none, none, none, rfl, I0, rfl⟩, fun m σ H' hW => ?_⟩
  obtain ⟨L, at', y5, y6, y7, y8, y9, rfl, I, rfl⟩ := hW
  obtain ⟨bs, hl, hbs⟩ := I.hl
  have hlen : (bs.map V.ref).length = L.length := by rw [List.length_map, hbs.length, List.length_map]
  refine ⟨_, rfl, _, rfl, l, _, rfl, .inl (SqL.of hl), _, _, rfl, rfl, _, rfl, ite2 (fun hlt => ?_) (fun hge => ?_)⟩
  · -- first, second = met[at]
    have hlt : at' < L.length := by
      have := of_decide_eq_true hlt
      omega
    obtain ⟨p, hp⟩ := get_of_lt hlt
    have hp1 : (L.map (·.1))[at']? = some p.1 := by rw [List.getElem?_map, hp]; rfl
    obtain ⟨pb, hb1, hb2⟩ := hbs.get hp1
    have hb3 : (bs.map V.ref)[at']? = some (.ref pb) := by rw [List.getElem?_map, hb1]; rfl
    have h1025 := pairs_le I.bfs W W' hm
    refine ⟨fun σ' H'' => ∃ L' y5 y6 y7 y8 y9, σ' = [some (.ref a), some (.ref a'), some (.ref d), some (.ref l), some (nV (at' + 1)), y5, y6, y7, y8, y9] ∧ TogInv H T t t' d l L' (at' + 1) 0 H'', fun σ' H'' hN => ?_, ?_⟩
    · obtain ⟨L', y5, y6, y7, y8, y9, e, I'⟩ := hN
      exact ⟨1025 - (at' + 1), by omega, L', at' + 1, y5, y6, y7, y8, y9, e, I', rfl⟩
    refine ⟨_, rfl, _, rfl, l, _, _, _, rfl, rfl, SqL.of hl, atI_nat hb3, pb, _, rfl, SqT.of hb2, rfl, _, _, rfl, _, _, rfl, rfl, ?_⟩
    have hA := ha.mono (same_tups I.same)
    obtain ⟨r1, r2, r3⟩ := I.bfs.runs at' p hp
    rw [run2] at r1
    have hr1 : p.1.1 < t.goes.length := by rw [← r1]; exact W.run_lt p.2 0 W.pos r2
    have hr2 : p.1.2 < t'.goes.length := by rw [← r1]; exact W'.run_lt p.2 0 W'.pos (by rw [← hm]; exact r2)
    refine ⟨_, rfl, a, _, _, _, rfl, rfl, SqT.of hA.top, atI_nat (j := 0) rfl, T, rfl,
      for_new (fun i σ H'' => ∃ L' y7 y8 y9, σ = [some (.ref a), some (.ref a'), some (.ref d), some (.ref l), some (nV at'), some (nV p.1.1), some (nV p.1.2), y7, y8, y9] ∧ L'[at']? = some p ∧ TogInv H T t t' d l L' at' i H'')
        ⟨L, y7, y8, y9, rfl, hp, I⟩ (fun i T1 xs σ H'' hi hx hI nT => ?_) (fun σ H'' hI => ?_)⟩
    · obtain ⟨c', hc', rfl⟩ := hx
      obtain ⟨L', z7, z8, z9, rfl, hp', I'⟩ := hI
      obtain ⟨hi', ec⟩ := G.signA hc'
      have I1 := I'.tup (xs := [.int (i : Nat), .str ⟨#[c']⟩]) nT
      refine ⟨T1, _, rfl, SqT.of upd_same, rfl, _, _, rfl, _, _, rfl, rfl, ?_⟩
      generalize upd H'' T1 (.tup [.int (i : Nat), .str ⟨#[c']⟩]) = H1 at I1 ⊢
      have hA1 := ha.mono (same_tups I1.same)
      have hA2 := ha'.mono (same_tups I1.same)
      obtain ⟨p1, row1, q1, q2, q3, _⟩ := hA1.step W hr1 hi'
      obtain ⟨p2, row2, q4, q5, q6, _⟩ := hA2.step W' hr2 (show i < t'.m by rw [← hm]; exact hi')
      refine ⟨_, rfl, a, _, _, _, rfl, rfl, SqT.of hA1.top, atI_nat (j := 1) rfl, _, rfl, g, _, _, _, rfl, rfl, SqT.of hA1.goes, atI_nat q1, _, rfl, p1, _, _, _, rfl, rfl, SqT.of q2, atI_nat q3,
        _, rfl, a', _, _, _, rfl, rfl, SqT.of hA2.top, atI_nat (j := 1) rfl, _, rfl, g', _, _, _, rfl, rfl, SqT.of hA2.goes, atI_nat q4, _, rfl, p2, _, _, _, rfl, rfl, SqT.of q5, atI_nat q6, by show 2 ≤ sizeLine; decide, fun tp ntp => ?_⟩
      have I2 := I1.tup (xs := [nV (t.step p.1.1 i), nV (t'.step p.1.2 i)]) ntp
      have htp : (upd H1 tp (.tup [nV (t.step p.1.1 i), nV (t'.step p.1.2 i)])) tp = some (.tup ((keyP (step2 t t' p.1 i)).map kV)) := upd_same
      generalize upd H1 tp (.tup [nV (t.step p.1.1 i), nV (t'.step p.1.2 i)]) = H2 at I2 htp ⊢
      refine ⟨_, rfl, _, rfl, d, _, rfl, DGet.t I2.hd htp, _, rfl, ?_⟩
      by_cases hin : step2 t t' p.1 i ∈ L'.map (·.1)
      · obtain ⟨q', hq', eq'⟩ := List.mem_map.mp hin
        obtain ⟨j, hj⟩ := List.mem_iff_getElem?.mp hq'
        have := kvs_some (T := T) I2.bfs.nodup hj
        rw [eq'] at this
        rw [this]
        exact iteF ⟨L', _, _, _, rfl, hp', I2.at_ (I2.bfs.old hp' hi' hin)⟩
      · rw [kvs_none hin]
        refine iteT ?_
        obtain ⟨bs2, hl2, hbs2⟩ := I2.hl
        have hp2 : (L'.map (·.1))[at']? = some p.1 := by rw [List.getElem?_map, hp']; rfl
        obtain ⟨pb2, hc1, hc2⟩ := hbs2.get hp2
        have hc3 : (bs2.map V.ref)[at']? = some (.ref pb2) := by rw [List.getElem?_map, hc1]; rfl
        have hlen2 : L'.length ≤ 1024 := pairs_le I2.bfs W W' hm
        have esz : (kvsOf T L').length < sizeLine := by
          unfold kvsOf
          rw [List.length_map]
          exact sizeLine_big (by omega)
        have ndl : d ≠ l := ne_of I2.hd hl2 (fun z => nomatch z)
        have ntl : tp ≠ l := ne_of htp hl2 (fun z => nomatch z)
        have ntd : tp ≠ d := ne_of htp I2.hd (fun z => nomatch z)
        have etx : tx T p.2 ++ (⟨#[c']⟩ : Str) = tx T (p.2 ++ [i]) := by rw [ec, ← tx_one, tx_append]
        refine ⟨_, rfl, _, rfl, _, rfl, l, _, _, _, rfl, rfl, SqL.of hl2, atI_nat hc3, d, _, rfl, .inr ⟨_, keyP p.1, pb2, .inl I2.hd, rfl, hc2, (kvs_some I2.bfs.nodup hp').symm⟩, _, rfl, _, _, rfl, rfl, ?_,
          _, rfl, _, rfl, d, _, rfl, DPut.t I2.hd htp esz, ?_⟩
        · rw [tx_length]
          show p.2.length + 1 ≤ sizeLine
          have := lt_of_get hp'
          have := (I2.bfs.runs at' p hp').2.2
          exact Nat.le_of_lt (sizeLine_big (by omega))
        have hl3 : (upd H2 d (.dT (putK (kvsOf T L') (keyP (step2 t t' p.1 i)) (.str (tx T p.2 ++ ⟨#[c']⟩))))) l = some (.lst (bs2.map V.ref)) := by
          rw [upd_ne ndl.symm]
          exact hl2
        refine ⟨_, rfl, .inl ⟨rfl, _, .inl (.inl hl3)⟩, _, rfl, l, _, _, rfl, rfl, hl3, ?_, ?_⟩
        · rw [List.length_map, hbs2.length, List.length_map]
          exact sizeLine_big (by omega)
        refine ⟨L' ++ [(step2 t t' p.1 i, p.2 ++ [i])], _, _, _, rfl, ?_, ?_⟩
        · rw [List.getElem?_append_left (lt_of_get hp')]
          exact hp'
        refine ⟨fun x o e => ?_, I2.d0, I2.l0, ?_, ⟨bs2 ++ [tp], ?_, ?_⟩, I2.bfs.new hp' hi' hin⟩
        · rw [upd_ne (ne_of_none e I2.l0), upd_ne (ne_of_none e I2.d0)]
          exact I2.same x o e
        · rw [upd_ne ndl, upd_same, etx]
          exact congrArg (fun z => some (HO.dT z)) (kvs_snoc (q := (step2 t t' p.1 i, p.2 ++ [i])) hin)
        · rw [upd_same, List.map_append]
          rfl
        · rw [List.map_append]
          refine (hbs2.mono ?_).snoc ?_
          · intro x ys e
            rw [upd_ne (ne_of e hl2 (fun z => nomatch z)), upd_ne (ne_of e I2.hd (fun z => nomatch z))]
            exact e
          · rw [upd_ne ntl, upd_ne ntd]
            exact htp
    · obtain ⟨L', z7, z8, z9, rfl, hp', I'⟩ := hI
      rw [G.size] at I'
      exact ⟨_, rfl, _, _, rfl, rfl, L', _, _, _, _, _, rfl, I'.at_ I'.bfs.next⟩
  · have hge : L.length ≤ at' := by
      have : ¬ ((at' : Int) < ((bs.map V.ref).length : Int)) := fun z => hge (decide_eq_true z)
      omega
    exact ⟨_, rfl, q H' d L I.same I.d0 I.hd (I.bfs.done hge)⟩
end
end K64
set_option autoImplicit true
set_option Elab.async false
set_option linter.all false
set_option maxRecDepth 100000
set_option maxHeartbeats 4000000
namespace K64
open PySem PySem.Spec PyProof.Rows L2
/-! ### a dict that an expression makes, locked from then on -/
def tLockD (td : TE) : TE := fun σ H Q => td σ H fun x H1 => ∃ (d : Addr) (kvs : List (List Key × V)), x = .ref d ∧ H1 d = some (.dT kvs) ∧ ∀ o, Q (.ref d) (upd H1 d (.frz o (.dT kvs)))
theorem pe_lockD {X : Cx} {e : Expr} {td : TE} (he : PE X e td) : PE X e (tLockD td) := by
  refine ⟨fun pins s σ H Q I h => ?_⟩
  refine thn (he.run pins s σ H _ I h) fun v s1 ⟨x, H1, I1, r1, d, kvs, ex, hd, q⟩ => ?_
  subst ex
  obtain ⟨od, I2⟩ := I1.lock hd trivial
  exact ⟨.ref d, _, I2, r1, q od⟩
theorem for_items {d : Addr} {o : Obj} {kvs : List (List Key × V)} {g : TG} {tb : TS} {D : Ends} {σ : L2.St} {H : Hp} (Iv : Nat → L2.St → Hp → Prop) (h0 : Iv 0 σ H) (hq : ∀ i σ H, Iv i σ H → H d = some (.frz o (.dT kvs)))
    (hs : ∀ (i : Nat) (T : Addr) (k : List Key) (v : V) (q : Addr) (σ : L2.St) (H : Hp), kvs[i]? = some (k, v) → H q = some (.tup (k.map kV)) → Iv i σ H → H T = none → g (.ref T) σ (upd H T (.tup [.ref q, v])) fun σ2 H2 => tb { D with nx := Iv (i + 1), ct := Iv (i + 1), bk := D.nx } σ2 H2) (hd : ∀ σ H, Iv kvs.length σ H → D.nx σ H) :
    ∃ W : Nat → Nat → L2.St → Hp → Prop, (∃ m, W 0 m σ H) ∧ ∀ i m σ H, W i m σ H →
      ((ItItems d o kvs).stop i H ∧ D.nx σ H) ∨ ((ItItems d o kvs).go i H ∧ ∃ N : L2.St → Hp → Prop, (∀ σ' H', N σ' H' → ∃ m', m' < m ∧ W (i + 1) m' σ' H') ∧ ∀ v H', (ItItems d o kvs).yld i H v H' → g v σ H' fun σ2 H2 => tb { D with nx := N, ct := N, bk := D.nx } σ2 H2) := by
  refine ⟨fun i m σ H => m = kvs.length - i ∧ i ≤ kvs.length ∧ Iv i σ H, ⟨kvs.length, rfl, Nat.zero_le _, h0⟩, ?_⟩
  rintro i m σ H ⟨rfl, hi, p⟩
  by_cases hlt : i < kvs.length
  · refine .inr ⟨⟨hq i σ H p, hlt⟩, Iv (i + 1), fun σ' H' p' => ⟨kvs.length - (i + 1), by omega, rfl, hlt, p'⟩, fun v H' y => ?_⟩
    obtain ⟨T, k, v', q, hk, rfl, hT, hq', rfl⟩ := y
    exact hs i T k v' q σ H hk hq' p hT
  · have e : i = kvs.length := by omega
    subst e
    exact .inl ⟨⟨hq _ σ H p, Nat.le_refl _⟩, hd σ H p⟩
/-- a word told, or None -/
def optV (T : Str) : Option (List Nat) → V
  | none => .non
  | some w => .str (tx T w)
/-- the pairs told by key tuples -/
theorem isKeys_pairs {H : Hp} {T : Str} : ∀ {L : List ((Nat × Nat) × List Nat)} {bs : List Addr}, IsKeys H (kvsOf T L) bs → PairsAt H bs (L.map (·.1))
  | [], _, h => by
    cases h
    exact .nil
  | p :: L, _, h => by
    unfold kvsOf at h
    rw [List.map_cons] at h
    cases h with
    | cons h1 h2 => exact .cons h1 (isKeys_pairs (T := T) h2)
theorem PairsAt.perm {H : Hp} {bs bs' : List Addr} (p : bs'.Perm bs) : ∀ {ps : List (Nat × Nat)}, PairsAt H bs ps → ∃ ps', ps'.Perm ps ∧ PairsAt H bs' ps' := by
  induction p with
  | nil => intro ps h; exact ⟨ps, List.Perm.refl _, h⟩
  | cons x _ ih =>
    intro ps h
    cases h with
    | cons h1 h2 =>
      obtain ⟨ps', q, r⟩ := ih h2
      exact ⟨_ :: ps', q.cons _, .cons h1 r⟩
  | swap x y l =>
    intro ps h
    cases h with
    | cons h1 h2 =>
      cases h2 with
      | cons h3 h4 => exact ⟨_ :: _ :: _, List.Perm.swap _ _ _, .cons h3 (.cons h1 h4)⟩
  | trans _ _ ih1 ih2 =>
    intro ps h
    obtain ⟨ps1, q1, r1⟩ := ih2 h
    obtain ⟨ps2, q2, r2⟩ := ih1 r1
    exact ⟨ps2, q2.trans q1, r2⟩
section
variable {P : Program} {w : World} {K : PySem.W.Frag} {mg : Str → Option Value} {base : Heap}
/-- two tables of one tongue -/
structure Two (H : Hp) (v u : V) (T : Str) (t t' : Tab) : Prop where
  one : TabV H v T t
  other : TabV H u T t'
  wf : t.Wf
  wf' : t'.Wf
  m : t.m = t'.m
  tg : Tg T t.m
theorem Two.mono {H H' : Hp} {v u : V} {T : Str} {t t' : Tab} (h : Two H v u T t t') (s : Tups H H') : Two H' v u T t t' := ⟨h.one.mono s, h.other.mono s, h.wf, h.wf', h.m, h.tg⟩
def spFirst : Sp := fun vs H Q _ => ∃ (v u : V) (k k' : Addr) (T : Str) (t t' : Tab), vs = [v, u, .ref k, .ref k'] ∧ Two H v u T t t' ∧ H k = some (.tup (t.kinds.map V.int)) ∧ H k' = some (.tup (t'.kinds.map V.int)) ∧
  ∀ (H' : Hp) (o : Option (List Nat)), Same H H' → PartedIs t t' o → Q (optV T o) H'
theorem d_first_parted (F : At K mg "first_parted" s_first_parted ["one", "other", "marks", "others"]) (DT : Df P w K mg base 1 "together" spTogether) : Df P w K mg base 2 "first_parted" spFirst := by
  refine F.df sc_first_parted (fun vs H Q E h => ?_) (fun f cdv A outer s H vs Q E hr h => ?_)
  · obtain ⟨v, u, k, k', T, t, t', rfl, _⟩ := h
    rfl
  have nd := sc_first_parted.nd
  obtain ⟨v, u, k, k', T, t, t', rfl, ⟨h1, h2, W, W', hm, G⟩, hk, hk', q⟩ := h
  refine ⟨_, pss_cons (ps_for PassesOwn.never rfl (pi_itemsT (pe_lockD (pe_d DT hr (by decide) (by rfl) (pa_cons (pv 0) (pa_cons (pv 1) pa_nil))))) (pg_tup rfl (pgs_cons (pg_name (i := 4) nd rfl (.inl rfl)) (pgs_cons (pg_name (i := 5) nd rfl (.inl rfl)) pgs_nil)))
      (pss_one (ps_if (pt_cmpR op_ne (pe_ix ix_tup (pv 2) (pe_ix ix_tup (pv 4) pe_int (fun _ _ => rfl)) (fun _ _ => rfl)) (pe_ix ix_tup (pv 3) (pe_ix ix_tup (pv 4) pe_int (fun _ _ => rfl)) (fun _ _ => rfl)) (nomark _)) (pss_one (ps_ret (pv 5))) pss_nil)))
    (pss_one (ps_ret pe_non)), ?_⟩
  refine ⟨_, rfl, _, rfl, v, u, T, t, t', rfl, h1, h2, W, W', hm, G, fun H1 d L S1 nd0 hd R => ⟨d, _, rfl, hd, fun o => ⟨d, o, _, rfl, upd_same, ?_⟩⟩⟩
  refine for_items (fun i σ H2 => ∃ y4 y5, σ = [some v, some u, some (.ref k), some (.ref k'), y4, y5] ∧ Same H H2 ∧ H2 d = some (.frz o (.dT (kvsOf T L))) ∧ ∀ (j : Nat) p, j < i → L[j]? = some p → t.kind p.1.1 = t'.kind p.1.2)
    ⟨none, none, rfl, fun b o' e => by rw [upd_ne (ne_of_none e nd0)]; exact S1 b o' e, upd_same, fun j p hj => by omega⟩ (fun i σ H2 ⟨_, _, _, _, e, _⟩ => e) (fun i T1 ky wv kq σ H2 hi hkq hI nT => ?_) (fun σ H2 hI => ?_)
  · obtain ⟨y4, y5, rfl, S2, hd2, hall⟩ := hI
    unfold kvsOf at hi
    rw [List.getElem?_map] at hi
    obtain ⟨p, hp, e⟩ := Option.map_eq_some_iff.mp hi
    cases e
    have nq : kq ≠ T1 := ne_of_none hkq nT
    have hkq1 : (upd H2 T1 (.tup [.ref kq, .str (tx T p.2)])) kq = some (.tup [nV p.1.1, nV p.1.2]) := by
      rw [upd_ne nq]
      exact hkq
    refine ⟨T1, _, rfl, SqT.of upd_same, rfl, _, _, rfl, _, _, rfl, rfl, ?_⟩
    have S3 : Same H (upd H2 T1 (.tup [.ref kq, .str (tx T p.2)])) := S2.trans (same_upd nT)
    have hd3 : (upd H2 T1 (.tup [.ref kq, .str (tx T p.2)])) d = some (.frz o (.dT (kvsOf T L))) := by
      rw [upd_ne (ne_of_none hd2 nT)]
      exact hd2
    generalize upd H2 T1 (.tup [.ref kq, .str (tx T p.2)]) = H3 at hkq1 S3 hd3 ⊢
    obtain ⟨r1, r2, _⟩ := R.runs i p hp
    rw [run2] at r1
    have hr1 : p.1.1 < t.goes.length := by rw [← r1]; exact W.run_lt p.2 0 W.pos r2
    have hr2 : p.1.2 < t'.goes.length := by rw [← r1]; exact W'.run_lt p.2 0 W'.pos (by rw [← hm]; exact r2)
    have k1 : (t.kinds.map V.int)[p.1.1]? = some (.int (t.kind p.1.1)) := by rw [List.getElem?_map, W.kind_at hr1]; rfl
    have k2 : (t'.kinds.map V.int)[p.1.2]? = some (.int (t'.kind p.1.2)) := by rw [List.getElem?_map, W'.kind_at hr2]; rfl
    refine ⟨_, rfl, _, rfl, kq, _, _, _, rfl, rfl, SqT.of hkq1, atI_nat (j := 0) rfl, k, _, _, _, rfl, rfl, SqT.of (S3 _ _ hk), atI_nat k1,
      _, rfl, _, rfl, kq, _, _, _, rfl, rfl, SqT.of hkq1, atI_nat (j := 1) rfl, k', _, _, _, rfl, rfl, SqT.of (S3 _ _ hk'), atI_nat k2, rfl, _, rfl, ?_⟩
    by_cases e : t.kind p.1.1 = t'.kind p.1.2
    · rw [e, decide_eq_true rfl]
      refine iteF ⟨_, _, rfl, S3, hd3, fun j p' hj hp' => ?_⟩
      by_cases ej : j = i
      · subst ej
        rw [hp] at hp'
        cases hp'
        exact e
      · exact hall j p' (by omega) hp'
    · rw [decide_eq_false (fun z => e (V.int.inj z))]
      refine iteT ⟨_, rfl, ?_⟩
      exact q H3 (some p.2) S3 (parted_some W W' hm R hp e fun j p' hj hp' => hall j p' hj hp')
  · obtain ⟨y4, y5, rfl, S2, hd2, hall⟩ := hI
    refine q H2 none S2 (parted_none R fun j p hp => hall j p ?_ hp)
    unfold kvsOf
    rw [List.length_map]
    exact lt_of_get hp
def spParted : Sp := fun vs H Q _ => ∃ (v u : V) (T : Str) (t t' : Tab), vs = [v, u] ∧ Two H v u T t t' ∧ ∀ (H' : Hp) (o : Option (List Nat)), Same H H' → PartedIs t t' o → Q (optV T o) H'
theorem d_parted (F : At K mg "parted" s_parted ["one", "other"]) (DA : Df P w K mg base 1 "asked_alike" spAsked) (DF : Df P w K mg base 2 "first_parted" spFirst) : Df P w K mg base 3 "parted" spParted := by
  refine F.df sc_parted (fun vs H Q E h => ?_) (fun f cdv A outer s H vs Q E hr h => ?_)
  · obtain ⟨v, u, T, t, t', rfl, _⟩ := h
    rfl
  obtain ⟨v, u, T, t, t', rfl, h2, q⟩ := h
  refine ⟨_, pss_cons (ps_expr (pe_d DA hr (by decide) (by rfl) (pa_cons (pv 0) (pa_cons (pv 1) pa_nil))))
    (pss_one (ps_ret (pe_d DF hr (by decide) (by rfl) (pa_cons (pv 0) (pa_cons (pv 1) (pa_cons (pe_ix ix_tup (pv 0) pe_int (fun _ _ => rfl)) (pa_cons (pe_ix ix_tup (pv 1) pe_int (fun _ _ => rfl)) pa_nil))))))), ?_⟩
  obtain ⟨a, g, k, rs, e1, ha⟩ := id h2.one
  obtain ⟨a', g', k', rs', e2, ha'⟩ := id h2.other
  refine ⟨_, rfl, _, rfl, v, u, T, t, t', rfl, h2.one, h2.other, ?_⟩
  subst e1 e2
  exact ⟨_, rfl, _, rfl, _, rfl, a, _, _, _, rfl, rfl, SqT.of ha.top, atI_nat (j := 2) rfl, _, rfl, a', _, _, _, rfl, rfl, SqT.of ha'.top, atI_nat (j := 2) rfl,
    .ref a, .ref a', k, k', T, t, t', rfl, h2, ha.kinds, ha'.kinds, q⟩
def spPairs : Sp := fun vs H Q _ => ∃ (v u : V) (T : Str) (t t' : Tab), vs = [v, u] ∧ Two H v u T t t' ∧ (∀ H', Same H H' → ¬ (∀ x, Ok t.m x → t.kap x = t'.kap x) → Q .non H') ∧
  ∀ (H' : Hp) (p : Addr) (bs : List Addr) (rows : List (Nat × Nat)), Same H H' → (∀ x, Ok t.m x → t.kap x = t'.kap x) → H' p = some (.tup (bs.map V.ref)) → PairsAt H' bs rows → rows.length ≤ 1024 → Holds t t' rows → Q (.ref p) H'
theorem d_pairs (F : At K mg "pairs" s_pairs ["one", "other"]) (B : Gb mg) (DP : Df P w K mg base 3 "parted" spParted) (DT : Df P w K mg base 1 "together" spTogether) : Df P w K mg base 4 "pairs" spPairs := by
  refine F.df sc_pairs (fun vs H Q E h => ?_) (fun f cdv A outer s H vs Q E hr h => ?_)
  · obtain ⟨v, u, T, t, t', rfl, _⟩ := h
    rfl
  obtain ⟨v, u, T, t, t', rfl, h2, q1, q2⟩ := h
  refine ⟨_, pss_cons (ps_if (pt_cmp (pc_notN (pe_d DP hr (by decide) (by rfl) (pa_cons (pv 0) (pa_cons (pv 1) pa_nil)))) rfl) (pss_one (ps_ret pe_non)) pss_nil)
    (pss_one (ps_ret (pe_callTy call_tuple_of (by rfl) B.tuple b_tuple (pa_cons (pe_callB (cr_sortedDT rfl) (by rfl) B.sorted b_sorted (pa_cons (pe_d DT hr (by decide) (by rfl) (pa_cons (pv 0) (pa_cons (pv 1) pa_nil))) pa_nil)) pa_nil)))), ?_⟩
  refine ⟨_, rfl, _, rfl, v, u, T, t, t', rfl, h2, fun H1 o S1 hp => ⟨_, rfl, ?_⟩⟩
  cases o with
  | some x =>
    rw [show decide (optV T (some x) = .non) = false from decide_eq_false (fun z => nomatch z)]
    exact iteT (q1 H1 S1 fun h => hp.2.2.1 (h x hp.1))
  | none =>
    rw [show decide (optV T none = .non) = true from decide_eq_true rfl]
    refine iteF ?_
    obtain ⟨h3, h4, W, W', hm, G⟩ := h2.mono (same_tups S1)
    refine ⟨_, rfl, _, rfl, v, u, T, t, t', rfl, h3, h4, W, W', hm, G, fun H2 d L S2 nd hd R => ?_⟩
    refine ⟨d, _, rfl, .inl hd, fun p hp' => ?_, fun bs bs' l nl ik pb => ⟨l, _, rfl, .inl ⟨SqL.of upd_same, fun p np => ?_⟩⟩⟩
    · unfold kvsOf at hp'
      obtain ⟨x, _, e⟩ := List.mem_map.mp hp'
      rw [← e]
      exact ⟨_, _, rfl⟩
    · obtain ⟨ps', pp, pa⟩ := (isKeys_pairs (T := T) ik).perm pb
      refine q2 _ p bs' ps' (((S1.trans S2).trans (same_upd nl)).trans (same_upd np)) hp upd_same ((pa.mono (tups_upd nl)).mono (tups_upd np)) ?_ (holds_of_reach W W' hm R hp fun x => pp.mem_iff)
      rw [pp.length_eq, List.length_map]
      exact pairs_len R W W' hm
end
end K64
set_option autoImplicit true
set_option Elab.async false
set_option linter.all false
set_option maxRecDepth 100000
set_option maxHeartbeats 4000000
namespace K64
open PySem PySem.Spec PyProof.Rows L2
section
variable {P : Program} {w : World} {K : PySem.W.Frag} {mg : Str → Option Value} {base : Heap}
theorem tYes_if {σ : L2.St} {H : Hp} {A B : Hp → Prop} (h : A H) : tYes σ H fun b H3 => if b = true then A H3 else B H3 := show (if true = true then A H else B H) from iteT h
/-- a pair of rooms of one kind -/
def OkP (t t' : Tab) (p : Nat × Nat) : Prop := p.1 < t.goes.length ∧ p.2 < t'.goes.length ∧ t.kind p.1 = t'.kind p.2
def spIsPair : Sp := fun vs H Q _ => ∃ (v u : V) (b : Addr) (T : Str) (t t' : Tab) (p : Nat × Nat), vs = [v, u, .ref b] ∧ Two H v u T t t' ∧ H b = some (.tup [nV p.1, nV p.2]) ∧ ∀ c : Bool, (c = true ↔ OkP t t' p) → Q (.bl c) H
theorem d_is_pair (F : At K mg "is_pair" s_is_pair ["one", "other", "thing"]) (B : Gb mg) (DN : Df P w K mg base 2 "is_numbers" spIsNumbers) : Df P w K mg base 3 "is_pair" spIsPair := by
  refine F.df sc_is_pair (fun vs H Q E h => ?_) (fun f cdv A outer s H vs Q E hr h => ?_)
  · obtain ⟨v, u, b, T, t, t', p, rfl, _⟩ := h
    rfl
  obtain ⟨v, u, b, T, t, t', p, rfl, h2, hb, q⟩ := h
  refine ⟨_, pss_cons (ps_if (pw_or (pt_not (pt_val (pe_d DN hr (by decide) (by rfl) (pa_cons (pv 2) pa_nil)))) (pw_or1 (pt_cmpR op_ne (pe_callB call_len_seq (by rfl) B.len b_len (pa_cons (pv 2) pa_nil)) pe_int (nomark _)))).pt pss_never pss_nil)
    (pss_cons (ps_if (pw_or (pt_not (pt_chain op_le op_lt pe_int (pe_ix ix_tup (pv 2) pe_int (fun _ _ => rfl)) (pe_callB call_len_seq (by rfl) B.len b_len (pa_cons (pe_ix ix_tup (pv 0) pe_int (fun _ _ => rfl)) pa_nil))))
      (pw_or1 (pt_not (pt_chain op_le op_lt pe_int (pe_ix ix_tup (pv 2) pe_int (fun _ _ => rfl)) (pe_callB call_len_seq (by rfl) B.len b_len (pa_cons (pe_ix ix_tup (pv 1) pe_int (fun _ _ => rfl)) pa_nil)))))).pt (pss_one (ps_ret pe_bl)) pss_nil)
    (pss_one (ps_ret (pe_cmpR op_eq (pe_ix ix_tup (pe_ix ix_tup (pv 0) pe_int (fun _ _ => rfl)) (pe_ix ix_tup (pv 2) pe_int (fun _ _ => rfl)) (fun _ _ => rfl)) (pe_ix ix_tup (pe_ix ix_tup (pv 1) pe_int (fun _ _ => rfl)) (pe_ix ix_tup (pv 2) pe_int (fun _ _ => rfl)) (fun _ _ => rfl)) (nomark _))))), ?_⟩
  obtain ⟨a, g, k, rs, rfl, ha⟩ := id h2.one
  obtain ⟨a', g', k', rs', rfl, ha'⟩ := id h2.other
  have W := h2.wf
  have W' := h2.wf'
  have l1 := ha.len
  have l2 := ha'.len
  refine ⟨_, rfl, b, [(p.1 : Int), (p.2 : Int)], rfl, hb, true, rfl, iteF ⟨_, rfl, b, _, rfl, .inr (SqT.of hb), rfl, _, rfl, ?_⟩⟩
  rw [show (!decide (V.int (([nV p.1, nV p.2].length : Nat) : Int) = V.int 2)) = false from rfl]
  refine iteF ⟨_, rfl, b, _, _, _, rfl, rfl, SqT.of hb, atI_nat (j := 0) rfl, _, _, rfl, rfl, _, rfl, ?_⟩
  rw [show decide ((0 : Int) ≤ (p.1 : Int)) = true from decide_eq_true (Int.natCast_nonneg _)]
  refine iteT ⟨_, rfl, a, _, _, _, rfl, rfl, SqT.of ha.top, atI_nat (j := 1) rfl, g, _, rfl, .inr (SqT.of ha.goes), _, _, rfl, rfl, _, rfl, ?_⟩
  rw [l1]
  by_cases e1 : p.1 < t.goes.length
  · rw [show decide ((p.1 : Int) < ((t.goes.length : Nat) : Int)) = true from decide_eq_true (by omega)]
    refine iteF ⟨_, rfl, b, _, _, _, rfl, rfl, SqT.of hb, atI_nat (j := 1) rfl, _, _, rfl, rfl, _, rfl, ?_⟩
    rw [show decide ((0 : Int) ≤ (p.2 : Int)) = true from decide_eq_true (Int.natCast_nonneg _)]
    refine iteT ⟨_, rfl, a', _, _, _, rfl, rfl, SqT.of ha'.top, atI_nat (j := 1) rfl, g', _, rfl, .inr (SqT.of ha'.goes), _, _, rfl, rfl, _, rfl, ?_⟩
    rw [l2]
    by_cases e2 : p.2 < t'.goes.length
    · rw [show decide ((p.2 : Int) < ((t'.goes.length : Nat) : Int)) = true from decide_eq_true (by omega)]
      refine iteF ⟨_, rfl, a, _, _, _, rfl, rfl, SqT.of ha.top, atI_nat (j := 2) rfl, _, rfl, b, _, _, _, rfl, rfl, SqT.of hb, atI_nat (j := 0) rfl, k, _, _, _, rfl, rfl, SqT.of ha.kinds, atI_nat (ha.kind W e1),
        _, rfl, a', _, _, _, rfl, rfl, SqT.of ha'.top, atI_nat (j := 2) rfl, _, rfl, b, _, _, _, rfl, rfl, SqT.of hb, atI_nat (j := 1) rfl, k', _, _, _, rfl, rfl, SqT.of ha'.kinds, atI_nat (ha'.kind W' e2), rfl, q _ ?_⟩
      rw [decide_eq_true_iff]
      exact ⟨fun z => ⟨e1, e2, V.int.inj z⟩, fun z => congrArg V.int z.2.2⟩
    · rw [show decide ((p.2 : Int) < ((t'.goes.length : Nat) : Int)) = false from decide_eq_false (by omega)]
      exact iteT (q false ⟨fun z => (nomatch z), fun z => absurd z.2.1 e2⟩)
  · rw [show decide ((p.1 : Int) < ((t.goes.length : Nat) : Int)) = false from decide_eq_false (by omega)]
    exact iteT (iteT (q false ⟨fun z => (nomatch z), fun z => absurd z.1 e1⟩))
/-- the rows in a dict: the keys of the first i rows -/
def Known (rows : List (Nat × Nat)) (i : Nat) (kvs : List (List Key × V)) : Prop := kvs.length ≤ i ∧ ∀ q : Nat × Nat, ((valV kvs (keyP q)).isSome = true ↔ q ∈ rows.take i)
theorem Known.init (rows : List (Nat × Nat)) : Known rows 0 [] := ⟨Nat.le_refl _, fun q => by simp [valV_nil]⟩
theorem Known.put {rows : List (Nat × Nat)} {i : Nat} {kvs : List (List Key × V)} {p : Nat × Nat} {v : V} (h : Known rows i kvs) (hi : rows[i]? = some p) : Known rows (i + 1) (putK kvs (keyP p) v) := by
  refine ⟨?_, fun q => ?_⟩
  · have h1 := h.1
    unfold putK
    split
    · rw [List.length_map]
      omega
    · rw [List.length_append, List.length_singleton]
      omega
  · obtain ⟨l, e⟩ := List.getElem?_eq_some_iff.mp hi
    rw [valV_put, List.take_succ_eq_append_getElem l, List.mem_append, ← h.2 q, List.mem_singleton, e]
    by_cases z : q = p
    · subst z
      simp
    · rw [if_neg (fun z' => z (keyP_inj z'))]
      simp [z]
theorem upd_tups {H : Hp} {d : Addr} {o o' : HO} (h : H d = some o) (n : ∀ xs, o ≠ .tup xs) : Tups H (upd H d o') := tups_put fun xs e => by
  rw [h] at e
  exact n xs (Option.some.inj e)
def spHold : Sp := fun vs H Q _ => ∃ (v u : V) (p : Addr) (T : Str) (t t' : Tab) (bs : List Addr) (rows : List (Nat × Nat)), vs = [v, u, .ref p] ∧ Two H v u T t t' ∧ H p = some (.tup (bs.map V.ref)) ∧ PairsAt H bs rows ∧ rows.length ≤ 1024 ∧
  ∀ (H' : Hp) (c : Bool), Same H H' → (c = true ↔ Holds t t' rows) → Q (.bl c) H'
theorem d_pairs_hold (F : At K mg "pairs_hold" s_pairs_hold ["one", "other", "rows"]) (B : Gb mg) (DA : Df P w K mg base 1 "asked_alike" spAsked) (DI : Df P w K mg base 3 "is_pair" spIsPair) : Df P w K mg base 4 "pairs_hold" spHold := by
  refine F.df sc_pairs_hold (fun vs H Q E h => ?_) (fun f cdv A outer s H vs Q E hr h => ?_)
  · obtain ⟨v, u, p, T, t, t', bs, rows, rfl, _⟩ := h
    rfl
  have hu := hu_of hr
  have nd := sc_pairs_hold.nd
  obtain ⟨v, u, p, T, t, t', bs, rows, rfl, h2, hp, hP, hlen, q⟩ := h
  refine ⟨_, pss_cons (ps_expr (pe_d DA hr (by decide) (by rfl) (pa_cons (pv 0) (pa_cons (pv 1) pa_nil))))
    (pss_cons (ps_if (pw_or (pt_not (pt_val (pe_callB call_isi (by rfl) B.isinstance b_isinstance (pa_cons (pv 2) (pa_cons (pe_bltn (v := .ty "tuple") (by rfl) B.tuple b_tuple rfl) pa_nil)))))
      (pw_or1 (pt_not (pt_val (pe_callB (cr_all rfl) (by rfl) B.all b_all (pa_cons (pe_lc (own := [("pair", 3)]) (g := gName 3) (tt := tYes) rfl nd (pi_tup (pv 2)) (blkOk_by (N := ["one", "other", "rows", "pair", "known", "first", "second", "there"]) (sc := defScope s_pairs_hold) (by decide +kernel))
        (fun _ _ _ _ _ => pg_name (i := 3) nd rfl (Or.inl rfl)) (fun _ _ _ _ _ => pts_nil) (fun _ _ _ _ _ => pe_d DI hr (by decide) (by rfl) (pa_cons (pv 0) (pa_cons (pv 1) (pa_cons (pv 3) pa_nil))))) pa_nil)))))).pt (pss_one (ps_ret pe_bl)) pss_nil)
    (pss_cons (ps_set (i := 4) nd rfl (.inl rfl) pe_dnewT)
    (pss_cons (ps_for PassesOwn.never rfl (pi_tup (pv 2)) (pg_name (i := 3) nd rfl (.inl rfl)) (pss_one (ps_dput hu (pv 4) (pv 3) pe_bl rfl)))
    (pss_cons (ps_if (pt_cmp (pc_dnotin hu (pe_tup (pa_cons pe_int (pa_cons pe_int pa_nil))) (pv 4))) (pss_one (ps_ret pe_bl)) pss_nil)
    (pss_cons (ps_for PassesOwn.never rfl (pi_tup (pv 2)) (pg_tup rfl (pgs_cons (pg_name (i := 5) nd rfl (.inl rfl)) (pgs_cons (pg_name (i := 6) nd rfl (.inl rfl)) pgs_nil)))
      (pss_one (ps_for PassesOwn.never rfl (pi_zip1 (by rfl) B.zip (pa_cons (pe_ix ix_tup (pe_ix ix_tup (pv 0) pe_int (fun _ _ => rfl)) (pv 5) (fun _ _ => rfl)) (pa_cons (pe_ix ix_tup (pe_ix ix_tup (pv 1) pe_int (fun _ _ => rfl)) (pv 6) (fun _ _ => rfl)) pa_nil))) (pg_name (i := 7) nd rfl (.inl rfl))
        (pss_one (ps_if (pt_cmp (pc_dnotin hu (pv 7) (pv 4))) (pss_one (ps_ret pe_bl)) pss_nil)))))
    (pss_one (ps_ret pe_bl))))))), ?_⟩
  have lbs : bs.length = rows.length := hP.length
  have rowAt : ∀ {i : Nat} {x : V}, (bs.map V.ref)[i]? = some x → ∃ (b : Addr) (pr : Nat × Nat), x = V.ref b ∧ rows[i]? = some pr ∧ H b = some (.tup [nV pr.1, nV pr.2]) := fun {i} {x} hx => by
    have hi := lt_of_get hx
    rw [List.length_map, lbs] at hi
    obtain ⟨pr, hpr⟩ := get_of_lt hi
    obtain ⟨b, h1, h3⟩ := hP.get hpr
    rw [List.getElem?_map, h1] at hx
    exact ⟨b, pr, (Option.some.inj hx).symm, hpr, h3⟩
  have lenm : (bs.map V.ref).length = rows.length := by rw [List.length_map, lbs]
  refine ⟨_, rfl, _, rfl, v, u, T, t, t', rfl, h2.one, h2.other, ?_⟩
  refine ⟨_, rfl, .ref p, .ty "tuple", _, _, true, rfl, .ty _, .base (.tup hp), kit_ty (by decide +kernel), true, rfl, iteF ⟨_, rfl, p, rfl, ⟨_, SqT.of hp⟩, fun D nD => ?_⟩⟩
  refine lc_tup (xs := bs.map V.ref) (fun i H' => Same H H' ∧ ∃ cs : List Bool, H' D = some (.lst (cs.map V.bl)) ∧ cs.length = i ∧ ∀ (j : Nat) c pr, cs[j]? = some c → rows[j]? = some pr → (c = true ↔ OkP t t' pr))
    ⟨same_upd nD, [], upd_same, rfl, fun j c pr hj => by simp at hj⟩ (fun i H' _ h => SqT.of (h.1 _ _ hp)) (fun i x H1 hx h => ?_) (fun H1 h => ?_)
  · obtain ⟨S1, cs, hD, hc, hall⟩ := h
    obtain ⟨b, pr, rfl, hpr, hb⟩ := rowAt hx
    refine ⟨rfl, ?_⟩
    refine tYes_if ?_
    refine ⟨_, rfl, _, rfl, _, rfl, v, u, b, T, t, t', pr, rfl, h2.mono (same_tups S1), S1 _ _ hb, fun c ec => ⟨_, hD, ?_, fun x o e => ?_, cs ++ [c], ?_, ?_, fun j c' pr' hj hpr' => ?_⟩⟩
    · rw [List.length_map, hc]
      have := lt_of_get hpr
      exact sizeLine_big (by omega)
    · rw [upd_ne (ne_of_none e nD)]
      exact S1 x o e
    · rw [upd_same, List.map_append]
      rfl
    · rw [List.length_append, hc]
      rfl
    · rcases get_snoc.mp hj with hj | ⟨e, hj⟩
      · exact hall j c' pr' hj hpr'
      · subst hj
        rw [e, hc, hpr] at hpr'
        cases hpr'
        exact ec
  obtain ⟨S1, cs, hD, hc, hall⟩ := h
  rw [lenm] at hc
  refine ⟨D, cs, rfl, SqL.of hD, _, rfl, ?_⟩
  cases hcs : cs.all id with
  | false =>
    refine iteT (q H1 false S1 ⟨fun z => (nomatch z), fun z => ?_⟩)
    have : cs.all id = true := List.all_eq_true.mpr fun c hc' => by
      obtain ⟨j, hj⟩ := List.mem_iff_getElem?.mp hc'
      obtain ⟨pr, hpr⟩ := get_of_lt (l := rows) (j := j) (by have := lt_of_get hj; omega)
      exact (hall j c pr hj hpr).mpr (z.kind pr (List.mem_of_getElem? hpr))
    rw [hcs] at this
    cases this
  | true =>
    have ok : ∀ pr ∈ rows, OkP t t' pr := fun pr h => by
      obtain ⟨j, hj⟩ := List.mem_iff_getElem?.mp h
      obtain ⟨c, hc'⟩ := get_of_lt (l := cs) (j := j) (by have := lt_of_get hj; omega)
      exact (hall j c pr hc' hj).mp (List.all_eq_true.mp hcs c (List.mem_of_getElem? hc'))
    refine iteF fun d nd1 => ?_
    have nd0 : H d = none := by
      cases e : H d with
      | none => rfl
      | some o =>
        have := S1 _ _ e
        rw [nd1] at this
        cases this
    refine ⟨_, rfl, p, rfl, ⟨_, SqT.of (by rw [upd_ne (ne_of_none hp nd0)]; exact S1 _ _ hp)⟩, for_tup (xs := bs.map V.ref)
      (fun i σ H' => ∃ y3 y5 y6 y7 kvs, σ = [some v, some u, some (.ref p), y3, some (.ref d), y5, y6, y7] ∧ Same H H' ∧ H' d = some (.dT kvs) ∧ Known rows i kvs)
      ⟨_, _, _, _, _, rfl, fun x o e => by rw [upd_ne (ne_of_none e nd0)]; exact S1 x o e, upd_same, Known.init rows⟩ (fun i σ H' _ h => by obtain ⟨_, _, _, _, _, _, S, _⟩ := h; exact SqT.of (S _ _ hp)) (fun i x σ H2 hx h => ?_) (fun σ H2 h => ?_)⟩
    · obtain ⟨y3, y5, y6, y7, kvs, rfl, S2, hd, hk⟩ := h
      obtain ⟨b, pr, rfl, hpr, hb⟩ := rowAt hx
      refine ⟨_, rfl, _, rfl, d, _, rfl, DPut.t (k := keyP pr) hd (S2 _ _ hb) ?_, ?_⟩
      · have := lt_of_get hpr
        have := hk.1
        exact sizeLine_big (by omega)
      · exact ⟨_, _, _, _, _, rfl, fun x o e => by rw [upd_ne (ne_of_none e nd0)]; exact S2 x o e, upd_same, hk.put hpr⟩
    · obtain ⟨y3, y5, y6, y7, kvs, rfl, S2, hd, hk⟩ := h
      rw [lenm] at hk
      have hk2 : ∀ q : Nat × Nat, ((valV kvs (keyP q)).isSome = true ↔ q ∈ rows) := fun q => by
        have := hk.2 q
        rw [List.take_length] at this
        exact this
      refine ⟨by show 2 ≤ sizeLine; decide, fun z nz => ⟨_, rfl, d, _, rfl, DGet.t (k := keyP (0, 0)) (by rw [upd_ne (ne_of_none hd nz)]; exact hd) upd_same, _, rfl, ?_⟩⟩
      have S3 : Same H (upd H2 z (.tup [.int 0, .int 0])) := S2.trans (same_upd nz)
      have hd3 : (upd H2 z (.tup [.int 0, .int 0])) d = some (.dT kvs) := by rw [upd_ne (ne_of_none hd nz)]; exact hd
      generalize upd H2 z (.tup [.int 0, .int 0]) = H3 at S3 hd3 ⊢
      cases h00 : (valV kvs (keyP (0, 0))).isSome with
      | false => exact iteT (q H3 false S3 ⟨fun z => (nomatch z), fun z => by have := (hk2 (0, 0)).mpr z.start; rw [h00] at this; cases this⟩)
      | true =>
        refine iteF ⟨_, rfl, p, rfl, ⟨_, SqT.of (S3 _ _ hp)⟩, for_tup (xs := bs.map V.ref)
          (fun i σ H' => ∃ y3 y5 y6 y7, σ = [some v, some u, some (.ref p), y3, some (.ref d), y5, y6, y7] ∧ Same H H' ∧ H' d = some (.dT kvs) ∧ ∀ (j : Nat) pr, j < i → rows[j]? = some pr → ∀ k, k < t.m → step2 t t' pr k ∈ rows)
          ⟨_, _, _, _, rfl, S3, hd3, fun j pr hj => by omega⟩ (fun i σ H' _ h => by obtain ⟨_, _, _, _, _, S, _⟩ := h; exact SqT.of (S _ _ hp)) (fun i x σ H4 hx h => ?_) (fun σ H4 h => ?_)⟩
        · obtain ⟨y3, y5, y6, y7, rfl, S4, hd4, hgo⟩ := h
          obtain ⟨b, pr, rfl, hpr, hb⟩ := rowAt hx
          obtain ⟨e1, e2, _⟩ := ok pr (List.mem_of_getElem? hpr)
          obtain ⟨a, g, k, rs, rfl, ha⟩ := id (h2.mono (same_tups S4)).one
          obtain ⟨a', g', k', rs', rfl, ha'⟩ := id (h2.mono (same_tups S4)).other
          obtain ⟨row1, hr1⟩ := get_of_lt e1
          obtain ⟨row2, hr2⟩ := get_of_lt e2
          obtain ⟨p1, _, m1, n1⟩ := ha.row hr1
          obtain ⟨p2, _, m2, n2⟩ := ha'.row hr2
          obtain ⟨lr1, _⟩ := h2.wf.row _ _ hr1
          obtain ⟨lr2, _⟩ := h2.wf'.row _ _ hr2
          refine ⟨b, _, rfl, SqT.of (S4 _ _ hb), rfl, _, _, rfl, _, _, rfl, rfl, ?_⟩
          refine ⟨_, rfl, a, _, _, _, rfl, rfl, SqT.of ha.top, atI_nat (j := 1) rfl, _, rfl, g, _, _, _, rfl, rfl, SqT.of ha.goes, atI_nat m1, _, rfl, a', _, _, _, rfl, rfl, SqT.of ha'.top, atI_nat (j := 1) rfl, _, rfl, g', _, _, _, rfl, rfl, SqT.of ha'.goes, atI_nat m2,
            p1, p2, _, _, rfl, SqT.of n1, SqT.of n2, ?_⟩
          have lrr : (row1.map nV).length = (row2.map nV).length := by rw [List.length_map, List.length_map, lr1, lr2, h2.m]
          refine RZ.for_zipT lrr (fun k σ H' => ∃ y7, σ = [some (.ref a), some (.ref a'), some (.ref p), y3, some (.ref d), some (nV pr.1), some (nV pr.2), y7] ∧ Same H4 H' ∧ ∀ k', k' < k → step2 t t' pr k' ∈ rows)
            ⟨_, rfl, fun _ _ h => h, fun k' h => by omega⟩ (fun k σ H' h => ?_) (fun k x y TT σ H5 hx hy h nT => ?_) (fun σ H5 h => ?_)
          · obtain ⟨_, _, S, _⟩ := h
            exact ⟨SqT.of (S _ _ n1), SqT.of (S _ _ n2)⟩
          · obtain ⟨z7, rfl, S5, hks⟩ := h
            rw [List.getElem?_map] at hx hy
            obtain ⟨x', hx', rfl⟩ := Option.map_eq_some_iff.mp hx
            obtain ⟨y', hy', rfl⟩ := Option.map_eq_some_iff.mp hy
            have f1 := Tab.step_of hr1 hx'
            have f2 := Tab.step_of hr2 hy'
            have hd5 := S5 _ _ hd4
            refine ⟨_, rfl, _, rfl, d, _, rfl, DGet.t (k := keyP (x', y')) (by rw [upd_ne (ne_of_none hd5 nT)]; exact hd5) upd_same, _, rfl, ?_⟩
            have S6 : Same H4 (upd H5 TT (.tup [nV x', nV y'])) := S5.trans (same_upd nT)
            generalize upd H5 TT (.tup [nV x', nV y']) = H6 at S6 ⊢
            have est : step2 t t' pr k = (x', y') := by
              unfold step2
              rw [f1, f2]
            have hkm : k < t.m := by
              rw [← lr1]
              exact lt_of_get hx'
            cases hin : (valV kvs (keyP (x', y'))).isSome with
            | false => exact iteT (q H6 false (S4.trans S6) ⟨fun z => (nomatch z), fun z => by
                have := (hk2 (x', y')).mpr (by rw [← est]; exact z.go pr (List.mem_of_getElem? hpr) k hkm)
                rw [hin] at this
                cases this⟩)
            | true =>
              refine iteF ⟨_, rfl, S6, fun k' h => ?_⟩
              by_cases e : k' = k
              · subst e
                rw [est]
                exact (hk2 _).mp hin
              · exact hks k' (by omega)
          · obtain ⟨z7, rfl, S5, hks⟩ := h
            refine ⟨_, _, _, _, rfl, S4.trans S5, S5 _ _ hd4, fun j pr' hj hpr' k' hk' => ?_⟩
            by_cases e : j = i
            · subst e
              rw [hpr] at hpr'
              cases hpr'
              exact hks k' (by rw [List.length_map, lr1]; exact hk')
            · exact hgo j pr' (by omega) hpr' k' hk'
        · obtain ⟨y3, y5, y6, y7, rfl, S4, hd4, hgo⟩ := h
          refine q H4 true S4 ⟨fun _ => ⟨(hk2 (0, 0)).mp h00, fun pr h => ok pr h, fun pr h k hk => ?_⟩, fun _ => rfl⟩
          obtain ⟨j, hj⟩ := List.mem_iff_getElem?.mp h
          exact hgo j pr (by rw [lenm]; exact lt_of_get hj) hj k hk
end
end K64
set_option autoImplicit true
set_option Elab.async false
set_option linter.all false
set_option maxRecDepth 100000
set_option maxHeartbeats 4000000
namespace K64
open PySem PySem.Spec PyProof.Rows L2
/-! ### comprehensions over a text -/
theorem lc_str {x : Str} {g : TG} {tt : TT} {te : TE} {vs : List Nat} {σ : L2.St} {H1 : Hp} {D : Addr} {Qd : Hp → Prop} (Pv : Nat → Hp → Prop) (h0 : Pv 0 (upd H1 D (.lst [])))
    (hs : ∀ i c H, x.cps[i]? = some c → Pv i H → g (.str ⟨#[c]⟩) (wipe σ vs) H fun σ2 H2 => wipe σ2 vs = wipe σ vs ∧ tt σ2 H2 fun b H3 =>
      if b = true then te σ2 H3 fun y H4 => ∃ acc, H4 D = some (.lst acc) ∧ acc.length < sizeLine ∧ Pv (i + 1) (upd H4 D (.lst (acc ++ [y]))) else Pv (i + 1) H3) (hd : ∀ H, Pv x.cps.size H → Qd H) :
    ∃ W : Nat → Nat → Hp → Prop, (∃ m, W 0 m (upd H1 D (.lst []))) ∧ ∀ i m H, W i m H →
      ((Its x).stop i H ∧ Qd H) ∨ ((Its x).go i H ∧ ∃ Nx : Hp → Prop, (∀ H', Nx H' → ∃ m', m' < m ∧ W (i + 1) m' H') ∧ ∀ y H', (Its x).yld i H y H' → g y (wipe σ vs) H' fun σ2 H2 => wipe σ2 vs = wipe σ vs ∧ tt σ2 H2 fun b H3 =>
        if b = true then te σ2 H3 fun y H4 => ∃ acc, H4 D = some (.lst acc) ∧ acc.length < sizeLine ∧ Nx (upd H4 D (.lst (acc ++ [y]))) else Nx H3) := by
  refine ⟨fun i m H => m = x.cps.size - i ∧ i ≤ x.cps.size ∧ Pv i H, ⟨x.cps.size, rfl, Nat.zero_le _, h0⟩, ?_⟩
  rintro i m H ⟨rfl, hi, p⟩
  by_cases hlt : i < x.cps.size
  · refine .inr ⟨hlt, Pv (i + 1), fun H' p' => ⟨x.cps.size - (i + 1), by omega, rfl, hlt, p'⟩, fun y H' z => ?_⟩
    obtain ⟨rfl, c, hc, rfl⟩ := z
    exact hs i c H' hc p
  · have e : i = x.cps.size := by omega
    subst e
    exact .inl ⟨Nat.le_refl _, hd H p⟩
theorem Tg.word (G : Tg T m) {w : List Nat} (hw : Ok m w) {j c : Nat} (h : (tx T w).cps[j]? = some c) : ∃ i, w[j]? = some i ∧ i < m ∧ c = T.cps.toList.getD i 0 ∧ (⟨#[c]⟩ : Str) = tx T [i] := by
  obtain ⟨i, h1, h2⟩ := tx_getA h
  exact ⟨i, h1, hw i (List.mem_of_getElem? h1), h2, by rw [tx_one, h2]⟩
/-! ### cuts as data -/
def pieceD (x : Int × Nat × Nat) : PyData := .tuple [.int x.1, .int x.2.1, .int x.2.2]
def cutD (y : List (Int × Nat × Nat) × Nat) : PyData := .tuple [.list (y.1.map pieceD), .int y.2]
theorem eqvAll_map {α : Type} (f : α → PyData) (h : ∀ a b, PyData.eqv (f a) (f b) = true ↔ a = b) : ∀ l l' : List α, PyData.eqvAll (l.map f) (l'.map f) = true ↔ l = l'
  | [], [] => by simp [PyData.eqvAll]
  | [], _ :: _ => by simp [PyData.eqvAll]
  | _ :: _, [] => by simp [PyData.eqvAll]
  | a :: l, b :: l' => by simp [PyData.eqvAll, h a b, eqvAll_map f h l l']
theorem piece_eq (a b : Int × Nat × Nat) : PyData.eqv (pieceD a) (pieceD b) = true ↔ a = b := by
  obtain ⟨a1, a2, a3⟩ := a
  obtain ⟨b1, b2, b3⟩ := b
  simp only [pieceD, PyData.eqv, PyData.eqvAll, Bool.and_true, Bool.and_eq_true, beq_iff_eq, Prod.mk.injEq]
  omega
theorem cut_eq (a b : List (Int × Nat × Nat) × Nat) : PyData.eqv (cutD a) (cutD b) = true ↔ a = b := by
  obtain ⟨a1, a2⟩ := a
  obtain ⟨b1, b2⟩ := b
  simp only [cutD, PyData.eqv, PyData.eqvAll, Bool.and_true, Bool.and_eq_true, beq_iff_eq, Prod.mk.injEq, eqvAll_map pieceD piece_eq, Int.natCast_inj]
theorem canLay_map {α : Type} (f : α → PyData) (h : ∀ a, (f a).canLay0 = true) : ∀ l : List α, PyData.canLayAll0 (l.map f) = true
  | [] => by simp only [List.map_nil, PyData.canLayAll0]
  | a :: l => by simp only [List.map_cons, PyData.canLayAll0, h a, canLay_map f h l, Bool.and_self]
theorem depth_map {α : Type} (f : α → PyData) {k : Nat} (h : ∀ a, (f a).depth ≤ k) : ∀ l : List α, PyData.depthAll (l.map f) ≤ k
  | [] => by simp only [List.map_nil, PyData.depthAll]; exact Nat.zero_le _
  | a :: l => by
    have h1 := h a
    have h2 := depth_map f h l
    simp only [List.map_cons, PyData.depthAll]
    omega
theorem piece_shaped (a : Int × Nat × Nat) : (pieceD a).canLay0 = true ∧ (pieceD a).depth ≤ 1 := by
  constructor
  · simp [pieceD, PyData.canLay0, PyData.canLayAll0]
  · simp [pieceD, PyData.depth, PyData.depthAll]
theorem cut_shaped (a : List (Int × Nat × Nat) × Nat) : SeqAt.shaped (cutD a) = true := by
  unfold SeqAt.shaped
  have h1 := canLay_map pieceD (fun x => (piece_shaped x).1) a.1
  have h2 := depth_map pieceD (fun x => (piece_shaped x).2) a.1
  rw [Bool.and_eq_true, decide_eq_true_iff]
  constructor
  · simp only [cutD, PyData.canLay0, PyData.canLayAll0, h1, Bool.and_self]
  · simp only [cutD, PyData.depth, PyData.depthAll]
    omega
/-- a cut in the heap -/
def PiecesAt (H : Hp) (qs : List Addr) (ps : List (Int × Nat × Nat)) : Prop := Paired (fun (q : Addr) (x : Int × Nat × Nat) => H q = some (.tup [.int x.1, nV x.2.1, nV x.2.2])) qs ps
def CutAt (H : Hp) (v : V) (y : List (Int × Nat × Nat) × Nat) : Prop := ∃ p l qs, v = .ref p ∧ H p = some (.tup [.ref l, nV y.2]) ∧ H l = some (.lst (qs.map V.ref)) ∧ PiecesAt H qs y.1
theorem CutAt.mono {H H' : Hp} {v : V} {y : List (Int × Nat × Nat) × Nat} (h : CutAt H v y) (s : Same H H') : CutAt H' v y :=
  let ⟨p, l, qs, e, h1, h2, h3⟩ := h
  ⟨p, l, qs, e, s _ _ h1, s _ _ h2, Paired.mapP h3 fun _ _ e => s _ _ e⟩
theorem pieces_dp {K : PySem.W.Frag} {H : Hp} : ∀ {qs : List Addr} {ps : List (Int × Nat × Nat)}, PiecesAt H qs ps → DpAll K H (qs.map V.ref) (ps.map pieceD)
  | _, _, .nil => .nil
  | _, _, .cons h1 h2 => .cons (.tup (SqT.of h1) (.cons (.int _) (.cons (.int _) (.cons (.int _) .nil)))) (pieces_dp h2)
theorem CutAt.dp {K : PySem.W.Frag} {H : Hp} {v : V} {y : List (Int × Nat × Nat) × Nat} (h : CutAt H v y) : Dp K H v (cutD y) := by
  obtain ⟨p, l, qs, rfl, h1, h2, h3⟩ := h
  exact .tup (SqT.of h1) (.cons (.lst (SqL.of h2) (pieces_dp h3)) (.cons (.int _) .nil))
section
variable {P : Program} {w : World} {K : PySem.W.Frag} {mg : Str → Option Value} {base : Heap}
/-! ### is_text, ahead -/
def spIsText : Sp := fun vs H Q _ => ∃ (T : Str) (m : Nat) (u : List Nat), vs = [.str T, .str (tx T u)] ∧ Tg T m ∧ Ok m u ∧ u.length ≤ 2000 ∧ ∀ H', Same H H' → Q (.bl true) H'
theorem d_is_text (F : At K mg "is_text" s_is_text ["tongue", "thing"]) (B : Gb mg) : Df P w K mg base 1 "is_text" spIsText := by
  refine F.df sc_is_text (fun vs H Q E h => ?_) (fun f cdv A outer s H vs Q E hr h => ?_)
  · obtain ⟨T, m, u, rfl, _⟩ := h
    rfl
  have nd := sc_is_text.nd
  obtain ⟨T, m, u, rfl, G, hu, hl, q⟩ := h
  refine ⟨_, pss_one (ps_ret (pe_and (pe_callB call_isi (by rfl) B.isinstance b_isinstance (pa_cons (pv 1) (pa_cons (pe_bltn (v := .ty "str") (by rfl) B.str b_str rfl) pa_nil)))
    (pe_one (pe_callB (cr_all rfl) (by rfl) B.all b_all (pa_cons (pe_lc (own := [("sign", 2)]) (g := gName 2) (tt := tYes) rfl nd (pi_str (pv 1)) (blkOk_by (N := ["tongue", "thing", "sign"]) (sc := defScope s_is_text) (by decide +kernel))
        (fun _ _ _ _ _ => pg_name (i := 2) nd rfl (Or.inl rfl)) (fun _ _ _ _ _ => pts_nil) (fun _ _ _ _ _ => pe_cmpR op_in_sign (pv 2) (pv 0) rfl)) pa_nil))))), ?_⟩
  refine ⟨_, rfl, .str (tx T u), .ty "str", _, _, true, rfl, .ty _, .base (.str _), kit_ty (by decide +kernel), true, rfl, iteT ⟨_, rfl, tx T u, rfl, fun D nD => ?_⟩⟩
  refine lc_str (fun i H' => Same H H' ∧ ∃ cs : List Bool, H' D = some (.lst (cs.map V.bl)) ∧ cs.length = i ∧ cs.all id = true) ⟨same_upd nD, [], upd_same, rfl, rfl⟩ (fun i c H1 hc h => ?_) (fun H1 h => ?_)
  · obtain ⟨S1, cs, hD, el, ha⟩ := h
    obtain ⟨j, hj, hjm, ec, _⟩ := G.word hu hc
    refine ⟨rfl, ?_⟩
    refine tYes_if ?_
    refine ⟨_, rfl, _, rfl, c, T, rfl, rfl, _, hD, ?_, fun x o e => ?_, cs ++ [true], ?_, ?_, ?_⟩
    · rw [List.length_map, el]
      have := lt_of_get hj
      exact sizeLine_big (by omega)
    · rw [upd_ne (ne_of_none e nD)]
      exact S1 x o e
    · rw [upd_same, List.map_append, ec, decide_eq_true (G.mem hjm)]
      rfl
    · rw [List.length_append, el]
      rfl
    · rw [List.all_append, ha]
      rfl
  · obtain ⟨S1, cs, hD, el, ha⟩ := h
    refine ⟨D, cs, rfl, SqL.of hD, ?_⟩
    rw [ha]
    exact q H1 S1
def spAhead : Sp := fun vs H Q _ => ∃ (T : Str) (m : Nat) (u v : List Nat), vs = [.str T, .str (tx T u), .str (tx T v)] ∧ Tg T m ∧ Ok m u ∧ Ok m v ∧ u.length ≤ 2000 ∧ v.length ≤ 2000 ∧ ∀ (H' : Hp) (b : Bool), Same H H' → (b = true → num m u < num m v) → Q (.bl b) H'
theorem d_ahead (F : At K mg "ahead" s_ahead ["tongue", "one", "other"]) (B : Gb mg) : Df P w K mg base 1 "ahead" spAhead := by
  refine F.df sc_ahead (fun vs H Q E h => ?_) (fun f cdv A outer s H vs Q E hr h => ?_)
  · obtain ⟨T, m, u, v, rfl, _⟩ := h
    rfl
  have nd := sc_ahead.nd
  obtain ⟨T, m, u, v, rfl, G, hu, hv, lu, lv, q⟩ := h
  have zu : (tx T u).length ≤ sizeLine := by rw [tx_length]; exact Nat.le_of_lt (sizeLine_big (by omega))
  have zv : (tx T v).length ≤ sizeLine := by rw [tx_length]; exact Nat.le_of_lt (sizeLine_big (by omega))
  refine ⟨_, pss_cons (ps_if (pt_cmpR op_ne (pe_callB call_len_str (by rfl) B.len b_len (pa_cons (pv 1) pa_nil)) (pe_callB call_len_str (by rfl) B.len b_len (pa_cons (pv 2) pa_nil)) (nomark _))
      (pss_one (ps_ret (pe_cmpR op_lt (pe_callB call_len_str (by rfl) B.len b_len (pa_cons (pv 1) pa_nil)) (pe_callB call_len_str (by rfl) B.len b_len (pa_cons (pv 2) pa_nil)) (nomark _)))) pss_nil)
    (pss_cons (ps_for PassesOwn.never rfl (pi_zipS (by rfl) B.zip (pa_cons (pv 1) (pa_cons (pv 2) pa_nil))) (pg_tup rfl (pgs_cons (pg_name (i := 3) nd rfl (.inl rfl)) (pgs_cons (pg_name (i := 4) nd rfl (.inl rfl)) pgs_nil)))
      (pss_one (ps_if (pt_cmpR op_ne (pv 3) (pv 4) (nomark _)) (pss_one (ps_ret (pe_cmpR op_lt (pe_bm PySem.F.plainAttrs_str PySem.F.slot_str_find PySem.F.type_str_find mt_find (pv 0) (pa_cons (pv 3) pa_nil))
        (pe_bm PySem.F.plainAttrs_str PySem.F.slot_str_find PySem.F.type_str_find mt_find (pv 0) (pa_cons (pv 4) pa_nil)) (nomark _)))) pss_nil)))
    (pss_one (ps_ret pe_bl))), ?_⟩
  refine ⟨_, rfl, tx T u, rfl, zu, _, rfl, tx T v, rfl, zv, rfl, _, rfl, ?_⟩
  rw [tx_length, tx_length]
  by_cases el : u.length = v.length
  · rw [el, decide_eq_true rfl]
    refine iteF ?_
    refine ⟨_, rfl, _, rfl, tx T u, tx T v, rfl, for_new (fun i σ H' => ∃ y3 y4, σ = [some (.str T), some (.str (tx T u)), some (.str (tx T v)), y3, y4] ∧ Same H H' ∧ u.take i = v.take i)
      ⟨_, _, rfl, fun _ _ h => h, rfl⟩ (fun i TT xs σ H1 hi hx h nT => ?_) (fun σ H1 h => ?_)⟩
    · obtain ⟨c, d, hc, hd, rfl⟩ := hx
      obtain ⟨y3, y4, rfl, S1, ht⟩ := h
      obtain ⟨a, ha, ham, ec, etc⟩ := G.word hu hc
      obtain ⟨b, hb, hbm, ed, etd⟩ := G.word hv hd
      rw [etc, etd]
      refine ⟨TT, _, rfl, SqT.of upd_same, rfl, _, _, rfl, _, _, rfl, rfl, ?_⟩
      have S2 : Same H (upd H1 TT (.tup [.str (tx T [a]), .str (tx T [b])])) := S1.trans (same_upd nT)
      generalize upd H1 TT (.tup [.str (tx T [a]), .str (tx T [b])]) = H2 at S2 ⊢
      refine ⟨_, rfl, _, rfl, rfl, _, rfl, ?_⟩
      by_cases e : a = b
      · subst e
        rw [decide_eq_true rfl]
        refine iteF ⟨_, _, rfl, S2, ?_⟩
        obtain ⟨l1, e1⟩ := List.getElem?_eq_some_iff.mp ha
        obtain ⟨l2, e2⟩ := List.getElem?_eq_some_iff.mp hb
        rw [List.take_succ_eq_append_getElem l1, List.take_succ_eq_append_getElem l2, ht, e1, e2]
      · rw [decide_eq_false (fun z => e (by
          have := G.tx_inj (u := [a]) (v := [b]) (fun j hj => by rw [List.mem_singleton.mp hj]; exact ham) (fun j hj => by rw [List.mem_singleton.mp hj]; exact hbm) (V.str.inj z)
          simpa using this))]
        refine iteT ⟨_, rfl, rfl, _, rfl, _, _, rfl, rfl, _, rfl, rfl, _, rfl, _, _, rfl, rfl, ?_⟩
        rw [G.find ham, G.find hbm]
        refine ⟨_, _, rfl, rfl, q H2 _ S2 fun z => ?_⟩
        have := of_decide_eq_true z
        exact num_lt_first el hu ha hb ht (by omega)
    · obtain ⟨y3, y4, rfl, S1, _⟩ := h
      exact q H1 false S1 fun z => nomatch z
  · rw [decide_eq_false (fun z => el (by have := V.int.inj z; omega))]
    refine iteT ⟨_, rfl, tx T u, rfl, zu, _, rfl, tx T v, rfl, zv, _, _, rfl, rfl, ?_⟩
    rw [tx_length, tx_length]
    refine q H _ (fun _ _ h => h) fun z => ?_
    have := of_decide_eq_true z
    exact num_lt_of_length _ _ _ rfl (by omega) hu
/-! ### longest, cut -/
def FoundV (H : Hp) (f : V) : Option (Int × Nat) → Prop
  | none => f = .non
  | some (k, e) => ∃ q, f = .ref q ∧ H q = some (.tup [.int k, nV e])
theorem FoundV.mono {H H' : Hp} {f : V} (s : Same H H') : ∀ {o : Option (Int × Nat)}, FoundV H f o → FoundV H' f o
  | none, h => h
  | some (_, _), ⟨q, e, h⟩ => ⟨q, e, s _ _ h⟩
theorem take_one {α : Type} {l : List α} {a i : Nat} {x : α} (h : l[a + i]? = some x) : (l.drop a).take (i + 1) = (l.drop a).take i ++ [x] := by
  have h' : (l.drop a)[i]? = some x := by rw [List.getElem?_drop]; exact h
  obtain ⟨l1, e1⟩ := List.getElem?_eq_some_iff.mp h'
  rw [List.take_succ_eq_append_getElem l1, e1]
def spLongest : Sp := fun vs H Q _ => ∃ (v : V) (T : Str) (t : Tab) (u : List Nat) (a : Nat), vs = [v, .str (tx T u), nV a] ∧ TabV H v T t ∧ t.Wf ∧ Tg T t.m ∧ Ok t.m u ∧ a ≤ u.length ∧ u.length ≤ 2000 ∧
  ∀ (H' : Hp) (f : V), Same H H' → FoundV H' f (longestM t.kap u a (u.length - a)) → Q f H'
theorem d_longest (F : At K mg "longest" s_longest ["table", "text", "at"]) (B : Gb mg) : Df P w K mg base 1 "longest" spLongest := by
  refine F.df sc_longest (fun vs H Q E h => ?_) (fun f cdv A outer s H vs Q E hr h => ?_)
  · obtain ⟨v, T, t, u, a, rfl, _⟩ := h
    rfl
  have nd := sc_longest.nd
  obtain ⟨v, T, t, u, a, rfl, ⟨ad, g, k, rs, rfl, ha⟩, W, G, hu, hau, lu, q⟩ := h
  have zu : (tx T u).length ≤ sizeLine := by rw [tx_length]; exact Nat.le_of_lt (sizeLine_big (by omega))
  refine ⟨_, pss_cons (ps_asg (pv 0) (pg_tup rfl (pgs_cons (pg_name (i := 3) nd rfl (.inl rfl)) (pgs_cons (pg_name (i := 4) nd rfl (.inl rfl)) (pgs_cons (pg_name (i := 5) nd rfl (.inl rfl)) pgs_nil)))))
    (pss_cons (ps_set (i := 6) nd rfl (.inl rfl) pe_int)
    (pss_cons (ps_set (i := 7) nd rfl (.inl rfl) pe_non)
    (pss_cons (ps_for PassesOwn.never rfl (pi_range2 (by rfl) B.range (pa_cons (pv 2) (pa_cons (pe_callB call_len_str (by rfl) B.len b_len (pa_cons (pv 1) pa_nil)) pa_nil))) (pg_name (i := 8) nd rfl (.inl rfl))
      (pss_cons (ps_set (i := 6) nd rfl (.inl rfl) (pe_ix ix_tup (pe_ix ix_tup (pv 4) (pv 6) (fun _ _ => rfl)) (pe_bm PySem.F.plainAttrs_str PySem.F.slot_str_find PySem.F.type_str_find mt_find (pv 3) (pa_cons (pe_ix ix_str (pv 1) (pv 8) (fun _ _ => rfl)) pa_nil)) (fun _ _ => rfl)))
      (pss_one (ps_if (pt_cmpR op_ge (pe_ix ix_tup (pv 5) (pv 6) (fun _ _ => rfl)) pe_int (nomark _))
        (pss_one (ps_set (i := 7) nd rfl (.inl rfl) (pe_tup (pa_cons (pe_ix ix_tup (pv 5) (pv 6) (fun _ _ => rfl)) (pa_cons (pe_op op_add (pv 8) pe_int) pa_nil))))) pss_nil))))
    (pss_one (ps_ret (pv 7)))))), ?_⟩
  refine ⟨_, rfl, ad, _, rfl, SqT.of ha.top, rfl, _, _, rfl, _, _, rfl, _, _, rfl, rfl, ?_⟩
  refine ⟨_, rfl, _, rfl, tx T u, rfl, zu, _, _, rfl, ⟨by omega, by omega, by omega, by rw [tx_length]; omega⟩, ?_⟩
  rw [tx_length, show ((u.length : Int) - (a : Int)).toNat = u.length - a by omega]
  refine for_range (fun i σ H' => ∃ r y7 y8, σ = [some (.ref ad), some (.str (tx T u)), some (nV a), some (.str T), some (.ref g), some (.ref k), some (nV r), some y7, y8] ∧ r = run t.step 0 ((u.drop a).take i) ∧ Same H H' ∧ FoundV H' y7 (longestM t.kap u a i))
    ⟨0, _, _, rfl, rfl, fun _ _ h => h, rfl⟩ (fun i σ H1 hi h => ?_) (fun σ H1 h => ?_)
  · obtain ⟨r, y7, y8, rfl, er, S1, hf⟩ := h
    subst er
    obtain ⟨x, hx⟩ := get_of_lt (l := u) (j := a + i) (by omega)
    have hxm : x < t.m := hu x (List.mem_of_getElem? hx)
    have ok1 : Ok t.m ((u.drop a).take i) := (hu.drop a).take i
    have hr := W.run_lt _ 0 W.pos ok1
    have hA := ha.mono (same_tups S1)
    obtain ⟨p1, row1, q1, q2, q3, _⟩ := hA.step W hr hxm
    have est : run t.step 0 ((u.drop a).take (i + 1)) = t.step (run t.step 0 ((u.drop a).take i)) x := by rw [take_one hx, run_snoc]
    have hr2 := W.step_lt hr hxm
    refine ⟨_, rfl, _, rfl, g, _, _, _, rfl, rfl, SqT.of hA.goes, atI_nat q1, _, rfl, rfl, _, rfl, _, rfl, tx T u, _, _, rfl, rfl, zu, ?_, T, tx T [x], rfl, rfl, ?_⟩
    · have := atI_nat (tx_get (T := T) hx)
      rw [show ((a : Int) + (i : Int)) = ((a + i : Nat) : Int) by omega]
      exact this
    rw [G.find hxm]
    refine ⟨p1, _, _, _, rfl, rfl, SqT.of q2, atI_nat q3, ?_⟩
    refine ⟨_, rfl, _, rfl, k, _, _, _, rfl, rfl, SqT.of hA.kinds, atI_nat (hA.kind W hr2), _, _, rfl, rfl, _, rfl, ?_⟩
    have ek : t.kap ((u.drop a).take (i + 1)) = t.kind (t.step (run t.step 0 ((u.drop a).take i)) x) := by unfold Tab.kap; rw [est]
    refine ite2 (fun z => ?_) (fun z => ?_)
    · have z := of_decide_eq_true z
      refine ⟨_, rfl, _, rfl, k, _, _, _, rfl, rfl, SqT.of hA.kinds, atI_nat (hA.kind W hr2), _, rfl, _, _, rfl, rfl, by show 2 ≤ sizeLine; decide, fun tp ntp => ⟨_, _, _, rfl, est.symm, S1.trans (same_upd ntp), ?_⟩⟩
      unfold longestM
      rw [ek, if_pos z]
      refine ⟨tp, rfl, ?_⟩
      rw [upd_same]
      rfl
    · have z : ¬ (0 : Int) ≤ t.kind (t.step (run t.step 0 ((u.drop a).take i)) x) := fun h => z (decide_eq_true h)
      refine ⟨_, _, _, rfl, est.symm, S1, ?_⟩
      unfold longestM
      rw [ek, if_neg z]
      exact hf
  · obtain ⟨r, y7, y8, rfl, er, S1, hf⟩ := h
    exact ⟨_, rfl, q H1 y7 S1 hf⟩
theorem cutM_none {κ : List Nat → Int} {w : List Nat} {f a : Nat} (h : a < w.length) (hL : longestM κ w a (w.length - a) = none) : cutM κ w (f + 1) a = ([], a) := by
  rw [cutM, if_pos h, hL]
theorem cutM_some {κ : List Nat → Int} {w : List Nat} {f a e : Nat} {k : Int} (h : a < w.length) (hL : longestM κ w a (w.length - a) = some (k, e)) : cutM κ w (f + 1) a = ((k, a, e) :: (cutM κ w f e).1, (cutM κ w f e).2) := by
  rw [cutM, if_pos h, hL]
def spCut : Sp := fun vs H Q _ => ∃ (v : V) (T : Str) (t : Tab) (u : List Nat), vs = [v, .str (tx T u)] ∧ TabV H v T t ∧ t.Wf ∧ Tg T t.m ∧ Ok t.m u ∧ u.length ≤ 2000 ∧
  ∀ (H' : Hp) (r : V), Same H H' → CutAt H' r (cutM t.kap u u.length 0) → Q r H'
theorem d_cut (F : At K mg "cut" s_cut ["table", "text"]) (B : Gb mg) (DT : Df P w K mg base 1 "is_text" spIsText) (DL : Df P w K mg base 1 "longest" spLongest) : Df P w K mg base 2 "cut" spCut := by
  refine F.df sc_cut (fun vs H Q E h => ?_) (fun f cdv A outer s H vs Q E hr h => ?_)
  · obtain ⟨v, T, t, u, rfl, _⟩ := h
    rfl
  have nd := sc_cut.nd
  obtain ⟨v, T, t, u, rfl, hv, W, G, hu, lu, q⟩ := h
  obtain ⟨ad, g, k, rs, ev, ha⟩ := id hv
  subst ev
  have zu : (tx T u).length ≤ sizeLine := by rw [tx_length]; exact Nat.le_of_lt (sizeLine_big (by omega))
  refine ⟨_, pss_cons (ps_if (pt_not (pt_val (pe_d DT hr (by decide) (by rfl) (pa_cons (pe_ix ix_tup (pv 0) pe_int (fun _ _ => rfl)) (pa_cons (pv 1) pa_nil))))) pss_never pss_nil)
    (pss_cons (ps_set (i := 2) nd rfl (.inl rfl) (pe_lst pa_nil))
    (pss_cons (ps_set (i := 3) nd rfl (.inl rfl) pe_int)
    (pss_cons (ps_while PassesOwn.never (pt_cmpR op_lt (pv 3) (pe_callB call_len_str (by rfl) B.len b_len (pa_cons (pv 1) pa_nil)) (nomark _))
      (pss_cons (ps_set (i := 4) nd rfl (.inl rfl) (pe_d DL hr (by decide) (by rfl) (pa_cons (pv 0) (pa_cons (pv 1) (pa_cons (pv 3) pa_nil)))))
      (pss_cons (ps_if (pt_cmp (pc_isN (pv 4)) rfl) (pss_one (ps_ret (pe_tup (pa_cons (pv 2) (pa_cons (pv 3) pa_nil))))) pss_nil)
      (pss_cons (ps_expr (pe_bm PySem.F.plainAttrs_list PySem.F.slot_list_append PySem.F.type_list_append mt_append (pv 2) (pa_cons (pe_tup (pa_cons (pe_ix ix_tup (pv 4) pe_int (fun _ _ => rfl)) (pa_cons (pv 3) (pa_cons (pe_ix ix_tup (pv 4) pe_int (fun _ _ => rfl)) pa_nil)))) pa_nil)))
      (pss_one (ps_set (i := 3) nd rfl (.inl rfl) (pe_ix ix_tup (pv 4) pe_int (fun _ _ => rfl))))))))
    (pss_one (ps_ret (pe_tup (pa_cons (pv 2) (pa_cons (pv 3) pa_nil)))))))), ?_⟩
  refine ⟨_, rfl, ad, _, _, _, rfl, rfl, SqT.of ha.top, atI_nat (j := 0) rfl, _, rfl, T, t.m, u, rfl, G, hu, lu, fun H1 S1 => ⟨true, rfl, iteF ⟨Nat.zero_le _, fun l nl => ?_⟩⟩⟩
  have nl0 : H l = none := by
    cases e : H l with
    | none => rfl
    | some o =>
      have := S1 _ _ e
      rw [nl] at this
      cases this
  refine ⟨fun m σ H' => ∃ (a f : Nat) (ps : List (Int × Nat × Nat)) (qs : List Addr) (y4 : Option V), σ = [some (.ref ad), some (.str (tx T u)), some (.ref l), some (nV a), y4] ∧ Same H H' ∧ H' l = some (.lst (qs.map V.ref)) ∧ PiecesAt H' qs ps ∧ ps.length ≤ a ∧ a ≤ u.length ∧ u.length ≤ f + a ∧
    cutM t.kap u u.length 0 = (ps ++ (cutM t.kap u f a).1, (cutM t.kap u f a).2) ∧ m = u.length - a, ⟨_, 0, u.length, [], [], _, rfl, ?_, upd_same, .nil, Nat.le_refl _, Nat.zero_le _, Nat.le_refl _, rfl, rfl⟩, fun m σ H2 hW => ?_⟩
  · intro x o e
    rw [upd_ne (ne_of_none e nl0)]
    exact S1 x o e
  obtain ⟨a, fu, ps, qs, y4, rfl, S2, hl, hps, lps, lau, lfu, ec, rfl⟩ := hW
  have lqs : qs.length = ps.length := Paired.length hps
  refine ⟨_, rfl, _, rfl, tx T u, rfl, zu, _, _, rfl, rfl, _, rfl, ?_⟩
  rw [tx_length]
  refine ite2 (fun z => ?_) (fun z => ?_)
  · have hlt : a < u.length := by
      have := of_decide_eq_true z
      omega
    obtain ⟨f0, rfl⟩ : ∃ f0, fu = f0 + 1 := ⟨fu - 1, by omega⟩
    refine ⟨fun σ' H' => ∃ (a2 : Nat) (ps' : List (Int × Nat × Nat)) (qs' : List Addr) (y4 : Option V), σ' = [some (.ref ad), some (.str (tx T u)), some (.ref l), some (nV a2), y4] ∧ Same H H' ∧ H' l = some (.lst (qs'.map V.ref)) ∧ PiecesAt H' qs' ps' ∧ ps'.length ≤ a2 ∧ a2 ≤ u.length ∧ u.length ≤ f0 + a2 ∧ a < a2 ∧
      cutM t.kap u u.length 0 = (ps' ++ (cutM t.kap u f0 a2).1, (cutM t.kap u f0 a2).2), fun σ' H' hN => ?_, ?_⟩
    · obtain ⟨a2, ps', qs', y4, e, b1, b2, b3, b4, b5, b6, b7, b8⟩ := hN
      exact ⟨u.length - a2, by omega, a2, f0, ps', qs', y4, e, b1, b2, b3, b4, b5, b6, b8, rfl⟩
    refine ⟨_, rfl, _, rfl, _, rfl, .ref ad, T, t, u, a, rfl, hv.mono (same_tups S2), W, G, hu, lau, lu, fun H3 fv S3 hf => ?_⟩
    have hl3 := S3 _ _ hl
    have hps3 : PiecesAt H3 qs ps := Paired.mapP hps fun _ _ e => S3 _ _ e
    have S4 := S2.trans S3
    cases hL : longestM t.kap u a (u.length - a) with
    | none =>
      rw [hL] at hf
      rw [cutM_none hlt hL] at ec
      have hf : fv = .non := hf
      subst hf
      refine ⟨_, rfl, true, rfl, iteT ⟨_, rfl, _, rfl, by show 2 ≤ sizeLine; decide, fun p np => q _ _ (S4.trans (same_upd np)) ?_⟩⟩
      rw [ec]
      refine ⟨p, l, qs, rfl, upd_same, ?_, ?_⟩
      · rw [upd_ne (ne_of_none hl3 np)]
        exact hl3
      · rw [List.append_nil]
        exact Paired.mapP hps3 fun _ _ e => by
          rw [upd_ne (ne_of_none e np)]
          exact e
    | some ke =>
      obtain ⟨kd, e2⟩ := ke
      rw [hL] at hf
      rw [cutM_some hlt hL] at ec
      obtain ⟨fq, rfl, hfq⟩ := hf
      have le := longestM_end hL
      refine ⟨_, rfl, false, rfl, iteF ?_⟩
      refine ⟨_, rfl, .inl ⟨rfl, _, .inl (.inl hl3)⟩, _, rfl, fq, _, _, _, rfl, rfl, SqT.of hfq, atI_nat (j := 0) rfl, _, rfl, _, rfl, fq, _, _, _, rfl, rfl, SqT.of hfq, atI_nat (j := 1) rfl, by show 3 ≤ sizeLine; decide, fun p np => ?_⟩
      have hl4 : (upd H3 p (.tup [.int kd, nV a, nV e2])) l = some (.lst (qs.map V.ref)) := by rw [upd_ne (ne_of_none hl3 np)]; exact hl3
      have hp4 : (upd H3 p (.tup [.int kd, nV a, nV e2])) p = some (.tup [.int kd, nV a, nV e2]) := upd_same
      have hfq4 : (upd H3 p (.tup [.int kd, nV a, nV e2])) fq = some (.tup [.int kd, nV e2]) := by rw [upd_ne (ne_of_none hfq np)]; exact hfq
      have S5 : Same H (upd H3 p (.tup [.int kd, nV a, nV e2])) := S4.trans (same_upd np)
      have hps4 : PiecesAt (upd H3 p (.tup [.int kd, nV a, nV e2])) qs ps := Paired.mapP hps3 fun _ _ e => by
        rw [upd_ne (ne_of_none e np)]
        exact e
      generalize upd H3 p (.tup [.int kd, nV a, nV e2]) = H4 at hl4 hp4 hfq4 S5 hps4 ⊢
      have npl : p ≠ l := ne_of hp4 hl4 (fun z => nomatch z)
      have nfl : fq ≠ l := ne_of hfq4 hl4 (fun z => nomatch z)
      refine ⟨l, _, _, rfl, rfl, hl4, ?_, ?_⟩
      · rw [List.length_map, lqs]
        exact sizeLine_big (by omega)
      refine ⟨_, rfl, fq, _, _, _, rfl, rfl, SqT.of (show _ = some (HO.tup [.int kd, nV e2]) by rw [upd_ne nfl]; exact hfq4), atI_nat (j := 1) rfl, ?_⟩
      refine ⟨e2, ps ++ [(kd, a, e2)], qs ++ [p], _, rfl, fun x o e => ?_, ?_, ?_, ?_, by omega, by omega, by omega, ?_⟩
      · rw [upd_ne (ne_of_none e nl0)]
        exact S5 x o e
      · rw [upd_same, List.map_append]
        rfl
      · refine Paired.snoc (Paired.mapP hps4 fun _ _ e => ?_) ?_
        · rw [upd_ne (ne_of e hl4 (fun z => nomatch z))]
          exact e
        · rw [upd_ne npl]
          exact hp4
      · rw [List.length_append, List.length_singleton]
        omega
      · rw [ec, List.append_assoc]
        rfl
  · have hge : u.length ≤ a := Nat.le_of_not_lt fun h => z (decide_eq_true (by omega))
    refine ⟨_, rfl, _, rfl, by show 2 ≤ sizeLine; decide, fun p np => q _ _ (S2.trans (same_upd np)) ?_⟩
    rw [ec, cutM_past hge]
    refine ⟨p, l, qs, rfl, upd_same, ?_, ?_⟩
    · rw [upd_ne (ne_of_none hl np)]
      exact hl
    · rw [List.append_nil]
      exact Paired.mapP hps fun _ _ e => by
        rw [upd_ne (ne_of_none e np)]
        exact e
end
end K64
set_option autoImplicit true
set_option Elab.async false
set_option linter.all false
set_option maxRecDepth 100000
set_option maxHeartbeats 4000000
namespace K64
open PySem PySem.Spec PyProof.Rows L2
/-! ### len of a dict with tuple keys -/
theorem call_lenDT {X : Cx} : CallR X (.builtin "len") (fun xs H Q => ∃ a kvs, xs = [V.ref a] ∧ H a = some (.dT kvs) ∧ Q (.int kvs.length) H) := by
  intro pins s σ H xs us Q I r h
  obtain ⟨a, kvs, rfl, ha, q⟩ := h
  obtain ⟨u, rfl, ru⟩ := vals1 r
  cases ru
  obtain ⟨z, hd, ys, rel, dd⟩ := dt_of I.hok ha
  obtain ⟨es, ep, raw, hs, _⟩ := dd.raw
  have l1 : kvs.length = ys.length := Paired.length rel
  have zl := sizeLine_eq
  refine Calls.call_function_entry kind_len plain_len entry_len (args_len1 _) ?_
  unfold Builtin.«len»
  refine wpAny_bind (m := oneArg "len" _) (wpAny_pure ?_)
  refine wpAny_bind (m := callSpecial? (.ref a) (Str.ofString "__len__")) (wpAny_callSpecial?_slot (name := Str.ofString "__len__") raw.typeIs F.slot_dict_len
    (call_meetsIn F.slot_dict_len raw.typeIs F.entry_dict_len (F.args_dict_len_1 _) (meets_dict_len_raw a hd) ⟨es, ep, raw, ?_⟩))
  show wpAny _ _ _ _ _ { s with toks := s.toks + 1 }
  refine wpAny_bind (wpAny_holding (wpAny_pure ?_))
  refine wpAny_bind (wpAny_letGo ?_)
  show wpAny _ _ (if ((es.size : Nat) : Int) < 0 then _ else _) _ _ _
  rw [if_neg (by omega)]
  show wpAny _ _ (if ((es.size : Nat) : Int) ≥ 2 ^ 63 then _ else _) _ _ _
  rw [if_neg (by omega)]
  refine wpAny_bind (wpAny_mkInt (wpAny_pure ⟨_, rfl, ?_⟩))
  rw [hs, ← l1]
  exact ⟨.int kvs.length, H, I.tok _, ⟨_, rfl⟩, q⟩
/-! ### heaps, in short -/
theorem same_put {H H1 : Hp} {l : Addr} {o : HO} (s : Same H H1) (n : H l = none) : Same H (upd H1 l o) := fun x u e => by
  rw [upd_ne (ne_of_none e n)]
  exact s x u e
theorem none_of {H H1 : Hp} {p : Addr} (s : Same H H1) (n : H1 p = none) : H p = none := by
  cases e : H p with
  | none => rfl
  | some o =>
    have := s _ _ e
    rw [n] at this
    cases this
theorem keep_new {H : Hp} {p q : Addr} {o u : HO} (h : H q = some u) (n : H p = none) : upd H p o q = some u := by
  rw [upd_ne (ne_of_none h n)]
  exact h
theorem nv_at {l : List Nat} {p : Nat} (h : p < l.length) : (l.map nV)[p]? = some (nV (l.getD p 0)) := by
  rw [List.getElem?_map, get_getD h]
  rfl
/-! ### numbers of keys in a dict -/
def kvsN {κ α : Type} (f : α → κ) (D : List α) : List (κ × V) := D.zipIdx.map fun p => (f p.1, nV p.2)
theorem kvsN_length {κ α : Type} (f : α → κ) (D : List α) : (kvsN f D).length = D.length := by
  unfold kvsN
  rw [List.length_map, List.length_zipIdx]
theorem valN_none {κ α : Type} [DecidableEq κ] {f : α → κ} (hf : ∀ a b, f a = f b → a = b) {D : List α} {a : α} (h : a ∉ D) : valV (kvsN f D) (f a) = none :=
  valV_no (fun p : α × Nat => f p.1) (fun p => nV p.2) fun p hp e => h (by
    have := hf _ _ e
    rw [← this]
    exact List.fst_mem_of_mem_zipIdx hp)
theorem valN_some {κ α : Type} [DecidableEq κ] {f : α → κ} (hf : ∀ a b, f a = f b → a = b) {D : List α} (hn : D.Nodup) {c : Nat} {a : α} (h : D[c]? = some a) : valV (kvsN f D) (f a) = some (nV c) := by
  have hz : D.zipIdx[c]? = some (a, c) := by rw [List.getElem?_zipIdx, h]; simp
  refine valV_at (fun p : α × Nat => f p.1) (fun p => nV p.2) hz fun i q hi hq e => ?_
  have e := hf _ _ e
  rw [List.getElem?_zipIdx] at hq
  obtain ⟨b, hb, eb⟩ := Option.map_eq_some_iff.mp hq
  have e2 : b = a := by
    rw [← eb] at e
    exact e
  rw [e2] at hb
  obtain ⟨l1, g1⟩ := List.getElem?_eq_some_iff.mp hb
  obtain ⟨l2, g2⟩ := List.getElem?_eq_some_iff.mp h
  exact List.pairwise_iff_getElem.mp hn i c l1 l2 hi (g1.trans g2.symm)
theorem kvsN_snoc {κ α : Type} [DecidableEq κ] {f : α → κ} (hf : ∀ a b, f a = f b → a = b) {D : List α} {a : α} (h : a ∉ D) : putK (kvsN f D) (f a) (nV D.length) = kvsN f (D ++ [a]) := by
  rw [putK_new _ (valN_none hf h)]
  unfold kvsN
  rw [List.zipIdx_append, List.map_append]
  simp
def keyI (i : Int) : Key := .inl i
theorem keyI_inj (a b : Int) (h : keyI a = keyI b) : a = b := by
  unfold keyI at h
  exact Sum.inl.inj h
def keyL (l : List Nat) : List Key := l.map fun (n : Nat) => (Sum.inl (n : Int) : Key)
theorem keyL_inj : ∀ (a b : List Nat), keyL a = keyL b → a = b
  | [], [], _ => rfl
  | [], _ :: _, h => by simp [keyL] at h
  | _ :: _, [], h => by simp [keyL] at h
  | a :: l, b :: m, h => by
    unfold keyL at h
    rw [List.map_cons, List.map_cons, List.cons.injEq, Sum.inl.injEq] at h
    have e1 : a = b := by omega
    rw [e1, keyL_inj l m h.2]
theorem keyL_vals (l : List Nat) : (keyL l).map kV = l.map nV := by
  unfold keyL
  rw [List.map_map]
  rfl
section
variable {P : Program} {w : World} {K : PySem.W.Frag} {mg : Str → Option Value} {base : Heap}
/-! ### numbered -/
def spNumbered : Sp := fun vs H Q _ => ∃ l : Addr, vs = [.ref l] ∧
  ((∃ ks : List Int, H l = some (.lst (ks.map V.int)) ∧ ks.length ≤ 64 ∧ ∀ (H' : Hp) (r : Addr) (told : List Nat), Same H H' → H' r = some (.lst (told.map nV)) → Numb ks told → Q (.ref r) H') ∨
   ∃ (ks : List (List Nat)) (bs : List Addr), H l = some (.lst (bs.map V.ref)) ∧ Paired (fun (b : Addr) (k : List Nat) => H b = some (.tup (k.map nV))) bs ks ∧ ks.length ≤ 64 ∧
     ∀ (H' : Hp) (r : Addr) (told : List Nat), Same H H' → H' r = some (.lst (told.map nV)) → Numb ks told → Q (.ref r) H')
theorem d_numbered (F : At K mg "numbered" s_numbered ["keys"]) (B : Gb mg) : Df P w K mg base 1 "numbered" spNumbered := by
  refine F.df sc_numbered (fun vs H Q E h => ?_) (fun f cdv A outer s H vs Q E hr h => ?_)
  · obtain ⟨l, rfl, _⟩ := h
    rfl
  have nd := sc_numbered.nd
  have hu := hu_of hr
  obtain ⟨l, rfl, ⟨ks, hl, hn, q⟩ | ⟨ks, bs, hl, hbs, hn, q⟩⟩ := h
  · refine ⟨_, pss_cons (ps_set (i := 1) nd rfl (.inl rfl) pe_dnewK) (pss_cons (ps_set (i := 2) nd rfl (.inl rfl) (pe_lst pa_nil))
      (pss_cons (ps_for PassesOwn.never rfl (pi_list (pv 0)) (pg_name (i := 3) nd rfl (.inl rfl))
        (pss_cons (ps_if (pt_cmp (pc_dnotin hu (pv 3) (pv 1))) (pss_one (ps_dput hu (pv 1) (pv 3) (pe_callB call_lenD (by rfl) B.len b_len (pa_cons (pv 1) pa_nil)) rfl)) pss_nil)
        (pss_one (ps_expr (pe_bm PySem.F.plainAttrs_list PySem.F.slot_list_append PySem.F.type_list_append mt_append (pv 2) (pa_cons (pe_dget hu (pv 1) (pv 3) (fun _ _ => rfl)) pa_nil))))))
      (pss_one (ps_ret (pv 2))))), ?_⟩
    refine fun d nd0 => ⟨Nat.zero_le _, fun r nr => ?_⟩
    have nr0 : H r = none := none_of (same_upd nd0) nr
    have ndr : d ≠ r := fun e => by rw [← e, upd_same] at nr; cases nr
    have S0 : Same H (upd (upd H d (.dK [])) r (.lst [])) := same_put (same_upd nd0) nr0
    refine ⟨_, rfl, l, rfl, ⟨_, SqL.of (S0 _ _ hl)⟩, for_list (xs := ks.map V.int) (fun i σ H' => ∃ (D : List Int) (told : List Nat) (y : Option V), σ = [some (.ref l), some (.ref d), some (.ref r), y] ∧ Same H H' ∧ H' d = some (.dK (kvsN keyI D)) ∧ H' r = some (.lst (told.map nV)) ∧ NumbAt ks told D i)
      ⟨[], [], none, rfl, S0, by rw [upd_ne ndr, upd_same]; rfl, upd_same, NumbAt.init ks⟩ (fun i σ H' _ h => by obtain ⟨_, _, _, _, S, _⟩ := h; exact SqL.of (S _ _ hl)) (fun i x σ H1 hx h => ?_) (fun σ H1 h => ?_)⟩
    · obtain ⟨D, told, y, rfl, S1, hd, hr', N⟩ := h
      rw [List.getElem?_map] at hx
      obtain ⟨a, ha, rfl⟩ := Option.map_eq_some_iff.mp hx
      have hik : i < 64 := by have := lt_of_get ha; omega
      have lD := N.size
      have lt := N.len
      refine ⟨_, rfl, _, rfl, d, _, rfl, DGet.k (k := keyI a) hd, _, rfl, ?_⟩
      by_cases hin : a ∈ D
      · obtain ⟨c, hc⟩ := List.mem_iff_getElem?.mp hin
        rw [valN_some keyI_inj N.nodup hc]
        refine iteF ⟨_, rfl, .inl ⟨rfl, _, .inl (.inl hr')⟩, _, rfl, _, rfl, d, nV c, rfl, (valN_some keyI_inj N.nodup hc ▸ DGet.k (k := keyI a) hd), r, _, _, rfl, rfl, hr', ?_, ?_⟩
        · rw [List.length_map, lt]
          exact sizeLine_big (by omega)
        · refine ⟨D, told ++ [c], _, rfl, same_put S1 nr0, ?_, ?_, N.old ha hc⟩
          · rw [upd_ne ndr]
            exact hd
          · rw [upd_same, List.map_append]
            rfl
      · rw [valN_none keyI_inj hin]
        refine iteT ⟨_, rfl, d, _, rfl, hd, _, rfl, _, rfl, d, _, rfl, DPut.k (k := keyI a) hd ?_, ?_⟩
        · rw [kvsN_length]
          exact sizeLine_big (by omega)
        rw [kvsN_length, kvsN_snoc keyI_inj hin]
        have S2 : Same H (upd H1 d (.dK (kvsN keyI (D ++ [a])))) := same_put S1 nd0
        have hd2 : (upd H1 d (.dK (kvsN keyI (D ++ [a])))) d = some (.dK (kvsN keyI (D ++ [a]))) := upd_same
        have hr2 : (upd H1 d (.dK (kvsN keyI (D ++ [a])))) r = some (.lst (told.map nV)) := by rw [upd_ne ndr.symm]; exact hr'
        have N2 := N.new ha hin
        have hc : (D ++ [a])[D.length]? = some a := get_snoc.mpr (.inr ⟨rfl, rfl⟩)
        generalize upd H1 d (.dK (kvsN keyI (D ++ [a]))) = H2 at S2 hd2 hr2 ⊢
        refine ⟨_, rfl, .inl ⟨rfl, _, .inl (.inl hr2)⟩, _, rfl, _, rfl, d, nV D.length, rfl, (valN_some keyI_inj N2.nodup hc ▸ DGet.k (k := keyI a) hd2), r, _, _, rfl, rfl, hr2, ?_, ?_⟩
        · rw [List.length_map, lt]
          exact sizeLine_big (by omega)
        · refine ⟨D ++ [a], told ++ [D.length], _, rfl, same_put S2 nr0, ?_, ?_, N2⟩
          · rw [upd_ne ndr]
            exact hd2
          · rw [upd_same, List.map_append]
            rfl
    · obtain ⟨D, told, y, rfl, S1, hd, hr', N⟩ := h
      rw [List.length_map] at N
      exact ⟨_, rfl, q H1 r told S1 hr' N.done⟩
  · refine ⟨_, pss_cons (ps_set (i := 1) nd rfl (.inl rfl) pe_dnewT) (pss_cons (ps_set (i := 2) nd rfl (.inl rfl) (pe_lst pa_nil))
      (pss_cons (ps_for PassesOwn.never rfl (pi_list (pv 0)) (pg_name (i := 3) nd rfl (.inl rfl))
        (pss_cons (ps_if (pt_cmp (pc_dnotin hu (pv 3) (pv 1))) (pss_one (ps_dput hu (pv 1) (pv 3) (pe_callB call_lenDT (by rfl) B.len b_len (pa_cons (pv 1) pa_nil)) rfl)) pss_nil)
        (pss_one (ps_expr (pe_bm PySem.F.plainAttrs_list PySem.F.slot_list_append PySem.F.type_list_append mt_append (pv 2) (pa_cons (pe_dget hu (pv 1) (pv 3) (fun _ _ => rfl)) pa_nil))))))
      (pss_one (ps_ret (pv 2))))), ?_⟩
    refine fun d nd0 => ⟨Nat.zero_le _, fun r nr => ?_⟩
    have nr0 : H r = none := none_of (same_upd nd0) nr
    have ndr : d ≠ r := fun e => by rw [← e, upd_same] at nr; cases nr
    have S0 : Same H (upd (upd H d (.dT [])) r (.lst [])) := same_put (same_upd nd0) nr0
    refine ⟨_, rfl, l, rfl, ⟨_, SqL.of (S0 _ _ hl)⟩, for_list (xs := bs.map V.ref) (fun i σ H' => ∃ (D : List (List Nat)) (told : List Nat) (y : Option V), σ = [some (.ref l), some (.ref d), some (.ref r), y] ∧ Same H H' ∧ H' d = some (.dT (kvsN keyL D)) ∧ H' r = some (.lst (told.map nV)) ∧ NumbAt ks told D i)
      ⟨[], [], none, rfl, S0, by rw [upd_ne ndr, upd_same]; rfl, upd_same, NumbAt.init ks⟩ (fun i σ H' _ h => by obtain ⟨_, _, _, _, S, _⟩ := h; exact SqL.of (S _ _ hl)) (fun i x σ H1 hx h => ?_) (fun σ H1 h => ?_)⟩
    · obtain ⟨D, told, y, rfl, S1, hd, hr', N⟩ := h
      have lbs : bs.length = ks.length := Paired.length hbs
      have hib := lt_of_get hx
      rw [List.length_map, lbs] at hib
      obtain ⟨a, ha⟩ := get_of_lt hib
      obtain ⟨b, hb1, hb2⟩ := DX.pget hbs ha
      rw [List.getElem?_map, hb1] at hx
      cases hx
      have hik : i < 64 := by have := lt_of_get ha; omega
      have lD := N.size
      have lt := N.len
      refine ⟨_, rfl, _, rfl, d, _, rfl, DGet.t (k := keyL a) hd (by rw [keyL_vals]; exact S1 _ _ hb2), _, rfl, ?_⟩
      by_cases hin : a ∈ D
      · obtain ⟨c, hc⟩ := List.mem_iff_getElem?.mp hin
        rw [valN_some keyL_inj N.nodup hc]
        refine iteF ⟨_, rfl, .inl ⟨rfl, _, .inl (.inl hr')⟩, _, rfl, _, rfl, d, nV c, rfl, (valN_some keyL_inj N.nodup hc ▸ DGet.t (k := keyL a) hd (by rw [keyL_vals]; exact S1 _ _ hb2)), r, _, _, rfl, rfl, hr', ?_, ?_⟩
        · rw [List.length_map, lt]
          exact sizeLine_big (by omega)
        · refine ⟨D, told ++ [c], _, rfl, same_put S1 nr0, ?_, ?_, N.old ha hc⟩
          · rw [upd_ne ndr]
            exact hd
          · rw [upd_same, List.map_append]
            rfl
      · rw [valN_none keyL_inj hin]
        refine iteT ⟨_, rfl, d, _, rfl, hd, _, rfl, _, rfl, d, _, rfl, DPut.t (k := keyL a) hd (by rw [keyL_vals]; exact S1 _ _ hb2) ?_, ?_⟩
        · rw [kvsN_length]
          exact sizeLine_big (by omega)
        rw [kvsN_length, kvsN_snoc keyL_inj hin]
        have S2 : Same H (upd H1 d (.dT (kvsN keyL (D ++ [a])))) := same_put S1 nd0
        have hd2 : (upd H1 d (.dT (kvsN keyL (D ++ [a])))) d = some (.dT (kvsN keyL (D ++ [a]))) := upd_same
        have hr2 : (upd H1 d (.dT (kvsN keyL (D ++ [a])))) r = some (.lst (told.map nV)) := by rw [upd_ne ndr.symm]; exact hr'
        have N2 := N.new ha hin
        have hc : (D ++ [a])[D.length]? = some a := get_snoc.mpr (.inr ⟨rfl, rfl⟩)
        generalize upd H1 d (.dT (kvsN keyL (D ++ [a]))) = H2 at S2 hd2 hr2 ⊢
        refine ⟨_, rfl, .inl ⟨rfl, _, .inl (.inl hr2)⟩, _, rfl, _, rfl, d, nV D.length, rfl, (valN_some keyL_inj N2.nodup hc ▸ DGet.t (k := keyL a) hd2 (by rw [keyL_vals]; exact S2 _ _ hb2)), r, _, _, rfl, rfl, hr2, ?_, ?_⟩
        · rw [List.length_map, lt]
          exact sizeLine_big (by omega)
        · refine ⟨D ++ [a], told ++ [D.length], _, rfl, same_put S2 nr0, ?_, ?_, N2⟩
          · rw [upd_ne ndr]
            exact hd2
          · rw [upd_same, List.map_append]
            rfl
    · obtain ⟨D, told, y, rfl, S1, hd, hr', N⟩ := h
      rw [List.length_map, Paired.length hbs] at N
      exact ⟨_, rfl, q H1 r told S1 hr' N.done⟩
end
end K64
set_option autoImplicit true
set_option Elab.async false
set_option linter.all false
set_option maxRecDepth 100000
set_option maxHeartbeats 4000000
namespace K64
open PySem PySem.Spec PyProof.Rows L2
/-! ### rows as lists -/
structure RowsL (H : Hp) (g : Addr) (rs : List Addr) (t : Tab) : Prop where
  top : H g = some (.lst (rs.map V.ref))
  rows : Paired (fun (r : Addr) (row : List Nat) => H r = some (.lst (row.map nV))) rs t.goes
theorem RowsL.mono {H H' : Hp} {g : Addr} {rs : List Addr} {t : Tab} (h : RowsL H g rs t) (s : Same H H') : RowsL H' g rs t := ⟨s _ _ h.top, Paired.mapP h.rows fun _ _ e => s _ _ e⟩
theorem RowsL.len {H : Hp} {g : Addr} {rs : List Addr} {t : Tab} (h : RowsL H g rs t) : (rs.map V.ref).length = t.goes.length := by rw [List.length_map, Paired.length h.rows]
theorem RowsL.at_ {H : Hp} {g : Addr} {rs : List Addr} {t : Tab} (h : RowsL H g rs t) {i : Nat} {row : List Nat} (hi : t.goes[i]? = some row) : ∃ r, (rs.map V.ref)[i]? = some (.ref r) ∧ H r = some (.lst (row.map nV)) := by
  obtain ⟨r, h1, h2⟩ := DX.pget h.rows hi
  exact ⟨r, by rw [List.getElem?_map, h1]; rfl, h2⟩
theorem goes_getD {t : Tab} {i : Nat} {row : List Nat} (h : t.goes[i]? = some row) : t.goes.getD i [] = row := by rw [List.getD_eq_getElem?_getD, h]; rfl
theorem take_next {α : Type} {l : List α} {i : Nat} {x : α} (h : l[i]? = some x) : l.take (i + 1) = l.take i ++ [x] := by
  obtain ⟨l1, e1⟩ := List.getElem?_eq_some_iff.mp h
  rw [List.take_succ_eq_append_getElem l1, e1]
/-- the marks of a row -/
def fOf (told : List Nat) (p : Nat) : Nat := told.getD p 0
section
variable {P : Program} {w : World} {K : PySem.W.Frag} {mg : Str → Option Value} {base : Heap}
def spFiner : Sp := fun vs H Q _ => ∃ (g k : Addr) (rs : List Addr) (t : Tab) (told : List Nat), vs = [.ref g, .ref k] ∧ RowsL H g rs t ∧ H k = some (.lst (told.map nV)) ∧ told.length = t.goes.length ∧ t.Wf ∧ t.m ≤ 6 ∧
  ∀ (H' : Hp) (r : Addr) (told' : List Nat), Same H H' → H' r = some (.lst (told'.map nV)) → Numb (keysOf t (fOf told)) told' → Q (.ref r) H'
theorem d_finer (F : At K mg "finer" s_finer ["goes", "marks"]) (B : Gb mg) (DN : Df P w K mg base 1 "numbered" spNumbered) : Df P w K mg base 2 "finer" spFiner := by
  refine F.df sc_finer (fun vs H Q E h => ?_) (fun f cdv A outer s H vs Q E hr h => ?_)
  · obtain ⟨g, k, rs, t, told, rfl, _⟩ := h
    rfl
  have nd := sc_finer.nd
  obtain ⟨g, k, rs, t, told, rfl, hR, hk, lt, W, m6, q⟩ := h
  refine ⟨_, pss_cons (ps_set (i := 2) nd rfl (.inl rfl) (pe_lst pa_nil))
    (pss_cons (ps_for PassesOwn.never rfl (pi_enum (by rfl) B.enumerate (pa_cons (pv 0) pa_nil)) (pg_tup rfl (pgs_cons (pg_name (i := 3) nd rfl (.inl rfl)) (pgs_cons (pg_name (i := 4) nd rfl (.inl rfl)) pgs_nil)))
      (pss_one (ps_expr (pe_bm PySem.F.plainAttrs_list PySem.F.slot_list_append PySem.F.type_list_append mt_append (pv 2) (pa_cons (pe_callTy call_tuple_of (by rfl) B.tuple b_tuple (pa_cons (pe_op op_cat (pe_lst (pa_cons (pe_ix ix_list (pv 1) (pv 3) (fun _ _ => rfl)) pa_nil))
        (pe_lc (own := [("to", 5)]) (g := gName 5) (tt := tYes) (te := tOp (rIxL K) (tVar 1) (tVar 5)) rfl nd (pi_list (pv 4)) (blkOk_by (N := ["goes", "marks", "keys", "room", "row", "to"]) (sc := defScope s_finer) (by decide +kernel)) (fun _ _ _ _ _ => pg_name (i := 5) nd rfl (Or.inl rfl)) (fun _ _ _ _ _ => pts_nil)
          (fun _ _ _ _ _ => pe_ix ix_list (pv 1) (pv 5) (fun _ _ => rfl)))) pa_nil)) pa_nil)))))
    (pss_one (ps_ret (pe_d DN hr (by decide) (by rfl) (pa_cons (pv 2) pa_nil))))), ?_⟩
  refine ⟨Nat.zero_le _, fun l nl => ?_⟩
  have lenR := hR.len
  have n32 := W.small
  refine ⟨_, rfl, g, _, rfl, SqL.of (same_upd nl _ _ hR.top), ?_⟩
  refine for_it (walk_enum (xs := rs.map V.ref)) (fun i σ H' => ∃ (y3 y4 y5 : Option V) (ks : List (List Nat)) (bs : List Addr), σ = [some (.ref g), some (.ref k), some (.ref l), y3, y4, y5] ∧ Same H H' ∧ H' l = some (.lst (bs.map V.ref)) ∧
      Paired (fun (b : Addr) (k : List Nat) => H' b = some (.tup (k.map nV))) bs ks ∧ ks = (keysOf t (fOf told)).take i)
    ⟨_, _, _, [], [], rfl, same_upd nl, upd_same, .nil, rfl⟩ (fun i σ H' _ h => by obtain ⟨_, _, _, _, _, _, S, _⟩ := h; exact SqL.of (S _ _ hR.top)) (fun i v σ H1 H1' hi h hY => ?_) (fun σ H1 h => ?_)
  · obtain ⟨y3, y4, y5, ks, bs, rfl, S1, hl, hbs, ek⟩ := h
    obtain ⟨TT, x, y, rfl, nT, rfl, ex, ey⟩ := hY
    cases ex
    rw [lenR] at hi
    obtain ⟨row, hrow⟩ := get_of_lt hi
    obtain ⟨ra, m1, m2⟩ := hR.at_ hrow
    have ey : (rs.map V.ref)[i]? = some y := ey
    rw [m1] at ey
    cases ey
    obtain ⟨lrow, rlt⟩ := W.row _ _ hrow
    refine ⟨TT, _, rfl, SqT.of upd_same, rfl, _, _, rfl, _, _, rfl, rfl, ?_⟩
    have S2 : Same H (upd H1 TT (.tup [.int (i : Nat), .ref ra])) := S1.trans (same_upd nT)
    have hl2 := keep_new (o := .tup [.int (i : Nat), .ref ra]) hl nT
    have hb2 : Paired (fun (b : Addr) (k : List Nat) => (upd H1 TT (.tup [.int (i : Nat), .ref ra])) b = some (.tup (k.map nV))) bs ks := Paired.mapP hbs fun _ _ e => keep_new e nT
    generalize upd H1 TT (.tup [.int (i : Nat), .ref ra]) = H2 at S2 hl2 hb2 ⊢
    refine ⟨_, rfl, .inl ⟨rfl, _, .inl (.inl hl2)⟩, _, rfl, _, rfl, k, _, _, _, rfl, rfl, SqL.of (S2 _ _ hk), atI_nat (nv_at (by omega)), by show 1 ≤ sizeLine; decide, fun c nc => ?_⟩
    have S3 : Same H2 (upd H2 c (.lst [nV (told.getD i 0)])) := same_upd nc
    have hc3 : (upd H2 c (.lst [nV (told.getD i 0)])) c = some (.lst [nV (told.getD i 0)]) := upd_same
    generalize upd H2 c (.lst [nV (told.getD i 0)]) = H3 at S3 hc3 ⊢
    refine ⟨_, rfl, ra, rfl, ⟨_, SqL.of (S3 _ _ (S2 _ _ m2))⟩, fun D nD => ?_⟩
    refine lc_list (xs := row.map nV) (fun j H' => Same H3 H' ∧ H' D = some (.lst (((row.map (fOf told)).take j).map nV))) ⟨same_upd nD, upd_same⟩ (fun j H' _ h => SqL.of (h.1 _ _ (S3 _ _ (S2 _ _ m2)))) (fun j x H4 hx h => ?_) (fun H4 h => ?_)
    · obtain ⟨S4, hD⟩ := h
      rw [List.getElem?_map] at hx
      obtain ⟨z, hz, rfl⟩ := Option.map_eq_some_iff.mp hx
      have zl := rlt z (List.mem_of_getElem? hz)
      have lj := lt_of_get hz
      refine ⟨rfl, ?_⟩
      refine tYes_if ?_
      refine ⟨_, rfl, _, rfl, k, _, _, _, rfl, rfl, SqL.of (S4 _ _ (S3 _ _ (S2 _ _ hk))), atI_nat (nv_at (by omega)), _, hD, ?_, same_put S4 nD, ?_⟩
      · rw [List.length_map, List.length_take]
        exact sizeLine_big (by omega)
      · rw [upd_same, take_next (x := fOf told z) (by rw [List.getElem?_map, hz]; rfl), List.map_append]
        rfl
    · obtain ⟨S4, hD⟩ := h
      rw [List.length_map, List.take_of_length_le (by rw [List.length_map]; omega)] at hD
      refine ⟨c, D, _, _, rfl, rfl, S4 _ _ hc3, hD, ?_, fun e ne => ⟨e, _, rfl, .inl ⟨SqL.of upd_same, fun tp ntp => ?_⟩⟩⟩
      · rw [List.length_map, List.length_map]
        exact Nat.le_of_lt (sizeLine_big (by show 1 + row.length ≤ _; omega))
      have S5 : Same H2 (upd (upd H4 e (.lst ([nV (told.getD i 0)] ++ (row.map (fOf told)).map nV))) tp (.tup ([nV (told.getD i 0)] ++ (row.map (fOf told)).map nV))) := ((S3.trans S4).trans (same_upd ne)).trans (same_upd ntp)
      have htp : (upd (upd H4 e (.lst ([nV (told.getD i 0)] ++ (row.map (fOf told)).map nV))) tp (.tup ([nV (told.getD i 0)] ++ (row.map (fOf told)).map nV))) tp = some (.tup ([nV (told.getD i 0)] ++ (row.map (fOf told)).map nV)) := upd_same
      generalize upd (upd H4 e (.lst ([nV (told.getD i 0)] ++ (row.map (fOf told)).map nV))) tp (.tup ([nV (told.getD i 0)] ++ (row.map (fOf told)).map nV)) = H5 at S5 htp ⊢
      have hl5 := S5 _ _ hl2
      have nl0 : H l = none := nl
      have ntl : tp ≠ l := ne_of htp hl5 (fun z => nomatch z)
      have lks : bs.length = i := by
        rw [Paired.length hbs, ek, List.length_take]
        unfold keysOf
        rw [List.length_map, List.length_range]
        omega
      refine ⟨l, _, _, rfl, rfl, hl5, ?_, ?_⟩
      · rw [List.length_map]
        exact sizeLine_big (by omega)
      refine ⟨_, _, _, ks ++ [fOf told i :: row.map (fOf told)], bs ++ [tp], rfl, same_put (S2.trans S5) nl0, ?_, ?_, ?_⟩
      · rw [upd_same, List.map_append]
        rfl
      · refine Paired.snoc (Paired.mapP hb2 fun b k e => ?_) ?_
        · have e := S5 _ _ e
          rw [upd_ne (ne_of e hl5 (fun z => nomatch z))]
          exact e
        · rw [upd_ne ntl, htp]
          rfl
      · rw [take_next (keys_at hi), ek, goes_getD hrow]
  · obtain ⟨y3, y4, y5, ks, bs, rfl, S1, hl, hbs, ek⟩ := h
    have lk : (keysOf t (fOf told)).length = t.goes.length := by unfold keysOf; rw [List.length_map, List.length_range]
    rw [lenR, List.take_of_length_le (by omega)] at ek
    subst ek
    refine ⟨_, rfl, l, rfl, .inr ⟨_, bs, hl, hbs, by omega, fun H' r told' S' hr' N => q H' r told' (S1.trans S') hr' N⟩⟩
/-! ### classes_of -/
def IsMax (l : List Nat) (M : Nat) : Prop := M ∈ l ∧ ∀ y ∈ l, y ≤ M
theorem max_ex : ∀ {l : List Nat}, l ≠ [] → ∃ M, IsMax l M
  | [a], _ => ⟨a, by simp, fun y hy => by simp at hy; omega⟩
  | a :: b :: r, _ => by
    obtain ⟨M, h1, h2⟩ := max_ex (l := b :: r) (by simp)
    by_cases h : a ≤ M
    · exact ⟨M, List.mem_cons_of_mem _ h1, fun y hy => by
        rcases List.mem_cons.mp hy with z | z
        · omega
        · exact h2 y z⟩
    · exact ⟨a, by simp, fun y hy => by
        rcases List.mem_cons.mp hy with z | z
        · omega
        · have := h2 y z; omega⟩
theorem IsMax.int {l : List Nat} {M : Nat} (h : IsMax l M) {m : Int} (h1 : m ∈ l.map fun (n : Nat) => (n : Int)) (h2 : ∀ y, y ∈ (l.map fun (n : Nat) => (n : Int)) → y ≤ m) : m = (M : Int) := by
  obtain ⟨n, hn, e⟩ := List.mem_map.mp h1
  have a := h.2 n hn
  have b := h2 (M : Int) (List.mem_map.mpr ⟨M, h.1, rfl⟩)
  omega
theorem nv_ints (l : List Nat) : l.map nV = (l.map fun (n : Nat) => (n : Int)).map V.int := by
  rw [List.map_map]
  rfl
theorem IsMax.at_ {told : List Nat} {M : Nat} (h : IsMax told M) : ∃ p, p < told.length ∧ fOf told p = M := by
  obtain ⟨p, hp⟩ := List.mem_iff_getElem?.mp h.1
  exact ⟨p, lt_of_get hp, getD_of hp⟩
theorem IsMax.le {told : List Nat} {M : Nat} (h : IsMax told M) {p : Nat} (hp : p < told.length) : fOf told p ≤ M := h.2 _ (List.mem_of_getElem? (get_getD hp))
def spClasses : Sp := fun vs H Q _ => ∃ (g k : Addr) (rs : List Addr) (t : Tab), vs = [.ref g, .ref k, nV t.goes.length] ∧ RowsL H g rs t ∧ H k = some (.lst (t.kinds.map V.int)) ∧ t.Wf ∧ t.m ≤ 6 ∧
  ∀ (H' : Hp) (r : Addr) (told : List Nat), Same H H' → H' r = some (.lst (told.map nV)) → told.length = t.goes.length → Stab t (fOf told) → Q (.ref r) H'
theorem d_classes_of (F : At K mg "classes_of" s_classes_of ["goes", "kinds", "most"]) (B : Gb mg) (DN : Df P w K mg base 1 "numbered" spNumbered) (DF : Df P w K mg base 2 "finer" spFiner) : Df P w K mg base 3 "classes_of" spClasses := by
  refine F.df sc_classes_of (fun vs H Q E h => ?_) (fun f cdv A outer s H vs Q E hr h => ?_)
  · obtain ⟨g, k, rs, t, rfl, _⟩ := h
    rfl
  have nd := sc_classes_of.nd
  obtain ⟨g, k, rs, t, rfl, hR, hk, W, m6, q⟩ := h
  have n32 := W.small
  refine ⟨_, pss_cons (ps_set (i := 3) nd rfl (.inl rfl) (pe_d DN hr (by decide) (by rfl) (pa_cons (pv 1) pa_nil)))
    (pss_cons (ps_set (i := 4) nd rfl (.inl rfl) pe_int)
    (pss_cons (ps_while PassesOwn.never (pt_chain op_lt op_le (pv 4) (pe_op op_add (pe_callB (cr_max rfl) (by rfl) B.max b_max (pa_cons (pv 3) pa_nil)) pe_int) (pv 2))
      (pss_cons (ps_set (i := 4) nd rfl (.inl rfl) (pe_op op_add (pe_callB (cr_max rfl) (by rfl) B.max b_max (pa_cons (pv 3) pa_nil)) pe_int))
      (pss_one (ps_set (i := 3) nd rfl (.inl rfl) (pe_d DF hr (by decide) (by rfl) (pa_cons (pv 0) (pa_cons (pv 3) pa_nil)))))))
    (pss_cons (ps_if (pt_cmpR op_gt (pe_op op_add (pe_callB (cr_max rfl) (by rfl) B.max b_max (pa_cons (pv 3) pa_nil)) pe_int) (pv 2) (nomark _)) pss_never pss_nil)
    (pss_one (ps_ret (pv 3)))))), ?_⟩
  refine ⟨_, rfl, k, rfl, .inl ⟨t.kinds, hk, by rw [W.len]; omega, fun H1 r told S1 hr1 N => ?_⟩⟩
  refine ⟨fun μ σ H' => ∃ (many : Nat) (r : Addr) (told : List Nat), σ = [some (.ref g), some (.ref k), some (nV t.goes.length), some (.ref r), some (nV many)] ∧ Same H H' ∧ H' r = some (.lst (told.map nV)) ∧ told.length = t.goes.length ∧ Mk t (fOf told) ∧
    (many = 0 ∨ ∃ (told0 : List Nat) (M0 : Nat), many = M0 + 1 ∧ IsMax told0 M0 ∧ told0.length = t.goes.length ∧ Mk t (fOf told0) ∧ Finer t (fOf told0) (fOf told)) ∧ many ≤ t.goes.length ∧ μ = t.goes.length - many,
    ⟨_, 0, r, told, rfl, S1, hr1, by rw [N.len, W.len], Mk.ofKinds W N, .inl rfl, Nat.zero_le _, rfl⟩, fun μ σ H2 hW => ?_⟩
  obtain ⟨many, r, told, rfl, S2, hr2, lt, Mt, hprev, lmany, rfl⟩ := hW
  obtain ⟨M, hM⟩ := max_ex (l := told) (fun e => by rw [e] at lt; have := W.pos; simp at lt; omega)
  have ltp : 0 < (told.map fun (n : Nat) => (n : Int)).length := by rw [List.length_map, lt]; exact W.pos
  have hMn : M + 1 ≤ t.goes.length := by
    obtain ⟨p, hp, e⟩ := hM.at_
    have := Mt.le p (by omega)
    omega
  have hrI : H2 r = some (.lst ((told.map fun (n : Nat) => (n : Int)).map V.int)) := by rw [← nv_ints]; exact hr2
  refine ⟨_, rfl, _, rfl, r, _, rfl, SqL.of hrI, ltp, fun m hm hle => ?_⟩
  have em := hM.int hm hle
  subst em
  refine ⟨_, _, rfl, rfl, _, _, rfl, rfl, _, rfl, ?_⟩
  by_cases hlt : many < M + 1
  · rw [show decide ((many : Int) < (M : Int) + 1) = true from decide_eq_true (by omega)]
    refine iteT ⟨_, rfl, _, _, rfl, rfl, _, rfl, ?_⟩
    rw [show decide ((M : Int) + 1 ≤ ((t.goes.length : Nat) : Int)) = true from decide_eq_true (by omega)]
    refine iteT ?_
    refine ⟨fun σ' H' => ∃ (r : Addr) (told' : List Nat), σ' = [some (.ref g), some (.ref k), some (nV t.goes.length), some (.ref r), some (nV (M + 1))] ∧ Same H H' ∧ H' r = some (.lst (told'.map nV)) ∧ told'.length = t.goes.length ∧ Mk t (fOf told') ∧ Finer t (fOf told) (fOf told'), fun σ' H' hN => ?_, ?_⟩
    · obtain ⟨r', told', e, b1, b2, b3, b4, b5⟩ := hN
      exact ⟨t.goes.length - (M + 1), by omega, M + 1, r', told', e, b1, b2, b3, b4, .inr ⟨told, M, rfl, hM, lt, Mt, b5⟩, hMn, rfl⟩
    refine ⟨_, rfl, r, _, rfl, SqL.of hrI, ltp, fun m hm hle => ?_⟩
    have em := hM.int hm hle
    subst em
    refine ⟨_, _, rfl, rfl, _, rfl, _, rfl, g, r, rs, t, told, rfl, hR.mono S2, hr2, lt, W, m6, fun H3 r3 told3 S3 hr3 N3 => ⟨r3, told3, rfl, S2.trans S3, hr3, ?_, Mt.finer W N3, Finer.of W N3⟩⟩
    rw [N3.len]
    unfold keysOf
    rw [List.length_map, List.length_range]
  · rw [show decide ((many : Int) < (M : Int) + 1) = false from decide_eq_false (by omega)]
    refine iteF ⟨_, rfl, ?_⟩
    refine iteF ?_
    refine ⟨_, rfl, r, _, rfl, SqL.of hrI, ltp, fun m hm hle => ?_⟩
    have em := hM.int hm hle
    subst em
    refine ⟨_, _, rfl, rfl, _, rfl, _, _, rfl, rfl, _, rfl, ?_⟩
    rw [show decide (((t.goes.length : Nat) : Int) < (M : Int) + 1) = false from decide_eq_false (by omega)]
    refine iteF ⟨_, rfl, q H2 r told S2 hr2 lt ?_⟩
    rcases hprev with e | ⟨told0, M0, e, hM0, lt0, M0t, F0⟩
    · omega
    · refine stable_of (k := many) W Mt F0 (fun c hc => ?_) (fun p hp => ?_) (fun p hp => ?_)
      · obtain ⟨p, hp, ep⟩ := hM0.at_
        by_cases ec : c = M0
        · exact ⟨p, by omega, by rw [ep, ec]⟩
        · obtain ⟨q', hq', eq'⟩ := M0t.first p (by omega) c (by rw [ep]; omega)
          exact ⟨q', by omega, eq'⟩
      · have := hM0.le (p := p) (by omega)
        omega
      · have := hM.le (p := p) (by omega)
        omega
end
end K64
set_option autoImplicit true
set_option Elab.async false
set_option linter.all false
set_option maxRecDepth 100000
set_option maxHeartbeats 4000000
namespace K64
open PySem PySem.Spec PyProof.Rows L2
/-! ### the first rooms of the classes -/
structure Firsts (t : Tab) (f : Nat → Nat) (fs : List Nat) (i : Nat) : Prop where
  at_ : ∀ (j : Nat) r, fs[j]? = some r → r < i ∧ f r = j
  all : ∀ p, p < i → f p < fs.length
  le : fs.length ≤ i
theorem Firsts.init (t : Tab) (f : Nat → Nat) : Firsts t f [] 0 := ⟨fun j r h => by simp at h, fun p h => by omega, Nat.le_refl _⟩
theorem Firsts.old {t : Tab} {f : Nat → Nat} {fs : List Nat} {i : Nat} (M : Mk t f) (hi : i < t.goes.length) (h : Firsts t f fs i) (hne : f i ≠ fs.length) : Firsts t f fs (i + 1) where
  at_ := fun j r hj => ⟨Nat.lt_succ_of_lt (h.at_ j r hj).1, (h.at_ j r hj).2⟩
  all := fun p hp => by
    by_cases e : p = i
    · subst e
      rcases Nat.lt_trichotomy (f p) fs.length with z | z | z
      · exact z
      · exact absurd z hne
      · obtain ⟨q, hq, e⟩ := M.first p hi _ z
        have := h.all q hq
        omega
    · exact h.all p (by omega)
  le := Nat.le_succ_of_le h.le
theorem Firsts.new {t : Tab} {f : Nat → Nat} {fs : List Nat} {i : Nat} (h : Firsts t f fs i) (e : f i = fs.length) : Firsts t f (fs ++ [i]) (i + 1) where
  at_ := fun j r hj => by
    rcases get_snoc.mp hj with hj | ⟨ej, er⟩
    · exact ⟨Nat.lt_succ_of_lt (h.at_ j r hj).1, (h.at_ j r hj).2⟩
    · subst er
      exact ⟨Nat.lt_succ_self _, by rw [e, ej]⟩
  all := fun p hp => by
    rw [List.length_append, List.length_singleton]
    by_cases ep : p = i
    · subst ep
      omega
    · have := h.all p (by omega)
      omega
  le := by
    have := h.le
    rw [List.length_append, List.length_singleton]
    omega
def joinedT (t : Tab) (f : Nat → Nat) (fs : List Nat) : Tab := ⟨t.m, fs.map fun r => (t.goes.getD r []).map f, fs.map t.kind⟩
theorem joined_goes {t : Tab} {f : Nat → Nat} {fs : List Nat} {c r : Nat} (h : fs[c]? = some r) : (joinedT t f fs).goes[c]? = some ((t.goes.getD r []).map f) := by
  show (fs.map fun r => (t.goes.getD r []).map f)[c]? = _
  rw [List.getElem?_map, h]
  rfl
theorem joined_of {t : Tab} {f : Nat → Nat} {fs : List Nat} (W : t.Wf) (h : Firsts t f fs t.goes.length) : Joined t (joinedT t f fs) f := by
  have lg : (joinedT t f fs).goes.length = fs.length := List.length_map _
  refine ⟨rfl, ⟨?_, ?_, ?_, fun c row hc => ?_⟩, fun p hp => by rw [lg]; exact h.all p hp, fun c hc => ?_⟩
  · have := h.all 0 W.pos
    omega
  · have := h.le
    have := W.small
    omega
  · rw [lg]
    exact List.length_map _
  · have hl := lt_of_get hc
    rw [lg] at hl
    obtain ⟨r, hr⟩ := get_of_lt hl
    rw [joined_goes hr] at hc
    obtain ⟨row0, h0⟩ := get_of_lt (h.at_ c r hr).1
    obtain ⟨l1, l2⟩ := W.row r row0 h0
    rw [goes_getD h0] at hc
    cases hc
    refine ⟨by rw [List.length_map, l1]; rfl, fun x hx => ?_⟩
    obtain ⟨y, hy, e⟩ := List.mem_map.mp hx
    rw [lg, ← e]
    exact h.all y (l2 y hy)
  · rw [lg] at hc
    obtain ⟨r, hr⟩ := get_of_lt hc
    obtain ⟨h1, h2⟩ := h.at_ c r hr
    obtain ⟨row0, h0⟩ := get_of_lt h1
    refine ⟨r, h1, h2, fun i hi => ?_, ?_⟩
    · obtain ⟨l1, l2⟩ := W.row r row0 h0
      obtain ⟨x, hx⟩ := get_of_lt (l := row0) (j := i) (by omega)
      have e1 : (joinedT t f fs).step c i = f x := Tab.step_of (joined_goes hr) (by rw [goes_getD h0, List.getElem?_map, hx]; rfl)
      rw [e1, Tab.step_of h0 hx]
    · show (fs.map t.kind).getD c (-1) = _
      rw [List.getD_eq_getElem?_getD, List.getElem?_map, hr]
      rfl
section
variable {P : Program} {w : World} {K : PySem.W.Frag} {mg : Str → Option Value} {base : Heap}
def spJoined : Sp := fun vs H Q _ => ∃ (T : Str) (g k r : Addr) (rs : List Addr) (t : Tab) (told : List Nat), vs = [.str T, .ref g, .ref k, .ref r] ∧ RowsL H g rs t ∧ H k = some (.lst (t.kinds.map V.int)) ∧ H r = some (.lst (told.map nV)) ∧ told.length = t.goes.length ∧ t.Wf ∧ t.m ≤ 6 ∧ Mk t (fOf told) ∧
  ∀ (H' : Hp) (v : V) (L : Tab), Same H H' → TabV H' v T L → Joined t L (fOf told) → Q v H'
theorem d_joined (F : At K mg "joined" s_joined ["tongue", "goes", "kinds", "marks"]) (B : Gb mg) : Df P w K mg base 1 "joined" spJoined := by
  refine F.df sc_joined (fun vs H Q E h => ?_) (fun f cdv A outer s H vs Q E hr h => ?_)
  · obtain ⟨T, g, k, r, rs, t, told, rfl, _⟩ := h
    rfl
  have nd := sc_joined.nd
  obtain ⟨T, g, k, r, rs, t, told, rfl, hR, hk, hr0, lt, W, m6, Mt, q⟩ := h
  have n32 := W.small
  refine ⟨_, pss_cons (ps_set (i := 4) nd rfl (.inl rfl) (pe_lst pa_nil))
    (pss_cons (ps_for PassesOwn.never rfl (pi_enum (by rfl) B.enumerate (pa_cons (pv 3) pa_nil)) (pg_tup rfl (pgs_cons (pg_name (i := 5) nd rfl (.inl rfl)) (pgs_cons (pg_name (i := 6) nd rfl (.inl rfl)) pgs_nil)))
      (pss_one (ps_if (pt_cmpR op_eq (pv 6) (pe_callB call_len_seq (by rfl) B.len b_len (pa_cons (pv 4) pa_nil)) (nomark _))
        (pss_one (ps_expr (pe_bm PySem.F.plainAttrs_list PySem.F.slot_list_append PySem.F.type_list_append mt_append (pv 4) (pa_cons (pv 5) pa_nil)))) pss_nil)))
    (pss_cons (ps_set (i := 7) nd rfl (.inl rfl) (pe_lst pa_nil))
    (pss_cons (ps_for PassesOwn.never rfl (pi_list (pv 4)) (pg_name (i := 5) nd rfl (.inl rfl))
      (pss_one (ps_expr (pe_bm PySem.F.plainAttrs_list PySem.F.slot_list_append PySem.F.type_list_append mt_append (pv 7) (pa_cons (pe_callTy call_tuple_of (by rfl) B.tuple b_tuple (pa_cons
        (pe_lc (own := [("to", 8)]) (g := gName 8) (tt := tYes) (te := tOp (rIxL K) (tVar 3) (tVar 8)) rfl nd (pi_list (pe_ix ix_list (pv 1) (pv 5) (fun _ _ => rfl))) (blkOk_by (N := ["tongue", "goes", "kinds", "marks", "firsts", "room", "mark", "rows", "to"]) (sc := defScope s_joined) (by decide +kernel)) (fun _ _ _ _ _ => pg_name (i := 8) nd rfl (Or.inl rfl)) (fun _ _ _ _ _ => pts_nil)
          (fun _ _ _ _ _ => pe_ix ix_list (pv 3) (pv 8) (fun _ _ => rfl))) pa_nil)) pa_nil)))))
    (pss_one (ps_ret (pe_tup (pa_cons (pv 0) (pa_cons (pe_callTy call_tuple_of (by rfl) B.tuple b_tuple (pa_cons (pv 7) pa_nil)) (pa_cons (pe_callTy call_tuple_of (by rfl) B.tuple b_tuple (pa_cons
      (pe_lc (own := [("room", 5)]) (g := gName 5) (tt := tYes) (te := tOp (rIxL K) (tVar 2) (tVar 5)) rfl nd (pi_list (pv 4)) (blkOk_by (N := ["tongue", "goes", "kinds", "marks", "firsts", "room", "mark", "rows", "to"]) (sc := defScope s_joined) (by decide +kernel)) (fun _ _ _ _ _ => pg_name (i := 5) nd rfl (Or.inl rfl)) (fun _ _ _ _ _ => pts_nil)
          (fun _ _ _ _ _ => pe_ix ix_list (pv 2) (pv 5) (fun _ _ => rfl))) pa_nil)) pa_nil))))))))), ?_⟩
  refine ⟨Nat.zero_le _, fun l nl => ?_⟩
  refine ⟨_, rfl, r, _, rfl, SqL.of (same_upd nl _ _ hr0), ?_⟩
  refine for_it (walk_enum (xs := told.map nV)) (fun i σ H' => ∃ (y5 y6 y7 y8 : Option V) (fs : List Nat), σ = [some (.str T), some (.ref g), some (.ref k), some (.ref r), some (.ref l), y5, y6, y7, y8] ∧ Same H H' ∧ H' l = some (.lst (fs.map nV)) ∧ Firsts t (fOf told) fs i)
    ⟨_, _, _, _, [], rfl, same_upd nl, upd_same, Firsts.init _ _⟩ (fun i σ H' _ h => by obtain ⟨_, _, _, _, _, _, S, _⟩ := h; exact SqL.of (S _ _ hr0)) (fun i v σ H1 H1' hi h hY => ?_) (fun σ H1 h => ?_)
  · obtain ⟨y5, y6, y7, y8, fs, rfl, S1, hl, Fs⟩ := h
    obtain ⟨TT, x, y, rfl, nT, rfl, ex, ey⟩ := hY
    cases ex
    rw [List.length_map] at hi
    have ey : (told.map nV)[i]? = some y := ey
    rw [nv_at hi] at ey
    cases ey
    refine ⟨TT, _, rfl, SqT.of upd_same, rfl, _, _, rfl, _, _, rfl, rfl, ?_⟩
    have S2 : Same H (upd H1 TT (.tup [.int (i : Nat), nV (told.getD i 0)])) := S1.trans (same_upd nT)
    have hl2 := keep_new (o := .tup [.int (i : Nat), nV (told.getD i 0)]) hl nT
    generalize upd H1 TT (.tup [.int (i : Nat), nV (told.getD i 0)]) = H2 at S2 hl2 ⊢
    refine ⟨_, rfl, _, rfl, l, _, rfl, .inl (SqL.of hl2), rfl, _, rfl, ?_⟩
    rw [List.length_map]
    by_cases e : fOf told i = fs.length
    · rw [show decide (nV (told.getD i 0) = nV fs.length) = true from decide_eq_true (congrArg nV e)]
      refine iteT ⟨_, rfl, .inl ⟨rfl, _, .inl (.inl hl2)⟩, _, rfl, l, _, _, rfl, rfl, hl2, ?_, ?_⟩
      · rw [List.length_map]
        have := Fs.le
        exact sizeLine_big (by omega)
      refine ⟨_, _, _, _, fs ++ [i], rfl, same_put S2 nl, ?_, Fs.new e⟩
      rw [upd_same, List.map_append]
      rfl
    · rw [show decide (nV (told.getD i 0) = nV fs.length) = false from decide_eq_false (fun z => e (by have := V.int.inj z; unfold fOf; omega))]
      exact iteF ⟨_, _, _, _, fs, rfl, S2, hl2, Fs.old Mt (by omega) e⟩
  · obtain ⟨y5, y6, y7, y8, fs, rfl, S1, hl, Fs⟩ := h
    rw [List.length_map, lt] at Fs
    have J := joined_of W Fs
    have lfs := Fs.le
    refine ⟨Nat.zero_le _, fun rl nrl => ?_⟩
    have S2 : Same H1 (upd H1 rl (.lst [])) := same_upd nrl
    have hrl0 : (upd H1 rl (.lst [])) rl = some (.lst []) := upd_same
    refine ⟨_, rfl, l, rfl, ⟨_, SqL.of (S2 _ _ hl)⟩, for_list (xs := fs.map nV) (fun i σ H' => ∃ (y5 y6 y8 : Option V) (bs : List Addr), σ = [some (.str T), some (.ref g), some (.ref k), some (.ref r), some (.ref l), y5, y6, some (.ref rl), y8] ∧ Same H1 H' ∧ H' rl = some (.lst (bs.map V.ref)) ∧
        Paired (fun (b : Addr) (row : List Nat) => H' b = some (.tup (row.map nV))) bs ((joinedT t (fOf told) fs).goes.take i))
      ⟨_, _, _, [], rfl, S2, hrl0, .nil⟩ (fun i σ H' _ h => by obtain ⟨_, _, _, _, _, S, _⟩ := h; exact SqL.of (S _ _ hl)) (fun i x σ H3 hx h => ?_) (fun σ H3 h => ?_)⟩
    · obtain ⟨y5, y6, y8, bs, rfl, S3, hrl, hbs⟩ := h
      rw [List.getElem?_map] at hx
      obtain ⟨rm, hrm, rfl⟩ := Option.map_eq_some_iff.mp hx
      obtain ⟨hr1, hr2⟩ := Fs.at_ i rm hrm
      have hij := lt_of_get hrm
      obtain ⟨row, hrow⟩ := get_of_lt hr1
      obtain ⟨ra, m1, m2⟩ := hR.at_ hrow
      obtain ⟨lrow, rlt⟩ := W.row _ _ hrow
      have S13 : Same H H3 := S1.trans S3
      have lbs : bs.length = i := by
        rw [Paired.length hbs, List.length_take]
        have : (joinedT t (fOf told) fs).goes.length = fs.length := List.length_map _
        omega
      refine ⟨_, rfl, .inl ⟨rfl, _, .inl (.inl hrl)⟩, _, rfl, _, rfl, g, _, _, _, rfl, rfl, SqL.of (S13 _ _ hR.top), atI_nat m1, ra, rfl, ⟨_, SqL.of (S13 _ _ m2)⟩, fun D nD => ?_⟩
      refine lc_list (xs := row.map nV) (fun j H' => Same H3 H' ∧ H' D = some (.lst (((row.map (fOf told)).take j).map nV))) ⟨same_upd nD, upd_same⟩ (fun j H' _ h => SqL.of (h.1 _ _ (S13 _ _ m2))) (fun j x H4 hx h => ?_) (fun H4 h => ?_)
      · obtain ⟨S4, hD⟩ := h
        rw [List.getElem?_map] at hx
        obtain ⟨z, hz, rfl⟩ := Option.map_eq_some_iff.mp hx
        have zl := rlt z (List.mem_of_getElem? hz)
        have lj := lt_of_get hz
        refine ⟨rfl, ?_⟩
        refine tYes_if ?_
        refine ⟨_, rfl, _, rfl, r, _, _, _, rfl, rfl, SqL.of (S4 _ _ (S13 _ _ hr0)), atI_nat (nv_at (by omega)), _, hD, ?_, same_put S4 nD, ?_⟩
        · rw [List.length_map, List.length_take]
          exact sizeLine_big (by omega)
        · rw [upd_same, take_next (x := fOf told z) (by rw [List.getElem?_map, hz]; rfl), List.map_append]
          rfl
      · obtain ⟨S4, hD⟩ := h
        rw [List.length_map, List.take_of_length_le (by rw [List.length_map]; omega)] at hD
        refine ⟨D, _, rfl, .inl ⟨SqL.of hD, fun tp ntp => ?_⟩⟩
        have S5 : Same H3 (upd H4 tp (.tup ((row.map (fOf told)).map nV))) := S4.trans (same_upd ntp)
        have htp : (upd H4 tp (.tup ((row.map (fOf told)).map nV))) tp = some (.tup ((row.map (fOf told)).map nV)) := upd_same
        generalize upd H4 tp (.tup ((row.map (fOf told)).map nV)) = H5 at S5 htp ⊢
        have hrl5 := S5 _ _ hrl
        have ntl : tp ≠ rl := ne_of htp hrl5 (fun z => nomatch z)
        refine ⟨rl, _, _, rfl, rfl, hrl5, ?_, ?_⟩
        · rw [List.length_map]
          exact sizeLine_big (by omega)
        refine ⟨_, _, _, bs ++ [tp], rfl, same_put (S3.trans S5) nrl, ?_, ?_⟩
        · rw [upd_same, List.map_append]
          rfl
        · rw [take_next (joined_goes hrm)]
          refine Paired.snoc (Paired.mapP hbs fun b k e => ?_) ?_
          · have e := S5 _ _ e
            rw [upd_ne (ne_of e hrl5 (fun z => nomatch z))]
            exact e
          · rw [upd_ne ntl, htp, goes_getD hrow]
    · obtain ⟨y5, y6, y8, bs, rfl, S3, hrl, hbs⟩ := h
      have lgo : (joinedT t (fOf told) fs).goes.length = fs.length := List.length_map _
      rw [List.length_map, List.take_of_length_le (by omega)] at hbs
      have S13 : Same H H3 := S1.trans S3
      refine ⟨_, rfl, _, rfl, rl, _, rfl, .inl ⟨SqL.of hrl, fun ga nga => ?_⟩⟩
      have S4 : Same H3 (upd H3 ga (.tup (bs.map V.ref))) := same_upd nga
      have hga : (upd H3 ga (.tup (bs.map V.ref))) ga = some (.tup (bs.map V.ref)) := upd_same
      generalize upd H3 ga (.tup (bs.map V.ref)) = H4 at S4 hga ⊢
      refine ⟨_, rfl, l, rfl, ⟨_, SqL.of (S4 _ _ (S3 _ _ hl))⟩, fun D nD => ?_⟩
      refine lc_list (xs := fs.map nV) (fun j H' => Same H4 H' ∧ H' D = some (.lst (((fs.map t.kind).take j).map V.int))) ⟨same_upd nD, upd_same⟩ (fun j H' _ h => SqL.of (h.1 _ _ (S4 _ _ (S3 _ _ hl)))) (fun j x H5 hx h => ?_) (fun H5 h => ?_)
      · obtain ⟨S5, hD⟩ := h
        rw [List.getElem?_map] at hx
        obtain ⟨z, hz, rfl⟩ := Option.map_eq_some_iff.mp hx
        have zl := (Fs.at_ j z hz).1
        have lj := lt_of_get hz
        refine ⟨rfl, ?_⟩
        refine tYes_if ?_
        refine ⟨_, rfl, _, rfl, k, _, _, _, rfl, rfl, SqL.of (S5 _ _ (S4 _ _ (S13 _ _ hk))), atI_nat (by rw [List.getElem?_map, W.kind_at zl]; rfl), _, hD, ?_, same_put S5 nD, ?_⟩
        · rw [List.length_map, List.length_take]
          exact sizeLine_big (by omega)
        · rw [upd_same, take_next (x := t.kind z) (by rw [List.getElem?_map, hz]; rfl), List.map_append]
          rfl
      · obtain ⟨S5, hD⟩ := h
        rw [List.length_map, List.take_of_length_le (by rw [List.length_map]; omega)] at hD
        refine ⟨D, _, rfl, .inl ⟨SqL.of hD, fun ka nka => ⟨by show 3 ≤ sizeLine; decide, fun top ntop => ?_⟩⟩⟩
        have S6 : Same H4 (upd (upd H5 ka (.tup ((fs.map t.kind).map V.int))) top (.tup [.str T, .ref ga, .ref ka])) := (S5.trans (same_upd nka)).trans (same_upd ntop)
        refine q _ _ (joinedT t (fOf told) fs) ((S13.trans S4).trans S6) ⟨top, ga, ka, bs, rfl, upd_same, S6 _ _ hga, keep_new upd_same ntop, Paired.mapP hbs fun _ _ e => S6 _ _ (S4 _ _ e)⟩ J
end
end K64
set_option autoImplicit true
set_option Elab.async false
set_option linter.all false
set_option maxRecDepth 100000
set_option maxHeartbeats 4000000
namespace K64
open PySem PySem.Spec PyProof.Rows L2
/-! ### the order of the rooms is one -/
section
variable {α : Type} {step : α → Nat → α} {m : Nat} {a0 : α} {L L' : List (α × List Nat)}
theorem Reach.least (R : Reach step m a0 L) {j : Nat} {p : α × List Nat} (hj : L[j]? = some p) {v : List Nat} (hv : Ok m v) (e : run step a0 v = p.1) : num m p.2 ≤ num m v := by
  obtain ⟨k, q, h1, h2, h3⟩ := R.rep v hv
  have : k = j := R.uniq h1 hj (h2.trans e)
  subst this
  rw [hj] at h1
  cases h1
  exact h3
theorem Reach.same_num (R : Reach step m a0 L) (R' : Reach step m a0 L') {j k : Nat} {p q : α × List Nat} (hj : L[j]? = some p) (hk : L'[k]? = some q) (e : p.1 = q.1) : num m p.2 = num m q.2 := by
  obtain ⟨r1, r2, _⟩ := R.runs j p hj
  obtain ⟨s1, s2, _⟩ := R'.runs k q hk
  have a := R.least hj s2 (s1.trans e.symm)
  have b := R'.least hk r2 (r1.trans e)
  omega
theorem Reach.there (R : Reach step m a0 L) (R' : Reach step m a0 L') {j : Nat} {p : α × List Nat} (hj : L[j]? = some p) : ∃ (k : Nat) (q : α × List Nat), L'[k]? = some q ∧ q.1 = p.1 := by
  obtain ⟨r1, r2, _⟩ := R.runs j p hj
  obtain ⟨k, q, h1, h2, _⟩ := R'.rep p.2 r2
  exact ⟨k, q, h1, h2.trans r1⟩
theorem Reach.same_at (R : Reach step m a0 L) (R' : Reach step m a0 L') : ∀ (n j : Nat), j ≤ n → ∀ p, L[j]? = some p → ∃ q, L'[j]? = some q ∧ q.1 = p.1 := by
  intro n
  induction n with
  | zero =>
    intro j hj p hp
    have e : j = 0 := by omega
    subst e
    rw [R.head] at hp
    cases hp
    exact ⟨_, R'.head, rfl⟩
  | succ n ih =>
    intro j hj p hp
    by_cases hjn : j ≤ n
    · exact ih j hjn p hp
    · obtain ⟨k, q, hk, ek⟩ := R.there R' hp
      have hnp := R.same_num R' hp hk ek.symm
      rcases Nat.lt_trichotomy k j with z | z | z
      · obtain ⟨p2, hp2⟩ := get_of_lt (l := L) (j := k) (by have := lt_of_get hp; omega)
        obtain ⟨q2, hq2, e2⟩ := ih k (by omega) p2 hp2
        rw [hk] at hq2
        cases hq2
        have := R.uniq hp2 hp (e2.symm.trans ek)
        omega
      · subst z
        exact ⟨q, hk, ek⟩
      · obtain ⟨q2, hq2⟩ := get_of_lt (l := L') (j := j) (by have := lt_of_get hk; omega)
        obtain ⟨i, p2, hp2, e2⟩ := R'.there R hq2
        have hnq := R'.same_num R hq2 hp2 e2.symm
        have m' := R'.mono j k q2 q hq2 hk z
        rcases Nat.lt_trichotomy i j with y | y | y
        · obtain ⟨q3, hq3, e3⟩ := ih i (by omega) p2 hp2
          have := R'.uniq hq3 hq2 (e3.trans e2)
          omega
        · subst y
          rw [hp] at hp2
          cases hp2
          have := R'.uniq hq2 hk (e2.symm.trans ek.symm)
          omega
        · have := R.mono j i p p2 hp hp2 y
          omega
theorem Reach.same (R : Reach step m a0 L) (R' : Reach step m a0 L') : L.map (·.1) = L'.map (·.1) := by
  have key : ∀ {A B : List (α × List Nat)}, Reach step m a0 A → Reach step m a0 B → ∀ (j : Nat) a, (A.map (·.1))[j]? = some a → (B.map (·.1))[j]? = some a := fun RA RB j a h => by
    rw [List.getElem?_map] at h
    obtain ⟨p, hp, e⟩ := Option.map_eq_some_iff.mp h
    obtain ⟨q, hq, e2⟩ := RA.same_at RB j j (Nat.le_refl _) p hp
    rw [List.getElem?_map, hq, ← e, ← e2]
    rfl
  refine List.ext_getElem? fun j => ?_
  cases h : (L.map (·.1))[j]? with
  | some a => exact (key R R' j a h).symm
  | none =>
    cases h' : (L'.map (·.1))[j]? with
    | none => rfl
    | some a =>
      have := key R' R j a h'
      rw [h] at this
      cases this
end
theorem Cls.congr {t : Tab} {f g : Nat → Nat} (W : t.Wf) (C : Cls t f) (h : ∀ r, r < t.goes.length → f r = g r) : Cls t g where
  zero := by rw [← h 0 W.pos]; exact C.zero
  kind := fun r s hr hs e => C.kind r s hr hs (by rw [h r hr, h s hs, e])
  step := fun r s hr hs e i hi => by
    rw [← h _ (W.step_lt hr hi), ← h _ (W.step_lt hs hi)]
    exact C.step r s hr hs (by rw [h r hr, h s hs, e]) i hi
  sep := fun r s hr hs hw => by
    rw [← h r hr, ← h s hs]
    exact C.sep r s hr hs hw
  ord := fun v hv j hj => by
    rw [← h _ (W.run_lt v 0 W.pos hv)] at hj
    obtain ⟨u, h1, h2, h3⟩ := C.ord v hv j hj
    exact ⟨u, h1, h2, by rw [← h _ (W.run_lt u 0 W.pos h1)]; exact h3⟩
theorem fOf_set {l : List Nat} {r x : Nat} (hr : r < l.length) (q : Nat) : fOf (l.set r x) q = if q = r then x else fOf l q := by
  unfold fOf
  rw [List.getD_eq_getElem?_getD, List.getD_eq_getElem?_getD]
  by_cases e : q = r
  · subst e
    rw [if_pos rfl, List.getElem?_set_self hr]
    rfl
  · rw [if_neg e, List.getElem?_set_ne (Ne.symm e)]
/-- the places written so far -/
structure PutAt (ord : List Nat) (n : Nat) (g : Nat → Nat) (l : List Nat) (i : Nat) : Prop where
  len : l.length = n
  at_ : ∀ (p : Nat) r, p < i → ord[p]? = some r → fOf l r = g p
theorem PutAt.next {ord : List Nat} {n : Nat} {g : Nat → Nat} {l : List Nat} {i r : Nat} (hn : ord.Nodup) (h : PutAt ord n g l i) (hr : ord[i]? = some r) (hl : r < n) : PutAt ord n g (l.set r (g i)) (i + 1) where
  len := by rw [List.length_set, h.len]
  at_ := fun p q hp hq => by
    rw [fOf_set (by rw [h.len]; exact hl)]
    by_cases e : p = i
    · subst e
      rw [hr] at hq
      cases hq
      rw [if_pos rfl]
    · have hqr : q ≠ r := fun z => by
        subst z
        obtain ⟨l1, e1⟩ := List.getElem?_eq_some_iff.mp hq
        obtain ⟨l2, e2⟩ := List.getElem?_eq_some_iff.mp hr
        exact List.pairwise_iff_getElem.mp hn p i l1 l2 (by omega) (e1.trans e2.symm)
      rw [if_neg hqr]
      exact h.at_ p q (by omega) hq
theorem ixN_nat {n j : Nat} (h : j < n) : ixN n (j : Int) = some j := by
  unfold ixN
  rw [if_pos (Int.natCast_nonneg j), if_pos (by omega), Int.toNat_natCast]
/-- rooms met, as a dict's keys -/
def KnownN (L : List (Nat × List Nat)) (kvs : List (Key × V)) : Prop := kvs.length ≤ L.length ∧ ∀ q : Nat, ((valV kvs (keyI (q : Int))).isSome = true ↔ q ∈ L.map (·.1))
theorem KnownN.put {L : List (Nat × List Nat)} {kvs : List (Key × V)} {p : Nat × List Nat} {v : V} (h : KnownN L kvs) : KnownN (L ++ [p]) (putK kvs (keyI (p.1 : Int)) v) := by
  refine ⟨?_, fun q => ?_⟩
  · have h1 := h.1
    rw [List.length_append, List.length_singleton]
    unfold putK
    split
    · rw [List.length_map]
      omega
    · rw [List.length_append, List.length_singleton]
      omega
  · rw [valV_put, List.map_append, List.mem_append, ← h.2 q]
    by_cases z : q = p.1
    · subst z
      simp
    · rw [if_neg (fun z' => z (by have := keyI_inj _ _ z'; omega))]
      simp [z]
theorem rooms_le {t : Tab} {L : List (Nat × List Nat)} {a i : Nat} (W : t.Wf) (B : Bfs t.step t.m 0 L a i) : L.length ≤ 32 := by
  have h := B.len_le (List.range t.goes.length) (fun v hv => List.mem_range.mpr (W.run_lt v 0 W.pos hv))
  rw [List.length_range] at h
  have := W.small
  omega
section
variable {P : Program} {w : World} {K : PySem.W.Frag} {mg : Str → Option Value} {base : Heap}
def spInOrder : Sp := fun vs H Q _ => ∃ (a g k : Addr) (rs : List Addr) (T : Str) (t : Tab), vs = [.ref g] ∧ TabAt H a g k rs T t ∧ t.Wf ∧
  ∀ (H' : Hp) (r : Addr) (L : List (Nat × List Nat)), Same H H' → H r = none → H' r = some (.lst ((L.map (·.1)).map nV)) → Reach t.step t.m 0 L → Q (.ref r) H'
theorem d_in_order (F : At K mg "in_order" s_in_order ["goes"]) (B : Gb mg) : Df P w K mg base 1 "in_order" spInOrder := by
  refine F.df sc_in_order (fun vs H Q E h => ?_) (fun f cdv A outer s H vs Q E hr h => ?_)
  · obtain ⟨a, g, k, rs, T, t, rfl, _⟩ := h
    rfl
  have nd := sc_in_order.nd
  have hu := hu_of hr
  obtain ⟨a, g, k, rs, T, t, rfl, ha, W, q⟩ := h
  refine ⟨_, pss_cons (ps_set (i := 1) nd rfl (.inl rfl) (pe_lst (pa_cons pe_int pa_nil)))
    (pss_cons (ps_set (i := 2) nd rfl (.inl rfl) (pe_disp (pps_cons pe_int pe_bl pps_nil) rfl rfl (by intro z; cases z) (by decide)))
    (pss_cons (ps_set (i := 3) nd rfl (.inl rfl) pe_int)
    (pss_cons (ps_while PassesOwn.never (pt_cmpR op_lt (pv 3) (pe_callB call_len_seq (by rfl) B.len b_len (pa_cons (pv 1) pa_nil)) (nomark _))
      (pss_cons (ps_for PassesOwn.never rfl (pi_tup (pe_ix ix_tup (pv 0) (pe_ix ix_list (pv 1) (pv 3) (fun _ _ => rfl)) (fun _ _ => rfl))) (pg_name (i := 4) nd rfl (.inl rfl))
        (pss_one (ps_if (pt_cmp (pc_dnotin hu (pv 4) (pv 2))) (pss_cons (ps_dput hu (pv 2) (pv 4) pe_bl rfl)
          (pss_one (ps_expr (pe_bm PySem.F.plainAttrs_list PySem.F.slot_list_append PySem.F.type_list_append mt_append (pv 1) (pa_cons (pv 4) pa_nil))))) pss_nil)))
      (pss_one (ps_aug (i := 3) nd rfl (.inl rfl) pe_int ip_add))))
    (pss_one (ps_ret (pv 1)))))), ?_⟩
  refine ⟨by show 1 ≤ sizeLine; decide, fun l nl d nd1 => ⟨upd_same, [(.inl 0, .bl true)], rfl, by decide, ?_⟩⟩
  have nd0 : H d = none := none_of (same_upd nl) nd1
  have nld : l ≠ d := fun e => by rw [← e, upd_same] at nd1; cases nd1
  have S0 : Same H (upd (upd (upd H l (.lst [.int 0])) d (.dK [])) d (.dK (mergeK [] [(.inl 0, .bl true)]))) := same_put (same_put (same_upd nl) nd0) nd0
  refine ⟨fun m σ H' => ∃ (L : List (Nat × List Nat)) (at' : Nat) (y4 : Option V) (kvs : List (Key × V)), σ = [some (.ref g), some (.ref l), some (.ref d), some (nV at'), y4] ∧ Same H H' ∧ H' d = some (.dK kvs) ∧ KnownN L kvs ∧ H' l = some (.lst ((L.map (·.1)).map nV)) ∧ Bfs t.step t.m 0 L at' 0 ∧ m = 33 - at',
    ⟨_, [(0, [])], 0, _, _, rfl, S0, upd_same, ?_, ?_, Bfs.init _ _ _, rfl⟩, fun m σ H1 hW => ?_⟩
  · refine ⟨by decide, fun q => ?_⟩
    show (valV (putK [] (keyI 0) (.bl true)) (keyI (q : Int))).isSome = true ↔ _
    rw [valV_put]
    by_cases z : q = 0
    · subst z
      simp
    · rw [if_neg (fun z' => z (by have := keyI_inj _ _ z'; omega))]
      simp [z, valV_nil]
  · rw [upd_ne nld, upd_ne nld, upd_same]
    rfl
  obtain ⟨L, at', y4, kvs, rfl, S1, hd, hk, hl, Bf, rfl⟩ := hW
  refine ⟨_, rfl, _, rfl, l, _, rfl, .inl (SqL.of hl), _, _, rfl, rfl, _, rfl, ite2 (fun z => ?_) (fun z => ?_)⟩
  · have hlt : at' < L.length := by
      have := of_decide_eq_true z
      rw [List.length_map, List.length_map] at this
      omega
    have l32 := rooms_le W Bf
    obtain ⟨p, hp⟩ := get_of_lt hlt
    have hp1 : ((L.map (·.1)).map nV)[at']? = some (nV p.1) := by rw [List.getElem?_map, List.getElem?_map, hp]; rfl
    obtain ⟨r1, r2, r3⟩ := Bf.runs at' p hp
    have hr1 : p.1 < t.goes.length := by rw [← r1]; exact W.run_lt p.2 0 W.pos r2
    obtain ⟨row, hrow⟩ := get_of_lt hr1
    obtain ⟨lrow, rlt⟩ := W.row _ _ hrow
    obtain ⟨ra, _, m1, m2⟩ := ha.row hrow
    refine ⟨fun σ' H' => ∃ (L : List (Nat × List Nat)) (y4 : Option V) (kvs : List (Key × V)), σ' = [some (.ref g), some (.ref l), some (.ref d), some (nV (at' + 1)), y4] ∧ Same H H' ∧ H' d = some (.dK kvs) ∧ KnownN L kvs ∧ H' l = some (.lst ((L.map (·.1)).map nV)) ∧ Bfs t.step t.m 0 L (at' + 1) 0, fun σ' H' hN => ?_, ?_⟩
    · obtain ⟨L', y4, kvs', e, b1, b2, b3, b4, b5⟩ := hN
      exact ⟨33 - (at' + 1), by omega, L', at' + 1, y4, kvs', e, b1, b2, b3, b4, b5, rfl⟩
    refine ⟨_, rfl, _, rfl, _, rfl, l, _, _, _, rfl, rfl, SqL.of hl, atI_nat hp1, g, _, _, _, rfl, rfl, SqT.of (S1 _ _ ha.goes), atI_nat m1, ra, rfl, ⟨_, SqT.of (S1 _ _ m2)⟩, ?_⟩
    refine for_tup (xs := row.map nV) (fun i σ H' => ∃ (L : List (Nat × List Nat)) (y4 : Option V) (kvs : List (Key × V)), σ = [some (.ref g), some (.ref l), some (.ref d), some (nV at'), y4] ∧ Same H H' ∧ H' d = some (.dK kvs) ∧ KnownN L kvs ∧ H' l = some (.lst ((L.map (·.1)).map nV)) ∧ Bfs t.step t.m 0 L at' i ∧ L[at']? = some p)
      ⟨L, y4, kvs, rfl, S1, hd, hk, hl, Bf, hp⟩ (fun i σ H' _ h => by obtain ⟨_, _, _, _, S, _⟩ := h; exact SqT.of (S _ _ m2)) (fun i x σ H2 hx h => ?_) (fun σ H2 h => ?_)
    · obtain ⟨L', z4, kvs', rfl, S2, hd2, hk2, hl2, B2, hp2⟩ := h
      rw [List.getElem?_map] at hx
      obtain ⟨y, hy, rfl⟩ := Option.map_eq_some_iff.mp hx
      have him : i < t.m := by rw [← lrow]; exact lt_of_get hy
      have est : t.step p.1 i = y := Tab.step_of hrow hy
      have l2 := rooms_le W B2
      have lk := hk2.1
      refine ⟨_, rfl, _, rfl, d, _, rfl, DGet.k (k := keyI (y : Int)) hd2, _, rfl, ?_⟩
      by_cases hin : y ∈ L'.map (·.1)
      · rw [(hk2.2 y).mpr hin]
        exact iteF ⟨L', _, kvs', rfl, S2, hd2, hk2, hl2, B2.old hp2 him (by rw [est]; exact hin), hp2⟩
      · rw [show (valV kvs' (keyI (y : Int))).isSome = false from Bool.eq_false_iff.mpr fun z => hin ((hk2.2 y).mp z)]
        have ndl : d ≠ l := ne_of hd2 hl2 (fun z => nomatch z)
        refine iteT ⟨_, rfl, _, rfl, d, _, rfl, DPut.k (k := keyI (y : Int)) hd2 (sizeLine_big (by omega)), ?_⟩
        have hl3 : (upd H2 d (.dK (putK kvs' (keyI (y : Int)) (.bl true)))) l = some (.lst ((L'.map (·.1)).map nV)) := by rw [upd_ne ndl.symm]; exact hl2
        refine ⟨_, rfl, .inl ⟨rfl, _, .inl (.inl hl3)⟩, _, rfl, l, _, _, rfl, rfl, hl3, ?_, ?_⟩
        · rw [List.length_map, List.length_map]
          exact sizeLine_big (by omega)
        refine ⟨L' ++ [(y, p.2 ++ [i])], _, _, rfl, same_put (same_put S2 nd0) nl, ?_, hk2.put (p := (y, p.2 ++ [i])) (v := .bl true), ?_, ?_, ?_⟩
        · rw [upd_ne ndl, upd_same]
        · rw [upd_same, List.map_append, List.map_append]
          rfl
        · have := B2.new hp2 him (by rw [est]; exact hin)
          rw [est] at this
          exact this
        · rw [List.getElem?_append_left (lt_of_get hp2)]
          exact hp2
    · obtain ⟨L', z4, kvs', rfl, S2, hd2, hk2, hl2, B2, hp2⟩ := h
      rw [List.length_map, lrow] at B2
      exact ⟨_, rfl, _, _, rfl, rfl, L', _, kvs', rfl, S2, hd2, hk2, hl2, B2.next⟩
  · have hge : L.length ≤ at' := Nat.le_of_not_lt fun h => z (decide_eq_true (by rw [List.length_map, List.length_map]; omega))
    exact ⟨_, rfl, q H1 l L S1 nl hl (Bf.done hge)⟩
end
end K64
set_option autoImplicit true
set_option Elab.async false
set_option linter.all false
set_option maxRecDepth 100000
set_option maxHeartbeats 4000000
namespace K64
open PySem PySem.Spec PyProof.Rows L2
def tZero : TE := fun _ H Q => Q (.int 0) H
theorem zeros_at (n p : Nat) : fOf (List.replicate n 0) p = 0 := by
  unfold fOf
  rw [List.getD_eq_getElem?_getD, List.getElem?_replicate]
  split <;> rfl
theorem ord_room {t : Tab} {L : List (Nat × List Nat)} (W : t.Wf) (R : Reach t.step t.m 0 L) {p r : Nat} (h : (L.map (·.1))[p]? = some r) : r < t.goes.length := by
  rw [List.getElem?_map] at h
  obtain ⟨q, hq, e⟩ := Option.map_eq_some_iff.mp h
  obtain ⟨r1, r2, _⟩ := R.runs p q hq
  rw [← e, ← r1]
  exact W.run_lt q.2 0 W.pos r2
theorem ordered_of {t : Tab} {L : List (Nat × List Nat)} {pls : List Nat} (W : t.Wf) (R : Reach t.step t.m 0 L) (h : PutAt (L.map (·.1)) t.goes.length id pls (L.map (·.1)).length) : Ordered t (joinedT t (fOf pls) (L.map (·.1))) (L.map (·.1)) (fOf pls) where
  m := rfl
  n := List.length_map _
  k := List.length_map _
  put := fun p r hp => h.at_ p r (lt_of_get hp) hp
  row := fun p r row hp hr => by rw [joined_goes hp, goes_getD hr]
  kind := fun p r hp => by
    show ((L.map (·.1)).map t.kind).getD p (-1) = _
    rw [List.getD_eq_getElem?_getD, List.getElem?_map, hp]
    rfl
section
variable {P : Program} {w : World} {K : PySem.W.Frag} {mg : Str → Option Value} {base : Heap}
def spPut : Sp := fun vs H Q _ => ∃ (v : V) (T : Str) (t : Tab), vs = [v] ∧ TabV H v T t ∧ t.Good ∧ t.m ≤ 6 ∧
  ∀ (H' : Hp) (p g k : Addr) (rs : List Addr) (pls : List Nat) (L : List (Nat × List Nat)), Same H H' → H' p = some (.tup [.ref g, .ref k]) → RowsL H' g rs (joinedT t (fOf pls) (L.map (·.1))) →
    H' k = some (.lst ((joinedT t (fOf pls) (L.map (·.1))).kinds.map V.int)) → Reach t.step t.m 0 L → Ordered t (joinedT t (fOf pls) (L.map (·.1))) (L.map (·.1)) (fOf pls) → Q (.ref p) H'
theorem d_put_in_order (F : At K mg "put_in_order" s_put_in_order ["table"]) (B : Gb mg) (DI : Df P w K mg base 1 "in_order" spInOrder) : Df P w K mg base 2 "put_in_order" spPut := by
  refine F.df sc_put_in_order (fun vs H Q E h => ?_) (fun f cdv A outer s H vs Q E hr h => ?_)
  · obtain ⟨v, T, t, rfl, _⟩ := h
    rfl
  have nd := sc_put_in_order.nd
  obtain ⟨v, T, t, rfl, ⟨a, g, k, rs, rfl, ha⟩, Gt, m6, q⟩ := h
  have W := Gt.wf
  have n32 := W.small
  refine ⟨_, pss_cons (ps_set (i := 1) nd rfl (.inl rfl) (pe_d DI hr (by decide) (by rfl) (pa_cons (pe_ix ix_tup (pv 0) pe_int (fun _ _ => rfl)) pa_nil)))
    (pss_cons (ps_set (i := 3) nd rfl (.inr rfl) (pe_lc (own := [("room", 2)]) (g := gName 2) (tt := tYes) (te := tZero) rfl nd (pi_list (pv 1)) (blkOk_by (N := ["table", "rooms", "room", "places", "place", "goes", "to"]) (sc := defScope s_put_in_order) (by decide +kernel)) (fun _ _ _ _ _ => pg_name (i := 2) nd rfl (Or.inl rfl)) (fun _ _ _ _ _ => pts_nil) (fun _ _ _ _ _ => pe_int)))
    (pss_cons (ps_for PassesOwn.never rfl (pi_enum (by rfl) B.enumerate (pa_cons (pv 1) pa_nil)) (pg_tup rfl (pgs_cons (pg_name (i := 4) nd rfl (.inl rfl)) (pgs_cons (pg_name (i := 2) nd rfl (.inl rfl)) pgs_nil)))
      (pss_one (ps_asg (pv 4) (pg_sub (pv 3) (pv 2) set_list))))
    (pss_cons (ps_set (i := 5) nd rfl (.inl rfl) (pe_lst pa_nil))
    (pss_cons (ps_for PassesOwn.never rfl (pi_list (pv 1)) (pg_name (i := 2) nd rfl (.inl rfl))
      (pss_one (ps_expr (pe_bm PySem.F.plainAttrs_list PySem.F.slot_list_append PySem.F.type_list_append mt_append (pv 5) (pa_cons
        (pe_lc (own := [("to", 6)]) (g := gName 6) (tt := tYes) (te := tOp (rIxL K) (tVar 3) (tVar 6)) rfl nd (pi_tup (pe_ix ix_tup (pe_ix ix_tup (pv 0) pe_int (fun _ _ => rfl)) (pv 2) (fun _ _ => rfl))) (blkOk_by (N := ["table", "rooms", "room", "places", "place", "goes", "to"]) (sc := defScope s_put_in_order) (by decide +kernel)) (fun _ _ _ _ _ => pg_name (i := 6) nd rfl (Or.inl rfl)) (fun _ _ _ _ _ => pts_nil)
          (fun _ _ _ _ _ => pe_ix ix_list (pv 3) (pv 6) (fun _ _ => rfl))) pa_nil)))))
    (pss_one (ps_ret (pe_tup (pa_cons (pv 5) (pa_cons
      (pe_lc (own := [("room", 2)]) (g := gName 2) (tt := tYes) (te := tOp (rIxT K) (tOp (rIxT K) (tVar 0) (fun _ H Q => Q (.int 2) H)) (tVar 2)) rfl nd (pi_list (pv 1)) (blkOk_by (N := ["table", "rooms", "room", "places", "place", "goes", "to"]) (sc := defScope s_put_in_order) (by decide +kernel)) (fun _ _ _ _ _ => pg_name (i := 2) nd rfl (Or.inl rfl)) (fun _ _ _ _ _ => pts_nil)
          (fun _ _ _ _ _ => pe_ix ix_tup (pe_ix ix_tup (pv 0) pe_int (fun _ _ => rfl)) (pv 2) (fun _ _ => rfl))) pa_nil))))))))), ?_⟩
  refine ⟨_, rfl, a, _, _, _, rfl, rfl, SqT.of ha.top, atI_nat (j := 1) rfl, a, g, k, rs, T, t, rfl, ha, W, fun H1 r L S1 nr0 hr1 R => ?_⟩
  have lord : L.length = t.goes.length := order_len Gt R
  have room : ∀ {p x : Nat}, (L.map (·.1))[p]? = some x → x < t.goes.length := fun h => ord_room W R h
  refine ⟨_, rfl, r, rfl, ⟨_, SqL.of hr1⟩, fun pl npl => ?_⟩
  -- places = [0 for room in rooms]
  refine lc_list (xs := (L.map (·.1)).map nV) (fun i H' => Same H1 H' ∧ H' pl = some (.lst ((List.replicate i 0).map nV))) ⟨same_upd npl, upd_same⟩ (fun i H' _ h => SqL.of (h.1 _ _ hr1)) (fun i x H2 hx h => ?_) (fun H2 h => ?_)
  · obtain ⟨S2, hD⟩ := h
    have := lt_of_get hx
    rw [List.length_map, List.length_map] at this
    refine ⟨rfl, ?_⟩
    refine tYes_if ?_
    refine ⟨_, hD, ?_, same_put S2 npl, ?_⟩
    · rw [List.length_map, List.length_replicate]
      exact sizeLine_big (by omega)
    · rw [upd_same, List.replicate_succ', List.map_append]
      rfl
  obtain ⟨S2, hpl⟩ := h
  rw [List.length_map, List.length_map, lord] at hpl
  have npl0 : H pl = none := none_of S1 npl
  have hr2 := S2 _ _ hr1
  have nplr : pl ≠ r := fun e => by rw [e, hr1] at npl; cases npl
  -- places[room] = place
  refine ⟨_, rfl, r, _, rfl, SqL.of hr2, ?_⟩
  refine for_it (walk_enum (xs := (L.map (·.1)).map nV)) (fun i σ H' => ∃ (y2 y4 y5 y6 : Option V) (pls : List Nat), σ = [some (.ref a), some (.ref r), y2, some (.ref pl), y4, y5, y6] ∧ Same H H' ∧ H' r = some (.lst ((L.map (·.1)).map nV)) ∧ H' pl = some (.lst (pls.map nV)) ∧ PutAt (L.map (·.1)) t.goes.length id pls i)
    ⟨_, _, _, _, _, rfl, S1.trans S2, hr2, hpl, ⟨List.length_replicate, fun p r hp => by omega⟩⟩ (fun i σ H' _ h => by obtain ⟨_, _, _, _, _, _, _, h1, _⟩ := h; exact SqL.of h1) (fun i v σ H3 H3' hi h hY => ?_) (fun σ H3 h => ?_)
  · obtain ⟨y2, y4, y5, y6, pls, rfl, S3, hr3, hp3, Pt⟩ := h
    obtain ⟨TT, x, y, rfl, nT, rfl, ex, ey⟩ := hY
    cases ex
    have ey : ((L.map (·.1)).map nV)[i]? = some y := ey
    rw [List.getElem?_map] at ey
    obtain ⟨rm, hrm, rfl⟩ := Option.map_eq_some_iff.mp ey
    have lrm := room hrm
    refine ⟨TT, _, rfl, SqT.of upd_same, rfl, _, _, rfl, _, _, rfl, rfl, ?_⟩
    have S4 : Same H (upd H3 TT (.tup [.int (i : Nat), nV rm])) := S3.trans (same_upd nT)
    have hr4 := keep_new (o := .tup [.int (i : Nat), nV rm]) hr3 nT
    have hp4 := keep_new (o := .tup [.int (i : Nat), nV rm]) hp3 nT
    generalize upd H3 TT (.tup [.int (i : Nat), nV rm]) = H4 at S4 hr4 hp4 ⊢
    refine ⟨_, rfl, _, rfl, _, rfl, pl, _, _, rm, rfl, rfl, hp4, ixN_nat (by rw [List.length_map, Pt.len]; exact lrm), ?_⟩
    refine ⟨_, _, _, _, pls.set rm i, rfl, same_put S4 npl0, by rw [upd_ne nplr.symm]; exact hr4, ?_, Pt.next R.nodup hrm lrm⟩
    rw [upd_same, List.map_set]
  obtain ⟨y2, y4, y5, y6, pls, rfl, S3, hr3, hp3, Pt⟩ := h
  rw [List.length_map] at Pt
  have O := ordered_of W R Pt
  -- goes
  refine ⟨Nat.zero_le _, fun gl ngl => ?_⟩
  have S4 : Same H3 (upd H3 gl (.lst [])) := same_upd ngl
  have hgl : (upd H3 gl (.lst [])) gl = some (.lst []) := upd_same
  refine ⟨_, rfl, r, rfl, ⟨_, SqL.of (S4 _ _ hr3)⟩, for_list (xs := (L.map (·.1)).map nV) (fun i σ H' => ∃ (y2 y4 y6 : Option V) (bs : List Addr), σ = [some (.ref a), some (.ref r), y2, some (.ref pl), y4, some (.ref gl), y6] ∧ Same H3 H' ∧ H' gl = some (.lst (bs.map V.ref)) ∧
      Paired (fun (b : Addr) (row : List Nat) => H' b = some (.lst (row.map nV))) bs ((joinedT t (fOf pls) (L.map (·.1))).goes.take i) ∧ (∀ b ∈ bs, b ≠ gl))
    ⟨_, _, _, [], rfl, S4, hgl, .nil, fun b h => by simp at h⟩ (fun i σ H' _ h => by obtain ⟨_, _, _, _, _, S, _⟩ := h; exact SqL.of (S _ _ hr3)) (fun i x σ H5 hx h => ?_) (fun σ H5 h => ?_)⟩
  · obtain ⟨y2, y4, y6, bs, rfl, S5, hg5, hbs, hne⟩ := h
    rw [List.getElem?_map] at hx
    obtain ⟨rm, hrm, rfl⟩ := Option.map_eq_some_iff.mp hx
    have lrm := room hrm
    obtain ⟨row, hrow⟩ := get_of_lt lrm
    obtain ⟨ra, _, m1, m2⟩ := ha.row hrow
    obtain ⟨lrow, rlt⟩ := W.row _ _ hrow
    have S35 : Same H H5 := S3.trans S5
    have lio := lt_of_get hrm
    rw [List.length_map] at lio
    have lbs : bs.length = i := by
      rw [Paired.length hbs, List.length_take]
      have : (joinedT t (fOf pls) (L.map (·.1))).goes.length = L.length := by rw [O.n, List.length_map]
      omega
    refine ⟨_, rfl, .inl ⟨rfl, _, .inl (.inl hg5)⟩, _, rfl, a, _, _, _, rfl, rfl, SqT.of (S35 _ _ ha.top), atI_nat (j := 1) rfl, _, rfl, g, _, _, _, rfl, rfl, SqT.of (S35 _ _ ha.goes), atI_nat m1, ra, rfl, ⟨_, SqT.of (S35 _ _ m2)⟩, fun D nD => ?_⟩
    refine lc_tup (xs := row.map nV) (fun j H' => Same H5 H' ∧ H' D = some (.lst (((row.map (fOf pls)).take j).map nV))) ⟨same_upd nD, upd_same⟩ (fun j H' _ h => SqT.of (h.1 _ _ (S35 _ _ m2))) (fun j x H6 hx h => ?_) (fun H6 h => ?_)
    · obtain ⟨S6, hD⟩ := h
      rw [List.getElem?_map] at hx
      obtain ⟨z, hz, rfl⟩ := Option.map_eq_some_iff.mp hx
      have zl := rlt z (List.mem_of_getElem? hz)
      have lj := lt_of_get hz
      refine ⟨rfl, ?_⟩
      refine tYes_if ?_
      refine ⟨_, rfl, _, rfl, pl, _, _, _, rfl, rfl, SqL.of (S6 _ _ (S5 _ _ hp3)), atI_nat (nv_at (by rw [Pt.len]; exact zl)), _, hD, ?_, same_put S6 nD, ?_⟩
      · rw [List.length_map, List.length_take]
        exact sizeLine_big (by omega)
      · rw [upd_same, take_next (x := fOf pls z) (by rw [List.getElem?_map, hz]; rfl), List.map_append]
        rfl
    · obtain ⟨S6, hD⟩ := h
      rw [List.length_map, List.take_of_length_le (by rw [List.length_map]; omega)] at hD
      have hg6 := S6 _ _ hg5
      have nDg : D ≠ gl := fun e => by rw [e, hg5] at nD; cases nD
      refine ⟨gl, _, _, rfl, rfl, hg6, ?_, ?_⟩
      · rw [List.length_map]
        exact sizeLine_big (by omega)
      refine ⟨_, _, _, bs ++ [D], rfl, same_put (S5.trans S6) ngl, ?_, ?_, ?_⟩
      · rw [upd_same, List.map_append]
        rfl
      · rw [take_next (joined_goes hrm)]
        refine Paired.snoc ?_ ?_
        · have key : ∀ {cs : List Addr} {rows : List (List Nat)}, (∀ b ∈ cs, b ≠ gl) → Paired (fun (b : Addr) (row : List Nat) => H5 b = some (.lst (row.map nV))) cs rows → Paired (fun (b : Addr) (row : List Nat) => (upd H6 gl (.lst (bs.map V.ref ++ [V.ref D]))) b = some (.lst (row.map nV))) cs rows := by
            intro cs rows hn hc
            induction hc with
            | nil => exact .nil
            | cons h1 _ ih =>
              refine .cons ?_ (ih fun b hb => hn b (List.mem_cons_of_mem _ hb))
              rw [upd_ne (hn _ (by simp))]
              exact S6 _ _ h1
          exact key hne hbs
        · rw [upd_ne nDg, hD, goes_getD hrow]
      · intro b hb
        rcases List.mem_append.mp hb with z | z
        · exact hne b z
        · rw [List.mem_singleton.mp z]
          exact nDg
  obtain ⟨y2, y4, y6, bs, rfl, S5, hg5, hbs, hne⟩ := h
  have ln : (joinedT t (fOf pls) (L.map (·.1))).goes.length = ((L.map (·.1)).map nV).length := by rw [O.n, List.length_map, List.length_map, List.length_map]
  rw [← ln, List.take_length] at hbs
  have S35 : Same H H5 := S3.trans S5
  have hr5 := S5 _ _ hr3
  refine ⟨_, rfl, _, rfl, r, rfl, ⟨_, SqL.of hr5⟩, fun D nD => ?_⟩
  refine lc_list (xs := (L.map (·.1)).map nV) (fun j H' => Same H5 H' ∧ H' D = some (.lst ((((L.map (·.1)).map t.kind).take j).map V.int))) ⟨same_upd nD, upd_same⟩ (fun j H' _ h => SqL.of (h.1 _ _ hr5)) (fun j x H6 hx h => ?_) (fun H6 h => ?_)
  · obtain ⟨S6, hD⟩ := h
    rw [List.getElem?_map] at hx
    obtain ⟨z, hz, rfl⟩ := Option.map_eq_some_iff.mp hx
    have zl := room hz
    have lj := lt_of_get hz
    rw [List.length_map] at lj
    refine ⟨rfl, ?_⟩
    refine tYes_if ?_
    refine ⟨_, rfl, a, _, _, _, rfl, rfl, SqT.of (S6 _ _ (S35 _ _ ha.top)), atI_nat (j := 2) rfl, _, rfl, k, _, _, _, rfl, rfl, SqT.of (S6 _ _ (S35 _ _ ha.kinds)), atI_nat (ha.kind W zl), _, hD, ?_, same_put S6 nD, ?_⟩
    · rw [List.length_map, List.length_take]
      exact sizeLine_big (by omega)
    · rw [upd_same, take_next (x := t.kind z) (by rw [List.getElem?_map, hz]; rfl), List.map_append]
      rfl
  obtain ⟨S6, hD⟩ := h
  rw [List.length_map, List.take_of_length_le (by rw [List.length_map]; omega)] at hD
  refine ⟨by show 2 ≤ sizeLine; decide, fun p np => ?_⟩
  have S7 : Same H5 (upd H6 p (.tup [.ref gl, .ref D])) := S6.trans (same_upd np)
  exact q _ p gl D bs pls L (S35.trans S7) upd_same ⟨S7 _ _ hg5, Paired.mapP hbs fun _ _ e => S7 _ _ e⟩ (keep_new hD np) R O
/-! ### least_of, folding -/
def spLeast : Sp := fun vs H Q _ => ∃ (v : V) (T : Str) (t : Tab), vs = [v] ∧ TabV H v T t ∧ t.Good ∧ t.m ≤ 6 ∧ ∀ (H' : Hp) (u : V) (L : Tab), Same H H' → TabV H' u T L → LeastIs t L → Q u H'
theorem d_least_of (F : At K mg "least_of" s_least_of ["table"]) (B : Gb mg) (DP : Df P w K mg base 2 "put_in_order" spPut) (DC : Df P w K mg base 3 "classes_of" spClasses) (DJ : Df P w K mg base 1 "joined" spJoined) : Df P w K mg base 4 "least_of" spLeast := by
  refine F.df sc_least_of (fun vs H Q E h => ?_) (fun f cdv A outer s H vs Q E hr h => ?_)
  · obtain ⟨v, T, t, rfl, _⟩ := h
    rfl
  have nd := sc_least_of.nd
  obtain ⟨v, T, t, rfl, hv, Gt, m6, q⟩ := h
  obtain ⟨a, g0, k0, rs0, ev, ha⟩ := id hv
  subst ev
  have W := Gt.wf
  refine ⟨_, pss_cons (ps_asg (pe_d DP hr (by decide) (by rfl) (pa_cons (pv 0) pa_nil)) (pg_tup rfl (pgs_cons (pg_name (i := 1) nd rfl (.inl rfl)) (pgs_cons (pg_name (i := 2) nd rfl (.inl rfl)) pgs_nil))))
    (pss_one (ps_ret (pe_d DJ hr (by decide) (by rfl) (pa_cons (pe_ix ix_tup (pv 0) pe_int (fun _ _ => rfl)) (pa_cons (pv 1) (pa_cons (pv 2) (pa_cons
      (pe_d DC hr (by decide) (by rfl) (pa_cons (pv 1) (pa_cons (pv 2) (pa_cons (pe_callB call_len_seq (by rfl) B.len b_len (pa_cons (pv 1) pa_nil)) pa_nil)))) pa_nil))))))), ?_⟩
  refine ⟨_, rfl, .ref a, T, t, rfl, hv, Gt, m6, fun H1 p g k rs pls L S1 hp hR hk R O => ?_⟩
  have W' := O.wf Gt R rfl
  refine ⟨p, _, rfl, SqT.of hp, rfl, _, _, rfl, _, _, rfl, rfl, ?_⟩
  refine ⟨_, rfl, a, _, _, _, rfl, rfl, SqT.of (S1 _ _ ha.top), atI_nat (j := 0) rfl, _, rfl, _, rfl, _, rfl, _, rfl, _, rfl, g, _, rfl, .inl (SqL.of hR.top), g, k, rs, joinedT t (fOf pls) (L.map (·.1)), ?_, hR, hk, W', ?_, fun H2 r told S2 hr2 lt St => ?_⟩
  · rw [hR.len]
    rfl
  · rw [O.m]
    exact m6
  refine ⟨T, g, k, r, rs, joinedT t (fOf pls) (L.map (·.1)), told, rfl, hR.mono S2, S2 _ _ hk, hr2, lt, W', by rw [O.m]; exact m6, St.base, fun H3 u L' S3 hu J => ?_⟩
  exact q H3 u L' ((S1.trans S2).trans S3) hu (least_of_iso W W' (O.iso Gt R rfl) (O.inOrd Gt R rfl) St J)
def spFolding : Sp := fun vs H Q _ => ∃ (v : V) (T : Str) (t : Tab), vs = [v] ∧ TabV H v T t ∧ t.Good ∧ t.m ≤ 6 ∧ ∀ (H' : Hp) (p : Addr) (folded : List Nat), Same H H' → H' p = some (.tup (folded.map nV)) → folded.length = t.goes.length → Cls t (fOf folded) → Q (.ref p) H'
theorem d_folding (F : At K mg "folding" s_folding ["table"]) (B : Gb mg) (DP : Df P w K mg base 2 "put_in_order" spPut) (DC : Df P w K mg base 3 "classes_of" spClasses) (DI : Df P w K mg base 1 "in_order" spInOrder) : Df P w K mg base 4 "folding" spFolding := by
  refine F.df sc_folding (fun vs H Q E h => ?_) (fun f cdv A outer s H vs Q E hr h => ?_)
  · obtain ⟨v, T, t, rfl, _⟩ := h
    rfl
  have nd := sc_folding.nd
  obtain ⟨v, T, t, rfl, hv, Gt, m6, q⟩ := h
  obtain ⟨a, g0, k0, rs0, ev, ha⟩ := id hv
  subst ev
  have W := Gt.wf
  have n32 := W.small
  refine ⟨_, pss_cons (ps_asg (pe_d DP hr (by decide) (by rfl) (pa_cons (pv 0) pa_nil)) (pg_tup rfl (pgs_cons (pg_name (i := 1) nd rfl (.inl rfl)) (pgs_cons (pg_name (i := 2) nd rfl (.inl rfl)) pgs_nil))))
    (pss_cons (ps_set (i := 3) nd rfl (.inl rfl) (pe_d DC hr (by decide) (by rfl) (pa_cons (pv 1) (pa_cons (pv 2) (pa_cons (pe_callB call_len_seq (by rfl) B.len b_len (pa_cons (pv 1) pa_nil)) pa_nil)))))
    (pss_cons (ps_setLc (i := 5) (own := [("room", 4)]) (g := gName 4) (tt := tYes) (te := tZero) rfl nd rfl rfl (sw_true rfl rfl rfl (by decide +kernel)) (pi_list (pv 1)) (blkOk_by (N := ["table", "goes", "kinds", "marks", "room", "told", "mark"]) (sc := defScope s_folding) (by decide +kernel)) (fun _ _ _ _ _ => pg_name (i := 4) nd rfl (Or.inl rfl)) (fun _ _ _ _ _ => pts_nil) (fun _ _ _ _ _ => pe_int))
    (pss_cons (ps_for PassesOwn.never rfl (pi_zip (by rfl) B.zip (pa_cons (pe_d DI hr (by decide) (by rfl) (pa_cons (pe_ix ix_tup (pv 0) pe_int (fun _ _ => rfl)) pa_nil)) (pa_cons (pv 3) pa_nil))) (pg_tup rfl (pgs_cons (pg_name (i := 4) nd rfl (.inl rfl)) (pgs_cons (pg_name (i := 6) nd rfl (.inl rfl)) pgs_nil)))
      (pss_one (ps_asg (pv 6) (pg_sub (pv 5) (pv 4) set_list))))
    (pss_one (ps_ret (pe_callTy call_tuple_of (by rfl) B.tuple b_tuple (pa_cons (pv 5) pa_nil))))))), ?_⟩
  refine ⟨_, rfl, .ref a, T, t, rfl, hv, Gt, m6, fun H1 p g k rs pls L S1 hp hR hk R O => ?_⟩
  have W' := O.wf Gt R rfl
  have I := O.iso Gt R rfl
  have lord : L.length = t.goes.length := order_len Gt R
  refine ⟨p, _, rfl, SqT.of hp, rfl, _, _, rfl, _, _, rfl, rfl, ?_⟩
  refine ⟨_, rfl, _, rfl, _, rfl, g, _, rfl, .inl (SqL.of hR.top), g, k, rs, joinedT t (fOf pls) (L.map (·.1)), ?_, hR, hk, W', ?_, fun H2 r told S2 hr2 lt St => ?_⟩
  · rw [hR.len]
    rfl
  · rw [O.m]
    exact m6
  have lrs : (rs.map V.ref).length = t.goes.length := by rw [hR.len, I.n]
  rw [I.n] at lt
  refine ⟨_, rfl, g, rfl, ⟨_, SqL.of (S2 _ _ hR.top)⟩, fun pl npl => ?_⟩
  refine lc_list (xs := rs.map V.ref) (fun i H' => Same H2 H' ∧ H' pl = some (.lst ((List.replicate i 0).map nV))) ⟨same_upd npl, upd_same⟩ (fun i H' _ h => SqL.of (h.1 _ _ (S2 _ _ hR.top))) (fun i x H3 hx h => ?_) (fun H3 h => ?_)
  · obtain ⟨S3, hD⟩ := h
    have := lt_of_get hx
    refine ⟨rfl, ?_⟩
    refine tYes_if ?_
    refine ⟨_, hD, ?_, same_put S3 npl, ?_⟩
    · rw [List.length_map, List.length_replicate]
      exact sizeLine_big (by omega)
    · rw [upd_same, List.replicate_succ', List.map_append]
      rfl
  obtain ⟨S3, hpl⟩ := h
  rw [lrs] at hpl
  have S13 : Same H H3 := (S1.trans S2).trans S3
  have npl2 : H2 pl = none := npl
  have npl0 : H pl = none := none_of (S1.trans S2) npl
  have hr3 := S3 _ _ hr2
  refine ⟨_, rfl, a, _, _, _, rfl, rfl, SqT.of (S13 _ _ ha.top), atI_nat (j := 1) rfl, a, g0, k0, rs0, T, t, rfl, ha.mono (same_tups S13), W, fun H4 ro L2 S4 nro hro R2 => ?_⟩
  have eL : L2.map (·.1) = L.map (·.1) := R2.same R
  rw [eL] at hro
  have hpl4 := S4 _ _ hpl
  have hr4 := S4 _ _ hr3
  have nplr : pl ≠ r := fun e => by rw [e, hr2] at npl; cases npl
  refine ⟨_, rfl, ro, r, _, _, rfl, SqL.of hro, SqL.of hr4, ?_⟩
  have nplo : pl ≠ ro := ne_of_none hpl nro
  refine for_it (walk_zip (xs := (L.map (·.1)).map nV) (ys := told.map nV) (n := t.goes.length) ?_) (fun i σ H' => ∃ (y4 y6 : Option V) (pls' : List Nat), σ = [some (.ref a), some (.ref g), some (.ref k), some (.ref r), y4, some (.ref pl), y6] ∧ Same H H' ∧ H' ro = some (.lst ((L.map (·.1)).map nV)) ∧ H' r = some (.lst (told.map nV)) ∧ H' pl = some (.lst (pls'.map nV)) ∧ PutAt (L.map (·.1)) t.goes.length (fOf told) pls' i)
    ⟨_, _, _, rfl, S13.trans S4, hro, hr4, hpl4, ⟨List.length_replicate, fun p r hp => by omega⟩⟩ (fun i σ H' _ h => by obtain ⟨_, _, _, _, _, h1, h2, _⟩ := h; exact ⟨SqL.of h1, SqL.of h2⟩) (fun i v σ H5 H5' hi h hY => ?_) (fun σ H5 h => ?_)
  · rw [List.length_map, List.length_map, List.length_map, lord, lt]
    exact (Nat.min_self _).symm
  · obtain ⟨y4, y6, pls', rfl, S5, hro5, hr5, hp5, Pt⟩ := h
    obtain ⟨TT, x, y, rfl, nT, rfl, ex, ey⟩ := hY
    have ex : ((L.map (·.1)).map nV)[i]? = some x := ex
    have ey : (told.map nV)[i]? = some y := ey
    rw [List.getElem?_map] at ex
    obtain ⟨rm, hrm, rfl⟩ := Option.map_eq_some_iff.mp ex
    rw [nv_at (by omega)] at ey
    cases ey
    have lrm := ord_room W R hrm
    refine ⟨TT, _, rfl, SqT.of upd_same, rfl, _, _, rfl, _, _, rfl, rfl, ?_⟩
    have S6 : Same H (upd H5 TT (.tup [nV rm, nV (told.getD i 0)])) := S5.trans (same_upd nT)
    have hro6 := keep_new (o := .tup [nV rm, nV (told.getD i 0)]) hro5 nT
    have hr6 := keep_new (o := .tup [nV rm, nV (told.getD i 0)]) hr5 nT
    have hp6 := keep_new (o := .tup [nV rm, nV (told.getD i 0)]) hp5 nT
    generalize upd H5 TT (.tup [nV rm, nV (told.getD i 0)]) = H6 at S6 hro6 hr6 hp6 ⊢
    refine ⟨_, rfl, _, rfl, _, rfl, pl, _, _, rm, rfl, rfl, hp6, ixN_nat (by rw [List.length_map, Pt.len]; exact lrm), ?_⟩
    refine ⟨_, _, pls'.set rm (fOf told i), rfl, same_put S6 npl0, by rw [upd_ne nplo.symm]; exact hro6, by rw [upd_ne nplr.symm]; exact hr6, ?_, Pt.next R.nodup hrm lrm⟩
    rw [upd_same, List.map_set]
    rfl
  · obtain ⟨y4, y6, pls', rfl, S5, hro5, hr5, hp5, Pt⟩ := h
    refine ⟨_, rfl, pl, _, rfl, .inl ⟨SqL.of hp5, fun tp ntp => ?_⟩⟩
    refine q _ tp pls' (S5.trans (same_upd ntp)) upd_same Pt.len ((I.cls W (St.cls W' (O.inOrd Gt R rfl))).congr W fun x hx => ?_)
    obtain ⟨h1, h2⟩ := O.place Gt R rfl hx
    exact (Pt.at_ _ x h2 h1).symm
end
end K64
set_option autoImplicit true
set_option Elab.async false
set_option linter.all false
set_option maxRecDepth 100000
set_option maxHeartbeats 4000000
namespace K64
open PySem PySem.Spec PyProof.Rows L2
/-! ### the pen of the law -/
structure PenAt (H : Hp) (p s : Addr) (n : Nat) : Prop where
  ex : ∃ (ns : List Int) (at' rest : Int), H p = some (.lst [.ref s, .int at', .int rest]) ∧ H s = some (.lst (ns.map V.int)) ∧ s ≠ p ∧ ns.length ≤ 63 ∧ 0 ≤ at' ∧ at' ≤ n ∧ 0 ≤ rest
theorem PenAt.mono {H : Hp} {p s : Addr} {n m : Nat} (h : PenAt H p s n) (l : n ≤ m) : PenAt H p s m := by
  obtain ⟨ns, at', rest, h1, h2, h3, h4, h5, h6, h7⟩ := h.ex
  exact ⟨ns, at', rest, h1, h2, h3, h4, h5, by omega, h7⟩
theorem PenAt.keep {H H' : Hp} {p s : Addr} {n : Nat} (h : PenAt H p s n) (S : Same H H') : PenAt H' p s n := by
  obtain ⟨ns, at', rest, h1, h2, h3, h4, h5, h6, h7⟩ := h.ex
  exact ⟨ns, at', rest, S _ _ h1, S _ _ h2, h3, h4, h5, h6, h7⟩
theorem PenAt.put {H : Hp} {p s l : Addr} {n : Nat} {o : HO} (h : PenAt H p s n) (n1 : l ≠ p) (n2 : l ≠ s) : PenAt (upd H l o) p s n := by
  obtain ⟨ns, at', rest, h1, h2, h3, h4, h5, h6, h7⟩ := h.ex
  exact ⟨ns, at', rest, by rw [upd_ne n1.symm]; exact h1, by rw [upd_ne n2.symm]; exact h2, h3, h4, h5, h6, h7⟩
theorem PenAt.pen {H : Hp} {p s : Addr} {n : Nat} (h : PenAt H p s n) : ∃ xs, H p = some (.lst xs) := let ⟨_, _, _, h1, _⟩ := h.ex; ⟨_, h1⟩
theorem PenAt.scr {H : Hp} {p s : Addr} {n : Nat} (h : PenAt H p s n) : ∃ xs, H s = some (.lst xs) := let ⟨_, _, _, _, h1, _⟩ := h.ex; ⟨_, h1⟩
theorem PenAt.ne {H : Hp} {p s l : Addr} {n : Nat} (h : PenAt H p s n) (hl : H l = none) : l ≠ p ∧ l ≠ s := by
  obtain ⟨_, h1⟩ := h.pen
  obtain ⟨_, h2⟩ := h.scr
  exact ⟨fun e => (by rw [e, h1] at hl; cases hl), fun e => (by rw [e, h2] at hl; cases hl)⟩
theorem PenAt.tups {H H' : Hp} {p s : Addr} {n : Nat} (h : PenAt H p s n) (b : But p H H') : Tups H H' := b.tups fun xs e => by
  obtain ⟨ys, h1⟩ := h.pen
  rw [h1] at e
  cases e
theorem but_put {p l : Addr} {H H1 : Hp} {o : HO} (s : But p H H1) (n : H l = none) : But p H (upd H1 l o) := fun x u hn e => by
  rw [upd_ne (ne_of_none e n)]
  exact s x u hn e
theorem atI_int {α : Type} {xs : List α} {i : Int} (h0 : 0 ≤ i) (h1 : i < xs.length) : ∃ x, atI xs i = some x ∧ x ∈ xs := by
  obtain ⟨k, rfl⟩ : ∃ k : Nat, i = (k : Int) := ⟨i.toNat, (Int.toNat_of_nonneg h0).symm⟩
  obtain ⟨x, hx⟩ := get_of_lt (l := xs) (j := k) (by omega)
  exact ⟨x, atI_nat hx, List.mem_of_getElem? hx⟩
theorem pow_ok {a : Int} (c : Int) (h0 : 0 ≤ a) (h1 : a ≤ 100000) : (c % 2147483587 + 40709 * a + 31).natAbs < 2 ^ 64 := by
  have a1 := Int.emod_nonneg c (show (2147483587 : Int) ≠ 0 by decide)
  have a2 := Int.emod_lt_of_pos c (show (0 : Int) < 2147483587 by decide)
  omega
theorem num_ok (c : Int) : -(2 ^ 64) < c % 2147483647 ∧ c % 2147483647 < 2 ^ 64 := by
  have a1 := Int.emod_nonneg c (show (2147483647 : Int) ≠ 0 by decide)
  have a2 := Int.emod_lt_of_pos c (show (0 : Int) < 2147483647 by decide)
  omega
section
variable {P : Program} {w : World} {K : PySem.W.Frag} {mg : Str → Option Value} {base : Heap}
def spPen : Sp := fun vs H Q _ => ∃ (a : Addr) (ns : List Int), vs = [.ref a] ∧ SqL K H a (ns.map V.int) ∧ ns.length ≤ 63 ∧ ∀ (H' : Hp) (p s : Addr), Same H H' → H p = none → H s = none → PenAt H' p s 0 → Q (.ref p) H'
theorem d_pen (F : At K mg "_law_pen" s_l_pen ["_law_script"]) : Df P w K mg base 1 "_law_pen" (spPen (K := K)) := by
  refine F.df sc_l_pen (fun vs H Q E h => ?_) (fun f cdv A outer sh H vs Q E hr h => ?_)
  · obtain ⟨a, ns, rfl, _⟩ := h
    rfl
  obtain ⟨a, ns, rfl, hs, hl, q⟩ := h
  refine ⟨_, pss_one (ps_ret (pe_lst (pa_cons (pe_slice sl_list (pv 0) po_none (po_some pe_int)) (pa_cons pe_int (pa_cons pe_int pa_nil))))), ?_⟩
  refine ⟨_, rfl, _, rfl, a, _, rfl, hs, fun s ns' => ⟨by show 3 ≤ sizeLine; decide, fun p np => ?_⟩⟩
  have ns0 : H s = none := ns'
  have np0 : H p = none := none_of (same_upd ns') np
  have nsp : s ≠ p := fun e => by rw [← e, upd_same] at np; cases np
  have el : cutV (ns.map V.int) none (some 63) = ((ns.drop (HT.sIx ns.length 0 none)).take (HT.sIx ns.length ns.length (some 63) - HT.sIx ns.length 0 none)).map V.int := by
    unfold cutV
    rw [List.length_map, ← List.map_drop, ← List.map_take]
  have ll := cutV_length (ns.map V.int) none (some 63)
  rw [el, List.length_map, List.length_map] at ll
  refine q _ p s (same_put (same_upd ns') np0) np0 ns0 ⟨(ns.drop (HT.sIx ns.length 0 none)).take (HT.sIx ns.length ns.length (some 63) - HT.sIx ns.length 0 none), 0, 0, upd_same, ?_, nsp, by omega, Int.le_refl _, Int.le_refl _, Int.le_refl _⟩
  rw [upd_ne nsp, upd_same, el]
def spTake : Sp := fun vs H Q _ => ∃ (p s : Addr) (m : Int) (n : Nat), vs = [.ref p, .int m] ∧ PenAt H p s n ∧ n ≤ 100000 ∧ 0 < m ∧ m < 1073741824 ∧ ∀ (H' : Hp) (x : Int), But p H H' → PenAt H' p s (n + 1) → 0 ≤ x → x < m → Q (.int x) H'
theorem d_take (F : At K mg "_law_take" s_l_take ["_law_pen_here", "_law_many"]) (B : Gb mg) : Df P w K mg base 1 "_law_take" spTake := by
  refine F.df sc_l_take (fun vs H Q E h => ?_) (fun f cdv A outer sh H vs Q E hr h => ?_)
  · obtain ⟨p, s, m, n, rfl, _⟩ := h
    rfl
  have nd := sc_l_take.nd
  obtain ⟨p, s, m, n, rfl, hP, hn, m0, m30, q⟩ := h
  obtain ⟨ns, at', rest, hp, hs, nsp, hns, a0, an, r0⟩ := hP.ex
  refine ⟨_, pss_cons (ps_if (pt_cmpR op_gt (pe_ix ix_list (pv 0) pe_int (fun _ _ => rfl)) pe_int (nomark _))
      (pss_cons (ps_set (i := 2) nd rfl (.inl rfl) (pe_op op_mod (pe_ix ix_list (pv 0) pe_int (fun _ _ => rfl)) (pv 1)))
      (pss_cons (ps_asg (pe_op op_fdiv (pe_ix ix_list (pv 0) pe_int (fun _ _ => rfl)) (pv 1)) (pg_sub (pv 0) pe_int set_list))
      (pss_one (ps_ret (pv 2))))) pss_nil)
    (pss_cons (ps_set (i := 3) nd rfl (.inl rfl) (pe_ix ix_list (pv 0) pe_int (fun _ _ => rfl)))
    (pss_cons (ps_asg (pe_op op_add (pv 3) pe_int) (pg_sub (pv 0) pe_int set_list))
    (pss_cons (ps_set (i := 4) nd rfl (.inl rfl) pe_int)
    (pss_cons (ps_if (pt_cmpR op_gt (pe_callB call_len_seq (by rfl) B.len b_len (pa_cons (pe_ix ix_list (pv 0) pe_int (fun _ _ => rfl)) pa_nil)) pe_int (nomark _))
      (pss_one (ps_set (i := 4) nd rfl (.inl rfl) (pe_ix ix_list (pe_ix ix_list (pv 0) pe_int (fun _ _ => rfl)) (pe_op op_mod (pv 3) (pe_callB call_len_seq (by rfl) B.len b_len (pa_cons (pe_ix ix_list (pv 0) pe_int (fun _ _ => rfl)) pa_nil))) (fun _ _ => rfl)))) pss_nil)
    (pss_cons (ps_if (pw_and (pt_cmpR op_lt (pv 3) (pe_callB call_len_seq (by rfl) B.len b_len (pa_cons (pe_ix ix_list (pv 0) pe_int (fun _ _ => rfl)) pa_nil)) (nomark _))
        (pw_and1 (pt_cmpR op_ge (pe_callB call_abs (by rfl) B.abs b_abs (pa_cons (pv 4) pa_nil)) (pe_op op_pow pe_int pe_int) (nomark _)))).pt
      (pss_cons (ps_set (i := 5) nd rfl (.inl rfl) (pe_op op_add (pe_op op_mul pe_int (pe_callB call_abs (by rfl) B.abs b_abs (pa_cons (pv 4) pa_nil))) (pe_callTy call_int1 (by rfl) B.int b_int (pa_cons (pe_cmpR op_lt (pv 4) pe_int (nomark _)) pa_nil))))
      (pss_cons (ps_asg (pe_op op_fdiv (pv 5) (pv 1)) (pg_sub (pv 0) pe_int set_list))
      (pss_one (ps_ret (pe_op op_mod (pv 5) (pv 1)))))) pss_nil)
    (pss_cons (ps_set (i := 6) nd rfl (.inl rfl) (pe_op op_mod (pe_op op_pow (pe_op op_add (pe_op op_add (pe_op op_mod (pv 4) pe_int) (pe_op op_mul pe_int (pv 3))) pe_int) pe_int) pe_int))
    (pss_cons (ps_set (i := 6) nd rfl (.inl rfl) (pe_op op_mod (pe_op op_add (pe_op op_add (pe_op op_mul (pv 6) (pv 6)) (pe_op op_mul pe_int (pv 6))) (pv 3)) pe_int))
    (pss_one (ps_ret (pe_op op_mod (pe_op op_fdiv (pv 6) pe_int) (pv 1))))))))))), ?_⟩
  refine ⟨_, rfl, p, _, _, _, rfl, rfl, SqL.of hp, atI_nat (j := 2) rfl, _, _, rfl, rfl, _, rfl, ite2 (fun z => ?_) (fun z => ?_)⟩
  · refine ⟨_, rfl, p, _, _, _, rfl, rfl, SqL.of hp, atI_nat (j := 2) rfl, _, rfl, _, _, rfl, rfl, m0, ?_⟩
    refine ⟨_, rfl, p, _, _, _, rfl, rfl, SqL.of hp, atI_nat (j := 2) rfl, _, rfl, _, _, rfl, rfl, ⟨m0, m30⟩, _, rfl, p, _, _, 2, rfl, rfl, hp, rfl, ?_⟩
    refine ⟨_, rfl, q _ _ But.upd ⟨ns, at', rest / m, upd_same, by rw [upd_ne nsp]; exact hs, nsp, hns, a0, by omega, Int.ediv_nonneg r0 (Int.le_of_lt m0)⟩ (Int.emod_nonneg _ (Int.ne_of_gt m0)) (Int.emod_lt_of_pos _ m0)⟩
  refine ⟨_, rfl, p, _, _, _, rfl, rfl, SqL.of hp, atI_nat (j := 1) rfl, ?_⟩
  refine ⟨_, rfl, _, _, rfl, rfl, _, rfl, p, _, _, 1, rfl, rfl, hp, rfl, ?_⟩
  have hp1 : (upd H p (.lst [.ref s, .int (at' + 1), .int rest])) p = some (.lst [.ref s, .int (at' + 1), .int rest]) := upd_same
  have hs1 : (upd H p (.lst [.ref s, .int (at' + 1), .int rest])) s = some (.lst (ns.map V.int)) := by rw [upd_ne nsp]; exact hs
  have B1 : But p H (upd H p (.lst [.ref s, .int (at' + 1), .int rest])) := But.upd
  have e31 : ((10 : Int) ^ (18 : Int).toNat) = 1000000000000000000 := by decide
  have P1 : PenAt (upd H p (.lst [.ref s, .int (at' + 1), .int rest])) p s (n + 1) := ⟨ns, at' + 1, rest, hp1, hs1, nsp, hns, by omega, by omega, r0⟩
  refine ⟨_, rfl, p, _, _, _, rfl, rfl, SqL.of hp1, atI_nat (j := 0) rfl, s, _, rfl, .inl (SqL.of hs1), _, _, rfl, rfl, _, rfl, ite2 (fun z => ?hit) (fun z => ?miss)⟩
  case' hit =>
    have l0 : 0 < (ns.map V.int).length := by
      have := of_decide_eq_true z
      omega
    obtain ⟨x, hx, mx⟩ := atI_int (xs := ns.map V.int) (i := at' % ((ns.map V.int).length : Nat)) (Int.emod_nonneg _ (by omega)) (Int.emod_lt_of_pos _ (by omega))
    obtain ⟨c, _, rfl⟩ := List.mem_map.mp mx
    refine ⟨_, rfl, p, _, _, _, rfl, rfl, SqL.of hp1, atI_nat (j := 0) rfl, _, rfl, _, rfl, p, _, _, _, rfl, rfl, SqL.of hp1, atI_nat (j := 0) rfl, s, _, rfl, .inl (SqL.of hs1), _, _, rfl, rfl, by omega, s, _, _, _, rfl, rfl, SqL.of hs1, hx, ?_⟩
  all_goals
    refine ⟨_, rfl, _, rfl, p, _, _, _, rfl, rfl, SqL.of hp1, atI_nat (j := 0) rfl, s, _, rfl, .inl (SqL.of hs1), _, _, rfl, rfl, _, rfl, ?_⟩
    refine ite2 (fun z1 => ?_) (fun z1 => ?_)
    · refine ⟨_, rfl, _, rfl, _, _, rfl, rfl, ⟨by decide, by decide, by decide⟩, _, _, rfl, rfl, _, rfl, ite2 (fun z2 => ?_) (fun z2 => ?_)⟩
      · refine ⟨_, rfl, _, rfl, _, _, rfl, rfl, .inl ⟨by decide, by decide⟩, _, rfl, _, _, rfl, rfl, .inr ⟨_, rfl, _, _, rfl, rfl, ?_⟩⟩
        refine ⟨_, rfl, _, rfl, _, _, rfl, rfl, ⟨m0, m30⟩, _, rfl, p, _, _, 2, rfl, rfl, hp1, rfl, ?_⟩
        refine ⟨_, rfl, _, rfl, _, _, rfl, rfl, m0, q _ _ (B1.trans But.upd) ⟨ns, at' + 1, _, upd_same, by rw [upd_ne nsp]; exact hs1, nsp, hns, by omega, by omega, Int.ediv_nonneg ?_ (Int.le_of_lt m0)⟩ (Int.emod_nonneg _ (Int.ne_of_gt m0)) (Int.emod_lt_of_pos _ m0)⟩
        split <;> split <;> omega
      · refine ⟨_, rfl, _, _, rfl, rfl, (show (0 : Int) < 2147483587 by decide), _, rfl, _, _, rfl, rfl, .inl ⟨by decide, by decide⟩, _, _, rfl, rfl, _, _, rfl, rfl, _, _, rfl, rfl, ⟨(show (0 : Int) ≤ 3 by decide), (show (3 : Int) ≤ 1000000 by decide), ?_⟩, _, _, rfl, rfl, (show (0 : Int) < 2147483647 by decide), ?_⟩
        · exact pow_ok _ a0 (by omega)
        refine ⟨_, rfl, _, rfl, _, _, rfl, rfl, .inl (num_ok _), _, rfl, _, _, rfl, rfl, .inl ⟨by decide, by decide⟩, _, _, rfl, rfl, _, rfl, _, _, rfl, rfl, _, _, rfl, rfl, (show (0 : Int) < 2147483629 by decide), ?_⟩
        refine ⟨_, rfl, _, _, rfl, rfl, ⟨by decide, by decide⟩, _, rfl, _, _, rfl, rfl, m0, q _ _ B1 P1 (Int.emod_nonneg _ (Int.ne_of_gt m0)) (Int.emod_lt_of_pos _ m0)⟩
    · refine ⟨_, rfl, _, _, rfl, rfl, (show (0 : Int) < 2147483587 by decide), _, rfl, _, _, rfl, rfl, .inl ⟨by decide, by decide⟩, _, _, rfl, rfl, _, _, rfl, rfl, _, _, rfl, rfl, ⟨(show (0 : Int) ≤ 3 by decide), (show (3 : Int) ≤ 1000000 by decide), ?_⟩, _, _, rfl, rfl, (show (0 : Int) < 2147483647 by decide), ?_⟩
      · exact pow_ok _ a0 (by omega)
      refine ⟨_, rfl, _, rfl, _, _, rfl, rfl, .inl (num_ok _), _, rfl, _, _, rfl, rfl, .inl ⟨by decide, by decide⟩, _, _, rfl, rfl, _, rfl, _, _, rfl, rfl, _, _, rfl, rfl, (show (0 : Int) < 2147483629 by decide), ?_⟩
      refine ⟨_, rfl, _, _, rfl, rfl, ⟨by decide, by decide⟩, _, rfl, _, _, rfl, rfl, m0, q _ _ B1 P1 (Int.emod_nonneg _ (Int.ne_of_gt m0)) (Int.emod_lt_of_pos _ m0)⟩
end
end K64
set_option autoImplicit true
set_option Elab.async false
set_option linter.all false
set_option maxRecDepth 100000
set_option maxHeartbeats 4000000
namespace K64
open PySem PySem.Spec PyProof.Rows L2
theorem str_append_list (a b : Str) : (a ++ b).cps.toList = a.cps.toList ++ b.cps.toList := TL.tl_append a b
theorem cutS_left (z : Str) (k : Nat) : (cutS z none (some (k : Int))).cps.toList = z.cps.toList.take k := by
  have e : z.length = z.cps.toList.length := (Array.length_toList).symm
  unfold cutS
  rw [HT.sIx_none, HT.sIx_nat, List.drop_zero, Nat.sub_zero]
  show (z.cps.toList.take (min k z.length)) = _
  rw [e, ← List.take_take, List.take_length]
theorem cutS_right (z : Str) (k : Nat) : (cutS z (some (k : Int)) none).cps.toList = z.cps.toList.drop k := by
  have e : z.length = z.cps.toList.length := (Array.length_toList).symm
  unfold cutS
  rw [HT.sIx_none, HT.sIx_nat]
  show ((z.cps.toList.drop (min k z.length)).take (z.length - min k z.length)) = _
  rw [e]
  by_cases h : k ≤ z.cps.toList.length
  · rw [Nat.min_eq_left h]
    exact List.take_of_length_le (by rw [List.length_drop]; exact Nat.le_refl _)
  · rw [Nat.min_eq_right (by omega), List.drop_eq_nil_of_le (Nat.le_refl _), List.drop_eq_nil_of_le (by omega)]
    exact List.take_nil
/-- signs taken and signs left -/
structure Signs (f r : Str) (i : Nat) : Prop where
  nodup : (f.cps.toList ++ r.cps.toList).Nodup
  ascii : ∀ c ∈ f.cps.toList ++ r.cps.toList, c < 128
  len : f.cps.toList.length = i
theorem Signs.next {f r : Str} {i k c : Nat} (h : Signs f r i) (hc : r.cps.toList[k]? = some c) : Signs (f ++ ⟨#[c]⟩) (cutS r none (some (k : Int)) ++ cutS r (some ((k : Int) + 1)) none) (i + 1) := by
  obtain ⟨l1, e1⟩ := List.getElem?_eq_some_iff.mp hc
  have e2 : (f ++ (⟨#[c]⟩ : Str)).cps.toList = f.cps.toList ++ [c] := str_append_list f ⟨#[c]⟩
  have e3 : (cutS r none (some (k : Int)) ++ cutS r (some ((k : Int) + 1)) none).cps.toList = r.cps.toList.take k ++ r.cps.toList.drop (k + 1) := by
    rw [str_append_list, cutS_left, show ((k : Int) + 1) = ((k + 1 : Nat) : Int) by omega, cutS_right]
  have e4 : r.cps.toList = r.cps.toList.take k ++ c :: r.cps.toList.drop (k + 1) := by
    rw [← e1, List.getElem_cons_drop, List.take_append_drop]
  have pm : ((f.cps.toList ++ [c]) ++ (r.cps.toList.take k ++ r.cps.toList.drop (k + 1))).Perm (f.cps.toList ++ r.cps.toList) := by
    rw [List.append_assoc]
    refine List.Perm.append_left _ ?_
    show (c :: (r.cps.toList.take k ++ r.cps.toList.drop (k + 1))).Perm r.cps.toList
    conv => rhs; rw [e4]
    exact List.perm_middle.symm
  refine ⟨?_, ?_, ?_⟩
  · rw [e2, e3]
    exact pm.nodup_iff.mpr h.nodup
  · rw [e2, e3]
    exact fun x hx => h.ascii x (pm.mem_iff.mp hx)
  · rw [e2, List.length_append, h.len]
    rfl
theorem signs_left {r : Str} {k : Nat} (h : k < r.length) : (cutS r none (some (k : Int)) ++ cutS r (some ((k : Int) + 1)) none).length = r.length - 1 := by
  have e : ∀ z : Str, z.length = z.cps.toList.length := fun z => (Array.length_toList).symm
  rw [e, str_append_list, cutS_left, show ((k : Int) + 1) = ((k + 1 : Nat) : Int) by omega, cutS_right, List.length_append, List.length_take, List.length_drop]
  rw [e] at h ⊢
  omega
section
variable {P : Program} {w : World} {K : PySem.W.Frag} {mg : Str → Option Value} {base : Heap}
def spSigns : Sp := fun vs H Q _ => vs = [] ∧ ∀ z : Str, z.cps.toList.Nodup → (∀ c ∈ z.cps.toList, c < 128) → 6 ≤ z.length → z.length ≤ 200 → Q (.str z) H
theorem d_signs (F : At K mg "_law_signs" s_l_signs []) : Df P w K mg base 1 "_law_signs" spSigns := by
  refine F.df sc_l_signs (fun vs H Q E h => ?_) (fun f cdv A outer sh H vs Q E hr h => ?_)
  · obtain ⟨rfl, _⟩ := h
    rfl
  have nd := sc_l_signs.nd
  obtain ⟨rfl, q⟩ := h
  refine ⟨_, pss_cons (ps_set (i := 0) nd rfl (.inl rfl) pe_str) (pss_one (ps_ret (pe_op op_add_str (pv 0) pe_str))), ?_⟩
  refine ⟨_, rfl, _, _, rfl, rfl, by decide +kernel, q _ (by decide +kernel) (by decide +kernel) (by decide +kernel) (by decide +kernel)⟩
def spSome : Sp := fun vs H Q _ => ∃ (p s : Addr) (z : Str) (most : Int) (n : Nat), vs = [.ref p, .str z, .int most] ∧ PenAt H p s n ∧ n ≤ 90000 ∧ z.cps.toList.Nodup ∧ (∀ c ∈ z.cps.toList, c < 128) ∧ 6 ≤ z.length ∧ z.length ≤ 200 ∧ 1 ≤ most ∧ most ≤ 6 ∧
  ∀ (H' : Hp) (T : Str) (m : Nat), But p H H' → PenAt H' p s (n + 10) → Tg T m → Q (.str T) H'
theorem d_some (F : At K mg "_law_some" s_l_some ["_law_pen_here", "_law_rest", "_law_most"]) (B : Gb mg) (DT : Df P w K mg base 1 "_law_take" spTake) : Df P w K mg base 2 "_law_some" spSome := by
  refine F.df sc_l_some (fun vs H Q E h => ?_) (fun f cdv A outer sh H vs Q E hr h => ?_)
  · obtain ⟨p, s, z, most, n, rfl, _⟩ := h
    rfl
  have nd := sc_l_some.nd
  obtain ⟨p, s, z, most, n, rfl, hP, hn, zn, za, z6, z200, m1, m6, q⟩ := h
  refine ⟨_, pss_cons (ps_set (i := 3) nd rfl (.inl rfl) pe_str)
    (pss_cons (ps_for PassesOwn.never rfl (pi_range1 (by rfl) B.range (pa_cons (pe_op op_add pe_int (pe_d DT hr (by decide) (by rfl) (pa_cons (pv 0) (pa_cons (pv 2) pa_nil)))) pa_nil)) (pg_name (i := 4) nd rfl (.inl rfl))
      (pss_cons (ps_set (i := 5) nd rfl (.inl rfl) (pe_d DT hr (by decide) (by rfl) (pa_cons (pv 0) (pa_cons (pe_callB call_len_str (by rfl) B.len b_len (pa_cons (pv 1) pa_nil)) pa_nil))))
      (pss_cons (ps_set (i := 3) nd rfl (.inl rfl) (pe_op op_add_str (pv 3) (pe_ix ix_str (pv 1) (pv 5) (fun _ _ => rfl))))
      (pss_one (ps_set (i := 1) nd rfl (.inl rfl) (pe_op op_add_str (pe_slice sl_str (pv 1) po_none (po_some (pv 5))) (pe_slice sl_str (pv 1) (po_some (pe_op op_add (pv 5) pe_int)) po_none)))))))
    (pss_one (ps_ret (pv 3)))), ?_⟩
  have z0 : ∀ x : Str, x.length ≤ 300 → x.length ≤ sizeLine := fun x h => Nat.le_of_lt (sizeLine_big (by omega))
  refine ⟨_, rfl, _, rfl, p, s, most, n, rfl, hP, by omega, by omega, by omega, fun H1 x B1 P1 x0 xm => ⟨_, _, rfl, rfl, _, rfl, by show _ ≤ _; omega, by show _ < _; omega, ?_⟩⟩
  have ec : ((fun i j => V.int (i + j)) 1 x) = V.int (1 + x) := rfl
  refine for_range (n := (1 + x).toNat) (fun i σ H' => ∃ (y4 y5 : Option V) (rz fz : Str), σ = [some (.ref p), some (.str rz), some (.int most), some (.str fz), y4, y5] ∧ But p H H' ∧ PenAt H' p s (n + 1 + i) ∧ Signs fz rz i ∧ rz.length + i = z.length)
    ⟨_, _, z, _, rfl, B1, P1, ⟨?_, ?_, rfl⟩, rfl⟩ (fun i σ H2 hi h => ?_) (fun σ H2 h => ?_)
  · exact zn
  · exact za
  · obtain ⟨y4, y5, rz, fz, rfl, B2, P2, Sg, hl⟩ := h
    have hi6 : i < 6 := by omega
    have lf : fz.length = i := by rw [← Sg.len]; exact (Array.length_toList).symm
    refine ⟨_, rfl, _, rfl, rz, rfl, z0 _ (by omega), p, s, _, n + 1 + i, rfl, P2, by omega, by omega, by omega, fun H3 k B3 P3 k0 kl => ?_⟩
    obtain ⟨k, rfl⟩ : ∃ j : Nat, k = (j : Int) := ⟨k.toNat, (Int.toNat_of_nonneg k0).symm⟩
    have kl' : k < rz.length := by omega
    obtain ⟨c, hc⟩ := get_of_lt (l := rz.cps.toList) (j := k) (by rw [Array.length_toList]; exact kl')
    have e1 := signs_left kl'
    refine ⟨_, rfl, _, rfl, _, rfl, rz, _, _, rfl, rfl, z0 _ (by omega), atI_nat hc, _, _, rfl, rfl, ?_, ?_⟩
    · show fz.length + 1 ≤ sizeLine
      exact Nat.le_of_lt (sizeLine_big (by omega))
    refine ⟨_, rfl, _, rfl, _, rfl, rz, rfl, z0 _ (by omega), _, rfl, _, rfl, _, _, rfl, rfl, _, rfl, rz, rfl, z0 _ (by omega), _, _, rfl, rfl, ?_, ?_⟩
    · have a1 := cutS_length rz none (some (k : Int))
      have a2 := cutS_length rz (some ((k : Int) + 1)) none
      exact Nat.le_of_lt (sizeLine_big (by omega))
    exact ⟨_, _, _, _, rfl, B2.trans B3, P3, Sg.next hc, by rw [e1]; omega⟩
  · obtain ⟨y4, y5, rz, fz, rfl, B2, P2, Sg, hl⟩ := h
    refine ⟨_, rfl, q H2 fz (1 + x).toNat B2 (P2.mono (by omega)) ⟨?_, ?_, by omega, by omega, ?_⟩⟩
    · exact (List.nodup_append.mp Sg.nodup).1
    · rw [← Sg.len]
      exact (Array.length_toList).symm
    · exact fun c hc => Sg.ascii c (List.mem_append_left _ hc)
end
end K64
set_option autoImplicit true
set_option Elab.async false
set_option linter.all false
set_option maxRecDepth 100000
set_option maxHeartbeats 4000000
namespace K64
open PySem PySem.Spec PyProof.Rows L2
/-! ### a table cut down to the rooms met, in another order -/
/-- a table as it is drawn -/
structure Raw (t : Tab) : Prop where
  wf : t.Wf
  zero : t.kind 0 = -1
  low : ∀ r, -1 ≤ t.kind r
theorem joined_step {t : Tab} {pl : Nat → Nat} {ord : List Nat} {c r i : Nat} (W : t.Wf) (h : ord[c]? = some r) (hr : r < t.goes.length) (hi : i < t.m) : (joinedT t pl ord).step c i = pl (t.step r i) := by
  obtain ⟨row, h1, h2, _⟩ := W.at_ hr hi
  refine Tab.step_of (joined_goes h) ?_
  rw [goes_getD h1, List.getElem?_map, h2]
  rfl
theorem joined_kind {t : Tab} {pl : Nat → Nat} {ord : List Nat} {c r : Nat} (h : ord[c]? = some r) : (joinedT t pl ord).kind c = t.kind r := by
  show (ord.map t.kind).getD c (-1) = _
  rw [List.getD_eq_getElem?_getD, List.getElem?_map, h]
  rfl
theorem good_of {t : Tab} {L : List (Nat × List Nat)} {ord : List Nat} {pl : Nat → Nat} (T0 : Raw t) (R : Reach t.step t.m 0 L) (pm : ord.Perm (L.map (·.1))) (h0 : ord[0]? = some 0) (hpl : ∀ (c : Nat) r, ord[c]? = some r → pl r = c) : (joinedT t pl ord).Good := by
  have W := T0.wf
  have room : ∀ {r : Nat}, r ∈ ord → r < t.goes.length := fun h => by
    obtain ⟨v, hv, e⟩ := R.of_mem (pm.mem_iff.mp h)
    rw [← e]
    exact W.run_lt v 0 W.pos hv
  have met : ∀ {v : List Nat}, Ok t.m v → run t.step 0 v ∈ ord := fun hv => pm.mem_iff.mpr (R.mem _ hv)
  have lg : (joinedT t pl ord).goes.length = ord.length := List.length_map _
  have plt : ∀ {r : Nat}, r ∈ ord → pl r < ord.length ∧ ord[pl r]? = some r := fun h => by
    obtain ⟨c, hc⟩ := List.mem_iff_getElem?.mp h
    rw [hpl c _ hc]
    exact ⟨lt_of_get hc, hc⟩
  have nd : ord.Nodup := pm.nodup_iff.mpr R.nodup
  have p0 : 0 < ord.length := lt_of_get h0
  have go : ∀ {r i : Nat}, r ∈ ord → i < t.m → t.step r i ∈ ord := fun h hi => by
    obtain ⟨v, hv, e⟩ := R.of_mem (pm.mem_iff.mp h)
    have := met (hv.snoc hi)
    rw [run_snoc, e] at this
    exact this
  have W' : (joinedT t pl ord).Wf := by
    refine ⟨by omega, ?_, ?_, fun c row hc => ?_⟩
    · have := List.Nodup.length_le_of_subset nd (l₂ := List.range t.goes.length) fun x hx => List.mem_range.mpr (room hx)
      rw [List.length_range] at this
      have := W.small
      omega
    · rw [lg]
      exact List.length_map _
    · have hl := lt_of_get hc
      rw [lg] at hl
      obtain ⟨r, hr⟩ := get_of_lt hl
      have hm := List.mem_of_getElem? hr
      rw [joined_goes hr] at hc
      obtain ⟨row0, h0⟩ := get_of_lt (room hm)
      obtain ⟨l1, l2⟩ := W.row r row0 h0
      rw [goes_getD h0] at hc
      cases hc
      refine ⟨by rw [List.length_map, l1]; rfl, fun x hx => ?_⟩
      obtain ⟨y, hy, e⟩ := List.mem_map.mp hx
      obtain ⟨i, hi⟩ := List.mem_iff_getElem?.mp hy
      have hit : i < t.m := by rw [← l1]; exact lt_of_get hi
      rw [lg, ← e, ← Tab.step_of h0 hi]
      exact (plt (go hm hit)).1
  have key : ∀ v, Ok t.m v → run (joinedT t pl ord).step 0 v = pl (run t.step 0 v) := fun v hv => by
    refine snoc_ind (P := fun v => Ok t.m v → run (joinedT t pl ord).step 0 v = pl (run t.step 0 v)) ?_ ?_ v.length v rfl hv
    · intro _
      exact (hpl 0 0 h0).symm
    · intro r a ih hr
      rw [run_snoc, run_snoc, ih hr.left]
      have hm := met hr.left
      exact joined_step W (plt hm).2 (room hm) hr.last
  refine ⟨W', by rw [joined_kind h0]; exact T0.zero, fun r => ?_, fun r hr => ?_⟩
  · by_cases h : r < ord.length
    · obtain ⟨x, hx⟩ := get_of_lt h
      rw [joined_kind hx]
      exact T0.low x
    · show -1 ≤ (ord.map t.kind).getD r (-1)
      rw [List.getD_eq_getElem?_getD, List.getElem?_eq_none (by rw [List.length_map]; omega)]
      exact Int.le_refl _
  · rw [lg] at hr
    obtain ⟨x, hx⟩ := get_of_lt hr
    obtain ⟨v, hv, e⟩ := R.of_mem (pm.mem_iff.mp (List.mem_of_getElem? hx))
    exact ⟨v, hv, by rw [key v hv, e, hpl r x hx]⟩
/-- the turn of the rooms behind the first -/
theorem turn_perm {l : List Nat} {k : Nat} (h0 : l[0]? = some 0) (hk : 1 ≤ k) : ([0] ++ l.drop k ++ (l.drop 1).take (k - 1)).Perm l := by
  cases l with
  | nil => simp at h0
  | cons a l =>
    have e : a = 0 := by simpa using h0
    subst e
    obtain ⟨j, rfl⟩ : ∃ j, k = j + 1 := ⟨k - 1, by omega⟩
    show (0 :: (l.drop j ++ l.take j)).Perm (0 :: l)
    refine List.Perm.cons _ ?_
    have : (l.take j ++ l.drop j).Perm (l.drop j ++ l.take j) := List.perm_append_comm
    rw [List.take_append_drop] at this
    exact this.symm
theorem cutV_from {xs : List V} {k : Nat} (h : k ≤ xs.length) : cutV xs (some (k : Int)) none = xs.drop k := by
  unfold cutV
  rw [HT.sIx_none, HT.sIx_nat, Nat.min_eq_left h]
  exact List.take_of_length_le (by rw [List.length_drop]; exact Nat.le_refl _)
theorem cutV_mid {xs : List V} {k : Nat} (h1 : 1 ≤ k) (h : k ≤ xs.length) : cutV xs (some 1) (some (k : Int)) = (xs.drop 1).take (k - 1) := by
  unfold cutV
  rw [show (some (1 : Int)) = some ((1 : Nat) : Int) from rfl, HT.sIx_nat, HT.sIx_nat, Nat.min_eq_left h, Nat.min_eq_left (by omega)]
theorem eqV_nat (a b : Nat) : eqV (nV a) (nV b) = decide (a = b) := by
  show ((a : Int) == (b : Int)) = _
  rw [Bool.eq_iff_iff, beq_iff_eq, decide_eq_true_iff]
  omega
theorem inV_nat (x : Nat) (l : List Nat) : inV (nV x) (l.map nV) = decide (x ∈ l) := by
  unfold inV
  rw [Bool.eq_iff_iff, List.any_eq_true, decide_eq_true_iff]
  constructor
  · rintro ⟨y, hy, e⟩
    obtain ⟨z, hz, rfl⟩ := List.mem_map.mp hy
    rw [eqV_nat, decide_eq_true_iff] at e
    rw [← e]
    exact hz
  · intro h
    exact ⟨nV x, List.mem_map.mpr ⟨x, h, rfl⟩, by rw [eqV_nat]; exact decide_eq_true rfl⟩
theorem flat_nat (l : List Nat) : (l.map nV).all flatV = true := List.all_eq_true.mpr fun v hv => by
  obtain ⟨n, _, e⟩ := List.mem_map.mp hv
  rw [← e]
  rfl
theorem paired_keep {α : Type} {H H' : Hp} {D : Addr} {o : HO} {F : α → HO} (S : Same H H') : ∀ {cs : List Addr} {xs : List α}, (∀ b ∈ cs, b ≠ D) → Paired (fun (b : Addr) (x : α) => H b = some (F x)) cs xs → Paired (fun (b : Addr) (x : α) => upd H' D o b = some (F x)) cs xs := by
  intro cs xs hn hc
  induction hc with
  | nil => exact .nil
  | cons h1 _ ih =>
    refine .cons ?_ (ih fun b hb => hn b (List.mem_cons_of_mem _ hb))
    rw [upd_ne (hn _ (by simp))]
    exact S _ _ h1
def rTupOf (K : PySem.W.Frag) : List V → Hp → VK → Prop := fun xs H Q => ∃ p ys, xs = [.ref p] ∧ ((SqL K H p ys ∧ ∀ l, H l = none → Q (.ref l) (upd H l (.tup ys))) ∨ (SqT K H p ys ∧ Q (.ref p) H))
theorem call_tup {X : Cx} : CallR X (.type "tuple") (rTupOf X.K) := call_tuple_of
section
variable {P : Program} {w : World} {K : PySem.W.Frag} {mg : Str → Option Value} {base : Heap}
def teIndex (K : PySem.W.Frag) : TE := tBM K "list" (rIndex K) (tVar 4) (tCons (tVar 6) tNil)
def teRow (K : PySem.W.Frag) : TE := tCB (rTupOf K) (tCons (tLc (iList K (tOp (rIxL K) (tVar 1) (tVar 8))) (gName 6) tYes (teIndex K) [6]) tNil)
def spCutDown : Sp := fun vs H Q _ => ∃ (T : Str) (g k : Addr) (x : Int) (rs : List Addr) (t : Tab), vs = [.str T, .ref g, .ref k, .int x] ∧ RowsL H g rs t ∧ H k = some (.lst (t.kinds.map V.int)) ∧ Raw t ∧ t.m ≤ 6 ∧
  ∀ (H' : Hp) (v : V) (u : Tab), Same H H' → TabV H' v T u → u.Good → u.m = t.m → u.goes.length ≤ t.goes.length → Q v H'
theorem d_cut_down (F : At K mg "_law_cut_down" s_l_cut_down ["_law_tongue", "_law_goes", "_law_kinds", "_law_turn"]) (B : Gb mg) : Df P w K mg base 1 "_law_cut_down" spCutDown := by
  refine F.df sc_l_cut_down (fun vs H Q E h => ?_) (fun f cdv A outer s H vs Q E hr h => ?_)
  · obtain ⟨T, g, k, x, rs, t, rfl, _⟩ := h
    rfl
  have nd := sc_l_cut_down.nd
  have hu := hu_of hr
  obtain ⟨T, g, k, x, rs, t, rfl, hR, hk, T0, m6, q⟩ := h
  have W := T0.wf
  have n32 := W.small
  refine ⟨_, pss_cons (ps_set (i := 4) nd rfl (.inr rfl) (pe_lst (pa_cons pe_int pa_nil)))
    (pss_cons (ps_set (i := 5) nd rfl (.inl rfl) pe_int)
    (pss_cons (ps_while PassesOwn.never (pt_cmpR op_lt (pv 5) (pe_callB call_len_seq (by rfl) B.len b_len (pa_cons (pv 4) pa_nil)) (nomark _))
      (pss_cons (ps_for PassesOwn.never rfl (pi_list (pe_ix ix_list (pv 1) (pe_ix ix_list (pv 4) (pv 5) (fun _ _ => rfl)) (fun _ _ => rfl))) (pg_name (i := 6) nd rfl (.inl rfl))
        (pss_one (ps_if (pt_cmpR op_notIn_seq (pv 6) (pv 4) rfl) (pss_one (ps_expr (pe_bm PySem.F.plainAttrs_list PySem.F.slot_list_append PySem.F.type_list_append mt_append (pv 4) (pa_cons (pv 6) pa_nil)))) pss_nil)))
      (pss_one (ps_set (i := 5) nd rfl (.inl rfl) (pe_op op_add (pv 5) pe_int)))))
    (pss_cons (ps_set (i := 3) nd rfl (.inl rfl) (pe_op op_add pe_int (pe_op op_mod (pv 3) (pe_callB call_len_seq (by rfl) B.len b_len (pa_cons (pv 4) pa_nil)))))
    (pss_cons (ps_set (i := 4) nd rfl (.inr rfl) (pe_op op_cat (pe_op op_cat (pe_lst (pa_cons pe_int pa_nil)) (pe_slice sl_list (pv 4) (po_some (pv 3)) po_none)) (pe_slice sl_list (pv 4) (po_some pe_int) (po_some (pv 3)))))
    (pss_cons (ps_set (i := 7) nd rfl (.inl rfl) (pe_callTy call_tup (by rfl) B.tuple b_tuple (pa_cons
      (pe_lc (own := [("_law_room", 8)]) (g := gName 8) (tt := tYes) (te := teRow K) rfl nd (pi_list (pv 4)) (blkOk_by (N := ["_law_tongue", "_law_goes", "_law_kinds", "_law_turn", "_law_met", "_law_at", "_law_there", "_law_rows", "_law_room"]) (sc := defScope s_l_cut_down) (by decide +kernel)) (fun _ _ _ _ _ => pg_name (i := 8) nd rfl (Or.inl rfl)) (fun _ _ _ _ _ => pts_nil)
        (fun _ _ _ _ _ => pe_callTy call_tup (by rfl) B.tuple b_tuple (pa_cons (pe_lc (own := [("_law_there", 6)]) (g := gName 6) (tt := tYes) (te := teIndex K) rfl nd (pi_list (pe_ix ix_list (pv 1) (pv 8) (fun _ _ => rfl))) (blkOk_by (by rfl)) (fun _ _ _ _ _ => pg_name (i := 6) nd rfl (Or.inl rfl)) (fun _ _ _ _ _ => pts_nil)
          (fun _ _ _ _ _ => pe_bm PySem.F.plainAttrs_list PySem.F.slot_list_index PySem.F.type_list_index mt_index (pv 4) (pa_cons (pv 6) pa_nil))) pa_nil))) pa_nil)))
    (pss_one (ps_ret (pe_tup (pa_cons (pv 0) (pa_cons (pv 7) (pa_cons (pe_callTy call_tuple_of (by rfl) B.tuple b_tuple (pa_cons
      (pe_lc (own := [("_law_room", 8)]) (g := gName 8) (tt := tYes) (te := tOp (rIxL K) (tVar 2) (tVar 8)) rfl nd (pi_list (pv 4)) (blkOk_by (N := ["_law_tongue", "_law_goes", "_law_kinds", "_law_turn", "_law_met", "_law_at", "_law_there", "_law_rows", "_law_room"]) (sc := defScope s_l_cut_down) (by decide +kernel)) (fun _ _ _ _ _ => pg_name (i := 8) nd rfl (Or.inl rfl)) (fun _ _ _ _ _ => pts_nil)
        (fun _ _ _ _ _ => pe_ix ix_list (pv 2) (pv 8) (fun _ _ => rfl))) pa_nil)) pa_nil))))))))))), ?_⟩
  refine ⟨by show 1 ≤ sizeLine; decide, fun l nl => ?_⟩
  refine ⟨fun μ σ H' => ∃ (L : List (Nat × List Nat)) (at' : Nat) (y6 y7 y8 : Option V), σ = [some (.str T), some (.ref g), some (.ref k), some (.int x), some (.ref l), some (nV at'), y6, y7, y8] ∧ Same H H' ∧ H' l = some (.lst ((L.map (·.1)).map nV)) ∧ Bfs t.step t.m 0 L at' 0 ∧ μ = 33 - at',
    ⟨_, [(0, [])], 0, _, _, _, rfl, same_upd nl, upd_same, Bfs.init _ _ _, rfl⟩, fun μ σ H1 hW => ?_⟩
  obtain ⟨L, at', y6, y7, y8, rfl, S1, hl, Bf, rfl⟩ := hW
  refine ⟨_, rfl, _, rfl, l, _, rfl, .inl (SqL.of hl), _, _, rfl, rfl, _, rfl, ite2 (fun z => ?_) (fun z => ?_)⟩
  · have hlt : at' < L.length := by
      have := of_decide_eq_true z
      rw [List.length_map, List.length_map] at this
      omega
    have l32 := rooms_le W Bf
    obtain ⟨p, hp⟩ := get_of_lt hlt
    have hp1 : ((L.map (·.1)).map nV)[at']? = some (nV p.1) := by rw [List.getElem?_map, List.getElem?_map, hp]; rfl
    obtain ⟨r1, r2, r3⟩ := Bf.runs at' p hp
    have hr1 : p.1 < t.goes.length := by rw [← r1]; exact W.run_lt p.2 0 W.pos r2
    obtain ⟨row, hrow⟩ := get_of_lt hr1
    obtain ⟨lrow, rlt⟩ := W.row _ _ hrow
    obtain ⟨ra, m1, m2⟩ := hR.at_ hrow
    refine ⟨fun σ' H' => ∃ (L : List (Nat × List Nat)) (y6 y7 y8 : Option V), σ' = [some (.str T), some (.ref g), some (.ref k), some (.int x), some (.ref l), some (nV (at' + 1)), y6, y7, y8] ∧ Same H H' ∧ H' l = some (.lst ((L.map (·.1)).map nV)) ∧ Bfs t.step t.m 0 L (at' + 1) 0, fun σ' H' hN => ?_, ?_⟩
    · obtain ⟨L', y6, y7, y8, e, b1, b2, b3⟩ := hN
      exact ⟨33 - (at' + 1), by omega, L', at' + 1, y6, y7, y8, e, b1, b2, b3, rfl⟩
    refine ⟨_, rfl, _, rfl, _, rfl, l, _, _, _, rfl, rfl, SqL.of hl, atI_nat hp1, g, _, _, _, rfl, rfl, SqL.of (S1 _ _ hR.top), atI_nat m1, ra, rfl, ⟨_, SqL.of (S1 _ _ m2)⟩, ?_⟩
    refine for_list (xs := row.map nV) (fun i σ H' => ∃ (L : List (Nat × List Nat)) (y6 y7 y8 : Option V), σ = [some (.str T), some (.ref g), some (.ref k), some (.int x), some (.ref l), some (nV at'), y6, y7, y8] ∧ Same H H' ∧ H' l = some (.lst ((L.map (·.1)).map nV)) ∧ Bfs t.step t.m 0 L at' i ∧ L[at']? = some p)
      ⟨L, y6, y7, y8, rfl, S1, hl, Bf, hp⟩ (fun i σ H' _ h => by obtain ⟨_, _, _, _, _, S, _⟩ := h; exact SqL.of (S _ _ m2)) (fun i x σ H2 hx h => ?_) (fun σ H2 h => ?_)
    · obtain ⟨L', z6, z7, z8, rfl, S2, hl2, B2, hp2⟩ := h
      rw [List.getElem?_map] at hx
      obtain ⟨y, hy, rfl⟩ := Option.map_eq_some_iff.mp hx
      have him : i < t.m := by rw [← lrow]; exact lt_of_get hy
      have est : t.step p.1 i = y := Tab.step_of hrow hy
      have l2 := rooms_le W B2
      refine ⟨_, rfl, _, rfl, l, _, rfl, .inl (SqL.of hl2), rfl, flat_nat _, _, rfl, ?_⟩
      rw [if_pos rfl, inV_nat]
      by_cases hin : y ∈ L'.map (·.1)
      · rw [decide_eq_true hin]
        exact iteF ⟨L', _, _, _, rfl, S2, hl2, B2.old hp2 him (by rw [est]; exact hin), hp2⟩
      · rw [decide_eq_false hin]
        refine iteT ⟨_, rfl, .inl ⟨rfl, _, .inl (.inl hl2)⟩, _, rfl, l, _, _, rfl, rfl, hl2, ?_, ?_⟩
        · rw [List.length_map, List.length_map]
          exact sizeLine_big (by omega)
        refine ⟨L' ++ [(y, p.2 ++ [i])], _, _, _, rfl, same_put S2 nl, ?_, ?_, ?_⟩
        · rw [upd_same, List.map_append, List.map_append]
          rfl
        · have := B2.new hp2 him (by rw [est]; exact hin)
          rw [est] at this
          exact this
        · rw [List.getElem?_append_left (lt_of_get hp2)]
          exact hp2
    · obtain ⟨L', z6, z7, z8, rfl, S2, hl2, B2, hp2⟩ := h
      rw [List.length_map, lrow] at B2
      exact ⟨_, rfl, _, _, rfl, rfl, L', _, _, _, rfl, S2, hl2, B2.next⟩
  have hge : L.length ≤ at' := Nat.le_of_not_lt fun h => z (decide_eq_true (by rw [List.length_map, List.length_map]; omega))
  have R := Bf.done hge
  have l32 := rooms_le W Bf
  have lm : ((L.map (·.1)).map nV).length = L.length := by rw [List.length_map, List.length_map]
  have h0 : (L.map (·.1))[0]? = some 0 := by rw [List.getElem?_map, R.head]; rfl
  have lp : 0 < L.length := by have := lt_of_get h0; rw [List.length_map] at this; exact this
  -- the turn
  refine ⟨_, rfl, _, rfl, l, _, rfl, .inl (SqL.of hl), _, _, rfl, rfl, ?_, _, _, rfl, rfl, ?_⟩
  · rw [lm]
    show (0 : Int) < (L.length : Int)
    omega
  obtain ⟨kk, ek⟩ : ∃ kk : Nat, 1 + x % (((L.map (·.1)).map nV).length : Int) = (kk : Int) := ⟨(1 + x % (((L.map (·.1)).map nV).length : Int)).toNat, (Int.toNat_of_nonneg (by have := Int.emod_nonneg x (show (((L.map (·.1)).map nV).length : Int) ≠ 0 by omega); omega)).symm⟩
  have k1 : 1 ≤ kk := by have := Int.emod_nonneg x (show (((L.map (·.1)).map nV).length : Int) ≠ 0 by omega); omega
  have k2 : kk ≤ L.length := by have := Int.emod_lt_of_pos x (show (0 : Int) < (((L.map (·.1)).map nV).length : Int) by omega); omega
  have c1 : cutV ((L.map (·.1)).map nV) (some (1 + x % (((L.map (·.1)).map nV).length : Int))) none = ((L.map (·.1)).drop kk).map nV := by
    rw [ek, cutV_from (by omega), List.map_drop]
  have c2 : cutV ((L.map (·.1)).map nV) (some 1) (some (1 + x % (((L.map (·.1)).map nV).length : Int))) = (((L.map (·.1)).drop 1).take (kk - 1)).map nV := by
    rw [ek, cutV_mid k1 (by omega), List.map_take, List.map_drop]
  have l1 : (((L.map (·.1)).drop kk).map nV).length ≤ 32 := by rw [List.length_map, List.length_drop, List.length_map]; omega
  have l2 : ((((L.map (·.1)).drop 1).take (kk - 1)).map nV).length ≤ 32 := by rw [List.length_map, List.length_take]; omega
  refine ⟨by show 1 ≤ sizeLine; decide, fun a0 na0 => ⟨_, rfl, _, rfl, _, rfl, l, _, rfl, SqL.of (keep_new hl na0), fun a1 na1 => ?_⟩⟩
  have h0a : (upd H1 a0 (.lst [.int 0])) a0 = some (.lst [.int 0]) := upd_same
  have hla := keep_new (o := .lst [.int 0]) hl na0
  have Sa : Same H1 (upd H1 a0 (.lst [.int 0])) := same_upd na0
  generalize upd H1 a0 (.lst [.int 0]) = Ha at h0a hla Sa na1 ⊢
  refine ⟨a0, a1, _, _, rfl, rfl, keep_new h0a na1, upd_same, ?_, fun a2 na2 => ?_⟩
  · have := congrArg List.length c1
    exact Nat.le_of_lt (sizeLine_big (by
      show 1 + (cutV ((L.map (·.1)).map nV) (some (1 + x % (((L.map (·.1)).map nV).length : Int))) none).length ≤ _
      omega))
  rw [c1] at na2 ⊢
  have Sb : Same Ha (upd Ha a1 (.lst (((L.map (·.1)).drop kk).map nV))) := same_upd na1
  generalize upd Ha a1 (.lst (((L.map (·.1)).drop kk).map nV)) = Hb at Sb na2 ⊢
  have hlb := Sb _ _ hla
  have h2c : (upd Hb a2 (.lst ([.int 0] ++ ((L.map (·.1)).drop kk).map nV))) a2 = some (.lst ([.int 0] ++ ((L.map (·.1)).drop kk).map nV)) := upd_same
  have Sc : Same Hb (upd Hb a2 (.lst ([.int 0] ++ ((L.map (·.1)).drop kk).map nV))) := same_upd na2
  generalize upd Hb a2 (.lst ([.int 0] ++ ((L.map (·.1)).drop kk).map nV)) = Hc at Sc h2c ⊢
  refine ⟨_, rfl, _, rfl, _, rfl, _, rfl, l, _, rfl, SqL.of (Sc _ _ hlb), fun a3 na3 => ?_⟩
  rw [c2]
  have Sd : Same Hc (upd Hc a3 (.lst ((((L.map (·.1)).drop 1).take (kk - 1)).map nV))) := same_upd na3
  have h3d : (upd Hc a3 (.lst ((((L.map (·.1)).drop 1).take (kk - 1)).map nV))) a3 = some (.lst ((((L.map (·.1)).drop 1).take (kk - 1)).map nV)) := upd_same
  generalize upd Hc a3 (.lst ((((L.map (·.1)).drop 1).take (kk - 1)).map nV)) = Hd at Sd h3d ⊢
  refine ⟨a2, a3, _, _, rfl, rfl, Sd _ _ h2c, h3d, ?_, fun M nM => ?_⟩
  · exact Nat.le_of_lt (sizeLine_big (by
      rw [List.length_append]
      show 1 + _ + _ ≤ _
      omega))
  -- the rooms in their new order
  have pm := turn_perm h0 k1
  generalize eord : [0] ++ (L.map (·.1)).drop kk ++ ((L.map (·.1)).drop 1).take (kk - 1) = ord at pm
  have hord0 : ord[0]? = some 0 := by rw [← eord]; rfl
  have eov : (([.int 0] ++ ((L.map (·.1)).drop kk).map nV) ++ (((L.map (·.1)).drop 1).take (kk - 1)).map nV : List V) = ord.map nV := by
    rw [← eord, List.map_append, List.map_append]
    rfl
  rw [eov]
  have S1d : Same H Hd := S1.trans (Sa.trans (Sb.trans (Sc.trans Sd)))
  have hM : (upd Hd M (.lst (ord.map nV))) M = some (.lst (ord.map nV)) := upd_same
  have S2 : Same H (upd Hd M (.lst (ord.map nV))) := S1d.trans (same_upd nM)
  generalize upd Hd M (.lst (ord.map nV)) = H2 at hM S2 ⊢
  have nd2 : ord.Nodup := pm.nodup_iff.mpr R.nodup
  have hpl : ∀ (c : Nat) r, ord[c]? = some r → ord.idxOf r = c := fun c r hc => by
    obtain ⟨l1, e1⟩ := List.getElem?_eq_some_iff.mp hc
    rw [← e1]
    exact nd2.idxOf_getElem c l1
  have Gd := good_of T0 R pm hord0 hpl
  have room : ∀ {r : Nat}, r ∈ ord → r < t.goes.length := fun h => by
    obtain ⟨v, hv, e⟩ := R.of_mem (pm.mem_iff.mp h)
    rw [← e]
    exact W.run_lt v 0 W.pos hv
  have lord : ord.length = L.length := by rw [pm.length_eq, List.length_map]
  have lgo : (joinedT t (fun r => ord.idxOf r) ord).goes.length = ord.length := List.length_map _
  have lle : ord.length ≤ t.goes.length := by
    have := List.Nodup.length_le_of_subset nd2 (l₂ := List.range t.goes.length) fun x hx => List.mem_range.mpr (room hx)
    rwa [List.length_range] at this
  refine ⟨_, rfl, M, rfl, ⟨_, SqL.of hM⟩, fun D nD => ?_⟩
  refine lc_list (K := K) (te := teRow K) (xs := ord.map nV) (fun i H' => Same H2 H' ∧ ∃ bs : List Addr, H' D = some (.lst (bs.map V.ref)) ∧ (∀ b ∈ bs, b ≠ D) ∧ Paired (fun (b : Addr) (row : List Nat) => H' b = some (.tup (row.map nV))) bs ((joinedT t (fun r => ord.idxOf r) ord).goes.take i))
    ⟨same_upd nD, [], upd_same, fun b h => by simp at h, .nil⟩ (fun i H' _ h => SqL.of (h.1 _ _ hM)) (fun i x H3 hx h => ?_) (fun H3 h => ?_)
  · obtain ⟨S3, bs, hD, hne, hbs⟩ := h
    rw [List.getElem?_map] at hx
    obtain ⟨rm, hrm, rfl⟩ := Option.map_eq_some_iff.mp hx
    have hmem := List.mem_of_getElem? hrm
    have lrm := room hmem
    obtain ⟨row, hrow⟩ := get_of_lt lrm
    obtain ⟨ra, m1, m2⟩ := hR.at_ hrow
    obtain ⟨lrow, rlt⟩ := W.row _ _ hrow
    have S23 : Same H H3 := S2.trans S3
    have hio := lt_of_get hrm
    refine ⟨rfl, ?_⟩
    refine tYes_if ?_
    refine ⟨_, rfl, _, rfl, g, _, _, _, rfl, rfl, SqL.of (S23 _ _ hR.top), atI_nat m1, ra, rfl, ⟨_, SqL.of (S23 _ _ m2)⟩, fun D2 nD2 => ?_⟩
    refine lc_list (K := K) (te := teIndex K) (xs := row.map nV) (fun j H' => Same H3 H' ∧ H' D2 = some (.lst (((row.map fun r => ord.idxOf r).take j).map nV))) ⟨same_upd nD2, upd_same⟩ (fun j H' _ h => SqL.of (h.1 _ _ (S23 _ _ m2))) (fun j x H4 hx h => ?_) (fun H4 h => ?_)
    · obtain ⟨S4, hD2⟩ := h
      rw [List.getElem?_map] at hx
      obtain ⟨y, hy, rfl⟩ := Option.map_eq_some_iff.mp hx
      have lj := lt_of_get hy
      have hyo : y ∈ ord := by
        obtain ⟨v, hv, e⟩ := R.of_mem (pm.mem_iff.mp hmem)
        have := R.mem (v ++ [j]) (hv.snoc (by omega))
        rw [run_snoc, e, Tab.step_of hrow hy] at this
        exact pm.mem_iff.mpr this
      obtain ⟨c, hc⟩ := List.mem_iff_getElem?.mp hyo
      refine ⟨rfl, ?_⟩
      refine tYes_if ?_
      refine ⟨_, rfl, .inl ⟨rfl, _, SqL.of (S4 _ _ (S3 _ _ hM))⟩, _, rfl, M, _, nV y, c, nV y, rfl, rfl, SqL.of (S4 _ _ (S3 _ _ hM)), rfl, flat_nat _, by rw [List.getElem?_map, hc]; rfl, by rw [eqV_nat]; exact decide_eq_true rfl, fun m' z' hm' hz' => ?_, _, hD2, ?_, same_put S4 nD2, ?_⟩
      · rw [List.getElem?_map] at hz'
        obtain ⟨z0, hz0, rfl⟩ := Option.map_eq_some_iff.mp hz'
        rw [eqV_nat]
        refine decide_eq_false fun e => ?_
        subst e
        obtain ⟨l3, e3⟩ := List.getElem?_eq_some_iff.mp hz0
        obtain ⟨l4, e4⟩ := List.getElem?_eq_some_iff.mp hc
        exact List.pairwise_iff_getElem.mp nd2 m' c l3 l4 hm' (e3.trans e4.symm)
      · rw [List.length_map, List.length_take]
        exact sizeLine_big (by omega)
      · rw [upd_same, take_next (x := c) (by rw [List.getElem?_map, hy]; exact congrArg some (hpl c y hc)), List.map_append]
        rfl
    · obtain ⟨S4, hD2⟩ := h
      rw [List.length_map, List.take_of_length_le (by rw [List.length_map]; omega)] at hD2
      refine ⟨D2, _, rfl, .inl ⟨SqL.of hD2, fun tp ntp => ⟨_, keep_new (S4 _ _ hD) ntp, ?_, (S3.trans S4).trans (same_upd ntp) |> fun S => same_put S nD, bs ++ [tp], ?_, ?_, ?_⟩⟩⟩
      · rw [List.length_map, Paired.length hbs, List.length_take]
        exact sizeLine_big (by omega)
      · rw [upd_same, List.map_append]
        rfl
      · intro b hb
        rcases List.mem_append.mp hb with z | z
        · exact hne b z
        · rw [List.mem_singleton.mp z]
          exact fun e => by
            have := S4 _ _ hD
            rw [← e, ntp] at this
            cases this
      · have ntD : tp ≠ D := fun e => by
          have := S4 _ _ hD
          rw [← e, ntp] at this
          cases this
        rw [take_next (joined_goes hrm)]
        refine Paired.snoc (paired_keep (F := fun (row : List Nat) => HO.tup (row.map nV)) (S4.trans (same_upd ntp)) hne hbs) ?_
        rw [upd_ne ntD, upd_same, goes_getD hrow]
  obtain ⟨S3, bs, hD, hne, hbs⟩ := h
  rw [List.length_map, List.take_of_length_le (by omega)] at hbs
  refine ⟨D, _, rfl, .inl ⟨SqL.of hD, fun ga nga => ?_⟩⟩
  have hga : (upd H3 ga (.tup (bs.map V.ref))) ga = some (.tup (bs.map V.ref)) := upd_same
  have S4 : Same H3 (upd H3 ga (.tup (bs.map V.ref))) := same_upd nga
  generalize upd H3 ga (.tup (bs.map V.ref)) = H4 at hga S4 ⊢
  have S24 : Same H2 H4 := S3.trans S4
  refine ⟨_, rfl, _, rfl, _, rfl, M, rfl, ⟨_, SqL.of (S24 _ _ hM)⟩, fun D3 nD3 => ?_⟩
  refine lc_list (K := K) (te := tOp (rIxL K) (tVar 2) (tVar 8)) (xs := ord.map nV) (fun j H' => Same H4 H' ∧ H' D3 = some (.lst (((ord.map t.kind).take j).map V.int))) ⟨same_upd nD3, upd_same⟩ (fun j H' _ h => SqL.of (h.1 _ _ (S24 _ _ hM))) (fun j x H5 hx h => ?_) (fun H5 h => ?_)
  · obtain ⟨S5, hD3⟩ := h
    rw [List.getElem?_map] at hx
    obtain ⟨z, hz, rfl⟩ := Option.map_eq_some_iff.mp hx
    have zl := room (List.mem_of_getElem? hz)
    have lj := lt_of_get hz
    refine ⟨rfl, ?_⟩
    refine tYes_if ?_
    refine ⟨_, rfl, _, rfl, k, _, _, _, rfl, rfl, SqL.of (S5 _ _ (S24 _ _ (S2 _ _ hk))), atI_nat (by rw [List.getElem?_map, W.kind_at zl]; rfl), _, hD3, ?_, same_put S5 nD3, ?_⟩
    · rw [List.length_map, List.length_take]
      exact sizeLine_big (by omega)
    · rw [upd_same, take_next (x := t.kind z) (by rw [List.getElem?_map, hz]; rfl), List.map_append]
      rfl
  · obtain ⟨S5, hD3⟩ := h
    rw [List.length_map, List.take_of_length_le (by rw [List.length_map]; omega)] at hD3
    refine ⟨D3, _, rfl, .inl ⟨SqL.of hD3, fun ka nka => ⟨by show 3 ≤ sizeLine; decide, fun top ntop => ?_⟩⟩⟩
    have S6 : Same H4 (upd (upd H5 ka (.tup ((ord.map t.kind).map V.int))) top (.tup [.str T, .ref ga, .ref ka])) := (S5.trans (same_upd nka)).trans (same_upd ntop)
    exact q _ _ (joinedT t (fun r => ord.idxOf r) ord) ((S2.trans S24).trans S6) ⟨top, ga, ka, bs, rfl, upd_same, S6 _ _ hga, keep_new upd_same ntop, Paired.mapP hbs fun _ _ e => S6 _ _ (S4 _ _ e)⟩ Gd rfl (by omega)
end
end K64
set_option autoImplicit true
set_option Elab.async false
set_option linter.all false
set_option maxRecDepth 100000
set_option maxHeartbeats 4000000
namespace K64
open PySem PySem.Spec PyProof.Rows L2
/-! ### rows in the making -/
/-- all but the objects at those addresses stays -/
def Bts (bad : List Addr) (H H' : Hp) : Prop := ∀ b o, b ∉ bad → H b = some o → H' b = some o
theorem Bts.refl (bad : List Addr) (H : Hp) : Bts bad H H := fun _ _ _ h => h
theorem Bts.but {bad : List Addr} {p : Addr} {H H1 H2 : Hp} (h : Bts bad H H1) (hp : p ∈ bad) (b : But p H1 H2) : Bts bad H H2 := fun c o n e => b c o (fun z => n (by rw [z]; exact hp)) (h c o n e)
theorem Bts.same {bad : List Addr} {H H1 H2 : Hp} (h : Bts bad H H1) (s : Same H1 H2) : Bts bad H H2 := fun c o n e => s c o (h c o n e)
theorem Bts.put {bad : List Addr} {l : Addr} {o : HO} {H H1 : Hp} (h : Bts bad H H1) (n : H l = none) : Bts bad H (upd H1 l o) := fun c u hn e => by
  rw [upd_ne (ne_of_none e n)]
  exact h c u hn e
theorem Bts.at_ {bad : List Addr} {l : Addr} {o : HO} {H H1 : Hp} (h : Bts bad H H1) (hl : l ∈ bad) : Bts bad H (upd H1 l o) := fun c u hn e => by
  rw [upd_ne (fun z => hn (by rw [z]; exact hl))]
  exact h c u hn e
/-- lists of rows in the making -/
structure MakeAt (H : Hp) (gl kl p : Addr) (rs : List Addr) (rows : List (List Nat)) (ks : List Int) : Prop where
  g : H gl = some (.lst (rs.map V.ref))
  k : H kl = some (.lst (ks.map V.int))
  rows : Paired (fun (r : Addr) (row : List Nat) => H r = some (.lst (row.map nV))) rs rows
  far : ∀ r ∈ rs, r ∉ [p, gl, kl]
theorem paired_bts {α : Type} {bad : List Addr} {H H' : Hp} {F : α → HO} (S : Bts bad H H') : ∀ {cs : List Addr} {xs : List α}, (∀ b ∈ cs, b ∉ bad) → Paired (fun (b : Addr) (x : α) => H b = some (F x)) cs xs → Paired (fun (b : Addr) (x : α) => H' b = some (F x)) cs xs := by
  intro cs xs hn hc
  induction hc with
  | nil => exact .nil
  | cons h1 _ ih => exact .cons (S _ _ (hn _ (by simp)) h1) (ih fun b hb => hn b (List.mem_cons_of_mem _ hb))
theorem raw_of {m n : Nat} {rows : List (List Nat)} {ks : List Int} (hn : 0 < n) (h32 : n ≤ 32) (lr : rows.length = n) (lk : ks.length = n) (hrow : ∀ row ∈ rows, row.length = m ∧ ∀ x ∈ row, x < n) (hk : ∀ k ∈ ks, -1 ≤ k) (h0 : ks[0]? = some (-1)) : Raw ⟨m, rows, ks⟩ where
  wf := ⟨by rw [lr]; exact hn, by rw [lr]; exact h32, by rw [lr, lk], fun r row h => by
    obtain ⟨h1, h2⟩ := hrow row (List.mem_of_getElem? h)
    exact ⟨h1, fun x hx => by rw [lr]; exact h2 x hx⟩⟩
  zero := by
    show ks.getD 0 (-1) = -1
    rw [List.getD_eq_getElem?_getD, h0]
    rfl
  low := fun r => by
    show -1 ≤ ks.getD r (-1)
    rw [List.getD_eq_getElem?_getD]
    cases h : ks[r]? with
    | none => exact Int.le_refl _
    | some k => exact hk k (List.mem_of_getElem? h)
theorem none_but {p l : Addr} {H H1 : Hp} (b : But p H H1) (n : H1 l = none) (hp : l ≠ p) : H l = none := by
  cases e : H l with
  | none => rfl
  | some o =>
    have := b _ _ hp e
    rw [n] at this
    cases this
structure TabInv (H0 H : Hp) (p s gl kl : Addr) (n m N i : Nat) (rs : List Addr) (rows : List (List Nat)) (ks : List Int) : Prop where
  but : But p H0 H
  pen : PenAt H p s (n + 10 * i)
  made : MakeAt H gl kl p rs rows ks
  lr : rows.length = i
  lk : ks.length = i
  row : ∀ row ∈ rows, row.length = m ∧ ∀ z ∈ row, z < N
  low : ∀ k ∈ ks, -1 ≤ k
  first : ks = [] ∨ ks[0]? = some (-1)
/-- where the lists of the making lie -/
structure Lists (H0 H : Hp) (p s gl kl : Addr) : Prop where
  g0 : H0 gl = none
  k0 : H0 kl = none
  gk : gl ≠ kl
  gp : gl ≠ p
  gs : gl ≠ s
  kp : kl ≠ p
  ks : kl ≠ s
theorem TabInv.next {H0 H H' Ha : Hp} {p s gl kl D : Addr} {n m N i : Nat} {rs : List Addr} {rows : List (List Nat)} {ks : List Int} {row : List Nat} {k : Int} (I : TabInv H0 H p s gl kl n m N i rs rows ks) (Ls : Lists H0 Ha p s gl kl)
    (B : But p H H') (hD0 : H D = none) (hD : H' D = some (.lst (row.map nV))) (lrow : row.length = m) (rlt : ∀ z ∈ row, z < N) (P : PenAt H' p s (n + 10 * (i + 1))) (k1 : -1 ≤ k) (k0 : i = 0 → k = -1) :
    TabInv H0 (upd (upd H' gl (.lst (rs.map V.ref ++ [.ref D]))) kl (.lst (ks.map V.int ++ [.int k]))) p s gl kl n m N (i + 1) (rs ++ [D]) (rows ++ [row]) (ks ++ [k]) where
  but := but_put (but_put (I.but.trans B) Ls.g0) Ls.k0
  pen := (P.put Ls.gp Ls.gs).put Ls.kp Ls.ks
  made := by
    have nDg : D ≠ gl := fun e => by rw [e, I.made.g] at hD0; cases hD0
    have nDk : D ≠ kl := fun e => by rw [e, I.made.k] at hD0; cases hD0
    have nDp : D ≠ p := (I.pen.ne hD0).1
    refine ⟨by rw [upd_ne Ls.gk, upd_same, List.map_append]; rfl, by rw [upd_same, List.map_append]; rfl, ?_, ?_⟩
    · refine Paired.snoc (paired_bts (bad := [p, gl, kl]) (H := H) (F := fun (row : List Nat) => HO.lst (row.map nV)) (((Bts.refl _ _).but (by simp) B).at_ (by simp) |>.at_ (by simp)) I.made.far I.made.rows) ?_
      rw [upd_ne nDk, upd_ne nDg]
      exact hD
    · intro r hr
      rcases List.mem_append.mp hr with z | z
      · exact I.made.far r z
      · rw [List.mem_singleton.mp z]
        simp [nDg, nDk, nDp]
  lr := by rw [List.length_append, I.lr]; rfl
  lk := by rw [List.length_append, I.lk]; rfl
  row := fun r hr => by
    rcases List.mem_append.mp hr with z | z
    · exact I.row r z
    · rw [List.mem_singleton.mp z]
      exact ⟨lrow, rlt⟩
  low := fun x hx => by
    rcases List.mem_append.mp hx with z | z
    · exact I.low x z
    · rw [List.mem_singleton.mp z]
      exact k1
  first := by
    right
    rcases I.first with z | z
    · have : i = 0 := by rw [← I.lk, z]; rfl
      rw [z, k0 this]
      rfl
    · rw [List.getElem?_append_left (lt_of_get z)]
      exact z
section
variable {P : Program} {w : World} {K : PySem.W.Frag} {mg : Str → Option Value} {base : Heap}
def spTable : Sp := fun vs H Q _ => ∃ (p s : Addr) (T : Str) (m : Nat) (most : Int) (n : Nat), vs = [.ref p, .str T, .int most] ∧ PenAt H p s n ∧ n ≤ 80000 ∧ Tg T m ∧ 1 ≤ most ∧ most ≤ 16 ∧
  ∀ (H' : Hp) (v : V) (u : Tab), But p H H' → PenAt H' p s (n + 1000) → TabV H' v T u → u.Good → u.m = m → u.goes.length ≤ 16 → Q v H'
theorem d_table (F : At K mg "_law_table" s_l_table ["_law_pen_here", "_law_tongue", "_law_most"]) (B : Gb mg) (DT : Df P w K mg base 1 "_law_take" spTake) (DC : Df P w K mg base 1 "_law_cut_down" spCutDown) : Df P w K mg base 2 "_law_table" spTable := by
  refine F.df sc_l_table (fun vs H Q E h => ?_) (fun f cdv A outer sh H vs Q E hr h => ?_)
  · obtain ⟨p, s, T, m, most, n, rfl, _⟩ := h
    rfl
  have nd := sc_l_table.nd
  obtain ⟨p, s, T, m, most, n, rfl, hP, hn, G, m1, m16, q⟩ := h
  refine ⟨_, pss_cons (ps_set (i := 3) nd rfl (.inr rfl) (pe_op op_add pe_int (pe_d DT hr (by decide) (by rfl) (pa_cons (pv 0) (pa_cons (pv 2) pa_nil)))))
    (pss_cons (ps_set (i := 4) nd rfl (.inl rfl) (pe_d DT hr (by decide) (by rfl) (pa_cons (pv 0) (pa_cons pe_int pa_nil))))
    (pss_cons (ps_set (i := 5) nd rfl (.inl rfl) (pe_op op_add pe_int (pe_d DT hr (by decide) (by rfl) (pa_cons (pv 0) (pa_cons pe_int pa_nil)))))
    (pss_cons (ps_set (i := 6) nd rfl (.inl rfl) (pe_lst pa_nil))
    (pss_cons (ps_set (i := 7) nd rfl (.inl rfl) (pe_lst pa_nil))
    (pss_cons (ps_for PassesOwn.never rfl (pi_range1 (by rfl) B.range (pa_cons (pv 3) pa_nil)) (pg_name (i := 8) nd rfl (.inl rfl))
      (pss_cons (ps_setLc (i := 9) (own := [("_law_sign", 11)]) (g := gName 11) (tt := tYes) (te := tCall spTake [] E0 (tCons (tVar 0) (tCons (tVar 3) tNil))) rfl nd rfl rfl (sw_true rfl rfl rfl (by decide +kernel)) (pi_str (pv 1)) (blkOk_by (N := ["_law_pen_here", "_law_tongue", "_law_most", "_law_many", "_law_road", "_law_often", "_law_goes", "_law_kinds", "_law_room", "_law_row", "_law_kind_here", "_law_sign"]) (sc := defScope s_l_table) (by decide +kernel)) (fun _ _ _ _ _ => pg_name (i := 11) nd rfl (Or.inl rfl)) (fun _ _ _ _ _ => pts_nil)
        (fun _ _ _ _ _ => pe_d DT hr (by decide) (by rfl) (pa_cons (pv 0) (pa_cons (pv 3) pa_nil))))
      (pss_cons (ps_if (pt_cmpR op_eq (pv 4) pe_int (nomark _)) (pss_one (ps_asg (pe_callB (call_min2 rfl) (by rfl) B.min b_min (pa_cons (pe_op op_add (pv 8) pe_int) (pa_cons (pe_op op_sub (pv 3) pe_int) pa_nil)))
        (pg_sub (pv 9) (pe_d DT hr (by decide) (by rfl) (pa_cons (pv 0) (pa_cons (pe_callB call_len_seq (by rfl) B.len b_len (pa_cons (pv 9) pa_nil)) pa_nil))) set_list))) pss_nil)
      (pss_cons (ps_set (i := 10) nd rfl (.inl rfl) (pe_d DT hr (by decide) (by rfl) (pa_cons (pv 0) (pa_cons pe_int pa_nil))))
      (pss_cons (ps_if (pw_or (pt_cmpR op_eq (pv 8) pe_int (nomark _)) (pw_or1 (pt_cmpR op_gt (pe_d DT hr (by decide) (by rfl) (pa_cons (pv 0) (pa_cons (pv 5) pa_nil))) pe_int (nomark _)))).pt (pss_one (ps_set (i := 10) nd rfl (.inl rfl) (pe_un un_neg pe_int))) pss_nil)
      (pss_cons (ps_expr (pe_bm PySem.F.plainAttrs_list PySem.F.slot_list_append PySem.F.type_list_append mt_append (pv 6) (pa_cons (pv 9) pa_nil)))
      (pss_one (ps_expr (pe_bm PySem.F.plainAttrs_list PySem.F.slot_list_append PySem.F.type_list_append mt_append (pv 7) (pa_cons (pv 10) pa_nil))))))))))
    (pss_one (ps_ret (pe_d DC hr (by decide) (by rfl) (pa_cons (pv 1) (pa_cons (pv 6) (pa_cons (pv 7) (pa_cons (pe_d DT hr (by decide) (by rfl) (pa_cons (pv 0) (pa_cons pe_int pa_nil))) pa_nil)))))))))))), ?_⟩
  refine ⟨_, rfl, _, rfl, p, s, most, n, rfl, hP, by omega, by omega, by omega, fun H1 x B1 P1 x0 xm => ⟨_, _, rfl, rfl, ?_⟩⟩
  refine ⟨_, rfl, p, s, 3, n + 1, rfl, P1, by omega, by decide, by decide, fun H2 rd B2 P2 r0 r3 => ?_⟩
  refine ⟨_, rfl, p, s, 2, n + 2, rfl, P2, by omega, by decide, by decide, fun H3 of B3 P3 o0 o2 => ⟨_, _, rfl, rfl, ?_⟩⟩
  have B03 : But p H H3 := (B1.trans B2).trans B3
  refine ⟨Nat.zero_le _, fun gl ngl => ⟨Nat.zero_le _, fun kl nkl => ?_⟩⟩
  obtain ⟨gp, gs⟩ := P3.ne ngl
  have gk : gl ≠ kl := fun e => by rw [← e, upd_same] at nkl; cases nkl
  have nkl3 : H3 kl = none := by rw [upd_ne gk.symm] at nkl; exact nkl
  obtain ⟨kp, ks⟩ := P3.ne nkl3
  have Ls : Lists H H3 p s gl kl := ⟨none_but B03 ngl gp, none_but B03 nkl3 kp, gk, gp, gs, kp, ks⟩
  obtain ⟨N, eN⟩ : ∃ N : Nat, 1 + x = (N : Int) := ⟨(1 + x).toNat, (Int.toNat_of_nonneg (by omega)).symm⟩
  refine ⟨_, rfl, _, rfl, by show _ ≤ (1 : Int) + x; omega, by show (1 : Int) + x < _; omega, ?_⟩
  have I0 : TabInv H (upd (upd H3 gl (.lst [])) kl (.lst [])) p s gl kl (n + 3) m N 0 [] [] [] :=
    ⟨but_put (but_put B03 Ls.g0) Ls.k0, (P3.put gp gs).put kp ks, ⟨by rw [upd_ne gk, upd_same]; rfl, by rw [upd_same]; rfl, .nil, fun r h => by simp at h⟩, rfl, rfl, fun r h => by simp at h, fun r h => by simp at h, .inl rfl⟩
  generalize upd (upd H3 gl (.lst [])) kl (.lst []) = H4 at I0 ⊢
  refine for_range (n := (1 + x).toNat) (fun i σ H' => ∃ (y8 y9 y10 y11 : Option V) (rs : List Addr) (rows : List (List Nat)) (ks : List Int), σ = [some (.ref p), some (.str T), some (.int most), some (.int (1 + x)), some (.int rd), some (.int (2 + of)), some (.ref gl), some (.ref kl), y8, y9, y10, y11] ∧ TabInv H H' p s gl kl (n + 3) m N i rs rows ks)
    ⟨_, _, _, _, [], [], [], rfl, I0⟩ (fun i σ H5 hi h => ?_) (fun σ H5 h => ?_)
  · obtain ⟨y8, y9, y10, y11, rs, rows, ks, rfl, I⟩ := h
    have hiN : i < N := by omega
    have hN16 : N ≤ 16 := by omega
    refine ⟨_, rfl, T, rfl, fun D nD => ?_⟩
    have nDp : D ≠ p := (I.pen.ne nD).1
    have nDs : D ≠ s := (I.pen.ne nD).2
    refine lc_str (fun j H' => But p H5 H' ∧ PenAt H' p s (n + 3 + 10 * i + j) ∧ ∃ row : List Nat, H' D = some (.lst (row.map nV)) ∧ row.length = j ∧ ∀ z ∈ row, z < N)
      ⟨but_put (But.refl _ _) nD, I.pen.put nDp nDs, [], upd_same, rfl, fun z h => by simp at h⟩ (fun j c H6 hc h => ?_) (fun H6 h => ?_)
    · obtain ⟨B6, P6, row, hD, lrow, rlt⟩ := h
      have hjm := (G.signA hc).1
      have hm6 := G.most
      refine ⟨rfl, ?_⟩
      refine tYes_if ?_
      refine ⟨_, rfl, _, rfl, p, s, 1 + x, n + 3 + 10 * i + j, rfl, P6, by omega, by omega, by omega, fun H7 z B7 P7 z0 zm => ?_⟩
      obtain ⟨zn, rfl⟩ : ∃ zn : Nat, z = (zn : Int) := ⟨z.toNat, (Int.toNat_of_nonneg z0).symm⟩
      have hD7 := B7 D _ nDp hD
      refine ⟨_, hD7, ?_, but_put (B6.trans B7) nD, P7.put nDp nDs, row ++ [zn], ?_, ?_, ?_⟩
      · rw [List.length_map, lrow]
        exact sizeLine_big (by omega)
      · rw [upd_same, List.map_append]
        rfl
      · rw [List.length_append, lrow]
        rfl
      · intro y hy
        rcases List.mem_append.mp hy with q' | q'
        · exact rlt y q'
        · rw [List.mem_singleton.mp q']
          omega
    obtain ⟨B6, P6, row, hD, lrow, rlt⟩ := h
    rw [G.size] at P6 lrow
    have hm6 := G.most
    have hm1 := G.pos
    refine ⟨_, rfl, rfl, _, rfl, ?_⟩
    refine ite2 (fun zr => ?hit) (fun zr => ?miss)
    case' hit =>
      refine ⟨_, rfl, _, _, rfl, rfl, _, rfl, _, _, rfl, rfl, _, _, rfl, _, rfl, _, rfl, _, rfl, D, _, rfl, .inl (SqL.of hD), p, s, _, n + 3 + 10 * i + m, rfl, P6, by omega, ?hb1, ?hb2, fun H7 z B7 P7 z0 zm => ?hrest⟩
      case hb1 =>
        rw [List.length_map]
        omega
      case hb2 =>
        rw [List.length_map]
        omega
      obtain ⟨zn, rfl⟩ : ∃ zn : Nat, z = (zn : Int) := ⟨z.toNat, (Int.toNat_of_nonneg z0).symm⟩
      rw [List.length_map] at zm
      have hD7 := B7 D _ nDp hD
      obtain ⟨vn, ev, hv⟩ : ∃ vn : Nat, (if (1 + x) - 1 < ((0 : Int) + (i : Nat)) + 1 then (1 + x) - 1 else ((0 : Int) + (i : Nat)) + 1) = (vn : Int) ∧ vn < N := by
        by_cases hc : (1 + x) - 1 < ((0 : Int) + (i : Nat)) + 1
        · rw [if_pos hc]
          exact ⟨N - 1, by omega, by omega⟩
        · rw [if_neg hc]
          exact ⟨i + 1, by omega, by omega⟩
      refine ⟨D, _, _, zn, rfl, rfl, hD7, ixN_nat (by rw [List.length_map]; omega), ?_⟩
      have e8 : ((row.map nV).set zn (V.int (if (1 + x) - 1 < ((0 : Int) + (i : Nat)) + 1 then (1 + x) - 1 else ((0 : Int) + (i : Nat)) + 1))) = (row.set zn vn).map nV := by rw [ev, List.map_set]
      rw [e8]
      have hDx : (upd H7 D (.lst ((row.set zn vn).map nV))) D = some (.lst ((row.set zn vn).map nV)) := upd_same
      have Bx : But p H5 (upd H7 D (.lst ((row.set zn vn).map nV))) := but_put (B6.trans B7) nD
      have Px : PenAt (upd H7 D (.lst ((row.set zn vn).map nV))) p s (n + 3 + 10 * i + m + 1) := P7.put nDp nDs
      have Lx : (row.set zn vn).length = m := by rw [List.length_set, lrow]
      have Ax : ∀ y ∈ row.set zn vn, y < N := fun y hy => by
        rcases List.mem_or_eq_of_mem_set hy with q' | q'
        · exact rlt y q'
        · rw [q']
          exact hv
      generalize row.set zn vn = rowx at hDx Bx Px Lx Ax ⊢
      generalize upd H7 D (.lst (rowx.map nV)) = Hx at hDx Bx Px ⊢
    case' miss =>
      have hDx := hD
      have Bx := B6
      have Px := P6.mono (Nat.le_succ _)
      have Lx := lrow
      have Ax := rlt
      generalize row = rowx at hDx Lx Ax ⊢
      generalize H6 = Hx at hDx Bx Px ⊢
    all_goals
      refine ⟨_, rfl, p, s, 6, n + 3 + 10 * i + m + 1, rfl, Px, by omega, by decide, by decide, fun Hk kd Bk Pk k0 k6 => ?_⟩
      have hDk := Bk D _ nDp hDx
      refine ⟨_, rfl, rfl, _, rfl, ?_⟩
      by_cases hi0 : i = 0
      · subst hi0
        rw [show decide (V.int ((0 : Int) + ((0 : Nat) : Int)) = V.int 0) = true from rfl]
        refine iteT (iteT ⟨_, rfl, ?_⟩)
        have Bz : But p H5 Hk := Bx.trans Bk
        have hg := Bz gl _ gp I.made.g
        have hkk := Bz kl _ kp I.made.k
        have lrs : rs.length = 0 := by rw [Paired.length I.made.rows, I.lr]
        refine ⟨_, rfl, .inl ⟨rfl, _, .inl (.inl hg)⟩, _, rfl, gl, _, _, rfl, rfl, hg, ?_, ?_⟩
        · rw [List.length_map, lrs]
          exact sizeLine_big (by omega)
        have hkk' : (upd Hk gl (.lst (rs.map V.ref ++ [.ref D]))) kl = some (.lst (ks.map V.int)) := by
          rw [upd_ne gk.symm]
          exact hkk
        refine ⟨_, rfl, .inl ⟨rfl, _, .inl (.inl hkk')⟩, _, rfl, kl, _, _, rfl, rfl, hkk', ?_, ?_⟩
        · rw [List.length_map, I.lk]
          exact sizeLine_big (by omega)
        exact ⟨_, _, _, _, rs ++ [D], rows ++ [rowx], ks ++ [-1], rfl, I.next Ls Bz nD hDk Lx Ax (Pk.mono (by omega)) (by decide) (fun _ => rfl)⟩
      · rw [show decide (V.int ((0 : Int) + ((i : Nat) : Int)) = V.int 0) = false from decide_eq_false (fun e => by have := V.int.inj e; omega)]
        refine iteF ⟨_, rfl, _, rfl, p, s, _, _, rfl, Pk, by omega, by omega, by omega, fun Hj z Bj Pj z0 zm => ⟨_, _, rfl, rfl, _, rfl, ?_⟩⟩
        have hDj := Bj D _ nDp hDk
        refine ite2 (fun zr => ?_) (fun zr => ?_)
        · refine ⟨_, rfl, ?_⟩
          have Bz : But p H5 Hj := (Bx.trans Bk).trans Bj
          have hg := Bz gl _ gp I.made.g
          have hkk := Bz kl _ kp I.made.k
          have lrs : rs.length = i := by rw [Paired.length I.made.rows, I.lr]
          refine ⟨_, rfl, .inl ⟨rfl, _, .inl (.inl hg)⟩, _, rfl, gl, _, _, rfl, rfl, hg, ?_, ?_⟩
          · rw [List.length_map, lrs]
            exact sizeLine_big (by omega)
          have hkk' : (upd Hj gl (.lst (rs.map V.ref ++ [.ref D]))) kl = some (.lst (ks.map V.int)) := by
            rw [upd_ne gk.symm]
            exact hkk
          refine ⟨_, rfl, .inl ⟨rfl, _, .inl (.inl hkk')⟩, _, rfl, kl, _, _, rfl, rfl, hkk', ?_, ?_⟩
          · rw [List.length_map, I.lk]
            exact sizeLine_big (by omega)
          exact ⟨_, _, _, _, rs ++ [D], rows ++ [rowx], ks ++ [-1], rfl, I.next Ls Bz nD hDj Lx Ax (Pj.mono (by omega)) (by decide) (fun _ => rfl)⟩
        · skip
          have Bz : But p H5 Hj := (Bx.trans Bk).trans Bj
          have hg := Bz gl _ gp I.made.g
          have hkk := Bz kl _ kp I.made.k
          have lrs : rs.length = i := by rw [Paired.length I.made.rows, I.lr]
          refine ⟨_, rfl, .inl ⟨rfl, _, .inl (.inl hg)⟩, _, rfl, gl, _, _, rfl, rfl, hg, ?_, ?_⟩
          · rw [List.length_map, lrs]
            exact sizeLine_big (by omega)
          have hkk' : (upd Hj gl (.lst (rs.map V.ref ++ [.ref D]))) kl = some (.lst (ks.map V.int)) := by
            rw [upd_ne gk.symm]
            exact hkk
          refine ⟨_, rfl, .inl ⟨rfl, _, .inl (.inl hkk')⟩, _, rfl, kl, _, _, rfl, rfl, hkk', ?_, ?_⟩
          · rw [List.length_map, I.lk]
            exact sizeLine_big (by omega)
          exact ⟨_, _, _, _, rs ++ [D], rows ++ [rowx], ks ++ [kd], rfl, I.next Ls Bz nD hDj Lx Ax (Pj.mono (by omega)) (by omega) (fun e => absurd e hi0)⟩
  · obtain ⟨y8, y9, y10, y11, rs, rows, ks, rfl, I⟩ := h
    have eNN : (1 + x).toNat = N := by omega
    rw [eNN] at I
    have hm6 := G.most
    refine ⟨_, rfl, _, rfl, _, rfl, _, rfl, p, s, 32, _, rfl, I.pen, by omega, by decide, by decide, fun H6 z B6 P6 z0 zm => ?_⟩
    have hg := B6 gl _ gp I.made.g
    have hkk := B6 kl _ kp I.made.k
    have T0 : Raw ⟨m, rows, ks⟩ := raw_of (n := N) (by omega) (by omega) I.lr I.lk I.row I.low (by
      rcases I.first with e | e
      · have := I.lk
        rw [e] at this
        simp at this
        omega
      · exact e)
    refine ⟨T, gl, kl, z, rs, ⟨m, rows, ks⟩, rfl, ⟨hg, paired_bts (bad := [p, gl, kl]) (F := fun (row : List Nat) => HO.lst (row.map nV)) ((Bts.refl _ _).but (by simp) B6) I.made.far I.made.rows⟩, hkk, T0, hm6, fun H7 v u S7 hv hG hm hl => q H7 v u ((I.but.trans B6).trans (But.of S7)) ((P6.keep S7).mono (by omega)) hv hG hm ?_⟩
    have : u.goes.length ≤ rows.length := hl
    rw [I.lr] at this
    omega
end
end K64
set_option autoImplicit true
set_option Elab.async false
set_option linter.all false
set_option maxRecDepth 100000
set_option maxHeartbeats 4000000
namespace K64
open PySem PySem.Spec PyProof.Rows L2
/-! ### texts, kinds of words -/
theorem joinL_nil : ∀ ys : List (List Nat), TL.joinL [] ys = ys.flatten
  | [] => rfl
  | [y] => by simp [TL.joinL]
  | y :: z :: r => by
    have := joinL_nil (z :: r)
    simp only [TL.joinL, this, List.flatten_cons, List.nil_append, List.append_assoc, List.append_nil]
theorem join_words (T : Str) (w : List Nat) : Txt.join Str.empty (w.map fun i => tx T [i]) = tx T w := by
  refine TL.ext_tl ?_
  rw [TL.join_eq, TL.tl_join]
  have e : TL.tl Str.empty = [] := rfl
  rw [e, joinL_nil, List.map_map]
  show (w.map fun i => (tx T [i]).cps.toList).flatten = (tx T w).cps.toList
  rw [tx_list]
  induction w with
  | nil => rfl
  | cons a w ih =>
    rw [List.map_cons, List.flatten_cons, ih]
    rfl
section
variable {P : Program} {w : World} {K : PySem.W.Frag} {mg : Str → Option Value} {base : Heap}
def spText : Sp := fun vs H Q _ => ∃ (p s : Addr) (T : Str) (m n : Nat), vs = [.ref p, .str T] ∧ PenAt H p s n ∧ n ≤ 80000 ∧ Tg T m ∧
  ∀ (H' : Hp) (u : List Nat), But p H H' → PenAt H' p s (n + 1000) → Ok m u → u.length ≤ 240 → Q (.str (tx T u)) H'
theorem d_text (F : At K mg "_law_text" s_l_text ["_law_pen_here", "_law_tongue"]) (B : Gb mg) (DT : Df P w K mg base 1 "_law_take" spTake) : Df P w K mg base 2 "_law_text" spText := by
  refine F.df sc_l_text (fun vs H Q E h => ?_) (fun f cdv A outer sh H vs Q E hr h => ?_)
  · obtain ⟨p, s, T, m, n, rfl, _⟩ := h
    rfl
  have nd := sc_l_text.nd
  obtain ⟨p, s, T, m, n, rfl, hP, hn, G, q⟩ := h
  have tz : T.length = m := G.size
  have m1 := G.pos
  have m6 := G.most
  have tzz : T.length ≤ sizeLine := Nat.le_of_lt (sizeLine_big (by omega))
  refine ⟨_, pss_cons (ps_set (i := 2) nd rfl (.inl rfl) (pe_d DT hr (by decide) (by rfl) (pa_cons (pv 0) (pa_cons (pe_ix ix_list (pe_lst (pa_cons pe_int (pa_cons pe_int (pa_cons pe_int (pa_cons pe_int (pa_cons pe_int (pa_cons pe_int pa_nil))))))) (pe_d DT hr (by decide) (by rfl) (pa_cons (pv 0) (pa_cons pe_int pa_nil))) (fun _ _ => rfl)) pa_nil))))
    (pss_one (ps_ret (pe_join pe_str (pe_lc (own := [("_law_k", 3)]) (g := gName 3) (tt := tYes) (te := tOp rIxS (tVar 1) (tCall spTake [] E0 (tCons (tVar 0) (tCons (tCB (fun xs H Q => ∃ z, xs = [V.str z] ∧ z.length ≤ sizeLine ∧ Q (.int z.length) H) (tCons (tVar 1) tNil)) tNil)))) rfl nd (pi_range1 (by rfl) B.range (pa_cons (pv 2) pa_nil)) (blkOk_by (N := ["_law_pen_here", "_law_tongue", "_law_size", "_law_k"]) (sc := defScope s_l_text) (by decide +kernel)) (fun _ _ _ _ _ => pg_name (i := 3) nd rfl (Or.inl rfl)) (fun _ _ _ _ _ => pts_nil)
        (fun _ _ _ _ _ => pe_ix ix_str (pv 1) (pe_d DT hr (by decide) (by rfl) (pa_cons (pv 0) (pa_cons (pe_callB call_len_str (by rfl) B.len b_len (pa_cons (pv 1) pa_nil)) pa_nil))) (fun _ _ => rfl)))))), ?_⟩
  refine ⟨_, rfl, by show 6 ≤ sizeLine; decide, fun l nl => ?_⟩
  have P0 : PenAt (upd H l (.lst [.int 13, .int 13, .int 13, .int 13, .int 13, .int 241])) p s n := hP.keep (same_upd nl)
  have B0 : But p H (upd H l (.lst [.int 13, .int 13, .int 13, .int 13, .int 13, .int 241])) := but_put (But.refl _ _) nl
  have hl0 : (upd H l (.lst [.int 13, .int 13, .int 13, .int 13, .int 13, .int 241])) l = some (.lst [.int 13, .int 13, .int 13, .int 13, .int 13, .int 241]) := upd_same
  have nlp := (hP.ne nl).1
  generalize upd H l (.lst [.int 13, .int 13, .int 13, .int 13, .int 13, .int 241]) = H0 at P0 B0 hl0 ⊢
  refine ⟨_, rfl, p, s, 6, n, rfl, P0, by omega, by decide, by decide, fun H1 z B1 P1 z0 z6 => ?_⟩
  have hl1 := B1 l _ nlp hl0
  obtain ⟨y, hy, my⟩ := atI_int (xs := ([.int 13, .int 13, .int 13, .int 13, .int 13, .int 241] : List V)) (i := z) z0 (by show z < ((6 : Nat) : Int); omega)
  obtain ⟨sz, rfl, s1, s2⟩ : ∃ sz : Int, y = V.int sz ∧ 1 ≤ sz ∧ sz ≤ 241 := by
    simp at my
    rcases my with e | e
    · exact ⟨13, e, by decide, by decide⟩
    · exact ⟨241, e, by decide, by decide⟩
  refine ⟨l, _, _, _, rfl, rfl, SqL.of hl1, hy, p, s, sz, n + 1, rfl, P1, by omega, by omega, by omega, fun H2 k B2 P2 k0 ksz => ?_⟩
  have B02 : But p H H2 := (B0.trans B1).trans B2
  refine ⟨⟨_, rfl⟩, _, rfl, _, rfl, by omega, by omega, fun D nD => ?_⟩
  have nDp := (P2.ne nD).1
  have nDs := (P2.ne nD).2
  refine lc_range (n := k.toNat) (fun i H' => But p H2 H' ∧ PenAt H' p s (n + 2 + i) ∧ ∃ u : List Nat, H' D = some (.lst ((u.map fun i => tx T [i]).map V.str)) ∧ u.length = i ∧ Ok m u)
    ⟨but_put (But.refl _ _) nD, P2.put nDp nDs, [], upd_same, rfl, ok_nil m⟩ (fun i H3 hi h => ?_) (fun H3 h => ?_)
  · obtain ⟨B3, P3, u, hD, lu, ou⟩ := h
    refine ⟨rfl, ?_⟩
    refine tYes_if ?_
    refine ⟨_, rfl, _, rfl, _, rfl, T, rfl, tzz, p, s, _, n + 2 + i, rfl, P3, by omega, by omega, by omega, fun H4 z B4 P4 z0 zm => ?_⟩
    obtain ⟨zn, rfl⟩ : ∃ zn : Nat, z = (zn : Int) := ⟨z.toNat, (Int.toNat_of_nonneg z0).symm⟩
    have znm : zn < m := by omega
    have hD4 := B4 D _ nDp hD
    refine ⟨T, _, _, rfl, rfl, tzz, atI_nat (G.sign znm), _, hD4, ?_, but_put (B3.trans B4) nD, P4.put nDp nDs, u ++ [zn], ?_, ?_, ou.snoc znm⟩
    · rw [List.length_map, List.length_map, lu]
      exact sizeLine_big (by omega)
    · rw [upd_same, List.map_append, List.map_append]
      rfl
    · rw [List.length_append, lu]
      rfl
  · obtain ⟨B3, P3, u, hD, lu, ou⟩ := h
    refine ⟨_, D, u.map fun i => tx T [i], rfl, rfl, .inl (SqL.of hD), ?_, ?_⟩
    · have : ((u.map fun i => tx T [i]).map (·.length)).sum ≤ u.length := by
        clear hD lu ou
        induction u with
        | nil => exact Nat.le_refl _
        | cons a u ih =>
          rw [List.map_cons, List.map_cons, List.sum_cons, List.length_cons]
          have : (tx T [a]).length = 1 := tx_length T [a]
          omega
      have e : (Str.ofString "" : Str).length = 0 := rfl
      rw [List.length_map, e]
      omega
    · have e : (Str.ofString "" : Str) = Str.empty := by decide +kernel
      rw [e, join_words]
      exact q H3 u (B02.trans B3) (P3.mono (by omega)) ou (by omega)
def spKind : Sp := fun vs H Q _ => ∃ (v : V) (T : Str) (t : Tab) (u : List Nat), vs = [v, .str (tx T u)] ∧ TabV H v T t ∧ t.Wf ∧ Tg T t.m ∧ Ok t.m u ∧ Q (.int (t.kap u)) H
theorem d_kind (F : At K mg "_law_kind" s_l_kind ["_law_table_here", "_law_word"]) (B : Gb mg) : Df P w K mg base 1 "_law_kind" spKind := by
  refine F.df sc_l_kind (fun vs H Q E h => ?_) (fun f cdv A outer sh H vs Q E hr h => ?_)
  · obtain ⟨v, T, t, u, rfl, _⟩ := h
    rfl
  have nd := sc_l_kind.nd
  obtain ⟨v, T, t, u, rfl, ⟨a, g, k, rs, rfl, ha⟩, W, G, hu, q⟩ := h
  refine ⟨_, pss_cons (ps_set (i := 2) nd rfl (.inl rfl) pe_int)
    (pss_cons (ps_for PassesOwn.never rfl (pi_str (pv 1)) (pg_name (i := 3) nd rfl (.inl rfl))
      (pss_one (ps_set (i := 2) nd rfl (.inl rfl) (pe_ix ix_tup (pe_ix ix_tup (pe_ix ix_tup (pv 0) pe_int (fun _ _ => rfl)) (pv 2) (fun _ _ => rfl)) (pe_bm PySem.F.plainAttrs_str PySem.F.slot_str_find PySem.F.type_str_find mt_find (pe_ix ix_tup (pv 0) pe_int (fun _ _ => rfl)) (pa_cons (pv 3) pa_nil)) (fun _ _ => rfl)))))
    (pss_one (ps_ret (pe_ix ix_tup (pe_ix ix_tup (pv 0) pe_int (fun _ _ => rfl)) (pv 2) (fun _ _ => rfl))))), ?_⟩
  refine ⟨_, rfl, tx T u, rfl, for_it walk_str (fun i σ H' => ∃ (r : Nat) (y : Option V), σ = [some (.ref a), some (.str (tx T u)), some (nV r), y] ∧ r = run t.step 0 (u.take i) ∧ H' = H) ⟨0, _, rfl, rfl, rfl⟩ (fun _ _ _ _ _ => trivial) (fun i x σ H1 H1' hi h hY => ?_) (fun σ H1 h => ?_)⟩
  · obtain ⟨rfl, c, hc, rfl⟩ := hY
    obtain ⟨r, y, rfl, er, rfl⟩ := h
    subst er
    obtain ⟨j, hj, hjm, ec, etc⟩ := G.word hu hc
    rw [etc]
    have hr1 := W.run_lt (u.take i) 0 W.pos (hu.take i)
    obtain ⟨p1, row1, q1, q2, q3, _⟩ := ha.step W hr1 hjm
    refine ⟨_, rfl, a, _, _, _, rfl, rfl, SqT.of ha.top, atI_nat (j := 1) rfl, _, rfl, g, _, _, _, rfl, rfl, SqT.of ha.goes, atI_nat q1, _, rfl, a, _, _, _, rfl, rfl, SqT.of ha.top, atI_nat (j := 0) rfl, rfl, _, rfl, T, tx T [j], rfl, rfl, ?_⟩
    rw [G.find hjm]
    refine ⟨p1, _, _, _, rfl, rfl, SqT.of q2, atI_nat q3, _, _, rfl, ?_, rfl⟩
    rw [take_next hj, run_snoc]
  · obtain ⟨r, y, rfl, er, rfl⟩ := h
    rw [tx_size, List.take_length] at er
    subst er
    exact ⟨_, rfl, a, _, _, _, rfl, rfl, SqT.of ha.top, atI_nat (j := 2) rfl, _, rfl, k, _, _, _, rfl, rfl, SqT.of ha.kinds, atI_nat (ha.kind W (W.run_lt u 0 W.pos hu)), q⟩
end
end K64
set_option autoImplicit true
set_option Elab.async false
set_option linter.all false
set_option maxRecDepth 100000
set_option maxHeartbeats 4000000
namespace K64
open PySem PySem.Spec PyProof.Rows L2
theorem TabAt.kinds_low {t : Tab} (Gt : t.Good) : ∀ k ∈ t.kinds, -1 ≤ k := fun k hk => by
  obtain ⟨j, hj⟩ := List.mem_iff_getElem?.mp hk
  have := Gt.low j
  unfold Tab.kind at this
  rw [List.getD_eq_getElem?_getD, hj] at this
  exact this
theorem kinds_first {t : Tab} (Gt : t.Good) : t.kinds[0]? = some (-1) := by
  rw [Gt.wf.kind_at Gt.wf.pos, Gt.zero]
/-- lists of rows, with the pen -/
structure RowsP (H0 H : Hp) (p s gl : Addr) (n m N : Nat) (rs : List Addr) (rows : List (List Nat)) : Prop where
  but : But p H0 H
  pen : PenAt H p s n
  g : H gl = some (.lst (rs.map V.ref))
  at_ : Paired (fun (r : Addr) (row : List Nat) => H r = some (.lst (row.map nV))) rs rows
  far : ∀ r ∈ rs, r ∉ [p, gl]
  nd : rs.Nodup
  row : ∀ row ∈ rows, row.length = m ∧ ∀ z ∈ row, z < N
  new : ∀ r ∈ rs, H0 r = none
theorem RowsP.len {H0 H : Hp} {p s gl : Addr} {n m N : Nat} {rs : List Addr} {rows : List (List Nat)} (I : RowsP H0 H p s gl n m N rs rows) : rs.length = rows.length := Paired.length I.at_
/-- on, with all but the pen kept -/
theorem RowsP.on {H0 H H' : Hp} {p s gl : Addr} {n n' m N : Nat} {rs : List Addr} {rows : List (List Nat)} (I : RowsP H0 H p s gl n m N rs rows) (hg : gl ≠ p) (B : But p H H') (P : PenAt H' p s n') : RowsP H0 H' p s gl n' m N rs rows where
  but := I.but.trans B
  pen := P
  g := B gl _ hg I.g
  at_ := paired_bts (bad := [p, gl]) (F := fun (row : List Nat) => HO.lst (row.map nV)) ((Bts.refl _ _).but (by simp) B) I.far I.at_
  far := I.far
  nd := I.nd
  row := I.row
  new := I.new
theorem RowsP.add {H0 H H' : Hp} {p s gl D : Addr} {n n' m N : Nat} {rs : List Addr} {rows : List (List Nat)} {row : List Nat} (I : RowsP H0 H p s gl n m N rs rows) (hg0 : H0 gl = none) (hg : gl ≠ p) (hgs : gl ≠ s) (B : But p H H') (hD0 : H D = none) (hD : H' D = some (.lst (row.map nV)))
    (P : PenAt H' p s n') (lrow : row.length = m) (rlt : ∀ z ∈ row, z < N) : RowsP H0 (upd H' gl (.lst (rs.map V.ref ++ [.ref D]))) p s gl n' m N (rs ++ [D]) (rows ++ [row]) := by
  have nDg : D ≠ gl := fun e => by rw [e, I.g] at hD0; cases hD0
  have nDp : D ≠ p := (I.pen.ne hD0).1
  refine ⟨but_put (I.but.trans B) hg0, P.put hg hgs, by rw [upd_same, List.map_append]; rfl, ?_, ?_, ?_, ?_, ?_⟩
  · refine Paired.snoc (paired_bts (bad := [p, gl]) (H := H) (F := fun (row : List Nat) => HO.lst (row.map nV)) (((Bts.refl _ _).but (by simp) B).at_ (by simp)) I.far I.at_) ?_
    rw [upd_ne nDg]
    exact hD
  · intro r hr
    rcases List.mem_append.mp hr with z | z
    · exact I.far r z
    · rw [List.mem_singleton.mp z]
      simp [nDg, nDp]
  · rw [List.nodup_append]
    refine ⟨I.nd, by simp, fun a ha b hb e => ?_⟩
    have eb : b = D := by simpa using hb
    obtain ⟨j, hj⟩ := List.mem_iff_getElem?.mp ha
    obtain ⟨row', hr'⟩ := get_of_lt (l := rows) (j := j) (by rw [← I.len]; exact lt_of_get hj)
    obtain ⟨r', h1, h2⟩ := DX.pget I.at_ hr'
    rw [hj] at h1
    cases h1
    rw [e, eb, hD0] at h2
    cases h2
  · intro r hr
    rcases List.mem_append.mp hr with z | z
    · exact I.row r z
    · rw [List.mem_singleton.mp z]
      exact ⟨lrow, rlt⟩
  · intro r hr
    rcases List.mem_append.mp hr with z | z
    · exact I.new r z
    · rw [List.mem_singleton.mp z]
      exact none_but I.but hD0 nDp
theorem paired_set {F : List Nat → HO} {H : Hp} {r : Addr} {row' : List Nat} : ∀ {rs : List Addr} {rows : List (List Nat)} {j : Nat}, rs.Nodup → Paired (fun (b : Addr) (x : List Nat) => H b = some (F x)) rs rows → rs[j]? = some r → Paired (fun (b : Addr) (x : List Nat) => upd H r (F row') b = some (F x)) rs (rows.set j row') := by
  intro rs rows j hn hp
  induction hp generalizing j with
  | nil => intro h; simp at h
  | @cons a b l1 l2 h1 h2 ih =>
    intro h
    obtain ⟨na, nl⟩ := List.nodup_cons.mp hn
    cases j with
    | zero =>
      have e : a = r := by simpa using h
      subst e
      refine .cons upd_same ?_
      have key : ∀ {cs : List Addr} {xs : List (List Nat)}, a ∉ cs → Paired (fun (b : Addr) (x : List Nat) => H b = some (F x)) cs xs → Paired (fun (b : Addr) (x : List Nat) => upd H a (F row') b = some (F x)) cs xs := by
        intro cs xs hc hq
        induction hq with
        | nil => exact .nil
        | @cons c d _ _ q1 _ ih2 =>
          refine .cons ?_ (ih2 fun z => hc (List.mem_cons_of_mem _ z))
          rw [upd_ne (fun z => hc (by rw [z]; simp))]
          exact q1
      exact key na h2
    | succ j =>
      rw [List.getElem?_cons_succ] at h
      refine .cons ?_ (ih nl h)
      rw [upd_ne (fun z => na (by rw [z]; exact List.mem_of_getElem? h))]
      exact h1
theorem RowsP.set {H0 H : Hp} {p s gl r : Addr} {n m N j : Nat} {rs : List Addr} {rows : List (List Nat)} {row' : List Nat} (I : RowsP H0 H p s gl n m N rs rows) (hs : H0 s ≠ none) (hr : rs[j]? = some r) (l : row'.length = m) (a : ∀ z ∈ row', z < N) :
    RowsP H0 (upd H r (.lst (row'.map nV))) p s gl n m N rs (rows.set j row') := by
  have hm := List.mem_of_getElem? hr
  have f := I.far r hm
  have nrp : r ≠ p := fun e => f (by rw [e]; simp)
  have nrg : r ≠ gl := fun e => f (by rw [e]; simp)
  have n0 := I.new r hm
  have nrs : r ≠ s := fun e => hs (by rw [← e]; exact n0)
  refine ⟨but_put I.but n0, I.pen.put nrp nrs, by rw [upd_ne nrg.symm]; exact I.g, paired_set (F := fun (row : List Nat) => HO.lst (row.map nV)) I.nd I.at_ hr, I.far, I.nd, fun x hx => ?_, I.new⟩
  rcases List.mem_or_eq_of_mem_set hx with q' | q'
  · exact I.row x q'
  · rw [q']
    exact ⟨l, a⟩
section
variable {P : Program} {w : World} {K : PySem.W.Frag} {mg : Str → Option Value} {base : Heap}
def spDoubled : Sp := fun vs H Q _ => ∃ (p s : Addr) (v : V) (T : Str) (t : Tab) (n : Nat), vs = [.ref p, v] ∧ PenAt H p s n ∧ n ≤ 80000 ∧ TabV H v T t ∧ t.Good ∧ t.m ≤ 6 ∧ t.goes.length ≤ 16 ∧
  ∀ (H' : Hp) (v' : V) (u : Tab), But p H H' → PenAt H' p s (n + 1000) → TabV H' v' T u → u.Good → u.m = t.m → Q v' H'
theorem d_doubled (F : At K mg "_law_doubled" s_l_doubled ["_law_pen_here", "_law_table_here"]) (B : Gb mg) (DT : Df P w K mg base 1 "_law_take" spTake) (DC : Df P w K mg base 1 "_law_cut_down" spCutDown) : Df P w K mg base 2 "_law_doubled" spDoubled := by
  refine F.df sc_l_doubled (fun vs H Q E h => ?_) (fun f cdv A outer sh H vs Q E hr h => ?_)
  · obtain ⟨p, s, v, T, t, n, rfl, _⟩ := h
    rfl
  have nd := sc_l_doubled.nd
  obtain ⟨p, s, v, T, t, n, rfl, hP, hn, ⟨a, g, k, rs0, rfl, ha⟩, Gt, m6, n16, q⟩ := h
  have W := Gt.wf
  have hpos := W.pos
  have lrs := ha.len
  refine ⟨_, pss_cons (ps_set (i := 2) nd rfl (.inr rfl) (pe_callB call_len_seq (by rfl) B.len b_len (pa_cons (pe_ix ix_tup (pv 1) pe_int (fun _ _ => rfl)) pa_nil)))
    (pss_cons (ps_set (i := 3) nd rfl (.inl rfl) (pe_lst pa_nil))
    (pss_cons (ps_for PassesOwn.never rfl (pi_range1 (by rfl) B.range (pa_cons (pe_op op_mul pe_int (pv 2)) pa_nil)) (pg_name (i := 4) nd rfl (.inl rfl))
      (pss_one (ps_expr (pe_bm PySem.F.plainAttrs_list PySem.F.slot_list_append PySem.F.type_list_append mt_append (pv 3) (pa_cons
        (pe_lc (own := [("_law_there", 5)]) (g := gName 5) (tt := tYes) (te := tOp (rI0 fun i j => .int (i + j)) (tVar 5) (tOp (rI CMul fun i j => .int (i * j)) (tVar 2) (tCall spTake [] E0 (tCons (tVar 0) (tCons (tC (.int 2)) tNil))))) rfl nd (pi_tup (pe_ix ix_tup (pe_ix ix_tup (pv 1) pe_int (fun _ _ => rfl)) (pe_op op_mod (pv 4) (pv 2)) (fun _ _ => rfl))) (blkOk_by (N := ["_law_pen_here", "_law_table_here", "_law_many", "_law_goes", "_law_at", "_law_there"]) (sc := defScope s_l_doubled) (by decide +kernel)) (fun _ _ _ _ _ => pg_name (i := 5) nd rfl (Or.inl rfl)) (fun _ _ _ _ _ => pts_nil)
          (fun _ _ _ _ _ => pe_op op_add (pv 5) (pe_op op_mul (pv 2) (pe_d DT hr (by decide) (by rfl) (pa_cons (pv 0) (pa_cons pe_int pa_nil)))))) pa_nil)))))
    (pss_one (ps_ret (pe_d DC hr (by decide) (by rfl) (pa_cons (pe_ix ix_tup (pv 1) pe_int (fun _ _ => rfl)) (pa_cons (pv 3) (pa_cons (pe_op op_rep (pe_callTy call_list_of (by rfl) B.list b_list (pa_cons (pe_ix ix_tup (pv 1) pe_int (fun _ _ => rfl)) pa_nil)) pe_int) (pa_cons (pe_d DT hr (by decide) (by rfl) (pa_cons (pv 0) (pa_cons pe_int pa_nil))) pa_nil))))))))), ?_⟩
  refine ⟨_, rfl, a, _, _, _, rfl, rfl, SqT.of ha.top, atI_nat (j := 1) rfl, g, _, rfl, .inr (SqT.of ha.goes), ?_⟩
  refine ⟨Nat.zero_le _, fun gl ngl => ?_⟩
  obtain ⟨gp, gs⟩ := hP.ne ngl
  rw [lrs]
  have I0 : RowsP H (upd H gl (.lst [])) p s gl n t.m (2 * t.goes.length) [] [] := ⟨but_put (But.refl _ _) ngl, hP.put gp gs, by rw [upd_same]; rfl, .nil, fun r h => by simp at h, List.nodup_nil, fun r h => by simp at h, fun r h => by simp at h⟩
  generalize upd H gl (.lst []) = H1 at I0 ⊢
  refine ⟨_, rfl, _, _, rfl, rfl, .inl ⟨by decide, by decide⟩, _, rfl, by show _ ≤ (2 : Int) * (t.goes.length : Nat); omega, by show (2 : Int) * (t.goes.length : Nat) < _; omega, ?_⟩
  refine for_range (n := ((2 : Int) * (t.goes.length : Nat)).toNat) (fun i σ H' => ∃ (y4 y5 : Option V) (rs : List Addr) (rows : List (List Nat)), σ = [some (.ref p), some (.ref a), some (nV t.goes.length), some (.ref gl), y4, y5] ∧ RowsP H H' p s gl (n + 6 * i) t.m (2 * t.goes.length) rs rows ∧ rows.length = i)
    ⟨_, _, [], [], rfl, I0, rfl⟩ (fun i σ H2 hi h => ?_) (fun σ H2 h => ?_)
  · obtain ⟨y4, y5, rs, rows, rfl, I, li⟩ := h
    have hi2 : i < 2 * t.goes.length := by omega
    have hA := ha.mono (hP.tups I.but)
    have hmod : i % t.goes.length < t.goes.length := Nat.mod_lt _ hpos
    obtain ⟨row0, hrow0⟩ := get_of_lt hmod
    obtain ⟨ra, _, m1, m2⟩ := hA.row hrow0
    obtain ⟨lrow0, rlt0⟩ := W.row _ _ hrow0
    have lrs2 := I.len
    refine ⟨_, rfl, .inl ⟨rfl, _, .inl (.inl I.g)⟩, _, rfl, a, _, _, _, rfl, rfl, SqT.of hA.top, atI_nat (j := 1) rfl, _, rfl, _, rfl, _, _, rfl, rfl, by show (0 : Int) < (t.goes.length : Nat); omega, g, _, _, _, rfl, rfl, SqT.of hA.goes, ?_, ra, rfl, ⟨_, SqT.of m2⟩, fun D nD => ?_⟩
    · have e : ((0 : Int) + (i : Nat)) % (t.goes.length : Nat) = ((i % t.goes.length : Nat) : Int) := by
        rw [Int.zero_add]
        exact (Int.natCast_emod i t.goes.length).symm
      have := atI_nat m1
      rw [← e] at this
      exact this
    have nDp := (I.pen.ne nD).1
    have nDs := (I.pen.ne nD).2
    have nra : ra ≠ p := fun e => by
      obtain ⟨ys, hy⟩ := I.pen.pen
      rw [← e, m2] at hy
      cases hy
    refine lc_tup (xs := row0.map nV) (fun j H' => But p H2 H' ∧ PenAt H' p s (n + 6 * i + j) ∧ ∃ row : List Nat, H' D = some (.lst (row.map nV)) ∧ row.length = j ∧ ∀ z ∈ row, z < 2 * t.goes.length)
      ⟨but_put (But.refl _ _) nD, I.pen.put nDp nDs, [], upd_same, rfl, fun z h => by simp at h⟩ (fun j H' _ h => SqT.of (h.1 _ _ nra m2)) (fun j x H3 hx h => ?_) (fun H3 h => ?_)
    · obtain ⟨B3, P3, row, hD, lrow, rlt⟩ := h
      rw [List.getElem?_map] at hx
      obtain ⟨y, hy, rfl⟩ := Option.map_eq_some_iff.mp hx
      have hyl := rlt0 y (List.mem_of_getElem? hy)
      have hjl := lt_of_get hy
      refine ⟨rfl, ?_⟩
      refine tYes_if ?_
      refine ⟨_, rfl, _, rfl, _, rfl, p, s, 2, n + 6 * i + j, rfl, P3, by omega, by decide, by decide, fun H4 z B4 P4 z0 z2 => ?_⟩
      obtain ⟨zn, rfl⟩ : ∃ zn : Nat, z = (zn : Int) := ⟨z.toNat, (Int.toNat_of_nonneg z0).symm⟩
      have hD4 := B4 D _ nDp hD
      have ev : ((y : Nat) : Int) + (t.goes.length : Nat) * (zn : Int) = ((y + t.goes.length * zn : Nat) : Int) := by
        rw [Int.natCast_add, Int.natCast_mul]
      refine ⟨_, _, rfl, rfl, .inl ⟨by omega, by omega⟩, _, _, rfl, rfl, _, hD4, ?_, but_put (B3.trans B4) nD, P4.put nDp nDs, row ++ [y + t.goes.length * zn], ?_, ?_, ?_⟩
      · rw [List.length_map, lrow]
        exact sizeLine_big (by omega)
      · rw [upd_same, List.map_append]
        exact congrArg (fun z => some (HO.lst (row.map nV ++ [V.int z]))) ev
      · rw [List.length_append, lrow]
        rfl
      · intro x hx
        rcases List.mem_append.mp hx with q' | q'
        · exact rlt x q'
        · rw [List.mem_singleton.mp q']
          have : zn = 0 ∨ zn = 1 := by omega
          rcases this with e | e <;> subst e <;> omega
    · obtain ⟨B3, P3, row, hD, lrow, rlt⟩ := h
      rw [List.length_map, lrow0] at P3 lrow
      have hg := B3 gl _ gp I.g
      refine ⟨gl, _, _, rfl, rfl, hg, ?_, ?_⟩
      · rw [List.length_map, lrs2, li]
        exact sizeLine_big (by omega)
      exact ⟨_, _, rs ++ [D], rows ++ [row], rfl, I.add ngl gp gs B3 nD hD (P3.mono (by omega)) lrow rlt, by rw [List.length_append, li]; rfl⟩
  · obtain ⟨y4, y5, rs, rows, rfl, I, li⟩ := h
    have hA := ha.mono (hP.tups I.but)
    have l2e : rows.length = 2 * t.goes.length := by omega
    refine ⟨_, rfl, a, _, _, _, rfl, rfl, SqT.of hA.top, atI_nat (j := 0) rfl, _, rfl, _, rfl, a, _, _, _, rfl, rfl, SqT.of hA.top, atI_nat (j := 2) rfl, k, _, rfl, .inr (SqT.of hA.kinds), fun l1 nl1 => ⟨l1, 2, _, rfl, rfl, upd_same, by decide, by decide, ?_, fun l2 nl2 => ?_⟩⟩
    · rw [List.length_map, W.len]
      exact Nat.le_of_lt (sizeLine_big (by
        show t.goes.length * 2 ≤ _
        omega))
    have ek : (List.replicate (2 : Int).toNat (t.kinds.map V.int)).flatten = (t.kinds ++ t.kinds).map V.int := by
      rw [List.map_append]
      show (t.kinds.map V.int ++ (t.kinds.map V.int ++ [])) = _
      rw [List.append_nil]
    rw [ek]
    have S3 : Same H2 (upd (upd H2 l1 (.lst (t.kinds.map V.int))) l2 (.lst ((t.kinds ++ t.kinds).map V.int))) := (same_upd nl1).trans (same_upd nl2)
    have hkl : (upd (upd H2 l1 (.lst (t.kinds.map V.int))) l2 (.lst ((t.kinds ++ t.kinds).map V.int))) l2 = some (.lst ((t.kinds ++ t.kinds).map V.int)) := upd_same
    generalize upd (upd H2 l1 (.lst (t.kinds.map V.int))) l2 (.lst ((t.kinds ++ t.kinds).map V.int)) = H3 at S3 hkl ⊢
    have I3 := I.on gp (But.of S3) (I.pen.keep S3)
    have nlp : l2 ≠ p := fun e => by
      have n2 : H2 l2 = none := none_of (same_upd nl1) nl2
      exact (I.pen.ne n2).1 e
    refine ⟨_, rfl, p, s, 32, _, rfl, I3.pen, by omega, by decide, by decide, fun H4 z B4 P4 z0 zm => ?_⟩
    have I4 := I3.on gp B4 P4
    have T0 : Raw ⟨t.m, rows, t.kinds ++ t.kinds⟩ := raw_of (n := 2 * t.goes.length) (by omega) (by omega) l2e (by rw [List.length_append, W.len]; omega) I.row (fun k hk => by
      rcases List.mem_append.mp hk with z | z <;> exact TabAt.kinds_low Gt k z) (by rw [List.getElem?_append_left (by rw [W.len]; exact hpos)]; exact kinds_first Gt)
    refine ⟨T, gl, l2, z, rs, ⟨t.m, rows, t.kinds ++ t.kinds⟩, rfl, ⟨I4.g, I4.at_⟩, B4 _ _ nlp hkl, T0, m6, fun H7 v u S7 hv hG hm hl => q H7 v u (I4.but.trans (But.of S7)) ((I4.pen.keep S7).mono (by omega)) hv hG hm⟩
end
end K64
set_option autoImplicit true
set_option Elab.async false
set_option linter.all false
set_option maxRecDepth 100000
set_option maxHeartbeats 4000000
namespace K64
open PySem PySem.Spec PyProof.Rows L2
def rListOf (K : PySem.W.Frag) : List V → Hp → VK → Prop := fun xs H Q => ∃ p ys, xs = [.ref p] ∧ (SqL K H p ys ∨ SqT K H p ys) ∧ ∀ l, H l = none → Q (.ref l) (upd H l (.lst ys))
theorem call_lst {X : Cx} : CallR X (.type "list") (rListOf X.K) := call_list_of
section
variable {P : Program} {w : World} {K : PySem.W.Frag} {mg : Str → Option Value} {base : Heap}
def spBent : Sp := fun vs H Q _ => ∃ (p s : Addr) (v : V) (T : Str) (t : Tab) (n : Nat), vs = [.ref p, v] ∧ PenAt H p s n ∧ n ≤ 80000 ∧ TabV H v T t ∧ t.Good ∧ Tg T t.m ∧
  ∀ (H' : Hp) (v' : V) (u : Tab), But p H H' → PenAt H' p s (n + 1000) → TabV H' v' T u → u.Good → u.m = t.m → Q v' H'
theorem d_bent (F : At K mg "_law_bent" s_l_bent ["_law_pen_here", "_law_table_here"]) (B : Gb mg) (DT : Df P w K mg base 1 "_law_take" spTake) (DC : Df P w K mg base 1 "_law_cut_down" spCutDown) : Df P w K mg base 2 "_law_bent" spBent := by
  refine F.df sc_l_bent (fun vs H Q E h => ?_) (fun f cdv A outer sh H vs Q E hr h => ?_)
  · obtain ⟨p, s, v, T, t, n, rfl, _⟩ := h
    rfl
  have nd := sc_l_bent.nd
  obtain ⟨p, s, v, T, t, n, rfl, hP, hn, ⟨a, g, k, rs0, rfl, ha⟩, Gt, G, q⟩ := h
  have W := Gt.wf
  have hpos := W.pos
  have n32 := W.small
  have m6 := G.most
  have m1 := G.pos
  have lrs := ha.len
  have hs0 : H s ≠ none := fun e => by
    obtain ⟨_, h⟩ := hP.scr
    rw [e] at h
    cases h
  refine ⟨_, pss_cons (ps_setLc (i := 2) (own := [("_law_row", 5)]) (g := gName 5) (tt := tYes) (te := tCB (rListOf K) (tCons (tVar 5) tNil)) rfl nd rfl rfl (sw_true rfl rfl rfl (by decide +kernel)) (pi_tup (pe_ix ix_tup (pv 1) pe_int (fun _ _ => rfl))) (blkOk_by (N := ["_law_pen_here", "_law_table_here", "_law_goes", "_law_kinds", "_law_at", "_law_row"]) (sc := defScope s_l_bent) (by decide +kernel)) (fun _ _ _ _ _ => pg_name (i := 5) nd rfl (Or.inl rfl)) (fun _ _ _ _ _ => pts_nil)
      (fun _ _ _ _ _ => pe_callTy call_lst (by rfl) B.list b_list (pa_cons (pv 5) pa_nil)))
    (pss_cons (ps_set (i := 3) nd rfl (.inl rfl) (pe_callTy call_list_of (by rfl) B.list b_list (pa_cons (pe_ix ix_tup (pv 1) pe_int (fun _ _ => rfl)) pa_nil)))
    (pss_cons (ps_set (i := 4) nd rfl (.inl rfl) (pe_d DT hr (by decide) (by rfl) (pa_cons (pv 0) (pa_cons (pe_callB call_len_seq (by rfl) B.len b_len (pa_cons (pv 2) pa_nil)) pa_nil))))
    (pss_cons (ps_if (pw_and (pt_cmpR op_gt (pv 4) pe_int (nomark _)) (pw_and1 (pt_cmpR op_gt (pe_d DT hr (by decide) (by rfl) (pa_cons (pv 0) (pa_cons pe_int pa_nil))) pe_int (nomark _)))).pt
      (pss_one (ps_asg (pe_op op_sub (pe_d DT hr (by decide) (by rfl) (pa_cons (pv 0) (pa_cons pe_int pa_nil))) pe_int) (pg_sub (pv 3) (pv 4) set_list)))
      (pss_one (ps_asg (pe_d DT hr (by decide) (by rfl) (pa_cons (pv 0) (pa_cons (pe_callB call_len_seq (by rfl) B.len b_len (pa_cons (pv 2) pa_nil)) pa_nil))) (pg_sub (pe_ix ix_list (pv 2) (pv 4) (fun _ _ => rfl)) (pe_d DT hr (by decide) (by rfl) (pa_cons (pv 0) (pa_cons (pe_callB call_len_str (by rfl) B.len b_len (pa_cons (pe_ix ix_tup (pv 1) pe_int (fun _ _ => rfl)) pa_nil)) pa_nil))) set_list))))
    (pss_one (ps_ret (pe_d DC hr (by decide) (by rfl) (pa_cons (pe_ix ix_tup (pv 1) pe_int (fun _ _ => rfl)) (pa_cons (pv 2) (pa_cons (pv 3) (pa_cons (pe_d DT hr (by decide) (by rfl) (pa_cons (pv 0) (pa_cons pe_int pa_nil))) pa_nil)))))))))), ?_⟩
  have nga : ∀ {x : Addr} {xs : List V}, H x = some (.tup xs) → x ≠ p := fun hx e => by
    obtain ⟨_, h⟩ := hP.pen
    rw [← e, hx] at h
    cases h
  refine ⟨_, rfl, a, _, _, _, rfl, rfl, SqT.of ha.top, atI_nat (j := 1) rfl, g, rfl, ⟨_, SqT.of ha.goes⟩, fun gl ngl => ?_⟩
  obtain ⟨gp, gs⟩ := hP.ne ngl
  have I0 : RowsP H (upd H gl (.lst [])) p s gl n t.m t.goes.length [] [] := ⟨but_put (But.refl _ _) ngl, hP.put gp gs, by rw [upd_same]; rfl, .nil, fun r h => by simp at h, List.nodup_nil, fun r h => by simp at h, fun r h => by simp at h⟩
  refine lc_tup (K := K) (te := tCB (rListOf K) (tCons (tVar 5) tNil)) (xs := rs0.map V.ref) (fun i H' => ∃ rs : List Addr, RowsP H H' p s gl n t.m t.goes.length rs (t.goes.take i)) ⟨[], I0⟩ (fun i H' _ h => by obtain ⟨_, I⟩ := h; exact SqT.of (I.but _ _ (nga ha.goes) ha.goes)) (fun i x H1 hx h => ?_) (fun H1 h => ?_)
  · obtain ⟨rs, I⟩ := h
    have hi := lt_of_get hx
    rw [lrs] at hi
    obtain ⟨row, hrow⟩ := get_of_lt hi
    obtain ⟨ra, _, m1', m2⟩ := ha.row hrow
    rw [m1'] at hx
    cases hx
    obtain ⟨lrow, rlt⟩ := W.row _ _ hrow
    refine ⟨rfl, ?_⟩
    refine tYes_if ?_
    refine ⟨_, rfl, ra, _, rfl, .inr (SqT.of (I.but _ _ (nga m2) m2)), fun l nl => ⟨_, keep_new I.g nl, ?_, rs ++ [l], ?_⟩⟩
    · rw [List.length_map, I.len, List.length_take]
      exact sizeLine_big (by omega)
    · rw [take_next hrow]
      exact I.add ngl gp gs (but_put (But.refl _ _) nl) nl upd_same (I.pen.put (I.pen.ne nl).1 (I.pen.ne nl).2) lrow rlt
  obtain ⟨rs, I⟩ := h
  rw [lrs, List.take_length] at I
  have hA := ha.mono (hP.tups I.but)
  refine ⟨_, rfl, a, _, _, _, rfl, rfl, SqT.of hA.top, atI_nat (j := 2) rfl, k, _, rfl, .inr (SqT.of hA.kinds), fun kl nkl => ?_⟩
  have S2 : Same H1 (upd H1 kl (.lst (t.kinds.map V.int))) := same_upd nkl
  have hkl : (upd H1 kl (.lst (t.kinds.map V.int))) kl = some (.lst (t.kinds.map V.int)) := upd_same
  have I2 := I.on gp (But.of S2) (I.pen.keep S2)
  have kp := (I.pen.ne nkl).1
  have ks := (I.pen.ne nkl).2
  have nkg : kl ≠ gl := fun e => by rw [e, I.g] at nkl; cases nkl
  have kl0 : H kl = none := none_but I.but nkl kp
  have nkr : ∀ r ∈ rs, kl ≠ r := fun r hr e => by
    obtain ⟨j, hj⟩ := List.mem_iff_getElem?.mp hr
    obtain ⟨row', hr'⟩ := get_of_lt (l := t.goes) (j := j) (by rw [← I.len]; exact lt_of_get hj)
    obtain ⟨r', h1, h2⟩ := DX.pget I.at_ hr'
    rw [hj] at h1
    cases h1
    rw [← e, nkl] at h2
    cases h2
  generalize upd H1 kl (.lst (t.kinds.map V.int)) = H2 at S2 hkl I2 ⊢
  have lrs2 : (rs.map V.ref).length = t.goes.length := by rw [List.length_map, I.len]
  refine ⟨_, rfl, _, rfl, gl, _, rfl, .inl (SqL.of I2.g), p, s, _, n, rfl, I2.pen, by omega, by rw [lrs2]; omega, by rw [lrs2]; omega, fun H3 at' B3 P3 a0 am => ?_⟩
  rw [lrs2] at am
  obtain ⟨an, rfl⟩ : ∃ an : Nat, at' = (an : Int) := ⟨at'.toNat, (Int.toNat_of_nonneg a0).symm⟩
  have han : an < t.goes.length := by omega
  have I3 := I2.on gp B3 P3
  have hk3 := B3 _ _ kp hkl
  -- the end, alike from the three roads
  refine ⟨_, rfl, _, _, rfl, rfl, _, rfl, ?_⟩
  by_cases hp0 : (0 : Int) < (an : Int)
  · rw [decide_eq_true hp0]
    refine iteT ⟨_, rfl, p, s, 3, _, rfl, P3, by omega, by decide, by decide, fun H4 z B4 P4 z0 z3 => ⟨_, _, rfl, rfl, _, rfl, ?_⟩⟩
    refine ite2 (fun zr => ?_) (fun zr => ?_)
    · skip
      refine ⟨_, rfl, p, s, 7, _, rfl, P4, by omega, by decide, by decide, fun H5 y B5 P5 y0 y7 => ⟨_, _, rfl, rfl, _, rfl, _, rfl, kl, _, _, an, rfl, rfl, B5 _ _ kp (B4 _ _ kp hk3), ixN_nat (by rw [List.length_map, W.len]; exact han), ?_⟩⟩
      have ek : (t.kinds.map V.int).set an (V.int (y - 1)) = (t.kinds.set an (y - 1)).map V.int := List.map_set.symm
      rw [ek]
      have I5 := (I3.on gp B4 P4).on gp B5 P5
      have I6 : RowsP H (upd H5 kl (.lst ((t.kinds.set an (y - 1)).map V.int))) p s gl (n + 1 + 1 + 1) t.m t.goes.length rs t.goes :=
        ⟨but_put I5.but kl0, I5.pen.put kp ks, by rw [upd_ne nkg.symm]; exact I5.g, paired_bts (bad := [kl]) (F := fun (row : List Nat) => HO.lst (row.map nV)) ((Bts.refl _ _).at_ (by simp)) (fun b hb => by simp [Ne.symm (nkr b hb)]) I5.at_, I5.far, I5.nd, I5.row, I5.new⟩
      have hk6 : (upd H5 kl (.lst ((t.kinds.set an (y - 1)).map V.int))) kl = some (.lst ((t.kinds.set an (y - 1)).map V.int)) := upd_same
      generalize upd H5 kl (.lst ((t.kinds.set an (y - 1)).map V.int)) = H6 at I6 hk6 ⊢
      have lk9 : (t.kinds.set an (y - 1)).length = t.goes.length := by rw [List.length_set, W.len]
      refine ⟨_, rfl, a, _, _, _, rfl, rfl, SqT.of (ha.mono (hP.tups I6.but)).top, atI_nat (j := 0) rfl, _, rfl, _, rfl, _, rfl, p, s, 32, _, rfl, I6.pen, by omega, by decide, by decide, fun H8 z8 B8 P8 z80 z8m => ?_⟩
      have I8 := I6.on gp B8 P8
      refine ⟨T, gl, kl, z8, rs, ⟨t.m, _, t.kinds.set an (y - 1)⟩, rfl, ⟨I8.g, I8.at_⟩, B8 _ _ kp hk6, raw_of hpos n32 rfl lk9 I8.row (fun k hk => by
          rcases List.mem_or_eq_of_mem_set hk with q' | q'
          · exact TabAt.kinds_low Gt k q'
          · omega) (by rw [List.getElem?_set_ne (by omega)]; exact kinds_first Gt), m6, fun H9 v u S9 hv hG hm hl => q H9 v u (I8.but.trans (But.of S9)) ((I8.pen.keep S9).mono (by omega)) hv hG hm⟩
    · have I4 := I3.on gp B4 P4
      refine ⟨_, rfl, _, rfl, gl, _, rfl, .inl (SqL.of I4.g), p, s, _, _, rfl, I4.pen, by omega, by rw [lrs2]; omega, by rw [lrs2]; omega, fun H5 y B5 P5 y0 ym => ?_⟩
      rw [lrs2] at ym
      obtain ⟨yn, rfl⟩ : ∃ yn : Nat, y = (yn : Int) := ⟨y.toNat, (Int.toNat_of_nonneg y0).symm⟩
      have I5 := I4.on gp B5 P5
      obtain ⟨row, hrow⟩ := get_of_lt han
      obtain ⟨r, hr1, hr2⟩ := DX.pget I5.at_ hrow
      obtain ⟨lrow, rlt⟩ := W.row _ _ hrow
      have tz : T.length = t.m := G.size
      refine ⟨_, rfl, _, rfl, gl, _, _, _, rfl, rfl, SqL.of I5.g, atI_nat (by rw [List.getElem?_map, hr1]; rfl), _, rfl, _, rfl, a, _, _, _, rfl, rfl, SqT.of (ha.mono (hP.tups I5.but)).top, atI_nat (j := 0) rfl, T, rfl, Nat.le_of_lt (sizeLine_big (by omega)), p, s, _, _, rfl, I5.pen, by omega, by omega, by omega, fun H6 x B6 P6 x0 xm => ?_⟩
      obtain ⟨xn, rfl⟩ : ∃ xn : Nat, x = (xn : Int) := ⟨x.toNat, (Int.toNat_of_nonneg x0).symm⟩
      have I6 := I5.on gp B6 P6
      have rmem := List.mem_of_getElem? hr1
      have nrp : r ≠ p := fun e => I5.far r rmem (by rw [e]; simp)
      refine ⟨r, _, _, xn, rfl, rfl, B6 _ _ nrp hr2, ixN_nat (by rw [List.length_map, lrow]; omega), ?_⟩
      rw [show (row.map nV).set xn (V.int (yn : Int)) = (row.set xn yn).map nV from List.map_set.symm]
      have I7 := I6.set hs0 hr1 (row' := row.set xn yn) (by rw [List.length_set, lrow]) (fun z hz => by
        rcases List.mem_or_eq_of_mem_set hz with q' | q'
        · exact rlt z q'
        · omega)
      have hk7 : (upd H6 r (.lst ((row.set xn yn).map nV))) kl = some (.lst (t.kinds.map V.int)) := by
        rw [upd_ne (nkr r rmem)]
        exact B6 _ _ kp (B5 _ _ kp (B4 _ _ kp hk3))
      generalize upd H6 r (.lst ((row.set xn yn).map nV)) = H7 at I7 hk7 ⊢
      have lk9 : (t.kinds).length = t.goes.length := W.len
      refine ⟨_, rfl, a, _, _, _, rfl, rfl, SqT.of (ha.mono (hP.tups I7.but)).top, atI_nat (j := 0) rfl, _, rfl, _, rfl, _, rfl, p, s, 32, _, rfl, I7.pen, by omega, by decide, by decide, fun H8 z8 B8 P8 z80 z8m => ?_⟩
      have I8 := I7.on gp B8 P8
      refine ⟨T, gl, kl, z8, rs, ⟨t.m, _, t.kinds⟩, rfl, ⟨I8.g, I8.at_⟩, B8 _ _ kp hk7, raw_of hpos n32 (by rw [List.length_set]) lk9 I8.row (TabAt.kinds_low Gt) (kinds_first Gt), m6, fun H9 v u S9 hv hG hm hl => q H9 v u (I8.but.trans (But.of S9)) ((I8.pen.keep S9).mono (by omega)) hv hG hm⟩
  · rw [decide_eq_false hp0]
    refine iteF (iteF ?_)
    refine ⟨_, rfl, _, rfl, gl, _, rfl, .inl (SqL.of I3.g), p, s, _, _, rfl, I3.pen, by omega, by rw [lrs2]; omega, by rw [lrs2]; omega, fun H5 y B5 P5 y0 ym => ?_⟩
    rw [lrs2] at ym
    obtain ⟨yn, rfl⟩ : ∃ yn : Nat, y = (yn : Int) := ⟨y.toNat, (Int.toNat_of_nonneg y0).symm⟩
    have I5 := I3.on gp B5 P5
    obtain ⟨row, hrow⟩ := get_of_lt han
    obtain ⟨r, hr1, hr2⟩ := DX.pget I5.at_ hrow
    obtain ⟨lrow, rlt⟩ := W.row _ _ hrow
    have tz : T.length = t.m := G.size
    refine ⟨_, rfl, _, rfl, gl, _, _, _, rfl, rfl, SqL.of I5.g, atI_nat (by rw [List.getElem?_map, hr1]; rfl), _, rfl, _, rfl, a, _, _, _, rfl, rfl, SqT.of (ha.mono (hP.tups I5.but)).top, atI_nat (j := 0) rfl, T, rfl, Nat.le_of_lt (sizeLine_big (by omega)), p, s, _, _, rfl, I5.pen, by omega, by omega, by omega, fun H6 x B6 P6 x0 xm => ?_⟩
    obtain ⟨xn, rfl⟩ : ∃ xn : Nat, x = (xn : Int) := ⟨x.toNat, (Int.toNat_of_nonneg x0).symm⟩
    have I6 := I5.on gp B6 P6
    have rmem := List.mem_of_getElem? hr1
    have nrp : r ≠ p := fun e => I5.far r rmem (by rw [e]; simp)
    refine ⟨r, _, _, xn, rfl, rfl, B6 _ _ nrp hr2, ixN_nat (by rw [List.length_map, lrow]; omega), ?_⟩
    rw [show (row.map nV).set xn (V.int (yn : Int)) = (row.set xn yn).map nV from List.map_set.symm]
    have I7 := I6.set hs0 hr1 (row' := row.set xn yn) (by rw [List.length_set, lrow]) (fun z hz => by
      rcases List.mem_or_eq_of_mem_set hz with q' | q'
      · exact rlt z q'
      · omega)
    have hk7 : (upd H6 r (.lst ((row.set xn yn).map nV))) kl = some (.lst (t.kinds.map V.int)) := by
      rw [upd_ne (nkr r rmem)]
      exact B6 _ _ kp (B5 _ _ kp (hk3))
    generalize upd H6 r (.lst ((row.set xn yn).map nV)) = H7 at I7 hk7 ⊢
    have lk9 : (t.kinds).length = t.goes.length := W.len
    refine ⟨_, rfl, a, _, _, _, rfl, rfl, SqT.of (ha.mono (hP.tups I7.but)).top, atI_nat (j := 0) rfl, _, rfl, _, rfl, _, rfl, p, s, 32, _, rfl, I7.pen, by omega, by decide, by decide, fun H8 z8 B8 P8 z80 z8m => ?_⟩
    have I8 := I7.on gp B8 P8
    refine ⟨T, gl, kl, z8, rs, ⟨t.m, _, t.kinds⟩, rfl, ⟨I8.g, I8.at_⟩, B8 _ _ kp hk7, raw_of hpos n32 (by rw [List.length_set]) lk9 I8.row (TabAt.kinds_low Gt) (kinds_first Gt), m6, fun H9 v u S9 hv hG hm hl => q H9 v u (I8.but.trans (But.of S9)) ((I8.pen.keep S9).mono (by omega)) hv hG hm⟩
end
end K64
set_option autoImplicit true
set_option Elab.async false
set_option linter.all false
set_option maxRecDepth 100000
set_option maxHeartbeats 4000000
namespace K64
open PySem PySem.Spec PyProof.Rows L2
section
variable {P : Program} {w : World} {K : PySem.W.Frag} {mg : Str → Option Value} {base : Heap}
def spTwo : Sp := fun vs H Q _ => ∃ (p s : Addr) (n : Nat), vs = [.ref p] ∧ PenAt H p s n ∧ n ≤ 1000 ∧
  ∀ (H' : Hp) (r : Addr) (v u : V) (T : Str) (t t' : Tab), But p H H' → PenAt H' p s (n + 7000) → H' r = some (.tup [v, u]) → Two H' v u T t t' → t.Good → t'.Good → Q (.ref r) H'
theorem d_two (F : At K mg "_law_two" s_l_two ["_law_pen_here"]) (B : Gb mg) (DT : Df P w K mg base 1 "_law_take" spTake) (DS : Df P w K mg base 1 "_law_signs" spSigns) (DO : Df P w K mg base 2 "_law_some" spSome) (DB : Df P w K mg base 2 "_law_table" spTable) (DD : Df P w K mg base 2 "_law_doubled" spDoubled) (DE : Df P w K mg base 2 "_law_bent" spBent) : Df P w K mg base 3 "_law_two" spTwo := by
  refine F.df sc_l_two (fun vs H Q E h => ?_) (fun f cdv A outer sh H vs Q E hr h => ?_)
  · obtain ⟨p, s, n, rfl, _⟩ := h
    rfl
  have nd := sc_l_two.nd
  obtain ⟨p, s, n, rfl, hP, hn, q⟩ := h
  refine ⟨_, pss_cons (ps_set (i := 1) nd rfl (.inl rfl) (pe_d DT hr (by decide) (by rfl) (pa_cons (pv 0) (pa_cons pe_int pa_nil))))
    (pss_cons (ps_set (i := 2) nd rfl (.inl rfl) (pe_d DO hr (by decide) (by rfl) (pa_cons (pv 0) (pa_cons (pe_d0 DS hr (by decide) (by rfl)) (pa_cons (pe_ix ix_list (pe_lst (pa_cons pe_int (pa_cons pe_int (pa_cons pe_int (pa_cons pe_int pa_nil))))) (pe_d DT hr (by decide) (by rfl) (pa_cons (pv 0) (pa_cons pe_int pa_nil))) (fun _ _ => rfl)) pa_nil)))))
    (pss_cons (ps_set (i := 3) nd rfl (.inl rfl) (pe_ix ix_list (pe_lst (pa_cons pe_int (pa_cons pe_int (pa_cons pe_int (pa_cons pe_int pa_nil))))) (pe_d DT hr (by decide) (by rfl) (pa_cons (pv 0) (pa_cons pe_int pa_nil))) (fun _ _ => rfl)))
    (pss_cons (ps_set (i := 4) nd rfl (.inl rfl) (pe_d DB hr (by decide) (by rfl) (pa_cons (pv 0) (pa_cons (pv 2) (pa_cons (pv 3) pa_nil)))))
    (pss_cons (ps_set (i := 5) nd rfl (.inl rfl) (pe_d DB hr (by decide) (by rfl) (pa_cons (pv 0) (pa_cons (pv 2) (pa_cons (pv 3) pa_nil)))))
    (pss_cons (ps_if (pt_cmpR op_lt (pv 1) pe_int (nomark _)) (pss_one (ps_set (i := 5) nd rfl (.inl rfl) (pe_d DD hr (by decide) (by rfl) (pa_cons (pv 0) (pa_cons (pv 4) pa_nil))))) pss_nil)
    (pss_cons (ps_if (pw_or (pt_cmpR op_eq (pv 1) pe_int (nomark _)) (pw_or1 (pt_cmpR op_eq (pv 1) pe_int (nomark _)))).pt (pss_one (ps_set (i := 5) nd rfl (.inl rfl) (pe_d DE hr (by decide) (by rfl) (pa_cons (pv 0) (pa_cons (pv 5) pa_nil))))) pss_nil)
    (pss_cons (ps_if (pt_cmpR op_eq (pv 1) pe_int (nomark _)) (pss_one (ps_set (i := 4) nd rfl (.inl rfl) (pe_d DE hr (by decide) (by rfl) (pa_cons (pv 0) (pa_cons (pv 5) pa_nil))))) pss_nil)
    (pss_one (ps_ret (pe_tup (pa_cons (pv 4) (pa_cons (pv 5) pa_nil)))))))))))), ?_⟩
  refine ⟨_, rfl, p, s, 6, n, rfl, hP, by omega, by decide, by decide, fun H1 rd B1 P1 r0 r6 => ?_⟩
  refine ⟨_, rfl, ?_⟩
  refine ⟨rfl, fun z zn za z6 z200 => ?_⟩
  refine ⟨by show 4 ≤ sizeLine; decide, fun l nl => ?_⟩
  have P2 : PenAt (upd H1 l (.lst [.int 2, .int 2, .int 3, .int 6])) p s (n + 1) := P1.keep (same_upd nl)
  have B2 : But p H (upd H1 l (.lst [.int 2, .int 2, .int 3, .int 6])) := B1.trans (But.of (same_upd nl))
  have hl2 : (upd H1 l (.lst [.int 2, .int 2, .int 3, .int 6])) l = some (.lst [.int 2, .int 2, .int 3, .int 6]) := upd_same
  have nlp := (P1.ne nl).1
  generalize upd H1 l (.lst [.int 2, .int 2, .int 3, .int 6]) = H2 at P2 B2 hl2 ⊢
  refine ⟨_, rfl, p, s, 4, n + 1, rfl, P2, by omega, by decide, by decide, fun H3 y B3 P3 y0 y4 => ?_⟩
  obtain ⟨x, hx, mx⟩ := atI_int (xs := ([.int 2, .int 2, .int 3, .int 6] : List V)) (i := y) y0 (by show y < ((4 : Nat) : Int); omega)
  obtain ⟨so, rfl, s1, s2⟩ : ∃ so : Int, x = V.int so ∧ 1 ≤ so ∧ so ≤ 6 := by
    simp at mx
    rcases mx with e | e | e
    · exact ⟨2, e, by decide, by decide⟩
    · exact ⟨3, e, by decide, by decide⟩
    · exact ⟨6, e, by decide, by decide⟩
  refine ⟨l, _, _, _, rfl, rfl, SqL.of (B3 _ _ nlp hl2), hx, ?_⟩
  refine ⟨p, s, z, so, n + 2, rfl, P3, by omega, zn, za, z6, z200, s1, s2, fun H4 T m B4 P4 G => ?_⟩
  have B04 : But p H H4 := (B2.trans B3).trans B4
  refine ⟨by show 4 ≤ sizeLine; decide, fun l2 nl2 => ?_⟩
  have P5 : PenAt (upd H4 l2 (.lst [.int 4, .int 8, .int 8, .int 16])) p s (n + 12) := P4.keep (same_upd nl2)
  have B5 : But p H (upd H4 l2 (.lst [.int 4, .int 8, .int 8, .int 16])) := B04.trans (But.of (same_upd nl2))
  have hl5 : (upd H4 l2 (.lst [.int 4, .int 8, .int 8, .int 16])) l2 = some (.lst [.int 4, .int 8, .int 8, .int 16]) := upd_same
  have nlp2 := (P4.ne nl2).1
  generalize upd H4 l2 (.lst [.int 4, .int 8, .int 8, .int 16]) = H5 at P5 B5 hl5 ⊢
  refine ⟨_, rfl, p, s, 4, n + 12, rfl, P5, by omega, by decide, by decide, fun H6 y2 B6 P6 y20 y24 => ?_⟩
  obtain ⟨x2, hx2, mx2⟩ := atI_int (xs := ([.int 4, .int 8, .int 8, .int 16] : List V)) (i := y2) y20 (by show y2 < ((4 : Nat) : Int); omega)
  obtain ⟨mo, rfl, o1, o2⟩ : ∃ mo : Int, x2 = V.int mo ∧ 1 ≤ mo ∧ mo ≤ 16 := by
    simp at mx2
    rcases mx2 with e | e | e
    · exact ⟨4, e, by decide, by decide⟩
    · exact ⟨8, e, by decide, by decide⟩
    · exact ⟨16, e, by decide, by decide⟩
  refine ⟨l2, _, _, _, rfl, rfl, SqL.of (B6 _ _ nlp2 hl5), hx2, ?_⟩
  have B06 : But p H H6 := B5.trans B6
  refine ⟨_, rfl, _, rfl, _, rfl, p, s, T, m, mo, n + 13, rfl, P6, by omega, G, o1, o2, fun H7 v t B7 P7 hv Gt mt t16 => ?_⟩
  subst mt
  refine ⟨_, rfl, _, rfl, _, rfl, p, s, T, t.m, mo, n + 1013, rfl, P7, by omega, G, o1, o2, fun H8 u t' B8 P8 hu Gt' mt' t16' => ?_⟩
  have hv8 := hv.mono (P7.tups B8)
  have B08 : But p H H8 := (B06.trans B7).trans B8
  have m6 := G.most
  have cases_ : rd = 0 ∨ rd = 1 ∨ rd = 2 ∨ rd = 3 ∨ rd = 4 ∨ rd = 5 := by omega
  rcases cases_ with e | e | e | e | e | e <;> subst e
  · refine ⟨_, rfl, _, _, rfl, rfl, _, rfl, ?_⟩
    rw [show decide ((0 : Int) < 5) = true from rfl]
    refine iteT ⟨_, rfl, _, rfl, p, s, v, T, t, n + 2013, rfl, P8, by omega, hv8, Gt, m6, t16, fun H9 u9 t9 B9 P9 hu9 Gt9 mt9 => ?_⟩
    have hv9 := hv8.mono (P8.tups B9)
    refine ⟨_, rfl, rfl, _, rfl, ?_⟩
    rw [show decide (V.int 0 = V.int 2) = false from rfl]
    refine iteF ⟨_, rfl, rfl, _, rfl, ?_⟩
    rw [show decide (V.int 0 = V.int 3) = false from rfl]
    refine iteF ?_
    refine ⟨_, rfl, rfl, _, rfl, ?_⟩
    rw [show decide (V.int 0 = V.int 4) = false from rfl]
    refine iteF ?_
    refine ⟨_, rfl, _, rfl, by show 2 ≤ sizeLine; decide, fun r nr => ?_⟩
    have Sx : Same H9 (upd H9 r (.tup [v, u9])) := same_upd nr
    exact q _ r v u9 T t t9 ((B08.trans B9).trans (But.of Sx)) ((P9.keep Sx).mono (by omega)) upd_same ⟨hv9.mono (same_tups Sx), hu9.mono (same_tups Sx), Gt.wf, Gt9.wf, mt9.symm, G⟩ Gt Gt9
  · refine ⟨_, rfl, _, _, rfl, rfl, _, rfl, ?_⟩
    rw [show decide ((1 : Int) < 5) = true from rfl]
    refine iteT ⟨_, rfl, _, rfl, p, s, v, T, t, n + 2013, rfl, P8, by omega, hv8, Gt, m6, t16, fun H9 u9 t9 B9 P9 hu9 Gt9 mt9 => ?_⟩
    have hv9 := hv8.mono (P8.tups B9)
    refine ⟨_, rfl, rfl, _, rfl, ?_⟩
    rw [show decide (V.int 1 = V.int 2) = false from rfl]
    refine iteF ⟨_, rfl, rfl, _, rfl, ?_⟩
    rw [show decide (V.int 1 = V.int 3) = false from rfl]
    refine iteF ?_
    refine ⟨_, rfl, rfl, _, rfl, ?_⟩
    rw [show decide (V.int 1 = V.int 4) = false from rfl]
    refine iteF ?_
    refine ⟨_, rfl, _, rfl, by show 2 ≤ sizeLine; decide, fun r nr => ?_⟩
    have Sx : Same H9 (upd H9 r (.tup [v, u9])) := same_upd nr
    exact q _ r v u9 T t t9 ((B08.trans B9).trans (But.of Sx)) ((P9.keep Sx).mono (by omega)) upd_same ⟨hv9.mono (same_tups Sx), hu9.mono (same_tups Sx), Gt.wf, Gt9.wf, mt9.symm, G⟩ Gt Gt9
  · refine ⟨_, rfl, _, _, rfl, rfl, _, rfl, ?_⟩
    rw [show decide ((2 : Int) < 5) = true from rfl]
    refine iteT ⟨_, rfl, _, rfl, p, s, v, T, t, n + 2013, rfl, P8, by omega, hv8, Gt, m6, t16, fun H9 u9 t9 B9 P9 hu9 Gt9 mt9 => ?_⟩
    have hv9 := hv8.mono (P8.tups B9)
    refine ⟨_, rfl, rfl, _, rfl, ?_⟩
    rw [show decide (V.int 2 = V.int 2) = true from rfl]
    refine iteT (iteT ?_)
    refine ⟨_, rfl, _, rfl, p, s, u9, T, t9, n + 3013, rfl, P9, by omega, hu9, Gt9, by rw [mt9]; exact G, fun H10 u10 t10 B10 P10 hu10 Gt10 mt10 => ?_⟩
    have hv10 := hv9.mono (P9.tups B10)
    have mt11 : t10.m = t.m := by rw [mt10, mt9]
    refine ⟨_, rfl, rfl, _, rfl, ?_⟩
    rw [show decide (V.int 2 = V.int 4) = false from rfl]
    refine iteF ?_
    refine ⟨_, rfl, _, rfl, by show 2 ≤ sizeLine; decide, fun r nr => ?_⟩
    have Sx : Same H10 (upd H10 r (.tup [v, u10])) := same_upd nr
    exact q _ r v u10 T t t10 (((B08.trans B9).trans B10).trans (But.of Sx)) ((P10.keep Sx).mono (by omega)) upd_same ⟨hv10.mono (same_tups Sx), hu10.mono (same_tups Sx), Gt.wf, Gt10.wf, mt11.symm, G⟩ Gt Gt10
  · refine ⟨_, rfl, _, _, rfl, rfl, _, rfl, ?_⟩
    rw [show decide ((3 : Int) < 5) = true from rfl]
    refine iteT ⟨_, rfl, _, rfl, p, s, v, T, t, n + 2013, rfl, P8, by omega, hv8, Gt, m6, t16, fun H9 u9 t9 B9 P9 hu9 Gt9 mt9 => ?_⟩
    have hv9 := hv8.mono (P8.tups B9)
    refine ⟨_, rfl, rfl, _, rfl, ?_⟩
    rw [show decide (V.int 3 = V.int 2) = false from rfl]
    refine iteF ⟨_, rfl, rfl, _, rfl, ?_⟩
    rw [show decide (V.int 3 = V.int 3) = true from rfl]
    refine iteT ?_
    refine ⟨_, rfl, _, rfl, p, s, u9, T, t9, n + 3013, rfl, P9, by omega, hu9, Gt9, by rw [mt9]; exact G, fun H10 u10 t10 B10 P10 hu10 Gt10 mt10 => ?_⟩
    have hv10 := hv9.mono (P9.tups B10)
    have mt11 : t10.m = t.m := by rw [mt10, mt9]
    refine ⟨_, rfl, rfl, _, rfl, ?_⟩
    rw [show decide (V.int 3 = V.int 4) = false from rfl]
    refine iteF ?_
    refine ⟨_, rfl, _, rfl, by show 2 ≤ sizeLine; decide, fun r nr => ?_⟩
    have Sx : Same H10 (upd H10 r (.tup [v, u10])) := same_upd nr
    exact q _ r v u10 T t t10 (((B08.trans B9).trans B10).trans (But.of Sx)) ((P10.keep Sx).mono (by omega)) upd_same ⟨hv10.mono (same_tups Sx), hu10.mono (same_tups Sx), Gt.wf, Gt10.wf, mt11.symm, G⟩ Gt Gt10
  · refine ⟨_, rfl, _, _, rfl, rfl, _, rfl, ?_⟩
    rw [show decide ((4 : Int) < 5) = true from rfl]
    refine iteT ⟨_, rfl, _, rfl, p, s, v, T, t, n + 2013, rfl, P8, by omega, hv8, Gt, m6, t16, fun H9 u9 t9 B9 P9 hu9 Gt9 mt9 => ?_⟩
    have hv9 := hv8.mono (P8.tups B9)
    refine ⟨_, rfl, rfl, _, rfl, ?_⟩
    rw [show decide (V.int 4 = V.int 2) = false from rfl]
    refine iteF ⟨_, rfl, rfl, _, rfl, ?_⟩
    rw [show decide (V.int 4 = V.int 3) = false from rfl]
    refine iteF ?_
    refine ⟨_, rfl, rfl, _, rfl, ?_⟩
    rw [show decide (V.int 4 = V.int 4) = true from rfl]
    refine iteT ?_
    refine ⟨_, rfl, _, rfl, p, s, u9, T, t9, n + 3013, rfl, P9, by omega, hu9, Gt9, by rw [mt9]; exact G, fun H10 v10 t10 B10 P10 hv10 Gt10 mt10 => ?_⟩
    have hu10 := hu9.mono (P9.tups B10)
    have mt3 : t10.m = t.m := by rw [mt10, mt9]
    refine ⟨_, rfl, _, rfl, by show 2 ≤ sizeLine; decide, fun r nr => ?_⟩
    have Sx : Same H10 (upd H10 r (.tup [v10, u9])) := same_upd nr
    exact q _ r v10 u9 T t10 t9 (((B08.trans B9).trans B10).trans (But.of Sx)) ((P10.keep Sx).mono (by omega)) upd_same ⟨hv10.mono (same_tups Sx), hu10.mono (same_tups Sx), Gt10.wf, Gt9.wf, mt10, (by rw [mt3]; exact G)⟩ Gt10 Gt9
  · refine ⟨_, rfl, _, _, rfl, rfl, _, rfl, ?_⟩
    rw [show decide ((5 : Int) < 5) = false from rfl]
    refine iteF ?_
    refine ⟨_, rfl, rfl, _, rfl, ?_⟩
    rw [show decide (V.int 5 = V.int 2) = false from rfl]
    refine iteF ⟨_, rfl, rfl, _, rfl, ?_⟩
    rw [show decide (V.int 5 = V.int 3) = false from rfl]
    refine iteF ?_
    refine ⟨_, rfl, rfl, _, rfl, ?_⟩
    rw [show decide (V.int 5 = V.int 4) = false from rfl]
    refine iteF ?_
    refine ⟨_, rfl, _, rfl, by show 2 ≤ sizeLine; decide, fun r nr => ?_⟩
    have Sx : Same H8 (upd H8 r (.tup [v, u])) := same_upd nr
    exact q _ r v u T t t' ((B08).trans (But.of Sx)) ((P8.keep Sx).mono (by omega)) upd_same ⟨hv8.mono (same_tups Sx), hu.mono (same_tups Sx), Gt.wf, Gt'.wf, mt'.symm, G⟩ Gt Gt'
end
end K64
set_option autoImplicit true
set_option Elab.async false
set_option linter.all false
set_option maxRecDepth 100000
set_option maxHeartbeats 4000000
namespace K64
open PySem PySem.Spec PyProof.Rows L2
/-! ### tables as data -/
def rowD (row : List Nat) : PyData := .tuple (row.map fun (n : Nat) => PyData.int (n : Int))
def tabD (T : Str) (t : Tab) : PyData := .tuple [.str T, .tuple (t.goes.map rowD), .tuple (t.kinds.map PyData.int)]
theorem int_eq (a b : Int) : PyData.eqv (.int a) (.int b) = true ↔ a = b := by
  simp only [PyData.eqv, beq_iff_eq]
theorem nat_eq (a b : Nat) : PyData.eqv (.int (a : Int)) (.int (b : Int)) = true ↔ a = b := by
  rw [int_eq]
  omega
theorem row_eq (a b : List Nat) : PyData.eqv (rowD a) (rowD b) = true ↔ a = b := by
  unfold rowD
  rw [PyData.eqv]
  exact eqvAll_map (fun (n : Nat) => PyData.int (n : Int)) nat_eq a b
theorem tab_eq {T : Str} {t t' : Tab} (hm : t.m = t'.m) : PyData.eqv (tabD T t) (tabD T t') = true ↔ t = t' := by
  unfold tabD
  simp only [PyData.eqv, PyData.eqvAll, Bool.and_true, Bool.and_eq_true, beq_self_eq_true, true_and, eqvAll_map rowD row_eq, eqvAll_map PyData.int int_eq]
  constructor
  · rintro ⟨h1, h2⟩
    exact Tab.ext_ hm h1 h2
  · intro e
    rw [e]
    exact ⟨rfl, rfl⟩
theorem row_shaped (a : List Nat) : (rowD a).canLay0 = true ∧ (rowD a).depth ≤ 1 := by
  unfold rowD
  have h1 := canLay_map (fun (n : Nat) => PyData.int (n : Int)) (fun n => by simp only [PyData.canLay0]) a
  have h2 := depth_map (fun (n : Nat) => PyData.int (n : Int)) (k := 0) (fun n => by simp only [PyData.depth]; exact Nat.le_refl _) a
  constructor
  · simp only [PyData.canLay0, h1]
  · simp only [PyData.depth]
    omega
theorem tab_shaped {T : Str} {m : Nat} (G : Tg T m) (t : Tab) : SeqAt.shaped (tabD T t) = true := by
  have h0 : PyData.strOk T = true := by
    unfold PyData.strOk
    rw [← Array.all_toList, List.all_eq_true]
    intro c hc
    have := G.ascii c hc
    exact decide_eq_true (by omega)
  have h1 := canLay_map rowD (fun x => (row_shaped x).1) t.goes
  have h2 := depth_map rowD (fun x => (row_shaped x).2) t.goes
  have h3 := canLay_map PyData.int (fun n => by simp only [PyData.canLay0]) t.kinds
  have h4 := depth_map PyData.int (k := 0) (fun n => by simp only [PyData.depth]; exact Nat.le_refl _) t.kinds
  unfold SeqAt.shaped
  rw [Bool.and_eq_true, decide_eq_true_iff]
  constructor
  · simp only [tabD, PyData.canLay0, PyData.canLayAll0, h0, h1, h3, Bool.and_self]
  · simp only [tabD, PyData.depth, PyData.depthAll]
    omega
theorem ints_dp {K : PySem.W.Frag} {H : Hp} : ∀ l : List Int, DpAll K H (l.map V.int) (l.map PyData.int)
  | [] => .nil
  | a :: l => .cons (.int a) (ints_dp l)
theorem nats_dp {K : PySem.W.Frag} {H : Hp} : ∀ l : List Nat, DpAll K H (l.map nV) (l.map fun (n : Nat) => PyData.int (n : Int))
  | [] => .nil
  | a :: l => .cons (.int _) (nats_dp l)
theorem rows_dp {K : PySem.W.Frag} {H : Hp} : ∀ {rs : List Addr} {rows : List (List Nat)}, Paired (fun r row => H r = some (.tup (row.map nV))) rs rows → DpAll K H (rs.map V.ref) (rows.map rowD)
  | _, _, .nil => .nil
  | _, _, .cons h1 h2 => .cons (.tup (SqT.of h1) (nats_dp _)) (rows_dp h2)
theorem TabV.dp {K : PySem.W.Frag} {H : Hp} {v : V} {T : Str} {t : Tab} (h : TabV H v T t) : Dp K H v (tabD T t) := by
  obtain ⟨a, g, k, rs, rfl, ha⟩ := h
  exact .tup (SqT.of ha.top) (.cons (.str T) (.cons (.tup (SqT.of ha.goes) (rows_dp ha.rows)) (.cons (.tup (SqT.of ha.kinds) (ints_dp _)) .nil)))
/-! ### the text lists -/
def TextsAt (H : Hp) (l : Addr) (T : Str) (m : Nat) (ws : List (List Nat)) : Prop := H l = some (.lst (ws.map fun u => V.str (tx T u))) ∧ ∀ u ∈ ws, Ok m u ∧ u.length ≤ 1024
theorem TextsAt.mono {H H' : Hp} {l : Addr} {T : Str} {m : Nat} {ws : List (List Nat)} (h : TextsAt H l T m ws) (s : Same H H') : TextsAt H' l T m ws := ⟨s _ _ h.1, h.2⟩
section
variable {P : Program} {w : World} {K : PySem.W.Frag} {mg : Str → Option Value} {base : Heap}
theorem Two.swap {H : Hp} {v u : V} {T : Str} {t t' : Tab} (h : Two H v u T t t') : Two H u v T t' t := ⟨h.other, h.one, h.wf', h.wf, h.m.symm, by rw [← h.m]; exact h.tg⟩
def spAlike : Sp := fun vs H Q _ => ∃ (v u : V) (l : Addr) (T : Str) (t t' : Tab) (ws : List (List Nat)), vs = [v, u, .ref l] ∧ Two H v u T t t' ∧ t.Good ∧ t'.Good ∧ (∀ x, Ok t.m x → t.kap x = t'.kap x) ∧ TextsAt H l T t.m ws ∧ ∀ H', Same H H' → Q (.bl true) H'
theorem d_alike (F : At K mg "_law_alike" s_l_alike ["_law_one", "_law_other", "_law_texts"]) (B : Gb mg) (DP : Df P w K mg base 4 "pairs" spPairs) (DH : Df P w K mg base 4 "pairs_hold" spHold) (DL : Df P w K mg base 4 "least_of" spLeast) (DF : Df P w K mg base 4 "folding" spFolding) (DC : Df P w K mg base 2 "cut" spCut) : Df P w K mg base 5 "_law_alike" spAlike := by
  refine F.df sc_l_alike (fun vs H Q E h => ?_) (fun f cdv A outer sh H vs Q E hr h => ?_)
  · obtain ⟨v, u, l, T, t, t', ws, rfl, _⟩ := h
    rfl
  have nd := sc_l_alike.nd
  obtain ⟨v, u, l, T, t, t', ws, rfl, h2, Gt, Gt', hk, hT, q⟩ := h
  have m6 : t.m ≤ 6 := h2.tg.most
  have m6' : t'.m ≤ 6 := by rw [← h2.m]; exact m6
  have n32 := Gt.wf.small
  refine ⟨_, pss_cons (ps_set (i := 3) nd rfl (.inl rfl) (pe_d DP hr (by decide) (by rfl) (pa_cons (pv 0) (pa_cons (pv 1) pa_nil))))
    (pss_cons (ps_if (pw_or (pt_cmp (pc_isN (pv 3)) rfl) (pw_or (pt_cmpR op_isnot_bl (pe_d DH hr (by decide) (by rfl) (pa_cons (pv 0) (pa_cons (pv 1) (pa_cons (pv 3) pa_nil)))) pe_bl (nomark _))
        (pw_or1 (pt_cmpR (op_neD hr.units) (pe_d DL hr (by decide) (by rfl) (pa_cons (pv 0) pa_nil)) (pe_d DL hr (by decide) (by rfl) (pa_cons (pv 1) pa_nil)) (nomark _))))).pt pss_never pss_nil)
    (pss_cons (ps_set (i := 4) nd rfl (.inr rfl) (pe_d DF hr (by decide) (by rfl) (pa_cons (pv 0) pa_nil)))
    (pss_cons (ps_if (pt_cmpR op_isnot_bl (pe_d DH hr (by decide) (by rfl) (pa_cons (pv 0) (pa_cons (pe_d DL hr (by decide) (by rfl) (pa_cons (pv 1) pa_nil)) (pa_cons (pe_callTy call_tuple_of (by rfl) B.tuple b_tuple (pa_cons
        (pe_lc (own := [("_law_room", 6)]) (g := gName 6) (tt := tYes) (te := tTup (tCons (tVar 6) (tCons (tOp (rIxT K) (tVar 4) (tVar 6)) tNil))) rfl nd (pi_range1 (by rfl) B.range (pa_cons (pe_callB call_len_seq (by rfl) B.len b_len (pa_cons (pv 4) pa_nil)) pa_nil)) (blkOk_by (N := ["_law_one", "_law_other", "_law_texts", "_law_rows", "_law_folded", "_law_text_here", "_law_room", "_law_first", "_law_second"]) (sc := defScope s_l_alike) (by decide +kernel)) (fun _ _ _ _ _ => pg_name (i := 6) nd rfl (Or.inl rfl)) (fun _ _ _ _ _ => pts_nil)
          (fun _ _ _ _ _ => pe_tup (pa_cons (pv 6) (pa_cons (pe_ix ix_tup (pv 4) (pv 6) (fun _ _ => rfl)) pa_nil)))) pa_nil)) pa_nil)))) pe_bl (nomark _)) pss_never pss_nil)
    (pss_cons (ps_if (pt_cmpR op_isnot_bl (pe_d DH hr (by decide) (by rfl) (pa_cons (pv 1) (pa_cons (pv 0) (pa_cons (pe_callTy call_tuple_of (by rfl) B.tuple b_tuple (pa_cons
        (pe_lc (own := [("_law_first", 7), ("_law_second", 8)]) (g := gTup K 2 (gCons (gName 7) (gCons (gName 8) gNil))) (tt := tYes) (te := tTup (tCons (tVar 8) (tCons (tVar 7) tNil))) rfl nd (pi_tup (pv 3)) (blkOk_by (N := ["_law_one", "_law_other", "_law_texts", "_law_rows", "_law_folded", "_law_text_here", "_law_room", "_law_first", "_law_second"]) (sc := defScope s_l_alike) (by decide +kernel)) (fun _ _ _ _ _ => pg_tup rfl (pgs_cons (pg_name (i := 7) nd rfl (Or.inl rfl)) (pgs_cons (pg_name (i := 8) nd rfl (Or.inl rfl)) pgs_nil))) (fun _ _ _ _ _ => pts_nil)
          (fun _ _ _ _ _ => pe_tup (pa_cons (pv 8) (pa_cons (pv 7) pa_nil)))) pa_nil)) pa_nil)))) pe_bl (nomark _)) pss_never pss_nil)
    (pss_cons (ps_for PassesOwn.never rfl (pi_list (pv 2)) (pg_name (i := 5) nd rfl (.inl rfl))
      (pss_one (ps_if (pt_cmpR (op_neD hr.units) (pe_d DC hr (by decide) (by rfl) (pa_cons (pv 0) (pa_cons (pv 5) pa_nil))) (pe_d DC hr (by decide) (by rfl) (pa_cons (pv 1) (pa_cons (pv 5) pa_nil))) (nomark _)) pss_never pss_nil)))
    (pss_one (ps_ret (pe_cmp (pc_notN (pe_d DP hr (by decide) (by rfl) (pa_cons (pv 1) (pa_cons (pv 0) pa_nil)))) rfl)))))))), ?_⟩
  refine ⟨_, rfl, _, rfl, v, u, T, t, t', rfl, h2, fun H1 S1 hn => absurd hk hn, fun H1 p bs rows S1 _ hp hP lr hH => ?_⟩
  have a2 := h2.mono (same_tups S1)
  refine ⟨_, rfl, false, rfl, iteF ?_⟩
  refine ⟨_, rfl, _, rfl, _, rfl, v, u, p, T, t, t', bs, rows, rfl, a2, hp, hP, lr, fun H2 c S2 hc => ?_⟩
  have ec : c = true := hc.mpr hH
  subst ec
  refine ⟨true, true, rfl, rfl, _, rfl, iteF ?_⟩
  have b2 := a2.mono (same_tups S2)
  refine ⟨_, rfl, v, T, t, rfl, b2.one, Gt, m6, fun H3 x1 L1 S3 hx1 hL1 => ?_⟩
  have c2 := b2.mono (same_tups S3)
  refine ⟨_, rfl, u, T, t', rfl, c2.other, Gt', m6', fun H4 x2 L2 S4 hx2 hL2 => ?_⟩
  have eL : L1 = L2 := LeastIs.uniq Gt Gt' h2.m hk hL1 hL2
  refine ⟨tabD T L1, tabD T L2, (hx1.mono (same_tups S4)).dp, hx2.dp, tab_shaped h2.tg _, tab_shaped h2.tg _, ?_⟩
  rw [(tab_eq (T := T) (t := L1) (t' := L2) (by rw [eL])).mpr eL]
  refine ⟨_, rfl, iteF ?_⟩
  have S04 : Same H H4 := ((S1.trans S2).trans S3).trans S4
  have d2 := h2.mono (same_tups S04)
  -- the foldings
  refine ⟨_, rfl, v, T, t, rfl, d2.one, Gt, m6, fun H5 fp folded S5 hf lf hC => ?_⟩
  have e2 := d2.mono (same_tups S5)
  refine ⟨_, rfl, _, rfl, u, T, t', rfl, e2.other, Gt', m6', fun H6 x3 L3 S6 hx3 hL3 => ?_⟩
  have hf6 := S6 _ _ hf
  refine ⟨_, rfl, fp, _, rfl, .inr (SqT.of hf6), _, rfl, by omega, ?_, fun D nD => ?_⟩
  · rw [List.length_map, lf]
    omega
  rw [Int.toNat_natCast]
  refine lc_range (n := (folded.map nV).length) (te := tTup (tCons (tVar 6) (tCons (tOp (rIxT K) (tVar 4) (tVar 6)) tNil))) (fun i H' => Same H6 H' ∧ ∃ cs : List Addr, H' D = some (.lst (cs.map V.ref)) ∧ (∀ b ∈ cs, b ≠ D) ∧ PairsAt H' cs ((List.range i).map fun r => (r, fOf folded r)))
    ⟨same_upd nD, [], upd_same, fun b h => by simp at h, .nil⟩ (fun i H7 hi h => ?_) (fun H7 h => ?_)
  · obtain ⟨S7, cs, hD, hne, hcs⟩ := h
    rw [List.length_map] at hi
    refine ⟨rfl, ?_⟩
    refine tYes_if ?_
    have e0 : V.int ((0 : Int) + (i : Nat)) = nV i := by rw [Int.zero_add]
    rw [e0]
    refine ⟨_, rfl, _, rfl, _, rfl, fp, _, _, _, rfl, rfl, SqT.of (S7 _ _ hf6), atI_nat (nv_at hi), by show 2 ≤ sizeLine; decide, fun tp ntp => ?_⟩
    have hD7 := keep_new (o := .tup [nV i, nV (folded.getD i 0)]) hD ntp
    have ntD : tp ≠ D := fun e => by rw [e, hD] at ntp; cases ntp
    refine ⟨_, hD7, ?_, same_put (S7.trans (same_upd ntp)) nD, cs ++ [tp], ?_, ?_, ?_⟩
    · rw [List.length_map, hcs.length, List.length_map, List.length_range]
      exact sizeLine_big (by omega)
    · rw [upd_same, List.map_append]
      rfl
    · intro b hb
      rcases List.mem_append.mp hb with z | z
      · exact hne b z
      · rw [List.mem_singleton.mp z]
        exact ntD
    · rw [List.range_succ, List.map_append]
      refine Paired.snoc (paired_keep (F := fun (q : Nat × Nat) => HO.tup [nV q.1, nV q.2]) (same_upd ntp) hne hcs) ?_
      rw [upd_ne ntD, upd_same]
      rfl
  obtain ⟨S7, cs, hD, hne, hcs⟩ := h
  rw [List.length_map, lf] at hcs
  refine ⟨D, _, rfl, .inl ⟨SqL.of hD, fun tp ntp => ?_⟩⟩
  have Fd := fold_other Gt Gt'.wf h2.m hk hC hL3
  have S57 : Same H5 (upd H7 tp (.tup (cs.map V.ref))) := (S6.trans S7).trans (same_upd ntp)
  have f2 := e2.mono (same_tups S57)
  refine ⟨v, x3, tp, T, t, L3, cs, (List.range t.goes.length).map fun r => (r, fOf folded r), rfl, ⟨f2.one, (hx3.mono (same_tups S7)).mono (tups_upd ntp), Gt.wf, hL3.wf, by rw [Fd.m], h2.tg⟩, upd_same, PairsAt.mono hcs (tups_upd ntp), ?_, fun H8 c S8 hc => ?_⟩
  · rw [List.length_map, List.length_range]
    omega
  have ec : c = true := hc.mpr (Fd.holds Gt.wf)
  subst ec
  refine ⟨true, true, rfl, rfl, _, rfl, iteF ?_⟩
  have S08 : Same H H8 := (S04.trans S5).trans (S57.trans S8)
  have S18 : Same H1 H8 := ((S2.trans S3).trans S4).trans (S5.trans (S57.trans S8))
  have g2 := h2.mono (same_tups S08)
  have hp8 := S18 _ _ hp
  have hP8 : PairsAt H8 bs rows := PairsAt.mono hP (same_tups S18)
  have lbs : bs.length = rows.length := hP.length
  -- the pairs the other way about
  refine ⟨_, rfl, _, rfl, _, rfl, p, rfl, ⟨_, SqT.of hp8⟩, fun D2 nD2 => ?_⟩
  refine lc_tup (K := K) (xs := bs.map V.ref) (te := tTup (tCons (tVar 8) (tCons (tVar 7) tNil))) (fun i H' => Same H8 H' ∧ ∃ cs : List Addr, H' D2 = some (.lst (cs.map V.ref)) ∧ (∀ b ∈ cs, b ≠ D2) ∧ PairsAt H' cs ((rows.take i).map fun q => (q.2, q.1)))
    ⟨same_upd nD2, [], upd_same, fun b h => by simp at h, .nil⟩ (fun i H' _ h => SqT.of (h.1 _ _ hp8)) (fun i x H9 hx h => ?_) (fun H9 h => ?_)
  · obtain ⟨S9, cs2, hD2, hne2, hcs2⟩ := h
    have hi := lt_of_get hx
    rw [List.length_map, lbs] at hi
    obtain ⟨pr, hpr⟩ := get_of_lt hi
    obtain ⟨b, hb1, hb2⟩ := hP8.get hpr
    rw [List.getElem?_map, hb1] at hx
    cases hx
    refine ⟨b, _, rfl, SqT.of (S9 _ _ hb2), rfl, _, _, rfl, _, _, rfl, rfl, rfl, ?_⟩
    refine tYes_if ?_
    refine ⟨_, rfl, _, rfl, by show 2 ≤ sizeLine; decide, fun tp2 ntp2 => ?_⟩
    have hD9 := keep_new (o := .tup [nV pr.2, nV pr.1]) hD2 ntp2
    have ntD : tp2 ≠ D2 := fun e => by rw [e, hD2] at ntp2; cases ntp2
    refine ⟨_, hD9, ?_, same_put (S9.trans (same_upd ntp2)) nD2, cs2 ++ [tp2], ?_, ?_, ?_⟩
    · rw [List.length_map, hcs2.length, List.length_map, List.length_take]
      exact sizeLine_big (by omega)
    · rw [upd_same, List.map_append]
      rfl
    · intro b hb
      rcases List.mem_append.mp hb with z | z
      · exact hne2 b z
      · rw [List.mem_singleton.mp z]
        exact ntD
    · rw [take_next hpr, List.map_append]
      refine Paired.snoc (paired_keep (F := fun (q : Nat × Nat) => HO.tup [nV q.1, nV q.2]) (same_upd ntp2) hne2 hcs2) ?_
      rw [upd_ne ntD, upd_same]
  obtain ⟨S9, cs2, hD2, hne2, hcs2⟩ := h
  rw [List.length_map, lbs, List.take_length] at hcs2
  refine ⟨D2, _, rfl, .inl ⟨SqL.of hD2, fun tp2 ntp2 => ?_⟩⟩
  have S8t : Same H8 (upd H9 tp2 (.tup (cs2.map V.ref))) := S9.trans (same_upd ntp2)
  have i2 := (g2.mono (same_tups S8t)).swap
  refine ⟨u, v, tp2, T, t', t, cs2, rows.map fun q => (q.2, q.1), rfl, i2, upd_same, PairsAt.mono hcs2 (tups_upd ntp2), by rw [List.length_map]; exact lr, fun H10 c S10 hc => ?_⟩
  have ec : c = true := hc.mpr (hH.swap h2.m)
  subst ec
  refine ⟨true, true, rfl, rfl, _, rfl, iteF ?_⟩
  have S010 : Same H H10 := (S08.trans S8t).trans S10
  -- the texts
  refine ⟨_, rfl, l, rfl, ⟨_, SqL.of (S010 _ _ hT.1)⟩, for_list (xs := ws.map fun u => V.str (tx T u)) (fun i σ H' => ∃ (y3 y4 y5 y6 y7 y8 : Option V), σ = [some v, some u, some (.ref l), y3, y4, y5, y6, y7, y8] ∧ Same H H')
    ⟨_, _, _, _, _, _, rfl, S010⟩ (fun i σ H' _ h => by obtain ⟨_, _, _, _, _, _, _, S⟩ := h; exact SqL.of (S _ _ hT.1)) (fun i x σ H11 hx h => ?_) (fun σ H11 h => ?_)⟩
  · obtain ⟨y3, y4, y5, y6, y7, y8, rfl, S11⟩ := h
    rw [List.getElem?_map] at hx
    obtain ⟨z, hz, rfl⟩ := Option.map_eq_some_iff.mp hx
    obtain ⟨oz, lz⟩ := hT.2 z (List.mem_of_getElem? hz)
    have j2 := h2.mono (same_tups S11)
    refine ⟨_, rfl, _, rfl, v, T, t, z, rfl, j2.one, Gt.wf, h2.tg, oz, by omega, fun H12 r1 S12 hr1 => ?_⟩
    have k2 := j2.mono (same_tups S12)
    refine ⟨_, rfl, _, rfl, u, T, t', z, rfl, k2.other, Gt'.wf, h2.swap.tg, by rw [← h2.m]; exact oz, by omega, fun H13 r2 S13 hr2 => ?_⟩
    have ecut : cutM t.kap z z.length 0 = cutM t'.kap z z.length 0 := cutM_congr (fun a k => hk _ ((oz.drop a).take k)) _ _
    refine ⟨cutD _, cutD _, (hr1.mono S13).dp, hr2.dp, cut_shaped _, cut_shaped _, ?_⟩
    rw [(cut_eq _ _).mpr ecut]
    exact ⟨_, rfl, iteF ⟨_, _, _, _, _, _, rfl, (S11.trans S12).trans S13⟩⟩
  · obtain ⟨y3, y4, y5, y6, y7, y8, rfl, S11⟩ := h
    have j2 := (h2.mono (same_tups S11)).swap
    have hk' : ∀ x, Ok t'.m x → t'.kap x = t.kap x := fun x hx => (hk x (by rw [h2.m]; exact hx)).symm
    exact ⟨_, rfl, _, rfl, u, v, T, t', t, rfl, j2, fun H12 S12 hn => absurd hk' hn, fun H12 p bs rows S12 _ _ _ _ _ => q H12 (S11.trans S12)⟩
end
end K64
set_option autoImplicit true
set_option Elab.async false
set_option linter.all false
set_option maxRecDepth 100000
set_option maxHeartbeats 4000000
namespace K64
open PySem PySem.Spec PyProof.Rows L2
theorem str_ext_list {a b : Str} (h : a.cps.toList = b.cps.toList) : a = b := TL.ext_tl h
theorem cut_take (T : Str) (u : List Nat) (k : Nat) : cutS (tx T u) none (some (k : Int)) = tx T (u.take k) := by
  refine str_ext_list ?_
  rw [cutS_left, tx_list, tx_list, List.map_take]
theorem cut_drop (T : Str) (u : List Nat) (k : Nat) : cutS (tx T u) (some (k : Int)) none = tx T (u.drop k) := by
  refine str_ext_list ?_
  rw [cutS_right, tx_list, tx_list, List.map_drop]
section
variable {P : Program} {w : World} {K : PySem.W.Frag} {mg : Str → Option Value} {base : Heap}
def spApart : Sp := fun vs H Q _ => ∃ (v u : V) (l : Addr) (T : Str) (t t' : Tab) (ws : List (List Nat)) (x : List Nat), vs = [v, u, .str (tx T x), .ref l] ∧ Two H v u T t t' ∧ t.Good ∧ t'.Good ∧ PartedIs t t' (some x) ∧ TextsAt H l T t.m ws ∧ ws.length ≤ 100 ∧ ∀ H', Same H H' → Q (.bl true) H'
theorem d_apart (F : At K mg "_law_apart" s_l_apart ["_law_one", "_law_other", "_law_word", "_law_texts"]) (B : Gb mg) (DP : Df P w K mg base 4 "pairs" spPairs) (DH : Df P w K mg base 4 "pairs_hold" spHold) (DL : Df P w K mg base 4 "least_of" spLeast) (DC : Df P w K mg base 2 "cut" spCut) (DK : Df P w K mg base 1 "_law_kind" spKind) (DR : Df P w K mg base 3 "parted" spParted) (DA : Df P w K mg base 1 "ahead" spAhead) : Df P w K mg base 5 "_law_apart" spApart := by
  refine F.df sc_l_apart (fun vs H Q E h => ?_) (fun f cdv A outer sh H vs Q E hr h => ?_)
  · obtain ⟨v, u, l, T, t, t', ws, x, rfl, _⟩ := h
    rfl
  have nd := sc_l_apart.nd
  obtain ⟨v, u, l, T, t, t', ws, x, rfl, h2, Gt, Gt', hx, hT, lws, q⟩ := h
  have m6 : t.m ≤ 6 := h2.tg.most
  have m6' : t'.m ≤ 6 := by rw [← h2.m]; exact m6
  have n32 := Gt.wf.small
  obtain ⟨ox, lx, kx, bx⟩ := id hx
  have ox' : Ok t'.m x := by rw [← h2.m]; exact ox
  have G' : Tg T t'.m := h2.swap.tg
  have x0 : x ≠ [] := fun e => kx (by
    rw [e]
    show t.kind 0 = t'.kind 0
    rw [Gt.zero, Gt'.zero])
  have xz : (tx T x).length ≤ sizeLine := by rw [tx_length]; exact Nat.le_of_lt (sizeLine_big (by omega))
  have nk : ¬ ∀ y, Ok t.m y → t.kap y = t'.kap y := fun h => kx (h x ox)
  refine ⟨_, pss_cons (ps_if (pw_or (pt_not (pt_val (pe_callB call_isi (by rfl) B.isinstance b_isinstance (pa_cons (pv 2) (pa_cons (pe_bltn (v := .ty "str") (by rfl) B.str b_str rfl) pa_nil)))))
        (pw_or1 (pt_cmpR op_eq (pe_d DK hr (by decide) (by rfl) (pa_cons (pv 0) (pa_cons (pv 2) pa_nil))) (pe_d DK hr (by decide) (by rfl) (pa_cons (pv 1) (pa_cons (pv 2) pa_nil))) (nomark _)))).pt pss_never pss_nil)
    (pss_cons (ps_if (pw_or (pt_cmpR (op_eqD hr.units) (pe_d DC hr (by decide) (by rfl) (pa_cons (pv 0) (pa_cons (pv 2) pa_nil))) (pe_d DC hr (by decide) (by rfl) (pa_cons (pv 1) (pa_cons (pv 2) pa_nil))) (nomark _))
        (pw_or (pt_cmp (pc_notN (pe_d DP hr (by decide) (by rfl) (pa_cons (pv 0) (pa_cons (pv 1) pa_nil)))) rfl)
        (pw_or1 (pt_cmpR (op_eqD hr.units) (pe_d DL hr (by decide) (by rfl) (pa_cons (pv 0) pa_nil)) (pe_d DL hr (by decide) (by rfl) (pa_cons (pv 1) pa_nil)) (nomark _))))).pt pss_never pss_nil)
    (pss_cons (ps_if (pt_cmpR op_ne (pe_d DR hr (by decide) (by rfl) (pa_cons (pe_d DL hr (by decide) (by rfl) (pa_cons (pv 0) pa_nil)) (pa_cons (pe_d DL hr (by decide) (by rfl) (pa_cons (pv 1) pa_nil)) pa_nil))) (pv 2) (nomark _)) pss_never pss_nil)
    (pss_cons (ps_set (i := 4) nd rfl (.inl rfl) (pe_callTy call_tuple_of (by rfl) B.tuple b_tuple (pa_cons
        (pe_lc (own := [("_law_room", 6)]) (g := gName 6) (tt := tYes) (te := tTup (tCons (tVar 6) (tCons (tVar 6) tNil))) rfl nd (pi_range1 (by rfl) B.range (pa_cons (pe_callB (call_min2 rfl) (by rfl) B.min b_min (pa_cons (pe_callB call_len_seq (by rfl) B.len b_len (pa_cons (pe_ix ix_tup (pv 0) pe_int (fun _ _ => rfl)) pa_nil)) (pa_cons (pe_callB call_len_seq (by rfl) B.len b_len (pa_cons (pe_ix ix_tup (pv 1) pe_int (fun _ _ => rfl)) pa_nil)) pa_nil))) pa_nil)) (blkOk_by (N := ["_law_one", "_law_other", "_law_word", "_law_texts", "_law_rows", "_law_text_here", "_law_room", "_law_k"]) (sc := defScope s_l_apart) (by decide +kernel)) (fun _ _ _ _ _ => pg_name (i := 6) nd rfl (Or.inl rfl)) (fun _ _ _ _ _ => pts_nil)
          (fun _ _ _ _ _ => pe_tup (pa_cons (pv 6) (pa_cons (pv 6) pa_nil)))) pa_nil)))
    (pss_cons (ps_if (pw_or (pt_cmpR op_isnot_bl (pe_d DH hr (by decide) (by rfl) (pa_cons (pv 0) (pa_cons (pv 1) (pa_cons (pv 4) pa_nil)))) pe_bl (nomark _))
        (pw_or1 (pt_cmpR op_isnot_bl (pe_d DH hr (by decide) (by rfl) (pa_cons (pv 0) (pa_cons (pv 1) (pa_cons (pe_tup (pa_cons (pe_tup (pa_cons pe_int (pa_cons pe_int pa_nil))) pa_nil)) pa_nil)))) pe_bl (nomark _)))).pt pss_never pss_nil)
    (pss_cons (ps_for PassesOwn.never rfl (pi_list (pe_op op_cat (pe_op op_cat (pv 3)
          (pe_lc (own := [("_law_k", 7)]) (g := gName 7) (tt := tYes) (te := tSl rSlS (tVar 2) tNoPart (tPart (tVar 7))) rfl nd (pi_range1 (by rfl) B.range (pa_cons (pe_callB call_len_str (by rfl) B.len b_len (pa_cons (pv 2) pa_nil)) pa_nil)) (blkOk_by (N := ["_law_one", "_law_other", "_law_word", "_law_texts", "_law_rows", "_law_text_here", "_law_room", "_law_k"]) (sc := defScope s_l_apart) (by decide +kernel)) (fun _ _ _ _ _ => pg_name (i := 7) nd rfl (Or.inl rfl)) (fun _ _ _ _ _ => pts_nil)
            (fun _ _ _ _ _ => pe_slice sl_str (pv 2) po_none (po_some (pv 7)))))
          (pe_lc (own := [("_law_k", 7)]) (g := gName 7) (tt := tYes) (te := tSl rSlS (tVar 2) (tPart (tVar 7)) tNoPart) rfl nd (pi_range2 (by rfl) B.range (pa_cons pe_int (pa_cons (pe_callB call_len_str (by rfl) B.len b_len (pa_cons (pv 2) pa_nil)) pa_nil))) (blkOk_by (N := ["_law_one", "_law_other", "_law_word", "_law_texts", "_law_rows", "_law_text_here", "_law_room", "_law_k"]) (sc := defScope s_l_apart) (by decide +kernel)) (fun _ _ _ _ _ => pg_name (i := 7) nd rfl (Or.inl rfl)) (fun _ _ _ _ _ => pts_nil)
            (fun _ _ _ _ _ => pe_slice sl_str (pv 2) (po_some (pv 7)) po_none)))) (pg_name (i := 5) nd rfl (.inl rfl))
      (pss_one (ps_if (pt_val (pe_d DA hr (by decide) (by rfl) (pa_cons (pe_ix ix_tup (pv 0) pe_int (fun _ _ => rfl)) (pa_cons (pv 5) (pa_cons (pv 2) pa_nil)))))
        (pss_one (ps_if (pw_or (pt_cmpR (op_neD hr.units) (pe_d DC hr (by decide) (by rfl) (pa_cons (pv 0) (pa_cons (pv 5) pa_nil))) (pe_d DC hr (by decide) (by rfl) (pa_cons (pv 1) (pa_cons (pv 5) pa_nil))) (nomark _))
          (pw_or1 (pt_cmpR op_ne (pe_d DK hr (by decide) (by rfl) (pa_cons (pv 0) (pa_cons (pv 5) pa_nil))) (pe_d DK hr (by decide) (by rfl) (pa_cons (pv 1) (pa_cons (pv 5) pa_nil))) (nomark _)))).pt pss_never pss_nil)) pss_nil)))
    (pss_one (ps_ret pe_bl))))))), ?_⟩
  refine ⟨_, rfl, .str (tx T x), .ty "str", _, _, true, rfl, .ty _, .base (.str _), kit_ty (by decide +kernel), true, rfl, iteF ?_⟩
  refine ⟨_, rfl, _, rfl, v, T, t, x, rfl, h2.one, Gt.wf, h2.tg, ox, _, rfl, _, rfl, u, T, t', x, rfl, h2.other, Gt'.wf, G', ox', rfl, _, rfl, ?_⟩
  rw [decide_eq_false (fun z => kx (V.int.inj z))]
  refine iteF ?_
  -- cuts, pairs, least tables
  refine ⟨_, rfl, _, rfl, v, T, t, x, rfl, h2.one, Gt.wf, h2.tg, ox, by omega, fun H1 r1 S1 hr1 => ?_⟩
  have a2 := h2.mono (same_tups S1)
  refine ⟨_, rfl, _, rfl, u, T, t', x, rfl, a2.other, Gt'.wf, G', ox', by omega, fun H2 r2 S2 hr2 => ?_⟩
  refine ⟨cutD _, cutD _, (hr1.mono S2).dp, hr2.dp, cut_shaped _, cut_shaped _, ?_⟩
  rw [show PyData.eqv (cutD (cutM t.kap x x.length 0)) (cutD (cutM t'.kap x x.length 0)) = false from Bool.eq_false_iff.mpr fun z => cutM_parts x0 kx (Gt.low _) (Gt'.low _) ((cut_eq _ _).mp z)]
  refine ⟨_, rfl, iteF ?_⟩
  have S02 := S1.trans S2
  refine ⟨_, rfl, _, rfl, v, u, T, t, t', rfl, h2.mono (same_tups S02), fun H3 S3 _ => ?_, fun H3 p bs rows S3 hk _ _ _ _ => absurd hk nk⟩
  refine ⟨false, rfl, iteF ?_⟩
  have S03 := S02.trans S3
  have b2 := h2.mono (same_tups S03)
  refine ⟨_, rfl, v, T, t, rfl, b2.one, Gt, m6, fun H4 y1 L1 S4 hy1 hL1 => ?_⟩
  have c2 := b2.mono (same_tups S4)
  refine ⟨_, rfl, u, T, t', rfl, c2.other, Gt', m6', fun H5 y2 L2 S5 hy2 hL2 => ?_⟩
  have kL1 := fun y oy => hL1.kap Gt.wf y oy
  have kL2 := fun y oy => hL2.kap Gt'.wf y oy
  refine ⟨tabD T L1, tabD T L2, (hy1.mono (same_tups S5)).dp, hy2.dp, tab_shaped h2.tg _, tab_shaped h2.tg _, ?_⟩
  rw [show PyData.eqv (tabD T L1) (tabD T L2) = false from Bool.eq_false_iff.mpr fun z => by
    have e := (tab_eq (by rw [hL1.m, hL2.m, h2.m])).mp z
    refine kx ?_
    rw [← kL1 x ox, ← kL2 x ox', e]]
  refine ⟨_, rfl, iteF ?_⟩
  have S05 := (S03.trans S4).trans S5
  have d2 := h2.mono (same_tups S05)
  -- the parted word of the least tables
  refine ⟨_, rfl, v, T, t, rfl, d2.one, Gt, m6, fun H6 z1 M1 S6 hz1 hM1 => ?_⟩
  have e2 := d2.mono (same_tups S6)
  refine ⟨_, rfl, u, T, t', rfl, e2.other, Gt', m6', fun H7 z2 M2 S7 hz2 hM2 => ?_⟩
  refine ⟨z1, z2, T, M1, M2, rfl, ⟨hz1.mono (same_tups S7), hz2, hM1.wf, hM2.wf, by rw [hM1.m, hM2.m, h2.m], by rw [hM1.m]; exact h2.tg⟩, fun H8 o S8 ho => ?_⟩
  have hm : PartedIs M1 M2 (some x) := PartedIs.move (t := t) (u := t') hM1.m.symm (fun y oy => (hM1.kap Gt.wf y oy).symm) (fun y oy => (hM2.kap Gt'.wf y (by rw [← h2.m]; exact oy)).symm) hx
  have eo := PartedIs.uniq ho hm
  subst eo
  refine ⟨_, rfl, rfl, _, rfl, ?_⟩
  rw [show decide (optV T (some x) = V.str (tx T x)) = true from decide_eq_true rfl]
  refine iteF ?_
  have S08 := ((S05.trans S6).trans S7).trans S8
  have f2 := h2.mono (same_tups S08)
  obtain ⟨a, g, k, rs, ev, ha⟩ := id f2.one
  obtain ⟨a', g', k', rs', eu, ha'⟩ := id f2.other
  -- the rows of the one against itself
  have lr1 := ha.len
  have lr2 := ha'.len
  obtain ⟨N, ej, hN⟩ : ∃ N : Nat, (if (((rs'.map V.ref).length : Nat) : Int) < (((rs.map V.ref).length : Nat) : Int) then (((rs'.map V.ref).length : Nat) : Int) else (((rs.map V.ref).length : Nat) : Int)) = (N : Int) ∧ N ≤ 32 := by
    split
    · exact ⟨_, rfl, by omega⟩
    · exact ⟨_, rfl, by omega⟩
  subst ev eu
  refine ⟨_, rfl, a, _, _, _, rfl, rfl, SqT.of ha.top, atI_nat (j := 1) rfl, g, _, rfl, .inr (SqT.of ha.goes), _, rfl, a', _, _, _, rfl, rfl, SqT.of ha'.top, atI_nat (j := 1) rfl, g', _, rfl, .inr (SqT.of ha'.goes), _, _, rfl, ?_⟩
  refine ⟨N, congrArg (fun z => [V.int z]) ej, by omega, by omega, fun D nD => ?_⟩
  rw [Int.toNat_natCast]
  refine lc_range (n := N) (te := tTup (tCons (tVar 6) (tCons (tVar 6) tNil))) (fun i H' => Same H8 H' ∧ ∃ cs : List Addr, H' D = some (.lst (cs.map V.ref)) ∧ (∀ b ∈ cs, b ≠ D) ∧ PairsAt H' cs ((List.range i).map fun r => (r, r)))
    ⟨same_upd nD, [], upd_same, fun b h => by simp at h, .nil⟩ (fun i H9 hi h => ?_) (fun H9 h => ?_)
  · obtain ⟨S9, cs, hD, hne, hcs⟩ := h
    refine ⟨rfl, ?_⟩
    refine tYes_if ?_
    have e0 : V.int ((0 : Int) + (i : Nat)) = nV i := by rw [Int.zero_add]
    rw [e0]
    refine ⟨_, rfl, _, rfl, by show 2 ≤ sizeLine; decide, fun tp ntp => ?_⟩
    have hD9 := keep_new (o := .tup [nV i, nV i]) hD ntp
    have ntD : tp ≠ D := fun e => by rw [e, hD] at ntp; cases ntp
    refine ⟨_, hD9, ?_, same_put (S9.trans (same_upd ntp)) nD, cs ++ [tp], ?_, ?_, ?_⟩
    · rw [List.length_map, hcs.length, List.length_map, List.length_range]
      exact sizeLine_big (by omega)
    · rw [upd_same, List.map_append]
      rfl
    · intro b hb
      rcases List.mem_append.mp hb with z | z
      · exact hne b z
      · rw [List.mem_singleton.mp z]
        exact ntD
    · rw [List.range_succ, List.map_append]
      refine Paired.snoc (paired_keep (F := fun (q : Nat × Nat) => HO.tup [nV q.1, nV q.2]) (same_upd ntp) hne hcs) ?_
      rw [upd_ne ntD, upd_same]
  obtain ⟨S9, cs, hD, hne, hcs⟩ := h
  refine ⟨D, _, rfl, .inl ⟨SqL.of hD, fun tp ntp => ?_⟩⟩
  have S8t : Same H8 (upd H9 tp (.tup (cs.map V.ref))) := S9.trans (same_upd ntp)
  have g2 := f2.mono (same_tups S8t)
  refine ⟨_, rfl, _, rfl, _, rfl, .ref a, .ref a', tp, T, t, t', cs, (List.range N).map fun r => (r, r), rfl, g2, upd_same, PairsAt.mono hcs (tups_upd ntp), by rw [List.length_map, List.length_range]; omega, fun H10 c S10 hc => ?_⟩
  have ec : c = false := Bool.eq_false_iff.mpr fun z => nk fun y oy => (hc.mp z).sound y oy
  subst ec
  refine ⟨false, false, rfl, rfl, _, rfl, iteF ?_⟩
  have S010 := (S08.trans S8t).trans S10
  refine ⟨_, rfl, _, rfl, by show 2 ≤ sizeLine; decide, fun t1 nt1 => ⟨by show 1 ≤ sizeLine; decide, fun t2 nt2 => ?_⟩⟩
  have S10t : Same H10 (upd (upd H10 t1 (.tup [.int 0, .int 0])) t2 (.tup [.ref t1])) := (same_upd nt1).trans (same_upd nt2)
  refine ⟨.ref a, .ref a', t2, T, t, t', [t1], [(0, 0)], rfl, h2.mono (same_tups (S010.trans S10t)), upd_same, .cons (keep_new upd_same nt2) .nil, by show 1 ≤ 1024; decide, fun H11 c S11 hc => ?_⟩
  have ec : c = false := Bool.eq_false_iff.mpr fun z => nk fun y oy => (hc.mp z).sound y oy
  subst ec
  refine ⟨false, false, rfl, rfl, _, rfl, iteF ?_⟩
  have S011 := (S010.trans S10t).trans S11
  -- all texts
  refine ⟨_, rfl, _, rfl, tx T x, rfl, xz, _, rfl, by omega, by rw [tx_length]; omega, fun D1 nD1 => ?_⟩
  rw [tx_length, Int.toNat_natCast]
  refine lc_range (n := x.length) (te := tSl rSlS (tVar 2) tNoPart (tPart (tVar 7))) (fun i H' => Same H11 H' ∧ H' D1 = some (.lst (((List.range i).map fun k => x.take k).map fun u => V.str (tx T u))))
    ⟨same_upd nD1, upd_same⟩ (fun i H12 hi h => ?_) (fun H12 h => ?_)
  · obtain ⟨S12, hD1⟩ := h
    refine ⟨rfl, ?_⟩
    refine tYes_if ?_
    have e0 : V.int ((0 : Int) + (i : Nat)) = nV i := by rw [Int.zero_add]
    rw [e0]
    refine ⟨_, rfl, _, rfl, _, rfl, tx T x, rfl, xz, _, hD1, ?_, same_put S12 nD1, ?_⟩
    · rw [List.length_map, List.length_map, List.length_range]
      exact sizeLine_big (by omega)
    · rw [upd_same, cut_take, List.range_succ, List.map_append, List.map_append]
      rfl
  obtain ⟨S12, hD1⟩ := h
  have hl12 := S12 _ _ (S011 _ _ hT.1)
  refine ⟨l, D1, _, _, rfl, rfl, hl12, hD1, ?_, fun C1 nC1 => ?_⟩
  · rw [List.length_map, List.length_map, List.length_map, List.length_range]
    exact Nat.le_of_lt (sizeLine_big (by omega))
  have ecat1 : ((ws.map fun u => V.str (tx T u)) ++ (((List.range x.length).map fun k => x.take k).map fun u => V.str (tx T u))) = (ws ++ (List.range x.length).map fun k => x.take k).map fun u => V.str (tx T u) := by rw [List.map_append]
  rw [ecat1]
  have S13 : Same H12 (upd H12 C1 (.lst ((ws ++ (List.range x.length).map fun k => x.take k).map fun u => V.str (tx T u)))) := same_upd nC1
  have hC1 : (upd H12 C1 (.lst ((ws ++ (List.range x.length).map fun k => x.take k).map fun u => V.str (tx T u)))) C1 = some (.lst ((ws ++ (List.range x.length).map fun k => x.take k).map fun u => V.str (tx T u))) := upd_same
  generalize upd H12 C1 (.lst ((ws ++ (List.range x.length).map fun k => x.take k).map fun u => V.str (tx T u))) = H13 at S13 hC1 ⊢
  refine ⟨_, rfl, tx T x, rfl, xz, _, _, rfl, ⟨by omega, by omega, by rw [tx_length]; omega, by rw [tx_length]; omega⟩, fun D2 nD2 => ?_⟩
  rw [tx_length, show ((x.length : Int) - 1).toNat = x.length - 1 by omega]
  refine lc_range (n := x.length - 1) (te := tSl rSlS (tVar 2) (tPart (tVar 7)) tNoPart) (fun i H' => Same H13 H' ∧ H' D2 = some (.lst (((List.range i).map fun k => x.drop (1 + k)).map fun u => V.str (tx T u))))
    ⟨same_upd nD2, upd_same⟩ (fun i H14 hi h => ?_) (fun H14 h => ?_)
  · obtain ⟨S14, hD2⟩ := h
    refine ⟨rfl, ?_⟩
    refine tYes_if ?_
    have e0 : V.int ((1 : Int) + (i : Nat)) = nV (1 + i) := rfl
    rw [e0]
    refine ⟨_, rfl, _, rfl, _, rfl, tx T x, rfl, xz, _, hD2, ?_, same_put S14 nD2, ?_⟩
    · rw [List.length_map, List.length_map, List.length_range]
      exact sizeLine_big (by omega)
    · rw [upd_same, cut_drop, List.range_succ, List.map_append, List.map_append]
      rfl
  obtain ⟨S14, hD2⟩ := h
  have hC14 := S14 _ _ hC1
  refine ⟨C1, D2, _, _, rfl, rfl, hC14, hD2, ?_, fun C2 nC2 => ?_⟩
  · rw [List.length_map, List.length_append, List.length_map, List.length_range, List.length_map, List.length_map, List.length_range]
    exact Nat.le_of_lt (sizeLine_big (by omega))
  have ecat2 : (((ws ++ (List.range x.length).map fun k => x.take k).map fun u => V.str (tx T u)) ++ (((List.range (x.length - 1)).map fun k => x.drop (1 + k)).map fun u => V.str (tx T u))) = ((ws ++ (List.range x.length).map fun k => x.take k) ++ (List.range (x.length - 1)).map fun k => x.drop (1 + k)).map fun u => V.str (tx T u) := by simp only [List.map_append]
  rw [ecat2]
  have hall : ∀ z ∈ (ws ++ (List.range x.length).map fun k => x.take k) ++ (List.range (x.length - 1)).map fun k => x.drop (1 + k), Ok t.m z ∧ z.length ≤ 1024 := by
    intro z hz
    rcases List.mem_append.mp hz with hz | hz
    · rcases List.mem_append.mp hz with hz | hz
      · exact hT.2 z hz
      · obtain ⟨k, _, e⟩ := List.mem_map.mp hz
        subst e
        refine ⟨ox.take k, ?_⟩
        rw [List.length_take]
        omega
    · obtain ⟨k, _, e⟩ := List.mem_map.mp hz
      subst e
      refine ⟨ox.drop _, ?_⟩
      rw [List.length_drop]
      omega
  generalize ((ws ++ (List.range x.length).map fun k => x.take k) ++ ((List.range (x.length - 1)).map fun k => x.drop (1 + k))) = zs at hall ⊢
  have S0C : Same H (upd H14 C2 (.lst (zs.map fun u => V.str (tx T u)))) := (((S011.trans S12).trans S13).trans S14).trans (same_upd nC2)
  have hC2 : (upd H14 C2 (.lst (zs.map fun u => V.str (tx T u)))) C2 = some (.lst (zs.map fun u => V.str (tx T u))) := upd_same
  generalize upd H14 C2 (.lst (zs.map fun u => V.str (tx T u))) = H15 at S0C hC2 ⊢
  refine ⟨C2, rfl, ⟨_, SqL.of hC2⟩, for_list (xs := zs.map fun u => V.str (tx T u)) (fun i σ H' => ∃ (y4 y5 y6 y7 : Option V), σ = [some (.ref a), some (.ref a'), some (.str (tx T x)), some (.ref l), y4, y5, y6, y7] ∧ Same H H' ∧ Same H15 H')
    ⟨_, _, _, _, rfl, S0C, fun _ _ h => h⟩ (fun i σ H' _ h => by obtain ⟨_, _, _, _, _, _, S⟩ := h; exact SqL.of (S _ _ hC2)) (fun i y σ H16 hy h => ?_) (fun σ H16 h => ?_)⟩
  · obtain ⟨y4, y5, y6, y7, rfl, S16, S1516⟩ := h
    rw [List.getElem?_map] at hy
    obtain ⟨z, hz, rfl⟩ := Option.map_eq_some_iff.mp hy
    obtain ⟨oz, lz⟩ := hall z (List.mem_of_getElem? hz)
    have oz' : Ok t'.m z := by rw [← h2.m]; exact oz
    have i2 := h2.mono (same_tups S16)
    obtain ⟨b, _, _, _, eb, hb⟩ := id i2.one
    cases eb
    refine ⟨_, rfl, a, _, _, _, rfl, rfl, SqT.of hb.top, atI_nat (j := 0) rfl, _, rfl, _, rfl, T, t.m, z, x, rfl, h2.tg, oz, ox, by omega, by omega, fun H17 c S17 hc => ⟨c, rfl, ite2 (fun zc => ?_) (fun zc => ?_)⟩⟩
    · have hlt := hc zc
      have j2 := i2.mono (same_tups S17)
      refine ⟨_, rfl, _, rfl, .ref a, T, t, z, rfl, j2.one, Gt.wf, h2.tg, oz, by omega, fun H18 r1 S18 hr1 => ?_⟩
      have k2 := j2.mono (same_tups S18)
      refine ⟨_, rfl, _, rfl, .ref a', T, t', z, rfl, k2.other, Gt'.wf, G', oz', by omega, fun H19 r2 S19 hr2 => ?_⟩
      have ecut : cutM t.kap z z.length 0 = cutM t'.kap z z.length 0 := cutM_congr (fun a k => bx _ ((oz.drop a).take k) (Nat.lt_of_le_of_lt (num_stretch oz a k) hlt)) _ _
      refine ⟨cutD _, cutD _, (hr1.mono S19).dp, hr2.dp, cut_shaped _, cut_shaped _, ?_⟩
      rw [(cut_eq _ _).mpr ecut]
      refine ⟨_, rfl, iteF ?_⟩
      have l2 := k2.mono (same_tups S19)
      refine ⟨_, rfl, _, rfl, .ref a, T, t, z, rfl, l2.one, Gt.wf, h2.tg, oz, _, rfl, _, rfl, .ref a', T, t', z, rfl, l2.other, Gt'.wf, G', oz', rfl, _, rfl, ?_⟩
      rw [show decide (V.int (t.kap z) = V.int (t'.kap z)) = true from decide_eq_true (congrArg V.int (bx z oz hlt))]
      have S1719 := (S17.trans S18).trans S19
      exact iteF ⟨_, _, _, _, rfl, S16.trans S1719, S1516.trans S1719⟩
    · exact ⟨_, _, _, _, rfl, S16.trans S17, S1516.trans S17⟩
  · obtain ⟨y4, y5, y6, y7, rfl, S16, _⟩ := h
    exact q H16 S16
end
end K64
set_option autoImplicit true
set_option Elab.async false
set_option linter.all false
set_option maxRecDepth 100000
set_option maxHeartbeats 4000000
namespace K64
open PySem PySem.Spec PyProof.Rows L2
section
variable {P : Program} {w : World} {K : PySem.W.Frag} {mg : Str → Option Value} {base : Heap}
def spLaw : Sp := fun vs H Q _ => ∃ (a : Addr) (ns : List Int), vs = [.ref a] ∧ SqL K H a (ns.map V.int) ∧ ns.length ≤ 63 ∧ ∀ H', Q (.bl true) H'
theorem d_law {fl : Addr} {fd : FuncData} (F : Fun K "law" "law" s_law fl fd) (B : Gb mg) (DN : Df P w K mg base 1 "_law_pen" (spPen (K := K))) (DW : Df P w K mg base 3 "_law_two" spTwo) (DX : Df P w K mg base 2 "_law_text" spText) (DR : Df P w K mg base 3 "parted" spParted) (DL : Df P w K mg base 5 "_law_alike" spAlike) (DA : Df P w K mg base 5 "_law_apart" spApart) : FnOk P w K mg base CX0 6 fl fd ["_law_script"] (spLaw (K := K)) := by
  refine F.ok sc_law (fun vs H Q E h => ?_) (fun cdv A outer sh H vs Q E hr h => ?_)
  · obtain ⟨a, ns, rfl, _⟩ := h
    rfl
  have nd := sc_law.nd
  obtain ⟨a, ns, rfl, hs, hl, q⟩ := h
  refine ⟨_, pss_cons (ps_set (i := 1) nd rfl (.inr rfl) (pe_d DN hr (by decide) (by rfl) (pa_cons (pv 0) pa_nil)))
    (pss_cons (ps_asg (pe_d DW hr (by decide) (by rfl) (pa_cons (pv 1) pa_nil)) (pg_tup rfl (pgs_cons (pg_name (i := 2) nd rfl (.inr rfl)) (pgs_cons (pg_name (i := 3) nd rfl (.inl rfl)) pgs_nil))))
    (pss_cons (ps_setLc (i := 4) (own := [("_law_k", 6)]) (g := gName 6) (tt := tYes) (te := tCall spText [] E0 (tCons (tVar 1) (tCons (tOp (rIxT K) (tVar 2) (tC (.int 0))) tNil))) rfl nd rfl rfl (sw_true rfl rfl rfl (by decide +kernel)) (pi_range1 (by rfl) B.range (pa_cons pe_int pa_nil)) (blkOk_by (N := ["_law_script", "_law_pen_here", "_law_one", "_law_other", "_law_texts", "_law_word", "_law_k"]) (sc := defScope s_law) (by decide +kernel)) (fun _ _ _ _ _ => pg_name (i := 6) nd rfl (Or.inl rfl)) (fun _ _ _ _ _ => pts_nil)
      (fun _ _ _ _ _ => pe_d DX hr (by decide) (by rfl) (pa_cons (pv 1) (pa_cons (pe_ix ix_tup (pv 2) pe_int (fun _ _ => rfl)) pa_nil))))
    (pss_cons (ps_set (i := 5) nd rfl (.inl rfl) (pe_d DR hr (by decide) (by rfl) (pa_cons (pv 2) (pa_cons (pv 3) pa_nil))))
    (pss_cons (ps_if (pt_cmpR op_ne (pe_d DR hr (by decide) (by rfl) (pa_cons (pv 3) (pa_cons (pv 2) pa_nil))) (pv 5) (nomark _)) pss_never pss_nil)
    (pss_cons (ps_if (pt_cmp (pc_isN (pv 5)) rfl) (pss_one (ps_ret (pe_d DL hr (by decide) (by rfl) (pa_cons (pv 2) (pa_cons (pv 3) (pa_cons (pv 4) pa_nil)))))) pss_nil)
    (pss_one (ps_ret (pe_and (pe_d DA hr (by decide) (by rfl) (pa_cons (pv 2) (pa_cons (pv 3) (pa_cons (pv 5) (pa_cons (pv 4) pa_nil))))) (pe_one (pe_d DA hr (by decide) (by rfl) (pa_cons (pv 3) (pa_cons (pv 2) (pa_cons (pv 5) (pa_cons (pv 4) pa_nil)))))))))))))), ?_⟩
  refine ⟨_, rfl, a, ns, rfl, hs, hl, fun H1 p s S1 np ns0 P1 => ?_⟩
  refine ⟨_, rfl, p, s, 0, rfl, P1, by decide, fun H2 r v u T t t' B2 P2 hr2 h2 Gt Gt' => ?_⟩
  refine ⟨r, _, rfl, SqT.of hr2, rfl, _, _, rfl, _, _, rfl, rfl, ?_⟩
  refine ⟨_, rfl, by decide, by decide, fun D nD => ?_⟩
  obtain ⟨nDp, nDs⟩ := P2.ne nD
  refine lc_range (n := 6) (te := tCall spText [] E0 (tCons (tVar 1) (tCons (tOp (rIxT K) (tVar 2) (tC (.int 0))) tNil))) (fun i H' => But p H2 H' ∧ PenAt H' p s (7000 + 1000 * i) ∧ ∃ ws : List (List Nat), H' D = some (.lst (ws.map fun u => V.str (tx T u))) ∧ ws.length = i ∧ ∀ u ∈ ws, Ok t.m u ∧ u.length ≤ 1024)
    ⟨but_put (But.refl _ _) nD, (P2.put nDp nDs).mono (by omega), [], upd_same, rfl, fun u h => by simp at h⟩ (fun i H3 hi h => ?_) (fun H3 h => ?_)
  · obtain ⟨B3, P3, ws, hD, lw, hw⟩ := h
    refine ⟨rfl, ?_⟩
    refine tYes_if ?_
    have a2 := h2.mono (P2.tups B3)
    obtain ⟨b, _, _, _, eb, hb⟩ := id a2.one
    subst eb
    refine ⟨_, rfl, _, rfl, b, _, _, _, rfl, rfl, SqT.of hb.top, atI_nat (j := 0) rfl, p, s, T, t.m, 7000 + 1000 * i, rfl, P3, by omega, h2.tg, fun H4 x B4 P4 ox lx => ?_⟩
    have hD4 := B4 D _ nDp hD
    refine ⟨_, hD4, ?_, but_put (B3.trans B4) nD, (P4.put nDp nDs).mono (by omega), ws ++ [x], ?_, ?_, ?_⟩
    · rw [List.length_map, lw]
      exact sizeLine_big (by omega)
    · rw [upd_same, List.map_append]
      rfl
    · rw [List.length_append, lw]
      rfl
    · intro y hy
      rcases List.mem_append.mp hy with z | z
      · exact hw y z
      · rw [List.mem_singleton.mp z]
        exact ⟨ox, by omega⟩
  obtain ⟨B3, P3, ws, hD, lw, hw⟩ := h
  have a2 := h2.mono (P2.tups B3)
  have hT : TextsAt H3 D T t.m ws := ⟨hD, hw⟩
  refine ⟨_, rfl, _, rfl, v, u, T, t, t', rfl, a2, fun H4 o S4 ho => ?_⟩
  have b2 := a2.mono (same_tups S4)
  refine ⟨_, rfl, _, rfl, u, v, T, t', t, rfl, b2.swap, fun H5 o' S5 ho' => ?_⟩
  have eo : o' = o := PartedIs.uniq ho' (PartedIs.symm h2.m ho)
  subst eo
  have c2 := b2.mono (same_tups S5)
  have S35 := S4.trans S5
  refine ⟨_, rfl, ?_⟩
  cases o' with
  | none =>
    refine ⟨rfl, _, rfl, ?_⟩
    rw [show decide (optV T none = optV T none) = true from decide_eq_true rfl]
    refine iteF ⟨_, rfl, ?_⟩
    refine ⟨true, rfl, iteT ?_⟩
    exact ⟨_, rfl, _, rfl, _, rfl, v, u, D, T, t, t', ws, rfl, c2, Gt, Gt', ho, hT.mono S35, fun H6 _ => q H6⟩
  | some x =>
    refine ⟨rfl, _, rfl, ?_⟩
    rw [show decide (optV T (some x) = optV T (some x)) = true from decide_eq_true rfl]
    refine iteF ⟨_, rfl, ?_⟩
    refine ⟨false, rfl, iteF ?_⟩
    refine ⟨_, rfl, _, rfl, _, rfl, _, rfl, v, u, D, T, t, t', ws, x, rfl, c2, Gt, Gt', ho, hT.mono S35, by omega, fun H6 S6 => ⟨true, rfl, iteT ?_⟩⟩
    have hT6 := (hT.mono S35).mono S6
    exact ⟨_, rfl, _, rfl, _, rfl, _, rfl, u, v, D, T, t', t, ws, x, rfl, (c2.mono (same_tups S6)).swap, Gt', Gt, ho', ⟨hT6.1, fun y hy => by rw [← h2.m]; exact hT6.2 y hy⟩, by omega, fun H7 _ => q H7⟩
end
end K64
set_option autoImplicit true
set_option Elab.async false
set_option linter.all false
set_option maxRecDepth 100000
set_option maxHeartbeats 4000000
namespace K64
open PySem PySem.Spec PyProof.Rows L2
theorem at_mk {K : PySem.W.Frag} {h : Heap} {mg : Str → Option Value} {x : Str} {st : Stmt} {ps : List Str} {f : Addr} {od an : Option Addr} {sl : Array (Option Value)} {oc kV dc pm cd ct : Value} (X : K.In h) (G : h.Ns mainGlobals mg)
    (a : PySem.W.nsIn K mainGlobals x = some (some (.ref f))) (l : K.lookup f = some ⟨oc, od, .func (PySem.W.fnOf x x (defArgs st) (defBody st) (defScope st) .none kV dc pm an cd ct), sl⟩) (c : PySem.W.codeIn K cd x = true) (k : PySem.W.keepIn K (.ref f) = true)
    (hb : ∀ (kV doc pm : Value) (an : Option Addr) (cdv ct : Value) (us : List Value), us.length = ps.length → bindArgs (PySem.W.fnOf x x (defArgs st) (defBody st) (defScope st) .none kV doc pm an cdv ct) ⟨us, []⟩ = pure (ps.zip us)) : At K mg x st ps :=
  ⟨f, _, fun_mk l c k, PySem.W.mg_of X G a, (fun_mk l c k).binds hb⟩
structure Tops (K : PySem.W.Frag) (mg : Str → Option Value) : Prop where
  f1 : At K mg "is_number" s_is_number ["thing"]
  f2 : At K mg "is_numbers" s_is_numbers ["thing"]
  f3 : At K mg "asked_alike" s_asked_alike ["one", "other"]
  f4 : At K mg "together" s_together ["one", "other"]
  f5 : At K mg "first_parted" s_first_parted ["one", "other", "marks", "others"]
  f6 : At K mg "parted" s_parted ["one", "other"]
  f7 : At K mg "pairs" s_pairs ["one", "other"]
  f8 : At K mg "is_pair" s_is_pair ["one", "other", "thing"]
  f9 : At K mg "pairs_hold" s_pairs_hold ["one", "other", "rows"]
  f10 : At K mg "is_text" s_is_text ["tongue", "thing"]
  f11 : At K mg "ahead" s_ahead ["tongue", "one", "other"]
  f12 : At K mg "longest" s_longest ["table", "text", "at"]
  f13 : At K mg "cut" s_cut ["table", "text"]
  f14 : At K mg "numbered" s_numbered ["keys"]
  f15 : At K mg "finer" s_finer ["goes", "marks"]
  f16 : At K mg "classes_of" s_classes_of ["goes", "kinds", "most"]
  f17 : At K mg "joined" s_joined ["tongue", "goes", "kinds", "marks"]
  f18 : At K mg "in_order" s_in_order ["goes"]
  f19 : At K mg "put_in_order" s_put_in_order ["table"]
  f20 : At K mg "least_of" s_least_of ["table"]
  f21 : At K mg "folding" s_folding ["table"]
  f22 : At K mg "_law_pen" s_l_pen ["_law_script"]
  f23 : At K mg "_law_take" s_l_take ["_law_pen_here", "_law_many"]
  f24 : At K mg "_law_signs" s_l_signs []
  f25 : At K mg "_law_some" s_l_some ["_law_pen_here", "_law_rest", "_law_most"]
  f26 : At K mg "_law_cut_down" s_l_cut_down ["_law_tongue", "_law_goes", "_law_kinds", "_law_turn"]
  f27 : At K mg "_law_table" s_l_table ["_law_pen_here", "_law_tongue", "_law_most"]
  f28 : At K mg "_law_doubled" s_l_doubled ["_law_pen_here", "_law_table_here"]
  f29 : At K mg "_law_bent" s_l_bent ["_law_pen_here", "_law_table_here"]
  f30 : At K mg "_law_two" s_l_two ["_law_pen_here"]
  f31 : At K mg "_law_text" s_l_text ["_law_pen_here", "_law_tongue"]
  f32 : At K mg "_law_kind" s_l_kind ["_law_table_here", "_law_word"]
  f33 : At K mg "_law_alike" s_l_alike ["_law_one", "_law_other", "_law_texts"]
  f34 : At K mg "_law_apart" s_l_apart ["_law_one", "_law_other", "_law_word", "_law_texts"]
section
variable {P : Program} {w : World} {K : PySem.W.Frag} {mg : Str → Option Value} {base : Heap}
theorem law_ok (T : Tops K mg) (B : Gb mg) {fl : Addr} {fd : FuncData} (F : Fun K "law" "law" s_law fl fd) : FnOk P w K mg base CX0 6 fl fd ["_law_script"] (spLaw (K := K)) := by
  have d1 := d_is_number (P := P) (w := w) (base := base) T.f1 B
  have d2 := d_is_numbers (P := P) (w := w) (base := base) T.f2 B d1
  have d3 := d_asked_alike (P := P) (w := w) (base := base) T.f3 
  have d4 := d_together (P := P) (w := w) (base := base) T.f4 B
  have d5 := d_first_parted (P := P) (w := w) (base := base) T.f5 d4
  have d6 := d_parted (P := P) (w := w) (base := base) T.f6 d3 d5
  have d7 := d_pairs (P := P) (w := w) (base := base) T.f7 B d6 d4
  have d8 := d_is_pair (P := P) (w := w) (base := base) T.f8 B d2
  have d9 := d_pairs_hold (P := P) (w := w) (base := base) T.f9 B d3 d8
  have d10 := d_is_text (P := P) (w := w) (base := base) T.f10 B
  have d11 := d_ahead (P := P) (w := w) (base := base) T.f11 B
  have d12 := d_longest (P := P) (w := w) (base := base) T.f12 B
  have d13 := d_cut (P := P) (w := w) (base := base) T.f13 B d10 d12
  have d14 := d_numbered (P := P) (w := w) (base := base) T.f14 B
  have d15 := d_finer (P := P) (w := w) (base := base) T.f15 B d14
  have d16 := d_classes_of (P := P) (w := w) (base := base) T.f16 B d14 d15
  have d17 := d_joined (P := P) (w := w) (base := base) T.f17 B
  have d18 := d_in_order (P := P) (w := w) (base := base) T.f18 B
  have d19 := d_put_in_order (P := P) (w := w) (base := base) T.f19 B d18
  have d20 := d_least_of (P := P) (w := w) (base := base) T.f20 B d19 d16 d17
  have d21 := d_folding (P := P) (w := w) (base := base) T.f21 B d19 d16 d18
  have d22 := d_pen (P := P) (w := w) (base := base) T.f22 
  have d23 := d_take (P := P) (w := w) (base := base) T.f23 B
  have d24 := d_signs (P := P) (w := w) (base := base) T.f24 
  have d25 := d_some (P := P) (w := w) (base := base) T.f25 B d23
  have d26 := d_cut_down (P := P) (w := w) (base := base) T.f26 B
  have d27 := d_table (P := P) (w := w) (base := base) T.f27 B d23 d26
  have d28 := d_doubled (P := P) (w := w) (base := base) T.f28 B d23 d26
  have d29 := d_bent (P := P) (w := w) (base := base) T.f29 B d23 d26
  have d30 := d_two (P := P) (w := w) (base := base) T.f30 B d23 d24 d25 d27 d28 d29
  have d31 := d_text (P := P) (w := w) (base := base) T.f31 B d23
  have d32 := d_kind (P := P) (w := w) (base := base) T.f32 B
  have d33 := d_alike (P := P) (w := w) (base := base) T.f33 B d7 d9 d20 d21 d13
  have d34 := d_apart (P := P) (w := w) (base := base) T.f34 B d7 d9 d20 d13 d32 d6 d11
  exact d_law F B d22 d30 d31 d6 d33 d34
end
theorem all_mk {l : PySem.W.OpenLaw} {w : World} {K : PySem.W.Frag} {h : Heap} {mg : Str → Option Value} {fa f1 f2 f3 f4 f5 f6 f7 f8 f9 f10 f11 f12 f13 f14 f15 f16 f17 f18 f19 f20 f21 f22 f23 f24 f25 f26 f27 f28 f29 f30 f31 f32 f33 f34 f35 : Addr} (X : K.In h) (G : h.Ns mainGlobals mg) (hfa : mg "law" = some (.ref fa))
    {od1 an1 od2 an2 od3 an3 od4 an4 od5 an5 od6 an6 od7 an7 od8 an8 od9 an9 od10 an10 od11 an11 od12 an12 od13 an13 od14 an14 od15 an15 od16 an16 od17 an17 od18 an18 od19 an19 od20 an20 od21 an21 od22 an22 od23 an23 od24 an24 od25 an25 od26 an26 od27 an27 od28 an28 od29 an29 od30 an30 od31 an31 od32 an32 od33 an33 od34 an34 od35 an35 : Option Addr} {sl1 sl2 sl3 sl4 sl5 sl6 sl7 sl8 sl9 sl10 sl11 sl12 sl13 sl14 sl15 sl16 sl17 sl18 sl19 sl20 sl21 sl22 sl23 sl24 sl25 sl26 sl27 sl28 sl29 sl30 sl31 sl32 sl33 sl34 sl35 : Array (Option Value)} {oc1 kV1 dc1 pm1 cd1 ct1 oc2 kV2 dc2 pm2 cd2 ct2 oc3 kV3 dc3 pm3 cd3 ct3 oc4 kV4 dc4 pm4 cd4 ct4 oc5 kV5 dc5 pm5 cd5 ct5 oc6 kV6 dc6 pm6 cd6 ct6 oc7 kV7 dc7 pm7 cd7 ct7 oc8 kV8 dc8 pm8 cd8 ct8 oc9 kV9 dc9 pm9 cd9 ct9 oc10 kV10 dc10 pm10 cd10 ct10 oc11 kV11 dc11 pm11 cd11 ct11 oc12 kV12 dc12 pm12 cd12 ct12 oc13 kV13 dc13 pm13 cd13 ct13 oc14 kV14 dc14 pm14 cd14 ct14 oc15 kV15 dc15 pm15 cd15 ct15 oc16 kV16 dc16 pm16 cd16 ct16 oc17 kV17 dc17 pm17 cd17 ct17 oc18 kV18 dc18 pm18 cd18 ct18 oc19 kV19 dc19 pm19 cd19 ct19 oc20 kV20 dc20 pm20 cd20 ct20 oc21 kV21 dc21 pm21 cd21 ct21 oc22 kV22 dc22 pm22 cd22 ct22 oc23 kV23 dc23 pm23 cd23 ct23 oc24 kV24 dc24 pm24 cd24 ct24 oc25 kV25 dc25 pm25 cd25 ct25 oc26 kV26 dc26 pm26 cd26 ct26 oc27 kV27 dc27 pm27 cd27 ct27 oc28 kV28 dc28 pm28 cd28 ct28 oc29 kV29 dc29 pm29 cd29 ct29 oc30 kV30 dc30 pm30 cd30 ct30 oc31 kV31 dc31 pm31 cd31 ct31 oc32 kV32 dc32 pm32 cd32 ct32 oc33 kV33 dc33 pm33 cd33 ct33 oc34 kV34 dc34 pm34 cd34 ct34 oc35 kV35 dc35 pm35 cd35 ct35 : Value}
    (a1 : PySem.W.nsIn K mainGlobals "is_number" = some (some (.ref f1))) (l1 : K.lookup f1 = some ⟨oc1, od1, .func (PySem.W.fnOf "is_number" "is_number" (defArgs s_is_number) (defBody s_is_number) (defScope s_is_number) .none kV1 dc1 pm1 an1 cd1 ct1), sl1⟩) (c1 : PySem.W.codeIn K cd1 "is_number" = true) (k1 : PySem.W.keepIn K (.ref f1) = true)
    (a2 : PySem.W.nsIn K mainGlobals "is_numbers" = some (some (.ref f2))) (l2 : K.lookup f2 = some ⟨oc2, od2, .func (PySem.W.fnOf "is_numbers" "is_numbers" (defArgs s_is_numbers) (defBody s_is_numbers) (defScope s_is_numbers) .none kV2 dc2 pm2 an2 cd2 ct2), sl2⟩) (c2 : PySem.W.codeIn K cd2 "is_numbers" = true) (k2 : PySem.W.keepIn K (.ref f2) = true)
    (a3 : PySem.W.nsIn K mainGlobals "asked_alike" = some (some (.ref f3))) (l3 : K.lookup f3 = some ⟨oc3, od3, .func (PySem.W.fnOf "asked_alike" "asked_alike" (defArgs s_asked_alike) (defBody s_asked_alike) (defScope s_asked_alike) .none kV3 dc3 pm3 an3 cd3 ct3), sl3⟩) (c3 : PySem.W.codeIn K cd3 "asked_alike" = true) (k3 : PySem.W.keepIn K (.ref f3) = true)
    (a4 : PySem.W.nsIn K mainGlobals "together" = some (some (.ref f4))) (l4 : K.lookup f4 = some ⟨oc4, od4, .func (PySem.W.fnOf "together" "together" (defArgs s_together) (defBody s_together) (defScope s_together) .none kV4 dc4 pm4 an4 cd4 ct4), sl4⟩) (c4 : PySem.W.codeIn K cd4 "together" = true) (k4 : PySem.W.keepIn K (.ref f4) = true)
    (a5 : PySem.W.nsIn K mainGlobals "first_parted" = some (some (.ref f5))) (l5 : K.lookup f5 = some ⟨oc5, od5, .func (PySem.W.fnOf "first_parted" "first_parted" (defArgs s_first_parted) (defBody s_first_parted) (defScope s_first_parted) .none kV5 dc5 pm5 an5 cd5 ct5), sl5⟩) (c5 : PySem.W.codeIn K cd5 "first_parted" = true) (k5 : PySem.W.keepIn K (.ref f5) = true)
    (a6 : PySem.W.nsIn K mainGlobals "parted" = some (some (.ref f6))) (l6 : K.lookup f6 = some ⟨oc6, od6, .func (PySem.W.fnOf "parted" "parted" (defArgs s_parted) (defBody s_parted) (defScope s_parted) .none kV6 dc6 pm6 an6 cd6 ct6), sl6⟩) (c6 : PySem.W.codeIn K cd6 "parted" = true) (k6 : PySem.W.keepIn K (.ref f6) = true)
    (a7 : PySem.W.nsIn K mainGlobals "pairs" = some (some (.ref f7))) (l7 : K.lookup f7 = some ⟨oc7, od7, .func (PySem.W.fnOf "pairs" "pairs" (defArgs s_pairs) (defBody s_pairs) (defScope s_pairs) .none kV7 dc7 pm7 an7 cd7 ct7), sl7⟩) (c7 : PySem.W.codeIn K cd7 "pairs" = true) (k7 : PySem.W.keepIn K (.ref f7) = true)
    (a8 : PySem.W.nsIn K mainGlobals "is_pair" = some (some (.ref f8))) (l8 : K.lookup f8 = some ⟨oc8, od8, .func (PySem.W.fnOf "is_pair" "is_pair" (defArgs s_is_pair) (defBody s_is_pair) (defScope s_is_pair) .none kV8 dc8 pm8 an8 cd8 ct8), sl8⟩) (c8 : PySem.W.codeIn K cd8 "is_pair" = true) (k8 : PySem.W.keepIn K (.ref f8) = true)
    (a9 : PySem.W.nsIn K mainGlobals "pairs_hold" = some (some (.ref f9))) (l9 : K.lookup f9 = some ⟨oc9, od9, .func (PySem.W.fnOf "pairs_hold" "pairs_hold" (defArgs s_pairs_hold) (defBody s_pairs_hold) (defScope s_pairs_hold) .none kV9 dc9 pm9 an9 cd9 ct9), sl9⟩) (c9 : PySem.W.codeIn K cd9 "pairs_hold" = true) (k9 : PySem.W.keepIn K (.ref f9) = true)
    (a10 : PySem.W.nsIn K mainGlobals "is_text" = some (some (.ref f10))) (l10 : K.lookup f10 = some ⟨oc10, od10, .func (PySem.W.fnOf "is_text" "is_text" (defArgs s_is_text) (defBody s_is_text) (defScope s_is_text) .none kV10 dc10 pm10 an10 cd10 ct10), sl10⟩) (c10 : PySem.W.codeIn K cd10 "is_text" = true) (k10 : PySem.W.keepIn K (.ref f10) = true)
    (a11 : PySem.W.nsIn K mainGlobals "ahead" = some (some (.ref f11))) (l11 : K.lookup f11 = some ⟨oc11, od11, .func (PySem.W.fnOf "ahead" "ahead" (defArgs s_ahead) (defBody s_ahead) (defScope s_ahead) .none kV11 dc11 pm11 an11 cd11 ct11), sl11⟩) (c11 : PySem.W.codeIn K cd11 "ahead" = true) (k11 : PySem.W.keepIn K (.ref f11) = true)
    (a12 : PySem.W.nsIn K mainGlobals "longest" = some (some (.ref f12))) (l12 : K.lookup f12 = some ⟨oc12, od12, .func (PySem.W.fnOf "longest" "longest" (defArgs s_longest) (defBody s_longest) (defScope s_longest) .none kV12 dc12 pm12 an12 cd12 ct12), sl12⟩) (c12 : PySem.W.codeIn K cd12 "longest" = true) (k12 : PySem.W.keepIn K (.ref f12) = true)
    (a13 : PySem.W.nsIn K mainGlobals "cut" = some (some (.ref f13))) (l13 : K.lookup f13 = some ⟨oc13, od13, .func (PySem.W.fnOf "cut" "cut" (defArgs s_cut) (defBody s_cut) (defScope s_cut) .none kV13 dc13 pm13 an13 cd13 ct13), sl13⟩) (c13 : PySem.W.codeIn K cd13 "cut" = true) (k13 : PySem.W.keepIn K (.ref f13) = true)
    (a14 : PySem.W.nsIn K mainGlobals "numbered" = some (some (.ref f14))) (l14 : K.lookup f14 = some ⟨oc14, od14, .func (PySem.W.fnOf "numbered" "numbered" (defArgs s_numbered) (defBody s_numbered) (defScope s_numbered) .none kV14 dc14 pm14 an14 cd14 ct14), sl14⟩) (c14 : PySem.W.codeIn K cd14 "numbered" = true) (k14 : PySem.W.keepIn K (.ref f14) = true)
    (a15 : PySem.W.nsIn K mainGlobals "finer" = some (some (.ref f15))) (l15 : K.lookup f15 = some ⟨oc15, od15, .func (PySem.W.fnOf "finer" "finer" (defArgs s_finer) (defBody s_finer) (defScope s_finer) .none kV15 dc15 pm15 an15 cd15 ct15), sl15⟩) (c15 : PySem.W.codeIn K cd15 "finer" = true) (k15 : PySem.W.keepIn K (.ref f15) = true)
    (a16 : PySem.W.nsIn K mainGlobals "classes_of" = some (some (.ref f16))) (l16 : K.lookup f16 = some ⟨oc16, od16, .func (PySem.W.fnOf "classes_of" "classes_of" (defArgs s_classes_of) (defBody s_classes_of) (defScope s_classes_of) .none kV16 dc16 pm16 an16 cd16 ct16), sl16⟩) (c16 : PySem.W.codeIn K cd16 "classes_of" = true) (k16 : PySem.W.keepIn K (.ref f16) = true)
    (a17 : PySem.W.nsIn K mainGlobals "joined" = some (some (.ref f17))) (l17 : K.lookup f17 = some ⟨oc17, od17, .func (PySem.W.fnOf "joined" "joined" (defArgs s_joined) (defBody s_joined) (defScope s_joined) .none kV17 dc17 pm17 an17 cd17 ct17), sl17⟩) (c17 : PySem.W.codeIn K cd17 "joined" = true) (k17 : PySem.W.keepIn K (.ref f17) = true)
    (a18 : PySem.W.nsIn K mainGlobals "in_order" = some (some (.ref f18))) (l18 : K.lookup f18 = some ⟨oc18, od18, .func (PySem.W.fnOf "in_order" "in_order" (defArgs s_in_order) (defBody s_in_order) (defScope s_in_order) .none kV18 dc18 pm18 an18 cd18 ct18), sl18⟩) (c18 : PySem.W.codeIn K cd18 "in_order" = true) (k18 : PySem.W.keepIn K (.ref f18) = true)
    (a19 : PySem.W.nsIn K mainGlobals "put_in_order" = some (some (.ref f19))) (l19 : K.lookup f19 = some ⟨oc19, od19, .func (PySem.W.fnOf "put_in_order" "put_in_order" (defArgs s_put_in_order) (defBody s_put_in_order) (defScope s_put_in_order) .none kV19 dc19 pm19 an19 cd19 ct19), sl19⟩) (c19 : PySem.W.codeIn K cd19 "put_in_order" = true) (k19 : PySem.W.keepIn K (.ref f19) = true)
    (a20 : PySem.W.nsIn K mainGlobals "least_of" = some (some (.ref f20))) (l20 : K.lookup f20 = some ⟨oc20, od20, .func (PySem.W.fnOf "least_of" "least_of" (defArgs s_least_of) (defBody s_least_of) (defScope s_least_of) .none kV20 dc20 pm20 an20 cd20 ct20), sl20⟩) (c20 : PySem.W.codeIn K cd20 "least_of" = true) (k20 : PySem.W.keepIn K (.ref f20) = true)
    (a21 : PySem.W.nsIn K mainGlobals "folding" = some (some (.ref f21))) (l21 : K.lookup f21 = some ⟨oc21, od21, .func (PySem.W.fnOf "folding" "folding" (defArgs s_folding) (defBody s_folding) (defScope s_folding) .none kV21 dc21 pm21 an21 cd21 ct21), sl21⟩) (c21 : PySem.W.codeIn K cd21 "folding" = true) (k21 : PySem.W.keepIn K (.ref f21) = true)
    (a22 : PySem.W.nsIn K mainGlobals "_law_pen" = some (some (.ref f22))) (l22 : K.lookup f22 = some ⟨oc22, od22, .func (PySem.W.fnOf "_law_pen" "_law_pen" (defArgs s_l_pen) (defBody s_l_pen) (defScope s_l_pen) .none kV22 dc22 pm22 an22 cd22 ct22), sl22⟩) (c22 : PySem.W.codeIn K cd22 "_law_pen" = true) (k22 : PySem.W.keepIn K (.ref f22) = true)
    (a23 : PySem.W.nsIn K mainGlobals "_law_take" = some (some (.ref f23))) (l23 : K.lookup f23 = some ⟨oc23, od23, .func (PySem.W.fnOf "_law_take" "_law_take" (defArgs s_l_take) (defBody s_l_take) (defScope s_l_take) .none kV23 dc23 pm23 an23 cd23 ct23), sl23⟩) (c23 : PySem.W.codeIn K cd23 "_law_take" = true) (k23 : PySem.W.keepIn K (.ref f23) = true)
    (a24 : PySem.W.nsIn K mainGlobals "_law_signs" = some (some (.ref f24))) (l24 : K.lookup f24 = some ⟨oc24, od24, .func (PySem.W.fnOf "_law_signs" "_law_signs" (defArgs s_l_signs) (defBody s_l_signs) (defScope s_l_signs) .none kV24 dc24 pm24 an24 cd24 ct24), sl24⟩) (c24 : PySem.W.codeIn K cd24 "_law_signs" = true) (k24 : PySem.W.keepIn K (.ref f24) = true)
    (a25 : PySem.W.nsIn K mainGlobals "_law_some" = some (some (.ref f25))) (l25 : K.lookup f25 = some ⟨oc25, od25, .func (PySem.W.fnOf "_law_some" "_law_some" (defArgs s_l_some) (defBody s_l_some) (defScope s_l_some) .none kV25 dc25 pm25 an25 cd25 ct25), sl25⟩) (c25 : PySem.W.codeIn K cd25 "_law_some" = true) (k25 : PySem.W.keepIn K (.ref f25) = true)
    (a26 : PySem.W.nsIn K mainGlobals "_law_cut_down" = some (some (.ref f26))) (l26 : K.lookup f26 = some ⟨oc26, od26, .func (PySem.W.fnOf "_law_cut_down" "_law_cut_down" (defArgs s_l_cut_down) (defBody s_l_cut_down) (defScope s_l_cut_down) .none kV26 dc26 pm26 an26 cd26 ct26), sl26⟩) (c26 : PySem.W.codeIn K cd26 "_law_cut_down" = true) (k26 : PySem.W.keepIn K (.ref f26) = true)
    (a27 : PySem.W.nsIn K mainGlobals "_law_table" = some (some (.ref f27))) (l27 : K.lookup f27 = some ⟨oc27, od27, .func (PySem.W.fnOf "_law_table" "_law_table" (defArgs s_l_table) (defBody s_l_table) (defScope s_l_table) .none kV27 dc27 pm27 an27 cd27 ct27), sl27⟩) (c27 : PySem.W.codeIn K cd27 "_law_table" = true) (k27 : PySem.W.keepIn K (.ref f27) = true)
    (a28 : PySem.W.nsIn K mainGlobals "_law_doubled" = some (some (.ref f28))) (l28 : K.lookup f28 = some ⟨oc28, od28, .func (PySem.W.fnOf "_law_doubled" "_law_doubled" (defArgs s_l_doubled) (defBody s_l_doubled) (defScope s_l_doubled) .none kV28 dc28 pm28 an28 cd28 ct28), sl28⟩) (c28 : PySem.W.codeIn K cd28 "_law_doubled" = true) (k28 : PySem.W.keepIn K (.ref f28) = true)
    (a29 : PySem.W.nsIn K mainGlobals "_law_bent" = some (some (.ref f29))) (l29 : K.lookup f29 = some ⟨oc29, od29, .func (PySem.W.fnOf "_law_bent" "_law_bent" (defArgs s_l_bent) (defBody s_l_bent) (defScope s_l_bent) .none kV29 dc29 pm29 an29 cd29 ct29), sl29⟩) (c29 : PySem.W.codeIn K cd29 "_law_bent" = true) (k29 : PySem.W.keepIn K (.ref f29) = true)
    (a30 : PySem.W.nsIn K mainGlobals "_law_two" = some (some (.ref f30))) (l30 : K.lookup f30 = some ⟨oc30, od30, .func (PySem.W.fnOf "_law_two" "_law_two" (defArgs s_l_two) (defBody s_l_two) (defScope s_l_two) .none kV30 dc30 pm30 an30 cd30 ct30), sl30⟩) (c30 : PySem.W.codeIn K cd30 "_law_two" = true) (k30 : PySem.W.keepIn K (.ref f30) = true)
    (a31 : PySem.W.nsIn K mainGlobals "_law_text" = some (some (.ref f31))) (l31 : K.lookup f31 = some ⟨oc31, od31, .func (PySem.W.fnOf "_law_text" "_law_text" (defArgs s_l_text) (defBody s_l_text) (defScope s_l_text) .none kV31 dc31 pm31 an31 cd31 ct31), sl31⟩) (c31 : PySem.W.codeIn K cd31 "_law_text" = true) (k31 : PySem.W.keepIn K (.ref f31) = true)
    (a32 : PySem.W.nsIn K mainGlobals "_law_kind" = some (some (.ref f32))) (l32 : K.lookup f32 = some ⟨oc32, od32, .func (PySem.W.fnOf "_law_kind" "_law_kind" (defArgs s_l_kind) (defBody s_l_kind) (defScope s_l_kind) .none kV32 dc32 pm32 an32 cd32 ct32), sl32⟩) (c32 : PySem.W.codeIn K cd32 "_law_kind" = true) (k32 : PySem.W.keepIn K (.ref f32) = true)
    (a33 : PySem.W.nsIn K mainGlobals "_law_alike" = some (some (.ref f33))) (l33 : K.lookup f33 = some ⟨oc33, od33, .func (PySem.W.fnOf "_law_alike" "_law_alike" (defArgs s_l_alike) (defBody s_l_alike) (defScope s_l_alike) .none kV33 dc33 pm33 an33 cd33 ct33), sl33⟩) (c33 : PySem.W.codeIn K cd33 "_law_alike" = true) (k33 : PySem.W.keepIn K (.ref f33) = true)
    (a34 : PySem.W.nsIn K mainGlobals "_law_apart" = some (some (.ref f34))) (l34 : K.lookup f34 = some ⟨oc34, od34, .func (PySem.W.fnOf "_law_apart" "_law_apart" (defArgs s_l_apart) (defBody s_l_apart) (defScope s_l_apart) .none kV34 dc34 pm34 an34 cd34 ct34), sl34⟩) (c34 : PySem.W.codeIn K cd34 "_law_apart" = true) (k34 : PySem.W.keepIn K (.ref f34) = true)
    (a35 : PySem.W.nsIn K mainGlobals "law" = some (some (.ref f35))) (l35 : K.lookup f35 = some ⟨oc35, od35, .func (PySem.W.fnOf "law" "law" (defArgs s_law) (defBody s_law) (defScope s_law) .none kV35 dc35 pm35 an35 cd35 ct35), sl35⟩) (c35 : PySem.W.codeIn K cd35 "law" = true) (k35 : PySem.W.keepIn K (.ref f35) = true)
    (z1 : PySem.W.nsIn K mainGlobals "isinstance" = some none)
    (z2 : PySem.W.nsIn K mainGlobals "len" = some none)
    (z3 : PySem.W.nsIn K mainGlobals "enumerate" = some none)
    (z4 : PySem.W.nsIn K mainGlobals "sorted" = some none)
    (z5 : PySem.W.nsIn K mainGlobals "tuple" = some none)
    (z6 : PySem.W.nsIn K mainGlobals "all" = some none)
    (z7 : PySem.W.nsIn K mainGlobals "zip" = some none)
    (z8 : PySem.W.nsIn K mainGlobals "range" = some none)
    (z9 : PySem.W.nsIn K mainGlobals "max" = some none)
    (z10 : PySem.W.nsIn K mainGlobals "list" = some none)
    (z11 : PySem.W.nsIn K mainGlobals "min" = some none)
    (z12 : PySem.W.nsIn K mainGlobals "abs" = some none)
    (z13 : PySem.W.nsIn K mainGlobals "int" = some none)
    (z14 : PySem.W.nsIn K mainGlobals "bool" = some none)
    (z15 : PySem.W.nsIn K mainGlobals "str" = some none)
    : ∃ fd : FuncData, (∀ (s : Shared) (v : Value), BindsTo s fd ⟨[v], []⟩ [("_law_script", v)]) ∧ ∀ base : Heap, K.In base → base.Ns mainGlobals mg → FnOk l.prog w K mg base CX0 6 fa fd ["_law_script"] (spLaw (K := K)) := by
  have e := hfa.symm.trans (PySem.W.mg_of X G a35)
  cases e
  have B : Gb mg := ⟨PySem.W.mg_none_of X G z1, PySem.W.mg_none_of X G z2, PySem.W.mg_none_of X G z3, PySem.W.mg_none_of X G z4, PySem.W.mg_none_of X G z5, PySem.W.mg_none_of X G z6, PySem.W.mg_none_of X G z7, PySem.W.mg_none_of X G z8, PySem.W.mg_none_of X G z9, PySem.W.mg_none_of X G z10, PySem.W.mg_none_of X G z11, PySem.W.mg_none_of X G z12, PySem.W.mg_none_of X G z13, PySem.W.mg_none_of X G z14, PySem.W.mg_none_of X G z15⟩
  have t1 : At K mg "is_number" s_is_number ["thing"] := at_mk X G a1 l1 c1 k1 fun _ _ _ _ _ _ us hl => match us, hl with | [_], _ => rfl
  have t2 : At K mg "is_numbers" s_is_numbers ["thing"] := at_mk X G a2 l2 c2 k2 fun _ _ _ _ _ _ us hl => match us, hl with | [_], _ => rfl
  have t3 : At K mg "asked_alike" s_asked_alike ["one", "other"] := at_mk X G a3 l3 c3 k3 fun _ _ _ _ _ _ us hl => match us, hl with | [_, _], _ => rfl
  have t4 : At K mg "together" s_together ["one", "other"] := at_mk X G a4 l4 c4 k4 fun _ _ _ _ _ _ us hl => match us, hl with | [_, _], _ => rfl
  have t5 : At K mg "first_parted" s_first_parted ["one", "other", "marks", "others"] := at_mk X G a5 l5 c5 k5 fun _ _ _ _ _ _ us hl => match us, hl with | [_, _, _, _], _ => rfl
  have t6 : At K mg "parted" s_parted ["one", "other"] := at_mk X G a6 l6 c6 k6 fun _ _ _ _ _ _ us hl => match us, hl with | [_, _], _ => rfl
  have t7 : At K mg "pairs" s_pairs ["one", "other"] := at_mk X G a7 l7 c7 k7 fun _ _ _ _ _ _ us hl => match us, hl with | [_, _], _ => rfl
  have t8 : At K mg "is_pair" s_is_pair ["one", "other", "thing"] := at_mk X G a8 l8 c8 k8 fun _ _ _ _ _ _ us hl => match us, hl with | [_, _, _], _ => rfl
  have t9 : At K mg "pairs_hold" s_pairs_hold ["one", "other", "rows"] := at_mk X G a9 l9 c9 k9 fun _ _ _ _ _ _ us hl => match us, hl with | [_, _, _], _ => rfl
  have t10 : At K mg "is_text" s_is_text ["tongue", "thing"] := at_mk X G a10 l10 c10 k10 fun _ _ _ _ _ _ us hl => match us, hl with | [_, _], _ => rfl
  have t11 : At K mg "ahead" s_ahead ["tongue", "one", "other"] := at_mk X G a11 l11 c11 k11 fun _ _ _ _ _ _ us hl => match us, hl with | [_, _, _], _ => rfl
  have t12 : At K mg "longest" s_longest ["table", "text", "at"] := at_mk X G a12 l12 c12 k12 fun _ _ _ _ _ _ us hl => match us, hl with | [_, _, _], _ => rfl
  have t13 : At K mg "cut" s_cut ["table", "text"] := at_mk X G a13 l13 c13 k13 fun _ _ _ _ _ _ us hl => match us, hl with | [_, _], _ => rfl
  have t14 : At K mg "numbered" s_numbered ["keys"] := at_mk X G a14 l14 c14 k14 fun _ _ _ _ _ _ us hl => match us, hl with | [_], _ => rfl
  have t15 : At K mg "finer" s_finer ["goes", "marks"] := at_mk X G a15 l15 c15 k15 fun _ _ _ _ _ _ us hl => match us, hl with | [_, _], _ => rfl
  have t16 : At K mg "classes_of" s_classes_of ["goes", "kinds", "most"] := at_mk X G a16 l16 c16 k16 fun _ _ _ _ _ _ us hl => match us, hl with | [_, _, _], _ => rfl
  have t17 : At K mg "joined" s_joined ["tongue", "goes", "kinds", "marks"] := at_mk X G a17 l17 c17 k17 fun _ _ _ _ _ _ us hl => match us, hl with | [_, _, _, _], _ => rfl
  have t18 : At K mg "in_order" s_in_order ["goes"] := at_mk X G a18 l18 c18 k18 fun _ _ _ _ _ _ us hl => match us, hl with | [_], _ => rfl
  have t19 : At K mg "put_in_order" s_put_in_order ["table"] := at_mk X G a19 l19 c19 k19 fun _ _ _ _ _ _ us hl => match us, hl with | [_], _ => rfl
  have t20 : At K mg "least_of" s_least_of ["table"] := at_mk X G a20 l20 c20 k20 fun _ _ _ _ _ _ us hl => match us, hl with | [_], _ => rfl
  have t21 : At K mg "folding" s_folding ["table"] := at_mk X G a21 l21 c21 k21 fun _ _ _ _ _ _ us hl => match us, hl with | [_], _ => rfl
  have t22 : At K mg "_law_pen" s_l_pen ["_law_script"] := at_mk X G a22 l22 c22 k22 fun _ _ _ _ _ _ us hl => match us, hl with | [_], _ => rfl
  have t23 : At K mg "_law_take" s_l_take ["_law_pen_here", "_law_many"] := at_mk X G a23 l23 c23 k23 fun _ _ _ _ _ _ us hl => match us, hl with | [_, _], _ => rfl
  have t24 : At K mg "_law_signs" s_l_signs [] := at_mk X G a24 l24 c24 k24 fun _ _ _ _ _ _ us hl => match us, hl with | [], _ => rfl
  have t25 : At K mg "_law_some" s_l_some ["_law_pen_here", "_law_rest", "_law_most"] := at_mk X G a25 l25 c25 k25 fun _ _ _ _ _ _ us hl => match us, hl with | [_, _, _], _ => rfl
  have t26 : At K mg "_law_cut_down" s_l_cut_down ["_law_tongue", "_law_goes", "_law_kinds", "_law_turn"] := at_mk X G a26 l26 c26 k26 fun _ _ _ _ _ _ us hl => match us, hl with | [_, _, _, _], _ => rfl
  have t27 : At K mg "_law_table" s_l_table ["_law_pen_here", "_law_tongue", "_law_most"] := at_mk X G a27 l27 c27 k27 fun _ _ _ _ _ _ us hl => match us, hl with | [_, _, _], _ => rfl
  have t28 : At K mg "_law_doubled" s_l_doubled ["_law_pen_here", "_law_table_here"] := at_mk X G a28 l28 c28 k28 fun _ _ _ _ _ _ us hl => match us, hl with | [_, _], _ => rfl
  have t29 : At K mg "_law_bent" s_l_bent ["_law_pen_here", "_law_table_here"] := at_mk X G a29 l29 c29 k29 fun _ _ _ _ _ _ us hl => match us, hl with | [_, _], _ => rfl
  have t30 : At K mg "_law_two" s_l_two ["_law_pen_here"] := at_mk X G a30 l30 c30 k30 fun _ _ _ _ _ _ us hl => match us, hl with | [_], _ => rfl
  have t31 : At K mg "_law_text" s_l_text ["_law_pen_here", "_law_tongue"] := at_mk X G a31 l31 c31 k31 fun _ _ _ _ _ _ us hl => match us, hl with | [_, _], _ => rfl
  have t32 : At K mg "_law_kind" s_l_kind ["_law_table_here", "_law_word"] := at_mk X G a32 l32 c32 k32 fun _ _ _ _ _ _ us hl => match us, hl with | [_, _], _ => rfl
  have t33 : At K mg "_law_alike" s_l_alike ["_law_one", "_law_other", "_law_texts"] := at_mk X G a33 l33 c33 k33 fun _ _ _ _ _ _ us hl => match us, hl with | [_, _, _], _ => rfl
  have t34 : At K mg "_law_apart" s_l_apart ["_law_one", "_law_other", "_law_word", "_law_texts"] := at_mk X G a34 l34 c34 k34 fun _ _ _ _ _ _ us hl => match us, hl with | [_, _, _, _], _ => rfl
  have T : Tops K mg := ⟨t1, t2, t3, t4, t5, t6, t7, t8, t9, t10, t11, t12, t13, t14, t15, t16, t17, t18, t19, t20, t21, t22, t23, t24, t25, t26, t27, t28, t29, t30, t31, t32, t33, t34⟩
  exact ⟨PySem.W.fnOf "law" "law" (defArgs s_law) (defBody s_law) (defScope s_law) .none kV35 dc35 pm35 an35 cd35 ct35, fun s v => .of_eq rfl, fun base _ _ => law_ok T B (fun_mk l35 c35 k35)⟩
end K64
open PySem PySem.W PyProof.Rows
set_option maxHeartbeats 0 in
theorem PySem.Challenge.cw_nearreach_k64_whole_alike_or_parted_holds : PySem.Challenge.rw_nearreach_k64_whole_alike_or_parted.Holds := by
  w_on; o_law; k_head; (case hw => w_witness2)
  k_fill
  refine L2.walk_of (l := PySem.Challenge.rw_nearreach_k64_whole_alike_or_parted) (n := 63) (k := 6) (x := "_law_script") (CX := fun _ => L2.CX0) (sp := fun w => K64.spLaw) rfl (by decide) rfl ⟨rfl, by decide, by decide⟩ (fun w h Y => PySem.W.kIn_of Y) ?F (fun _ _ a ns hl _ hS => ⟨a, ns, rfl, hS, hl, fun _ => rfl⟩) (fun _ _ _ _ _ h => h)
  case F =>
    intro w mg fa h KX G hmg
    refine' K64.all_mk KX G hmg ?a1 ?l1 ?c1 ?k1 ?a2 ?l2 ?c2 ?k2 ?a3 ?l3 ?c3 ?k3 ?a4 ?l4 ?c4 ?k4 ?a5 ?l5 ?c5 ?k5 ?a6 ?l6 ?c6 ?k6 ?a7 ?l7 ?c7 ?k7 ?a8 ?l8 ?c8 ?k8 ?a9 ?l9 ?c9 ?k9 ?a10 ?l10 ?c10 ?k10 ?a11 ?l11 ?c11 ?k11 ?a12 ?l12 ?c12 ?k12 ?a13 ?l13 ?c13 ?k13 ?a14 ?l14 ?c14 ?k14 ?a15 ?l15 ?c15 ?k15 ?a16 ?l16 ?c16 ?k16 ?a17 ?l17 ?c17 ?k17 ?a18 ?l18 ?c18 ?k18 ?a19 ?l19 ?c19 ?k19 ?a20 ?l20 ?c20 ?k20 ?a21 ?l21 ?c21 ?k21 ?a22 ?l22 ?c22 ?k22 ?a23 ?l23 ?c23 ?k23 ?a24 ?l24 ?c24 ?k24 ?a25 ?l25 ?c25 ?k25 ?a26 ?l26 ?c26 ?k26 ?a27 ?l27 ?c27 ?k27 ?a28 ?l28 ?c28 ?k28 ?a29 ?l29 ?c29 ?k29 ?a30 ?l30 ?c30 ?k30 ?a31 ?l31 ?c31 ?k31 ?a32 ?l32 ?c32 ?k32 ?a33 ?l33 ?c33 ?k33 ?a34 ?l34 ?c34 ?k34 ?a35 ?l35 ?c35 ?k35 ?z1 ?z2 ?z3 ?z4 ?z5 ?z6 ?z7 ?z8 ?z9 ?z10 ?z11 ?z12 ?z13 ?z14 ?z15
    (case a1 => k_is); (case l1 => k_is); (case c1 => k_is); (case k1 => k_is); (case a2 => k_is); (case l2 => k_is); (case c2 => k_is); (case k2 => k_is); (case a3 => k_is); (case l3 => k_is); (case c3 => k_is); (case k3 => k_is); (case a4 => k_is); (case l4 => k_is); (case c4 => k_is); (case k4 => k_is); (case a5 => k_is); (case l5 => k_is); (case c5 => k_is); (case k5 => k_is); (case a6 => k_is); (case l6 => k_is); (case c6 => k_is); (case k6 => k_is); (case a7 => k_is); (case l7 => k_is); (case c7 => k_is); (case k7 => k_is); (case a8 => k_is); (case l8 => k_is); (case c8 => k_is); (case k8 => k_is); (case a9 => k_is); (case l9 => k_is); (case c9 => k_is); (case k9 => k_is); (case a10 => k_is); (case l10 => k_is); (case c10 => k_is); (case k10 => k_is); (case a11 => k_is); (case l11 => k_is); (case c11 => k_is); (case k11 => k_is); (case a12 => k_is); (case l12 => k_is); (case c12 => k_is); (case k12 => k_is); (case a13 => k_is); (case l13 => k_is); (case c13 => k_is); (case k13 => k_is); (case a14 => k_is); (case l14 => k_is); (case c14 => k_is); (case k14 => k_is); (case a15 => k_is); (case l15 => k_is); (case c15 => k_is); (case k15 => k_is); (case a16 => k_is); (case l16 => k_is); (case c16 => k_is); (case k16 => k_is); (case a17 => k_is); (case l17 => k_is); (case c17 => k_is); (case k17 => k_is); (case a18 => k_is); (case l18 => k_is); (case c18 => k_is); (case k18 => k_is); (case a19 => k_is); (case l19 => k_is); (case c19 => k_is); (case k19 => k_is); (case a20 => k_is); (case l20 => k_is); (case c20 => k_is); (case k20 => k_is); (case a21 => k_is); (case l21 => k_is); (case c21 => k_is); (case k21 => k_is); (case a22 => k_is); (case l22 => k_is); (case c22 => k_is); (case k22 => k_is); (case a23 => k_is); (case l23 => k_is); (case c23 => k_is); (case k23 => k_is); (case a24 => k_is); (case l24 => k_is); (case c24 => k_is); (case k24 => k_is); (case a25 => k_is); (case l25 => k_is); (case c25 => k_is); (case k25 => k_is); (case a26 => k_is); (case l26 => k_is); (case c26 => k_is); (case k26 => k_is); (case a27 => k_is); (case l27 => k_is); (case c27 => k_is); (case k27 => k_is); (case a28 => k_is); (case l28 => k_is); (case c28 => k_is); (case k28 => k_is); (case a29 => k_is); (case l29 => k_is); (case c29 => k_is); (case k29 => k_is); (case a30 => k_is); (case l30 => k_is); (case c30 => k_is); (case k30 => k_is); (case a31 => k_is); (case l31 => k_is); (case c31 => k_is); (case k31 => k_is); (case a32 => k_is); (case l32 => k_is); (case c32 => k_is); (case k32 => k_is); (case a33 => k_is); (case l33 => k_is); (case c33 => k_is); (case k33 => k_is); (case a34 => k_is); (case l34 => k_is); (case c34 => k_is); (case k34 => k_is); (case a35 => k_is); (case l35 => k_is); (case c35 => k_is); (case k35 => k_is); (case z1 => k_is); (case z2 => k_is); (case z3 => k_is); (case z4 => k_is); (case z5 => k_is); (case z6 => k_is); (case z7 => k_is); (case z8 => k_is); (case z9 => k_is); (case z10 => k_is); (case z11 => k_is); (case z12 => k_is); (case z13 => k_is); (case z14 => k_is); (case z15 => k_is)
