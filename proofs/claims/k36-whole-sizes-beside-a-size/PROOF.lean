import PyProof.Rows.All
import Wide.All
import OpenK.AllK
import Wide.FinOn
import HandS.ForMost
import HandS.Set
import HandS.Strs
import HandS.SetBool
import KE.KDictDisplayH
import HandS.SetKeys
import HandS.IsInst
import HandS.Wide
import HandS.WideBits
import HandS.TupAny
import HandS.Walk
import HandS.EndBits
import PySem.Challenge.RW_allwordlengths_k36_whole_sizes_beside_a
set_option Elab.async false
set_option linter.all false
section
/-! Machines as lists of rows; words; order; renumbering; merging. Plain Lean. -/
set_option linter.all false
namespace W36
abbrev Row := Nat × Nat × Nat

def step (R : List Row) (q d : Nat) : Nat := match R[q]? with
  | some r => if d = 0 then r.1 else r.2.1
  | none => 0
def ins (R : List Row) (q : Nat) : Nat := match R[q]? with
  | some r => r.2.2
  | none => 0
def run (R : List Row) : Nat → List Nat → Nat
  | q, [] => q
  | q, d :: w => run R (step R q d) w
structure Valid (R : List Row) : Prop where
  z : ∀ (q : Nat) (r : Row), R[q]? = some r → r.1 < R.length
  o : ∀ (q : Nat) (r : Row), R[q]? = some r → r.2.1 < R.length
  i : ∀ (q : Nat) (r : Row), R[q]? = some r → r.2.2 ≤ 1

theorem run_append (R : List Row) : ∀ (q : Nat) (u v : List Nat), run R q (u ++ v) = run R (run R q u) v
  | _, [], _ => rfl
  | q, d :: u, v => run_append R (step R q d) u v
theorem run_one (R : List Row) (q d : Nat) : run R q [d] = step R q d := rfl
theorem run_snoc (R : List Row) (q : Nat) (u : List Nat) (d : Nat) : run R q (u ++ [d]) = step R (run R q u) d := by
  rw [run_append]; rfl
theorem get_lt {α : Type} {l : List α} {q : Nat} (h : q < l.length) : ∃ r, l[q]? = some r := ⟨l[q], List.getElem?_eq_getElem h⟩
theorem lt_get {α : Type} {l : List α} {q : Nat} {r : α} (h : l[q]? = some r) : q < l.length := (List.getElem?_eq_some_iff.mp h).1
theorem step_lt {R : List Row} (v : Valid R) {q : Nat} (h : q < R.length) (d : Nat) : step R q d < R.length := by
  obtain ⟨r, e⟩ := get_lt h
  unfold step
  rw [e]
  show (if d = 0 then r.1 else r.2.1) < R.length
  by_cases hd : d = 0
  · rw [if_pos hd]; exact v.z q r e
  · rw [if_neg hd]; exact v.o q r e
theorem ins_le {R : List Row} (v : Valid R) (q : Nat) : ins R q ≤ 1 := by
  unfold ins
  cases e : R[q]? with
  | none => exact Nat.zero_le _
  | some r => exact v.i q r e
theorem run_lt {R : List Row} (v : Valid R) : ∀ (w : List Nat) {q : Nat}, q < R.length → run R q w < R.length
  | [], _, h => h
  | d :: w, _, h => run_lt v w (step_lt v h d)
theorem step_get {R : List Row} {q : Nat} {r : Row} (h : R[q]? = some r) (d : Nat) : step R q d = if d = 0 then r.1 else r.2.1 := by
  unfold step; rw [h]
theorem ins_get {R : List Row} {q : Nat} {r : Row} (h : R[q]? = some r) : ins R q = r.2.2 := by
  unfold ins; rw [h]
theorem step_pos {R : List Row} {q d : Nat} (h : d ≠ 0) : step R q d = step R q 1 := by
  unfold step
  cases R[q]? with
  | none => rfl
  | some r => show (if d = 0 then r.1 else r.2.1) = (if 1 = 0 then r.1 else r.2.1); rw [if_neg h, if_neg (by decide)]

/-- all rows of digits lead both in or both out -/
def Eqv (R : List Row) (i j : Nat) : Prop := ∀ w, ins R (run R i w) = ins R (run R j w)
theorem Eqv.refl (R : List Row) (i : Nat) : Eqv R i i := fun _ => rfl
theorem Eqv.symm {R : List Row} {i j : Nat} (h : Eqv R i j) : Eqv R j i := fun w => (h w).symm
theorem Eqv.trans {R : List Row} {i j k : Nat} (h : Eqv R i j) (g : Eqv R j k) : Eqv R i k := fun w => (h w).trans (g w)
theorem Eqv.step {R : List Row} {i j : Nat} (h : Eqv R i j) (d : Nat) : Eqv R (step R i d) (step R j d) := fun w => h (d :: w)
theorem Eqv.ins {R : List Row} {i j : Nat} (h : Eqv R i j) : ins R i = ins R j := h []
theorem Eqv.run {R : List Row} {i j : Nat} (h : Eqv R i j) : ∀ w, Eqv R (run R i w) (run R j w) := fun w u => by
  rw [← run_append, ← run_append]; exact h (w ++ u)

/-! ### pigeonhole -/
theorem nodup_le : ∀ (n : Nat) (l : List Nat), l.Nodup → (∀ x ∈ l, x < n) → l.length ≤ n
  | 0, [], _, _ => Nat.le_refl _
  | 0, x :: l, _, h => absurd (h x List.mem_cons_self) (Nat.not_lt_zero _)
  | n + 1, l, hn, h => by
    have h2 : (l.filter fun x => decide (x ≠ n)).length ≤ n := nodup_le n _ (hn.sublist List.filter_sublist) fun x hx => by
      have h3 := List.mem_filter.mp hx
      have h4 := h x h3.1
      have h5 : x ≠ n := of_decide_eq_true h3.2
      omega
    have h6 : ∀ (l : List Nat), l.Nodup → l.length ≤ (l.filter fun x => decide (x ≠ n)).length + 1 := by
      intro l hl
      induction l with
      | nil => exact Nat.zero_le _
      | cons x r ih =>
        obtain ⟨a, b⟩ := List.nodup_cons.mp hl
        by_cases e : x = n
        · have e2 : r.filter (fun x => decide (x ≠ n)) = r := List.filter_eq_self.mpr fun y hy => decide_eq_true fun z => a (by rw [e, ← z]; exact hy)
          rw [List.filter_cons, if_neg (by simp [e]), e2]
          exact Nat.le_refl _
        · rw [List.filter_cons, if_pos (by simp [e])]
          have := ih b
          simp only [List.length_cons]
          omega
    have := h6 l hn
    omega
theorem pigeon (n : Nat) (f : Nat → Nat) (h : ∀ i, i ≤ n → f i < n) : ∃ i j, i < j ∧ j ≤ n ∧ f i = f j := by
  apply Classical.byContradiction
  intro hc
  have nd : ((List.range (n + 1)).map f).Nodup := by
    refine List.pairwise_map.mpr (List.Pairwise.imp_of_mem ?_ (List.pairwise_lt_range (n := n + 1)))
    intro a b ha hb hab e
    exact hc ⟨a, b, hab, by have := List.mem_range.mp hb; omega, e⟩
  have := nodup_le n _ nd fun x hx => by
    obtain ⟨i, hi, rfl⟩ := List.mem_map.mp hx
    exact h i (by have := List.mem_range.mp hi; omega)
  simp at this
  omega

/-! ### the order of the first rows of digits -/
def visit (found : List Nat) (t : Nat) : List Nat := if t ∈ found then found else found ++ [t]
def ordGo (R : List Row) : Nat → Nat → List Nat → List Nat
  | 0, _, f => f
  | k + 1, at_, f => if at_ < f.length then ordGo R k (at_ + 1) (visit (visit f (step R (f.getD at_ 0) 0)) (step R (f.getD at_ 0) 1)) else f
def order (R : List Row) (start : Nat) : List Nat := ordGo R R.length 0 [start]

theorem visit_sub (f : List Nat) (t : Nat) : ∃ g, visit f t = f ++ g := by
  unfold visit
  by_cases h : t ∈ f
  · exact ⟨[], by rw [if_pos h, List.append_nil]⟩
  · exact ⟨[t], by rw [if_neg h]⟩
theorem visit_mem {f : List Nat} {t x : Nat} : x ∈ visit f t ↔ x ∈ f ∨ x = t := by
  unfold visit
  by_cases h : t ∈ f
  · rw [if_pos h]
    exact ⟨fun a => .inl a, fun a => a.elim id fun e => e ▸ h⟩
  · rw [if_neg h, List.mem_append, List.mem_singleton]
theorem visit_nd {f : List Nat} {t : Nat} (h : f.Nodup) : (visit f t).Nodup := by
  unfold visit
  by_cases e : t ∈ f
  · rw [if_pos e]; exact h
  · rw [if_neg e]
    refine List.nodup_append.mpr ⟨h, by simp, fun a ha b hb => ?_⟩
    rw [List.mem_singleton.mp hb]
    exact fun z => e (z ▸ ha)
/-- what a search keeps: found so far, up to at_ all successors are found -/
structure Seek (R : List Row) (start at_ : Nat) (f : List Nat) : Prop where
  nd : f.Nodup
  lt : ∀ x ∈ f, x < R.length
  head : f[0]? = some start
  le : at_ ≤ f.length
  closed : ∀ i q, i < at_ → f[i]? = some q → ∀ d, step R q d ∈ f
  reach : ∀ x ∈ f, ∃ w, run R start w = x
theorem Seek.init {R : List Row} {start : Nat} (h : start < R.length) : Seek R start 0 [start] :=
  ⟨by simp, fun x hx => by rw [List.mem_singleton.mp hx]; exact h, rfl, Nat.zero_le _, fun i q hi => absurd hi (Nat.not_lt_zero _), fun x hx => ⟨[], by rw [List.mem_singleton.mp hx]; rfl⟩⟩
theorem Seek.len {R : List Row} {start at_ : Nat} {f : List Nat} (S : Seek R start at_ f) : f.length ≤ R.length := nodup_le _ _ S.nd S.lt
theorem Seek.next {R : List Row} {start at_ : Nat} {f : List Nat} (v : Valid R) (S : Seek R start at_ f) (h : at_ < f.length) :
    Seek R start (at_ + 1) (visit (visit f (step R (f.getD at_ 0) 0)) (step R (f.getD at_ 0) 1)) := by
  have e : f[at_]? = some (f.getD at_ 0) := by
    rw [List.getD_eq_getElem?_getD, List.getElem?_eq_getElem h]; rfl
  generalize f.getD at_ 0 = q at e
  have hq : q ∈ f := List.mem_of_getElem? e
  have hql := S.lt q hq
  obtain ⟨g1, e1⟩ := visit_sub f (step R q 0)
  obtain ⟨g2, e2⟩ := visit_sub (visit f (step R q 0)) (step R q 1)
  have sub : ∀ x, x ∈ f → x ∈ visit (visit f (step R q 0)) (step R q 1) := fun x hx => visit_mem.mpr (.inl (visit_mem.mpr (.inl hx)))
  have big : visit (visit f (step R q 0)) (step R q 1) = f ++ (g1 ++ g2) := by rw [e2, e1, List.append_assoc]
  refine ⟨visit_nd (visit_nd S.nd), fun x hx => ?_, ?_, ?_, fun i p hi ep d => ?_, fun x hx => ?_⟩
  · rcases visit_mem.mp hx with hx | rfl
    · rcases visit_mem.mp hx with hx | rfl
      · exact S.lt x hx
      · exact step_lt v hql 0
    · exact step_lt v hql 1
  · rw [big, List.getElem?_append_left (by omega)]; exact S.head
  · rw [big, List.length_append]; omega
  · have hif : i < f.length := by omega
    rw [big, List.getElem?_append_left hif] at ep
    by_cases hi2 : i < at_
    · exact sub _ (S.closed i p hi2 ep d)
    · have : i = at_ := by omega
      subst this
      rw [e] at ep
      cases ep
      by_cases hd : d = 0
      · subst hd
        exact visit_mem.mpr (.inl (visit_mem.mpr (.inr rfl)))
      · rw [step_pos hd]
        exact visit_mem.mpr (.inr rfl)
  · have hr := S.reach q hq
    obtain ⟨w, hw⟩ := hr
    rcases visit_mem.mp hx with hx | rfl
    · rcases visit_mem.mp hx with hx | rfl
      · exact S.reach x hx
      · exact ⟨w ++ [0], by rw [run_snoc, hw]⟩
    · exact ⟨w ++ [1], by rw [run_snoc, hw]⟩
theorem ordGo_ok {R : List Row} {start : Nat} (v : Valid R) : ∀ (k at_ : Nat) (f : List Nat), k + at_ = R.length → Seek R start at_ f → Seek R start (ordGo R k at_ f).length (ordGo R k at_ f)
  | 0, at_, f, hk, S => by
    have := S.len
    have := S.le
    show Seek R start f.length f
    have e : f.length = at_ := by omega
    rw [e]; exact S
  | k + 1, at_, f, hk, S => by
    unfold ordGo
    by_cases h : at_ < f.length
    · rw [if_pos h]
      exact ordGo_ok v k (at_ + 1) _ (by omega) (S.next v h)
    · rw [if_neg h]
      have := S.le
      have e : f.length = at_ := by omega
      rw [e]; exact S
theorem order_ok {R : List Row} {start : Nat} (v : Valid R) (h : start < R.length) : Seek R start (order R start).length (order R start) :=
  ordGo_ok v _ _ _ (by omega) (.init h)
theorem order_step {R : List Row} {start : Nat} (v : Valid R) (h : start < R.length) {q : Nat} (hq : q ∈ order R start) (d : Nat) : step R q d ∈ order R start := by
  obtain ⟨i, hi, e⟩ := List.getElem_of_mem hq
  exact (order_ok v h).closed i q hi (by rw [List.getElem?_eq_getElem hi, e]) d

/-! ### renumbering -/
def renum (R : List Row) (ord : List Nat) : List Row := ord.map fun q => (ord.idxOf (step R q 0), ord.idxOf (step R q 1), ins R q)
theorem renum_get {R : List Row} {ord : List Nat} {i q : Nat} (h : ord[i]? = some q) : (renum R ord)[i]? = some (ord.idxOf (step R q 0), ord.idxOf (step R q 1), ins R q) := by
  unfold renum; rw [List.getElem?_map, h]; rfl
theorem get_idxOf {ord : List Nat} {q : Nat} (h : q ∈ ord) : ord[ord.idxOf q]? = some q := by
  have hl := List.idxOf_lt_length_of_mem h
  rw [List.getElem?_eq_getElem hl, List.getElem_idxOf hl]
theorem renum_len (R : List Row) (ord : List Nat) : (renum R ord).length = ord.length := by unfold renum; rw [List.length_map]
theorem renum_step {R : List Row} {ord : List Nat} {i q : Nat} (hc : ∀ q ∈ ord, ∀ d, step R q d ∈ ord) (h : ord[i]? = some q) (d : Nat) : ord[step (renum R ord) i d]? = some (step R q d) := by
  have hq := List.mem_of_getElem? h
  rw [step_get (renum_get h)]
  by_cases hd : d = 0
  · subst hd
    rw [if_pos rfl]
    exact get_idxOf (hc q hq 0)
  · rw [if_neg hd, step_pos hd]
    exact get_idxOf (hc q hq 1)
theorem renum_run {R : List Row} {ord : List Nat} (hc : ∀ q ∈ ord, ∀ d, step R q d ∈ ord) : ∀ (w : List Nat) {i q : Nat}, ord[i]? = some q → ord[run (renum R ord) i w]? = some (run R q w)
  | [], _, _, h => h
  | d :: w, _, _, h => renum_run hc w (renum_step hc h d)
theorem renum_acc {R : List Row} {ord : List Nat} (hc : ∀ q ∈ ord, ∀ d, step R q d ∈ ord) {i q : Nat} (h : ord[i]? = some q) (w : List Nat) : ins (renum R ord) (run (renum R ord) i w) = ins R (run R q w) :=
  ins_get (renum_get (renum_run hc w h))
theorem renum_valid {R : List Row} (v : Valid R) {ord : List Nat} (hc : ∀ q ∈ ord, ∀ d, step R q d ∈ ord) : Valid (renum R ord) := by
  have key : ∀ (i : Nat) (r : Row), (renum R ord)[i]? = some r → ∃ q ∈ ord, r = (ord.idxOf (step R q 0), ord.idxOf (step R q 1), ins R q) := fun i r h => by
    have hl := lt_get h
    rw [renum_len] at hl
    obtain ⟨q, e⟩ := get_lt hl
    rw [renum_get e] at h
    exact ⟨q, List.mem_of_getElem? e, (Option.some.inj h).symm⟩
  refine ⟨fun i r h => ?_, fun i r h => ?_, fun i r h => ?_⟩
  · obtain ⟨q, hq, rfl⟩ := key i r h
    rw [renum_len]
    exact List.idxOf_lt_length_of_mem (hc q hq 0)
  · obtain ⟨q, hq, rfl⟩ := key i r h
    rw [renum_len]
    exact List.idxOf_lt_length_of_mem (hc q hq 1)
  · obtain ⟨q, hq, rfl⟩ := key i r h
    exact ins_le v q
theorem eqv_renum {R : List Row} {ord : List Nat} (hc : ∀ q ∈ ord, ∀ d, step R q d ∈ ord) {i j p q : Nat} (hi : ord[i]? = some p) (hj : ord[j]? = some q) : Eqv (renum R ord) i j ↔ Eqv R p q := by
  constructor
  · intro h w
    have := h w
    rw [renum_acc hc hi, renum_acc hc hj] at this
    exact this
  · intro h w
    rw [renum_acc hc hi, renum_acc hc hj]
    exact h w

/-! ### merging -/
open Classical in
noncomputable def rep (R : List Row) (i : Nat) : Nat := ((List.range R.length).find? fun j => decide (Eqv R j i)).getD i
theorem rep_spec (R : List Row) {i : Nat} (h : i < R.length) : rep R i < R.length ∧ Eqv R (rep R i) i ∧ ∀ j, j < rep R i → ¬ Eqv R j i := by
  classical
  have ht : ∃ j, (List.range R.length).find? (fun j => decide (Eqv R j i)) = some j := by
    cases e : (List.range R.length).find? (fun j => decide (Eqv R j i)) with
    | some j => exact ⟨j, rfl⟩
    | none =>
      have := List.find?_eq_none.mp e i (List.mem_range.mpr h)
      simp [Eqv.refl] at this
  obtain ⟨j, hj⟩ := ht
  have er : rep R i = j := by
    unfold rep
    rw [show (List.range R.length).find? (fun j => decide (Eqv R j i)) = some j from hj]
    rfl
  have h1 := List.mem_range.mp (List.mem_of_find?_eq_some hj)
  have h2 : Eqv R j i := by
    have := List.find?_some hj
    simpa using this
  rw [er]
  refine ⟨h1, h2, fun k hk hq => ?_⟩
  obtain ⟨_, as, bs, hl, hno⟩ := List.find?_eq_some_iff_append.mp hj
  have hsub : k ∈ as := by
    have hkr : k ∈ List.range R.length := List.mem_range.mpr (by omega)
    rw [hl] at hkr
    rcases List.mem_append.mp hkr with a | a
    · exact a
    · exfalso
      have hp : (List.range R.length).Pairwise (· < ·) := List.pairwise_lt_range
      rw [hl] at hp
      have hp2 := (List.pairwise_append.mp hp).2.1
      rcases List.mem_cons.mp a with e | a
      · omega
      · have := (List.pairwise_cons.mp hp2).1 k a
        omega
  have := hno k hsub
  simp [hq] at this
theorem rep_of_least {R : List Row} {i j : Nat} (hi : i < R.length) (h : Eqv R j i) (hl : ∀ k, k < j → ¬ Eqv R k i) : rep R i = j := by
  obtain ⟨_, h2, h3⟩ := rep_spec R hi
  rcases Nat.lt_trichotomy (rep R i) j with a | a | a
  · exact absurd h2 (hl _ a)
  · exact a
  · exact absurd h (h3 _ a)
theorem rep_congr {R : List Row} {i j : Nat} (hi : i < R.length) (hj : j < R.length) (h : Eqv R i j) : rep R i = rep R j := by
  obtain ⟨_, h2, h3⟩ := rep_spec R hj
  exact rep_of_least hi (h2.trans h.symm) fun k hk e => h3 k hk (e.trans h)
noncomputable def merge (R : List Row) : List Row := (List.range R.length).map fun q => (rep R (step R q 0), rep R (step R q 1), ins R q)
theorem merge_len (R : List Row) : (merge R).length = R.length := by unfold merge; rw [List.length_map, List.length_range]
theorem merge_get {R : List Row} {q : Nat} (h : q < R.length) : (merge R)[q]? = some (rep R (step R q 0), rep R (step R q 1), ins R q) := by
  unfold merge
  rw [List.getElem?_map, List.getElem?_range h]; rfl
theorem merge_ins {R : List Row} {q : Nat} (h : q < R.length) : ins (merge R) q = ins R q := ins_get (merge_get h)
theorem merge_step {R : List Row} {q : Nat} (h : q < R.length) (d : Nat) : step (merge R) q d = rep R (step R q d) := by
  rw [step_get (merge_get h)]
  by_cases hd : d = 0
  · subst hd; rw [if_pos rfl]
  · rw [if_neg hd, step_pos hd]
theorem merge_run {R : List Row} (v : Valid R) : ∀ (w : List Nat) {q p : Nat}, q < R.length → p < R.length → Eqv R q p → Eqv R (run (merge R) q w) (run R p w) ∧ run (merge R) q w < R.length
  | [], _, _, hq, _, h => ⟨h, hq⟩
  | d :: w, q, p, hq, hp, h => by
    show Eqv R (run (merge R) (step (merge R) q d) w) (run R (step R p d) w) ∧ run (merge R) (step (merge R) q d) w < R.length
    rw [merge_step hq]
    obtain ⟨a, b, _⟩ := rep_spec R (step_lt v hq d)
    exact merge_run v w a (step_lt v hp d) (b.trans (h.step d))
theorem merge_acc {R : List Row} (v : Valid R) {q : Nat} (hq : q < R.length) (w : List Nat) : ins (merge R) (run (merge R) q w) = ins R (run R q w) := by
  obtain ⟨a, b⟩ := merge_run v w hq hq (Eqv.refl R q)
  rw [merge_ins b]; exact a.ins
theorem merge_valid {R : List Row} (v : Valid R) : Valid (merge R) := by
  have key : ∀ (i : Nat) (r : Row), (merge R)[i]? = some r → i < R.length ∧ r = (rep R (step R i 0), rep R (step R i 1), ins R i) := fun i r h => by
    have hl := lt_get h
    rw [merge_len] at hl
    rw [merge_get hl] at h
    exact ⟨hl, (Option.some.inj h).symm⟩
  refine ⟨fun i r h => ?_, fun i r h => ?_, fun i r h => ?_⟩
  · obtain ⟨hi, rfl⟩ := key i r h
    rw [merge_len]; exact (rep_spec R (step_lt v hi 0)).1
  · obtain ⟨hi, rfl⟩ := key i r h
    rw [merge_len]; exact (rep_spec R (step_lt v hi 1)).1
  · obtain ⟨hi, rfl⟩ := key i r h
    exact ins_le v i

/-! ### the least rows -/
noncomputable def least (R : List Row) (start : Nat) : List Row :=
  renum (merge (renum R (order R start))) (order (merge (renum R (order R start))) (rep (renum R (order R start)) 0))
structure LeastOk (R : List Row) (start : Nat) (D : List Row) : Prop where
  valid : Valid D
  pos : 0 < D.length
  le : D.length ≤ R.length
  acc : ∀ w, ins D (run D 0 w) = ins R (run R start w)
  apart : ∀ i j, i < D.length → j < D.length → Eqv D i j → i = j
  reach : ∀ i, i < D.length → ∃ w, run D 0 w = i
theorem least_ok {R : List Row} {start : Nat} (v : Valid R) (h : start < R.length) : LeastOk R start (least R start) := by
  have S1 := order_ok v h
  have c1 : ∀ q ∈ order R start, ∀ d, step R q d ∈ order R start := fun q hq d => order_step v h hq d
  have v1 : Valid (renum R (order R start)) := renum_valid v c1
  have l1 : 0 < (renum R (order R start)).length := by rw [renum_len]; exact lt_get S1.head
  have le1 : (renum R (order R start)).length ≤ R.length := by rw [renum_len]; exact S1.len
  have a1 : ∀ w, ins (renum R (order R start)) (run (renum R (order R start)) 0 w) = ins R (run R start w) := fun w => renum_acc c1 S1.head w
  unfold least
  generalize renum R (order R start) = K at v1 l1 le1 a1
  obtain ⟨r1, r2, r3⟩ := rep_spec K l1
  have v2 := merge_valid v1
  have r1' : rep K 0 < (merge K).length := by rw [merge_len]; exact r1
  have S2 := order_ok v2 r1'
  have c2 : ∀ q ∈ order (merge K) (rep K 0), ∀ d, step (merge K) q d ∈ order (merge K) (rep K 0) := fun q hq d => order_step v2 r1' hq d
  have lt2 : ∀ q ∈ order (merge K) (rep K 0), q < K.length := fun q hq => by have := S2.lt q hq; rw [merge_len] at this; exact this
  refine ⟨renum_valid v2 c2, by rw [renum_len]; exact lt_get S2.head, ?_, fun w => ?_, fun i j hi hj he => ?_, fun i hi => ?_⟩
  · rw [renum_len]
    have := S2.len
    rw [merge_len] at this
    exact Nat.le_trans this le1
  · rw [renum_acc c2 S2.head, merge_acc v1 r1, ← a1 w]
    exact r2 w
  · rw [renum_len] at hi hj
    obtain ⟨p, ep⟩ := get_lt hi
    obtain ⟨q, eq⟩ := get_lt hj
    have e1 := (eqv_renum c2 ep eq).mp he
    have hp := lt2 p (List.mem_of_getElem? ep)
    have hq := lt2 q (List.mem_of_getElem? eq)
    have e2 : Eqv K p q := fun w => by
      have := e1 w
      rw [merge_acc v1 hp, merge_acc v1 hq] at this
      exact this
    -- both are their own representatives
    have own : ∀ x ∈ order (merge K) (rep K 0), rep K x = x := fun x hx => by
      obtain ⟨w, hw⟩ := S2.reach x hx
      have : ∀ (w : List Nat) (y : Nat), y < K.length → rep K y = y → rep K (run (merge K) y w) = run (merge K) y w := by
        intro w
        induction w with
        | nil => exact fun y _ e => e
        | cons d w ih =>
          intro y hy _
          show rep K (run (merge K) (step (merge K) y d) w) = run (merge K) (step (merge K) y d) w
          rw [merge_step hy]
          obtain ⟨b1, b2, _⟩ := rep_spec K (step_lt v1 hy d)
          exact ih _ b1 (rep_congr b1 (step_lt v1 hy d) b2)
      have h0 := this w (rep K 0) r1 (rep_congr r1 l1 r2)
      rw [hw] at h0
      exact h0
    have epq : p = q := by
      rw [← own p (List.mem_of_getElem? ep), ← own q (List.mem_of_getElem? eq)]
      exact rep_congr hp hq e2
    subst epq
    have hi' : i < (order (merge K) (rep K 0)).length := hi
    obtain ⟨_, e3⟩ := List.getElem?_eq_some_iff.mp ep
    obtain ⟨_, e4⟩ := List.getElem?_eq_some_iff.mp eq
    exact (List.getElem_inj S2.nd).mp (e3.trans e4.symm)
  · rw [renum_len] at hi
    obtain ⟨p, ep⟩ := get_lt hi
    obtain ⟨w, hw⟩ := S2.reach p (List.mem_of_getElem? ep)
    refine ⟨w, ?_⟩
    have h0 := renum_run c2 w S2.head
    rw [hw] at h0
    obtain ⟨_, e3⟩ := List.getElem?_eq_some_iff.mp ep
    obtain ⟨_, e4⟩ := List.getElem?_eq_some_iff.mp h0
    exact (List.getElem_inj S2.nd).mp (e4.trans e3.symm)
end W36
end

section
/-! Digits, what machines tell of numbers, pumping. -/
set_option linter.all false
namespace W36
def val : List Nat → Nat
  | [] => 0
  | d :: w => d + 2 * val w
def bits (n : Nat) : List Nat := if h : n = 0 then [] else (n % 2) :: bits (n / 2)
termination_by n
decreasing_by omega
def Dig (w : List Nat) : Prop := ∀ d ∈ w, d ≤ 1
theorem Dig.nil : Dig [] := fun _ h => by cases h
theorem Dig.cons {d : Nat} {w : List Nat} (h : d ≤ 1) (g : Dig w) : Dig (d :: w) := fun x hx => (List.mem_cons.mp hx).elim (fun e => e ▸ h) (g x)
theorem Dig.app {u v : List Nat} (h : Dig u) (g : Dig v) : Dig (u ++ v) := fun x hx => (List.mem_append.mp hx).elim (h x) (g x)
theorem Dig.left {u v : List Nat} (h : Dig (u ++ v)) : Dig u := fun x hx => h x (List.mem_append_left _ hx)
theorem Dig.right {u v : List Nat} (h : Dig (u ++ v)) : Dig v := fun x hx => h x (List.mem_append_right _ hx)
theorem Dig.take {w : List Nat} (h : Dig w) (n : Nat) : Dig (w.take n) := fun x hx => h x (List.mem_of_mem_take hx)
theorem Dig.drop {w : List Nat} (h : Dig w) (n : Nat) : Dig (w.drop n) := fun x hx => h x (List.mem_of_mem_drop hx)
theorem Dig.one : Dig [1] := Dig.cons (Nat.le_refl _) Dig.nil
theorem bits_zero : bits 0 = [] := by unfold bits; rw [dif_pos rfl]
theorem bits_pos {n : Nat} (h : n ≠ 0) : bits n = (n % 2) :: bits (n / 2) := by
  rw [bits]; rw [dif_neg h]
theorem bits_dig (n : Nat) : Dig (bits n) := by
  induction n using Nat.strongRecOn with
  | ind n ih =>
    by_cases h : n = 0
    · subst h; rw [bits_zero]; exact Dig.nil
    · rw [bits_pos h]
      exact Dig.cons (by omega) (ih (n / 2) (by omega))
theorem val_bits (n : Nat) : val (bits n) = n := by
  induction n using Nat.strongRecOn with
  | ind n ih =>
    by_cases h : n = 0
    · subst h; rw [bits_zero]; rfl
    · rw [bits_pos h]
      show n % 2 + 2 * val (bits (n / 2)) = n
      rw [ih (n / 2) (by omega)]
      omega
theorem val_append : ∀ (u v : List Nat), val (u ++ v) = val u + 2 ^ u.length * val v
  | [], v => by simp [val]
  | d :: u, v => by
    show d + 2 * val (u ++ v) = d + 2 * val u + 2 ^ (u.length + 1) * val v
    rw [val_append u v, Nat.pow_succ, Nat.mul_add, Nat.add_assoc]
    congr 2
    rw [Nat.mul_comm (2 ^ u.length) 2, Nat.mul_assoc]
theorem val_lt : ∀ {w : List Nat}, Dig w → val w < 2 ^ w.length
  | [], _ => by simp [val]
  | d :: w, h => by
    have h1 := h d List.mem_cons_self
    have h2 := val_lt (w := w) fun x hx => h x (List.mem_cons_of_mem _ hx)
    show d + 2 * val w < 2 ^ (w.length + 1)
    rw [Nat.pow_succ]
    omega
theorem val_zeros : ∀ (w : List Nat), (∀ d ∈ w, d = 0) → val w = 0
  | [], _ => rfl
  | d :: w, h => by
    show d + 2 * val w = 0
    rw [h d List.mem_cons_self, val_zeros w fun x hx => h x (List.mem_cons_of_mem _ hx)]
theorem bits_double {n : Nat} (h : n ≠ 0) {d : Nat} (hd : d ≤ 1) : bits (d + 2 * n) = d :: bits n := by
  rw [bits_pos (by omega)]
  have e1 : (d + 2 * n) % 2 = d := by omega
  have e2 : (d + 2 * n) / 2 = n := by omega
  rw [e1, e2]
theorem bits_one : bits 1 = [1] := by rw [bits_pos (by decide)]; show 1 :: bits 0 = [1]; rw [bits_zero]
theorem bits_top : ∀ {w : List Nat}, Dig w → bits (val (w ++ [1])) = w ++ [1]
  | [], _ => bits_one
  | d :: w, h => by
    have h1 := h d List.mem_cons_self
    have ih := bits_top (w := w) fun x hx => h x (List.mem_cons_of_mem _ hx)
    show bits (d + 2 * val (w ++ [1])) = d :: (w ++ [1])
    rw [bits_double ?_ h1, ih]
    rw [val_append]
    show val w + 2 ^ w.length * 1 ≠ 0
    have := Nat.two_pow_pos w.length
    omega
theorem bits_split {k : Nat} (h : k ≠ 0) : ∃ w, Dig w ∧ bits k = w ++ [1] := by
  induction k using Nat.strongRecOn with
  | ind k ih =>
    by_cases h2 : k / 2 = 0
    · have : k = 1 := by omega
      subst this
      exact ⟨[], Dig.nil, bits_one⟩
    · obtain ⟨w, hw, e⟩ := ih (k / 2) (by omega) h2
      refine ⟨(k % 2) :: w, Dig.cons (by omega) hw, ?_⟩
      rw [bits_pos h, e]; rfl
theorem len_le_iff {k L : Nat} : (bits k).length ≤ L ↔ k < 2 ^ L := by
  induction k using Nat.strongRecOn generalizing L with
  | ind k ih =>
    by_cases h : k = 0
    · subst h
      rw [bits_zero]
      exact ⟨fun _ => Nat.two_pow_pos L, fun _ => Nat.zero_le _⟩
    · rw [bits_pos h]
      cases L with
      | zero => simp; omega
      | succ L =>
        have := ih (k / 2) (by omega) (L := L)
        simp only [List.length_cons, Nat.add_le_add_iff_right]
        rw [this, Nat.pow_succ]
        omega
theorem len_lt_iff {k L : Nat} : L < (bits k).length ↔ 2 ^ L ≤ k := by
  have := @len_le_iff k L
  omega
/-- a number's digits, padded -/
theorem pad {k L : Nat} (h : k < 2 ^ L) : ∃ w, Dig w ∧ w.length = L ∧ val w = k := by
  refine ⟨bits k ++ List.replicate (L - (bits k).length) 0, (bits_dig k).app fun d hd => ?_, ?_, ?_⟩
  · rw [List.eq_of_mem_replicate hd]; exact Nat.zero_le _
  · have := len_le_iff.mpr h
    simp; omega
  · rw [val_append, val_bits, val_zeros _ fun d hd => List.eq_of_mem_replicate hd]; simp
theorem val_inj : ∀ {u v : List Nat}, Dig u → Dig v → u.length = v.length → val u = val v → u = v
  | [], [], _, _, _, _ => rfl
  | [], _ :: _, _, _, h, _ => by simp at h
  | _ :: _, [], _, _, h, _ => by simp at h
  | a :: u, b :: v, hu, hv, hl, he => by
    have a1 := hu a List.mem_cons_self
    have b1 := hv b List.mem_cons_self
    have he : a + 2 * val u = b + 2 * val v := he
    have e1 : a = b := by omega
    have e2 : val u = val v := by omega
    rw [e1, val_inj (fun x hx => hu x (List.mem_cons_of_mem _ hx)) (fun x hx => hv x (List.mem_cons_of_mem _ hx)) (by simpa using hl) e2]

/-! ### what rows tell: the digits up to the highest 1 -/
def memb (R : List Row) (k : Nat) : Nat := if k = 0 then 0 else ins R (run R 0 (bits k))
theorem memb_zero (R : List Row) : memb R 0 = 0 := rfl
theorem memb_pos (R : List Row) {k : Nat} (h : k ≠ 0) : memb R k = ins R (run R 0 (bits k)) := by unfold memb; rw [if_neg h]
theorem memb_top (R : List Row) {w : List Nat} (h : Dig w) : memb R (val (w ++ [1])) = ins R (step R (run R 0 w) 1) := by
  have hv : val (w ++ [1]) ≠ 0 := by
    rw [val_append]
    show val w + 2 ^ w.length * 1 ≠ 0
    have := Nat.two_pow_pos w.length
    omega
  rw [memb_pos R hv, bits_top h, run_snoc]
theorem memb_le {R : List Row} (v : Valid R) (k : Nat) : memb R k ≤ 1 := by
  unfold memb
  by_cases h : k = 0
  · rw [if_pos h]; exact Nat.zero_le _
  · rw [if_neg h]; exact ins_le v _

def wrow (R : List Row) (verdict : Nat) (r : Row) : Row := (r.1 + R.length * verdict, r.2.1 + R.length * ins R r.2.1, verdict)
def wide (R : List Row) : List Row := R.map (wrow R 0) ++ R.map (wrow R 1)
theorem wide_len (R : List Row) : (wide R).length = R.length + R.length := by unfold wide; simp
theorem wide_get {R : List Row} {q vd : Nat} {r : Row} (h : R[q]? = some r) (hv : vd ≤ 1) : (wide R)[q + R.length * vd]? = some (wrow R vd r) := by
  have hq := lt_get h
  unfold wide
  have : vd = 0 ∨ vd = 1 := by omega
  rcases this with rfl | rfl
  · rw [Nat.mul_zero, Nat.add_zero, List.getElem?_append_left (by simpa using hq), List.getElem?_map, h]; rfl
  · rw [Nat.mul_one, List.getElem?_append_right (by simp), List.length_map, Nat.add_sub_cancel, List.getElem?_map, h]; rfl
theorem wide_valid {R : List Row} (v : Valid R) : Valid (wide R) := by
  have key : ∀ (i : Nat) (r : Row), (wide R)[i]? = some r → ∃ q s vd, R[q]? = some s ∧ vd ≤ 1 ∧ r = wrow R vd s := fun i r h => by
    unfold wide at h
    by_cases hi : i < R.length
    · rw [List.getElem?_append_left (by simpa using hi), List.getElem?_map] at h
      obtain ⟨s, e⟩ := get_lt hi
      rw [e] at h
      exact ⟨i, s, 0, e, by decide, (Option.some.inj h).symm⟩
    · rw [List.getElem?_append_right (by simpa using Nat.le_of_not_lt hi), List.length_map, List.getElem?_map] at h
      cases e : R[i - R.length]? with
      | none => rw [e] at h; cases h
      | some s =>
        rw [e] at h
        exact ⟨i - R.length, s, 1, e, Nat.le_refl _, (Option.some.inj h).symm⟩
  have m1 : ∀ b, b ≤ 1 → R.length * b ≤ R.length := fun b hb => by
    have : b = 0 ∨ b = 1 := by omega
    rcases this with rfl | rfl <;> omega
  refine ⟨fun i r h => ?_, fun i r h => ?_, fun i r h => ?_⟩
  · obtain ⟨q, s, vd, e, hv, rfl⟩ := key i r h
    have h1 := v.z q s e
    have h2 := m1 vd hv
    rw [wide_len]
    show s.1 + R.length * vd < _
    omega
  · obtain ⟨q, s, vd, e, hv, rfl⟩ := key i r h
    have h1 := v.o q s e
    have h2 := m1 _ (ins_le v s.2.1)
    rw [wide_len]
    show s.2.1 + R.length * ins R s.2.1 < _
    omega
  · obtain ⟨q, s, vd, e, hv, rfl⟩ := key i r h
    exact hv
theorem snoc_ind {P : List Nat → Prop} (h0 : P []) (h1 : ∀ w d, P w → P (w ++ [d])) : ∀ w, P w := fun w => by
  have : ∀ n (w : List Nat), w.length = n → P w := by
    intro n
    induction n with
    | zero => intro w hw; rw [List.length_eq_zero_iff.mp hw]; exact h0
    | succ n ih =>
      intro w hw
      have hne : w ≠ [] := fun e => by rw [e] at hw; cases hw
      rw [← List.dropLast_concat_getLast hne]
      exact h1 _ _ (ih _ (by rw [List.length_dropLast, hw]; rfl))
  exact this _ w rfl
theorem wide_run {R : List Row} (v : Valid R) (h0 : 0 < R.length) : ∀ w, Dig w → run (wide R) 0 w = run R 0 w + R.length * memb R (val w) := by
  refine snoc_ind (fun _ => rfl) fun w d ih hw => ?_
  have hwd := hw.left
  have hd : d ≤ 1 := hw d (List.mem_append_right _ (List.mem_singleton.mpr rfl))
  rw [run_snoc, run_snoc, ih hwd]
  obtain ⟨r, hr⟩ := get_lt (run_lt v w h0)
  rw [step_get (wide_get hr (memb_le v _))]
  have hdd : d = 0 ∨ d = 1 := by omega
  rcases hdd with rfl | rfl
  · rw [if_pos rfl, step_get hr, if_pos rfl, val_append]
    show r.1 + R.length * memb R (val w) = r.1 + R.length * memb R (val w + 2 ^ w.length * 0)
    rw [Nat.mul_zero, Nat.add_zero]
  · rw [if_neg (by decide), memb_top R hwd, step_get hr, if_neg (by decide)]
    rfl
/-- D tells the numbers k with Mb k = 1 -/
structure Tells (D : List Row) (Mb : Nat → Nat) : Prop where
  valid : Valid D
  pos : 0 < D.length
  acc : ∀ w, Dig w → ins D (run D 0 w) = Mb (val w)
  zero : Mb 0 = 0
theorem wide_tells {R : List Row} (v : Valid R) (h0 : 0 < R.length) : Tells (wide R) (memb R) := by
  refine ⟨wide_valid v, by rw [wide_len]; omega, fun w hw => ?_, rfl⟩
  rw [wide_run v h0 w hw]
  obtain ⟨r, hr⟩ := get_lt (run_lt v w h0)
  rw [ins_get (wide_get hr (memb_le v _))]
  rfl
theorem Tells.least {R : List Row} {Mb : Nat → Nat} (T : Tells R Mb) : Tells (least R 0) Mb := by
  have L := least_ok T.valid T.pos
  exact ⟨L.valid, L.pos, fun w hw => (L.acc w).trans (T.acc w hw), T.zero⟩
theorem Tells.le {D : List Row} {Mb : Nat → Nat} (T : Tells D Mb) (k : Nat) : Mb k ≤ 1 := by
  rw [← val_bits k, ← T.acc _ (bits_dig k)]; exact ins_le T.valid _
theorem Tells.at {D : List Row} {Mb : Nat → Nat} (T : Tells D Mb) (k : Nat) : ins D (run D 0 (bits k)) = Mb k := by
  rw [T.acc _ (bits_dig k), val_bits]

/-! ### two side by side -/
structure PairOk (A B : List Row) (rule : Nat → Nat → Nat) (ord : List (Nat × Nat)) (P : List Row) : Prop where
  len : P.length = ord.length
  head : ord[0]? = some (0, 0)
  row : ∀ (i l r : Nat), ord[i]? = some (l, r) → ∃ z o, P[i]? = some (z, o, rule (ins A l) (ins B r)) ∧ ord[z]? = some (step A l 0, step B r 0) ∧ ord[o]? = some (step A l 1, step B r 1)
theorem PairOk.step {A B : List Row} {rule : Nat → Nat → Nat} {ord : List (Nat × Nat)} {P : List Row} (h : PairOk A B rule ord P) {i l r : Nat} (e : ord[i]? = some (l, r)) (d : Nat) :
    ord[W36.step P i d]? = some (W36.step A l d, W36.step B r d) := by
  obtain ⟨z, o, e1, e2, e3⟩ := h.row i l r e
  rw [step_get e1]
  by_cases hd : d = 0
  · subst hd; rw [if_pos rfl]; exact e2
  · rw [if_neg hd, step_pos hd, step_pos (R := B) hd]; exact e3
theorem PairOk.run {A B : List Row} {rule : Nat → Nat → Nat} {ord : List (Nat × Nat)} {P : List Row} (h : PairOk A B rule ord P) : ∀ (w : List Nat) {i l r : Nat}, ord[i]? = some (l, r) →
    ord[W36.run P i w]? = some (W36.run A l w, W36.run B r w)
  | [], _, _, _, e => e
  | d :: w, _, _, _, e => h.run w (h.step e d)
theorem PairOk.acc {A B : List Row} {rule : Nat → Nat → Nat} {ord : List (Nat × Nat)} {P : List Row} (h : PairOk A B rule ord P) (w : List Nat) : ins P (W36.run P 0 w) = rule (ins A (W36.run A 0 w)) (ins B (W36.run B 0 w)) := by
  obtain ⟨z, o, e1, _⟩ := h.row _ _ _ (h.run w h.head)
  rw [ins_get e1]
theorem PairOk.valid {A B : List Row} {rule : Nat → Nat → Nat} {ord : List (Nat × Nat)} {P : List Row} (h : PairOk A B rule ord P) (hr : ∀ a b, rule a b ≤ 1) : Valid P := by
  have key : ∀ (i : Nat) (s : Row), P[i]? = some s → ∃ l r z o, s = (z, o, rule (ins A l) (ins B r)) ∧ z < ord.length ∧ o < ord.length := fun i s e => by
    have hl := lt_get e
    rw [h.len] at hl
    obtain ⟨⟨l, r⟩, e2⟩ := get_lt hl
    obtain ⟨z, o, e3, e4, e5⟩ := h.row i l r e2
    rw [e3] at e
    exact ⟨l, r, z, o, (Option.some.inj e).symm, lt_get e4, lt_get e5⟩
  refine ⟨fun i s e => ?_, fun i s e => ?_, fun i s e => ?_⟩
  · obtain ⟨l, r, z, o, rfl, a, b⟩ := key i s e
    rw [h.len]; exact a
  · obtain ⟨l, r, z, o, rfl, a, b⟩ := key i s e
    rw [h.len]; exact b
  · obtain ⟨l, r, z, o, rfl, a, b⟩ := key i s e
    exact hr _ _
def allRows : List Row := [(0, 1, 0), (1, 1, 1)]
theorem all_run : ∀ w, Dig w → run allRows 0 w = if val w = 0 then 0 else 1 := by
  have h1 : ∀ w, run allRows 1 w = 1 := by
    intro w
    induction w with
    | nil => rfl
    | cons d w ih =>
      show run allRows (step allRows 1 d) w = 1
      have : step allRows 1 d = 1 := by
        show (if d = 0 then 1 else 1) = 1
        split <;> rfl
      rw [this]; exact ih
  intro w
  induction w with
  | nil => intro _; rfl
  | cons d w ih =>
    intro hw
    have hd := hw d List.mem_cons_self
    have ih := ih fun x hx => hw x (List.mem_cons_of_mem _ hx)
    show run allRows (step allRows 0 d) w = if d + 2 * val w = 0 then 0 else 1
    have hdd : d = 0 ∨ d = 1 := by omega
    rcases hdd with rfl | rfl
    · show run allRows 0 w = _
      rw [ih]
      by_cases h : val w = 0
      · rw [if_pos h, if_pos (by omega)]
      · rw [if_neg h, if_neg (by omega)]
    · show run allRows 1 w = _
      rw [h1, if_neg (by omega)]
def co (Mb : Nat → Nat) (k : Nat) : Nat := if k = 0 then 0 else 1 - Mb k
def coRule (a b : Nat) : Nat := if a = 1 ∧ b = 0 then 1 else 0
theorem co_tells {D : List Row} {Mb : Nat → Nat} (T : Tells D Mb) {ord : List (Nat × Nat)} {P : List Row} (h : PairOk allRows D coRule ord P) : Tells P (co Mb) := by
  refine ⟨h.valid fun a b => ?_, by rw [h.len]; exact lt_get h.head, fun w hw => ?_, rfl⟩
  · unfold coRule; split <;> decide
  · rw [h.acc w, T.acc w hw, all_run w hw]
    have hle := T.le (val w)
    unfold co coRule
    by_cases hv : val w = 0
    · rw [if_pos hv, if_pos hv, if_neg (fun z => by have := z.1; revert this; decide)]
    · rw [if_neg hv, if_neg hv]
      have e : ins allRows 1 = 1 := rfl
      by_cases hm : Mb (val w) = 0
      · rw [if_pos ⟨e, hm⟩, hm]
      · rw [if_neg (fun z => hm z.2)]; omega

/-! ### pumping -/
section
variable {M : List Row} {g : Nat → Nat} {Mb : Nat → Nat}
def Some1 (M : List Row) (g : Nat → Nat) (l : Nat) : Prop := ∃ w, Dig w ∧ w.length = l ∧ g (run M 0 w) = 1
theorem cycle (v : Valid M) (h0 : 0 < M.length) {w : List Nat} (h : M.length ≤ w.length) :
    ∃ i j, i < j ∧ j ≤ M.length ∧ run M 0 (w.take i) = run M 0 (w.take j) := by
  obtain ⟨i, j, a, b, c⟩ := pigeon M.length (fun i => run M 0 (w.take i)) fun i _ => run_lt v _ h0
  exact ⟨i, j, a, b, c⟩
theorem pump_down (v : Valid M) (h0 : 0 < M.length) (L : Nat) : ∀ l, Some1 M g l → L + M.length ≤ l → ∃ l', L ≤ l' ∧ l' < L + M.length ∧ Some1 M g l' := by
  intro l
  induction l using Nat.strongRecOn with
  | ind l ih =>
    rintro ⟨w, hw, hl, hg⟩ hle
    obtain ⟨i, j, hij, hj, e⟩ := cycle v h0 (w := w) (by omega)
    have hs : Some1 M g (l - (j - i)) := by
      refine ⟨w.take i ++ w.drop j, (hw.take i).app (hw.drop j), ?_, ?_⟩
      · rw [List.length_append, List.length_take, List.length_drop]; omega
      · rw [run_append, e, ← run_append, List.take_append_drop]; exact hg
    by_cases h2 : l - (j - i) < L + M.length
    · exact ⟨l - (j - i), by omega, h2, hs⟩
    · exact ih _ (by omega) hs (by omega)
theorem pump_up (v : Valid M) (h0 : 0 < M.length) {l : Nat} (h : Some1 M g l) (hl : M.length ≤ l) : ∀ B, ∃ l', B ≤ l' ∧ M.length ≤ l' ∧ Some1 M g l' := by
  intro B
  induction B with
  | zero => exact ⟨l, Nat.zero_le _, hl, h⟩
  | succ B ih =>
    obtain ⟨l', h1, h2, w, hw, hwl, hg⟩ := ih
    obtain ⟨i, j, hij, hj, e⟩ := cycle v h0 (w := w) (by omega)
    refine ⟨l' + (j - i), by omega, by omega, w.take j ++ w.drop i, (hw.take j).app (hw.drop i), ?_, ?_⟩
    · rw [List.length_append, List.length_take, List.length_drop]; omega
    · rw [run_append, ← e, ← run_append, List.take_append_drop]; exact hg
def MemLen (Mb : Nat → Nat) (l : Nat) : Prop := ∃ k, (bits k).length = l ∧ Mb k = 1
structure Reads (M : List Row) (g : Nat → Nat) (Mb : Nat → Nat) : Prop where
  valid : Valid M
  pos : 0 < M.length
  top : ∀ w, Dig w → Mb (val (w ++ [1])) = g (run M 0 w)
theorem Reads.some (r : Reads M g Mb) (l : Nat) : MemLen Mb (l + 1) ↔ Some1 M g l := by
  constructor
  · rintro ⟨k, h1, h2⟩
    have hk : k ≠ 0 := fun e => by rw [e, bits_zero] at h1; cases h1
    obtain ⟨w, hw, e⟩ := bits_split hk
    refine ⟨w, hw, ?_, ?_⟩
    · rw [e] at h1; simpa using h1
    · rw [← r.top w hw, ← e, val_bits]; exact h2
  · rintro ⟨w, hw, hl, hg⟩
    refine ⟨val (w ++ [1]), ?_, ?_⟩
    · rw [bits_top hw]; simp [hl]
    · rw [r.top w hw]; exact hg
def Endless (Mb : Nat → Nat) : Prop := ∀ B, ∃ k, B ≤ k ∧ Mb k = 1
theorem Reads.endless_of (r : Reads M g Mb) {l : Nat} (h : M.length < l) (hm : MemLen Mb l) : Endless Mb := by
  obtain ⟨l0, rfl⟩ : ∃ l0, l = l0 + 1 := ⟨l - 1, by omega⟩
  intro B
  obtain ⟨l', h1, _, h3⟩ := pump_up r.valid r.pos ((r.some l0).mp hm) (by omega) B
  obtain ⟨k, e1, e2⟩ := (r.some l').mpr h3
  refine ⟨k, ?_, e2⟩
  have : 2 ^ l' ≤ k := len_lt_iff.mp (by omega)
  have := @Nat.lt_two_pow_self l'
  omega
theorem Reads.endless (r : Reads M g Mb) : Endless Mb ↔ ∃ l, M.length + 1 ≤ l ∧ l ≤ 2 * M.length ∧ MemLen Mb l := by
  constructor
  · intro h
    obtain ⟨k, h1, h2⟩ := h (2 ^ (2 * M.length))
    have hl := len_lt_iff.mpr h1
    obtain ⟨l0, e⟩ : ∃ l0, (bits k).length = l0 + 1 := ⟨(bits k).length - 1, by omega⟩
    obtain ⟨l', a, b, c⟩ := pump_down r.valid r.pos M.length l0 ((r.some l0).mp ⟨k, e, h2⟩) (by omega)
    exact ⟨l' + 1, by omega, by omega, (r.some l').mpr c⟩
  · rintro ⟨l, h1, _, h3⟩
    exact r.endless_of (by omega) h3
theorem Reads.short (r : Reads M g Mb) (h : ¬ Endless Mb) {k : Nat} (hk : Mb k = 1) : (bits k).length ≤ M.length := by
  apply Classical.byContradiction
  intro hc
  exact h (r.endless_of (l := (bits k).length) (by omega) ⟨k, rfl, hk⟩)
theorem Reads.near (r : Reads M g Mb) {L k : Nat} (h : L < (bits k).length) (hk : Mb k = 1) : ∃ l, L < l ∧ l ≤ L + M.length ∧ MemLen Mb l := by
  by_cases h2 : (bits k).length ≤ L + M.length
  · exact ⟨_, h, h2, k, rfl, hk⟩
  · obtain ⟨l0, e⟩ : ∃ l0, (bits k).length = l0 + 1 := ⟨(bits k).length - 1, by omega⟩
    obtain ⟨l', a, b, c⟩ := pump_down r.valid r.pos L l0 ((r.some l0).mp ⟨k, e, hk⟩) (by omega)
    exact ⟨l' + 1, by omega, by omega, (r.some l').mpr c⟩
end
theorem Tells.reads {D : List Row} {Mb : Nat → Nat} (T : Tells D Mb) : Reads D (fun q => ins D (step D q 1)) Mb :=
  ⟨T.valid, T.pos, fun w hw => by rw [← T.acc _ (hw.app Dig.one), run_snoc]⟩
theorem memb_reads {R : List Row} (v : Valid R) (h0 : 0 < R.length) : Reads R (fun q => ins R (step R q 1)) (memb R) := ⟨v, h0, fun w hw => memb_top R hw⟩
theorem co_reads {R : List Row} (v : Valid R) (h0 : 0 < R.length) : Reads R (fun q => 1 - ins R (step R q 1)) (co (memb R)) := ⟨v, h0, fun w hw => by
  unfold co
  rw [if_neg ?_, memb_top R hw]
  rw [val_append]
  show val w + 2 ^ w.length * 1 ≠ 0
  have := Nat.two_pow_pos w.length
  omega⟩
/-- whether there is a member at all is seen among few digits -/
theorem Reads.any {M : List Row} {g : Nat → Nat} {Mb : Nat → Nat} (r : Reads M g Mb) (hz : Mb 0 = 0) {k : Nat} (hk : Mb k = 1) : ∃ j, 1 ≤ j ∧ j < 2 ^ M.length ∧ Mb j = 1 := by
  have h0 : k ≠ 0 := fun e => by rw [e, hz] at hk; cases hk
  have hl : 0 < (bits k).length := by rw [bits_pos h0]; exact Nat.zero_lt_succ _
  obtain ⟨l, h1, h2, j, h3, h4⟩ := r.near hl hk
  refine ⟨j, ?_, len_le_iff.mp (by omega), h4⟩
  have : j ≠ 0 := fun e => by rw [e, hz] at h4; cases h4
  omega
end W36
end

section
/-! Flags by function, reached places, the lowest and highest digits. -/
set_option linter.all false
namespace W36
def tab (R : List Row) (g : Nat → Nat) : List Nat := (List.range R.length).map g
theorem tab_len (R : List Row) (g : Nat → Nat) : (tab R g).length = R.length := by unfold tab; simp
theorem tab_get (R : List Row) (g : Nat → Nat) {q : Nat} (h : q < R.length) : (tab R g)[q]? = some (g q) := by
  unfold tab; rw [List.getElem?_map, List.getElem?_range h]; rfl
theorem tab_take (R : List Row) (g : Nat → Nat) {i : Nat} (h : i < R.length) : (tab R g).take (i + 1) = (tab R g).take i ++ [g i] := by
  rw [List.take_add_one, tab_get R g h]; rfl
theorem tab_all (R : List Row) (g : Nat → Nat) : (tab R g).take R.length = tab R g := List.take_of_length_le (by rw [tab_len]; exact Nat.le_refl _)
theorem tab_congr {R : List Row} {g h : Nat → Nat} (e : ∀ q, q < R.length → g q = h q) : tab R g = tab R h := by
  unfold tab
  exact List.map_congr_left fun q hq => e q (List.mem_range.mp hq)

def Reach (R : List Row) (c q : Nat) : Prop := ∃ w, Dig w ∧ w.length = c ∧ run R 0 w = q
theorem reach_zero {R : List Row} {q : Nat} : Reach R 0 q ↔ q = 0 := by
  constructor
  · rintro ⟨w, _, hl, e⟩
    rw [List.length_eq_zero_iff.mp hl] at e
    exact e.symm
  · rintro rfl
    exact ⟨[], Dig.nil, rfl, rfl⟩
theorem reach_succ {R : List Row} {c q : Nat} : Reach R (c + 1) q ↔ ∃ p d, d ≤ 1 ∧ Reach R c p ∧ step R p d = q := by
  constructor
  · rintro ⟨w, hw, hl, e⟩
    have hne : w ≠ [] := fun z => by rw [z] at hl; cases hl
    have hs := List.dropLast_concat_getLast hne
    rw [← hs] at hw e
    rw [run_snoc] at e
    exact ⟨_, w.getLast hne, hw _ (List.mem_append_right _ (List.mem_singleton.mpr rfl)), ⟨_, hw.left, by rw [List.length_dropLast, hl]; rfl, rfl⟩, e⟩
  · rintro ⟨p, d, hd, ⟨w, hw, hl, rfl⟩, rfl⟩
    exact ⟨w ++ [d], hw.app (Dig.cons hd Dig.nil), by simp [hl], run_snoc _ _ _ _⟩
theorem reach_lt {R : List Row} (v : Valid R) (h0 : 0 < R.length) {c q : Nat} (h : Reach R c q) : q < R.length := by
  obtain ⟨w, _, _, rfl⟩ := h
  exact run_lt v w h0
theorem some_reach {R : List Row} {g : Nat → Nat} {c : Nat} : Some1 R g c ↔ ∃ q, Reach R c q ∧ g q = 1 := by
  constructor
  · rintro ⟨w, hw, hl, hg⟩
    exact ⟨_, ⟨w, hw, hl, rfl⟩, hg⟩
  · rintro ⟨q, ⟨w, hw, hl, rfl⟩, hg⟩
    exact ⟨w, hw, hl, hg⟩
/-- the classes that are reached by c digits -/
def IsAhead (R : List Row) (c : Nat) (cl : List Nat) : Prop := ∀ q, q ∈ cl ↔ Reach R c q
theorem meets_iff {R : List Row} {g : Nat → Nat} {c : Nat} {cl : List Nat} (h : IsAhead R c cl) : (cl.any fun q => g q == 1) = true ↔ Some1 R g c := by
  rw [List.any_eq_true, some_reach]
  constructor
  · rintro ⟨q, hq, e⟩
    exact ⟨q, (h q).mp hq, by simpa using e⟩
  · rintro ⟨q, hq, e⟩
    exact ⟨q, (h q).mpr hq, by simpa using e⟩

/-! ### the extreme digits -/
def Ext (first : Nat) (u v : List Nat) : Prop := if first = 0 then val u < val v else val v < val u
structure LowInv (R : List Row) (g : Nat → Nat) (many first p : Nat) (u : List Nat) : Prop where
  dig : Dig u
  len : u.length + p = many
  some : Some1 R (fun q => g (run R q u)) p
  best : ∀ w, Dig w → w.length = many → g (run R 0 w) = 1 → w.drop p = u ∨ Ext first u (w.drop p)
theorem LowInv.init {R : List Row} {g : Nat → Nat} {many first : Nat} (h : Some1 R g many) : LowInv R g many first many [] :=
  ⟨Dig.nil, by simp, h, fun w _ hl _ => .inl (List.drop_of_length_le (by omega))⟩
theorem ext_cons {first d : Nat} {u v : List Nat} {e : Nat} (hf : first ≤ 1) (hd : d ≤ 1) (he : e ≤ 1) (h : Ext first u v) : Ext first (e :: u) (d :: v) := by
  unfold Ext at *
  by_cases h0 : first = 0
  · rw [if_pos h0] at *
    show e + 2 * val u < d + 2 * val v
    omega
  · rw [if_neg h0] at *
    show d + 2 * val v < e + 2 * val u
    omega
theorem drop_digit {w : List Nat} {p : Nat} (h : p < w.length) : ∃ d, w.drop p = d :: w.drop (p + 1) ∧ d ∈ w := ⟨w[p], List.drop_eq_getElem_cons h, List.getElem_mem h⟩
theorem LowInv.yes {R : List Row} {g : Nat → Nat} {many first p : Nat} {u : List Nat} (hf : first ≤ 1) (h : LowInv R g many first (p + 1) u) (hs : Some1 R (fun q => g (run R (step R q first) u)) p) :
    LowInv R g many first p (first :: u) := by
  refine ⟨Dig.cons hf h.dig, by have := h.len; simp only [List.length_cons]; omega, hs, fun w hw hl hg => ?_⟩
  have hlen := h.len
  obtain ⟨d, e, hm⟩ := drop_digit (w := w) (p := p) (by omega)
  have hd := hw d hm
  rw [e]
  rcases h.best w hw hl hg with e2 | e2
  · rw [e2]
    by_cases hdf : d = first
    · exact .inl (by rw [hdf])
    · refine .inr ?_
      unfold Ext
      by_cases h0 : first = 0
      · rw [if_pos h0]; show first + 2 * val u < d + 2 * val u; omega
      · rw [if_neg h0]; show d + 2 * val u < first + 2 * val u; omega
  · exact .inr (ext_cons hf hd hf e2)
theorem LowInv.no {R : List Row} {g : Nat → Nat} {many first p : Nat} {u : List Nat} (hf : first ≤ 1) (h : LowInv R g many first (p + 1) u) (hs : ¬ Some1 R (fun q => g (run R (step R q first) u)) p) :
    LowInv R g many first p ((1 - first) :: u) := by
  have other : ∀ d, d ≤ 1 → d ≠ first → d = 1 - first := fun d hd hne => by omega
  refine ⟨Dig.cons (by omega) h.dig, by have := h.len; simp only [List.length_cons]; omega, ?_, fun w hw hl hg => ?_⟩
  · obtain ⟨q, hq, hg⟩ := some_reach.mp h.some
    obtain ⟨r, d, hd, hr, e⟩ := reach_succ.mp hq
    subst e
    by_cases hdf : d = first
    · subst hdf
      exact absurd (some_reach.mpr ⟨r, hr, hg⟩) hs
    · rw [other d hd hdf] at hg
      exact some_reach.mpr ⟨r, hr, hg⟩
  · have hlen := h.len
    obtain ⟨d, e, hm⟩ := drop_digit (w := w) (p := p) (by omega)
    have hd := hw d hm
    rw [e]
    rcases h.best w hw hl hg with e2 | e2
    · rw [e2]
      by_cases hdf : d = first
      · exfalso
        apply hs
        refine ⟨w.take p, hw.take p, by rw [List.length_take]; omega, ?_⟩
        rw [← List.take_append_drop p w, run_append, e, e2] at hg
        rw [← hdf]
        exact hg
      · exact .inl (by rw [other d hd hdf])
    · exact .inr (ext_cons hf hd (by omega) e2)
structure LowOk (R : List Row) (g : Nat → Nat) (many first : Nat) (low : List Nat) : Prop where
  dig : Dig low
  len : low.length = many
  hit : g (run R 0 low) = 1
  best : ∀ w, Dig w → w.length = many → g (run R 0 w) = 1 → if first = 0 then val low ≤ val w else val w ≤ val low
theorem LowInv.ok {R : List Row} {g : Nat → Nat} {many first : Nat} {u : List Nat} (h : LowInv R g many first 0 u) : LowOk R g many first u := by
  refine ⟨h.dig, by have := h.len; omega, ?_, fun w hw hl hg => ?_⟩
  · obtain ⟨w, _, hl, hg⟩ := h.some
    rw [List.length_eq_zero_iff.mp hl] at hg
    exact hg
  · have := h.best w hw hl hg
    rw [List.drop_zero] at this
    rcases this with rfl | e
    · split <;> exact Nat.le_refl _
    · unfold Ext at e
      by_cases h0 : first = 0
      · rw [if_pos h0] at e ⊢; omega
      · rw [if_neg h0] at e ⊢; omega

/-! ### sets of numbers, by their lists -/
theorem visit_len {ms : List Nat} {c : Nat} : (visit ms c).length = if c ∈ ms then ms.length else ms.length + 1 := by
  unfold visit
  by_cases h : c ∈ ms
  · rw [if_pos h, if_pos h]
  · rw [if_neg h, if_neg h]; simp
structure IsS (S : Int → Bool) (n : Nat) (ms : List Nat) : Prop where
  nd : ms.Nodup
  len : ms.length = n
  mem : ∀ k : Int, S k = true ↔ ∃ m ∈ ms, k = (m : Int)
theorem IsS.empty : IsS (fun _ => false) 0 [] := ⟨List.nodup_nil, rfl, fun k => ⟨fun h => (by cases h), fun ⟨_, h, _⟩ => (by cases h)⟩⟩
theorem IsS.add {S : Int → Bool} {n : Nat} {ms : List Nat} (h : IsS S n ms) (c : Nat) : IsS (fun j => S j || decide (j = (c : Int))) (if S (c : Int) = true then n else n + 1) (visit ms c) := by
  have key : S (c : Int) = true ↔ c ∈ ms := by
    rw [h.mem]
    exact ⟨fun ⟨m, hm, e⟩ => by rw [Int.ofNat.inj e]; exact hm, fun hm => ⟨c, hm, rfl⟩⟩
  refine ⟨visit_nd h.nd, ?_, fun k => ?_⟩
  · rw [visit_len, h.len]
    by_cases hc : c ∈ ms
    · rw [if_pos hc, if_pos (key.mpr hc)]
    · rw [if_neg hc, if_neg (fun z => hc (key.mp z))]
  · rw [Bool.or_eq_true, decide_eq_true_eq, h.mem]
    constructor
    · rintro (⟨m, hm, e⟩ | e)
      · exact ⟨m, visit_mem.mpr (.inl hm), e⟩
      · exact ⟨c, visit_mem.mpr (.inr rfl), e⟩
    · rintro ⟨m, hm, e⟩
      rcases visit_mem.mp hm with hm | rfl
      · exact .inl ⟨m, hm, e⟩
      · exact .inr e
/-- a rising list of whole numbers that are the set's: as numbers from 0 on -/
theorem IsS.sorted {S : Int → Bool} {n : Nat} {ms : List Nat} (h : IsS S n ms) {ns : List Int} (hm : ∀ k : Int, k ∈ ns ↔ S k = true) (hp : ns.Pairwise (· < ·)) :
    ∃ cl : List Nat, ns = cl.map (fun (m : Nat) => (m : Int)) ∧ (∀ q, q ∈ cl ↔ q ∈ ms) ∧ cl.Nodup := by
  have e1 : ns = (ns.map Int.toNat).map (fun (m : Nat) => (m : Int)) := by
    rw [List.map_map]
    refine (List.map_id ns).symm.trans (List.map_congr_left fun k hk => ?_)
    obtain ⟨m, _, e⟩ := (h.mem k).mp ((hm k).mp hk)
    subst e
    rfl
  have mem : ∀ q : Nat, q ∈ ns.map Int.toNat ↔ (q : Int) ∈ ns := fun q => by
    constructor
    · intro hq
      rw [e1]
      exact List.mem_map.mpr ⟨q, hq, rfl⟩
    · intro hq
      exact List.mem_map.mpr ⟨_, hq, rfl⟩
  refine ⟨ns.map Int.toNat, e1, fun q => ?_, ?_⟩
  · rw [mem, hm, h.mem]
    exact ⟨fun ⟨m, hm, e⟩ => by rw [Int.ofNat.inj e]; exact hm, fun hm => ⟨q, hm, rfl⟩⟩
  · have : ns.Nodup := hp.imp fun h e => by rw [e] at h; exact Int.lt_irrefl _ h
    rw [e1] at this
    exact (List.pairwise_map.mp this).imp fun h e => h (by rw [e])
end W36
end

section
/-! The next number, the last one, the ends. -/
set_option linter.all false
namespace W36
def NextSpec (Mb : Nat → Nat) (k : Nat) : Option Nat → Prop
  | none => ∀ j, k ≤ j → Mb j ≠ 1
  | some t => k ≤ t ∧ Mb t = 1 ∧ ∀ j, k ≤ j → j < t → Mb j ≠ 1
def LastSpec (Mb : Nat → Nat) (k : Nat) : Option Nat → Prop
  | none => ∀ j, j ≤ k → Mb j ≠ 1
  | some t => t ≤ k ∧ Mb t = 1 ∧ ∀ j, t < j → j ≤ k → Mb j ≠ 1
def GreatSpec (Mb : Nat → Nat) : Option Nat → Prop
  | none => ∀ j, Mb j ≠ 1
  | some t => Mb t = 1 ∧ ∀ j, t < j → Mb j ≠ 1
def upG (D : List Row) (ds : List Nat) (p b q : Nat) : Nat := ins D (run D (step D q b) (ds.drop (p + 1)))
def topG (R : List Row) (q : Nat) : Nat := ins R (step R q 1)

theorem val_split (w : List Nat) (p : Nat) : val w = val (w.take p) + 2 ^ min p w.length * val (w.drop p) := by
  have h := val_append (w.take p) (w.drop p)
  rw [List.take_append_drop, List.length_take] at h
  exact h
theorem val_at {w : List Nat} {p d : Nat} (h : w[p]? = some d) : val w = val (w.take p) + 2 ^ p * (d + 2 * val (w.drop (p + 1))) := by
  have hl := lt_get h
  have h1 := val_split w p
  rw [Nat.min_eq_left (Nat.le_of_lt hl), List.drop_eq_getElem_cons hl] at h1
  rw [List.getElem?_eq_getElem hl] at h
  rw [Option.some.inj h] at h1
  exact h1
theorem lt_of_diff {u v : List Nat} (hu : Dig u) {p : Nat} (e0 : u[p]? = some 0) (e1 : v[p]? = some 1) (e : u.drop (p + 1) = v.drop (p + 1)) : val u < val v := by
  have hl := lt_get e0
  have h := val_lt (hu.take p)
  rw [List.length_take, Nat.min_eq_left (Nat.le_of_lt hl)] at h
  rw [val_at e0, val_at e1, e]
  have : 2 ^ p * (1 + 2 * val (v.drop (p + 1))) = 2 ^ p + 2 ^ p * (0 + 2 * val (v.drop (p + 1))) := by
    rw [Nat.mul_add, Nat.mul_one, Nat.zero_add]
  omega
theorem diff_of_lt : ∀ {u v : List Nat}, Dig u → Dig v → u.length = v.length → val u < val v → ∃ p, u[p]? = some 0 ∧ v[p]? = some 1 ∧ u.drop (p + 1) = v.drop (p + 1)
  | [], [], _, _, _, h => by simp [val] at h
  | [], _ :: _, _, _, h, _ => by simp at h
  | _ :: _, [], _, _, h, _ => by simp at h
  | a :: u, b :: v, hu, hv, hl, h => by
    have a1 := hu a List.mem_cons_self
    have b1 := hv b List.mem_cons_self
    have hu' : Dig u := fun x hx => hu x (List.mem_cons_of_mem _ hx)
    have hv' : Dig v := fun x hx => hv x (List.mem_cons_of_mem _ hx)
    have hl' : u.length = v.length := by simpa using hl
    have h : a + 2 * val u < b + 2 * val v := h
    by_cases hlt : val u < val v
    · obtain ⟨p, e0, e1, e2⟩ := diff_of_lt hu' hv' hl' hlt
      exact ⟨p + 1, by simpa using e0, by simpa using e1, by simpa using e2⟩
    · have e := val_inj hu' hv' hl' (by omega)
      subst e
      have : a = 0 := by omega
      have : b = 1 := by omega
      subst_vars
      exact ⟨0, rfl, rfl, rfl⟩
/-- a word with one digit changed, from its lower part -/
theorem split_at {w : List Nat} {p d : Nat} (h : w[p]? = some d) : w = w.take p ++ (d :: w.drop (p + 1)) := by
  have hl := lt_get h
  have h1 := (List.take_append_drop p w).symm
  rw [List.drop_eq_getElem_cons hl] at h1
  rw [List.getElem?_eq_getElem hl] at h
  rw [Option.some.inj h] at h1
  exact h1
section
variable {D : List Row} {Mb : Nat → Nat} {k : Nat}
theorem Tells.hit (T : Tells D Mb) {w : List Nat} (hw : Dig w) {p b : Nat} (h : w[p]? = some b) {ds : List Nat} (e : w.drop (p + 1) = ds.drop (p + 1)) : Mb (val w) = upG D ds p b (run D 0 (w.take p)) := by
  rw [← T.acc w hw]
  have hs := congrArg (run D 0) (split_at h)
  rw [run_append] at hs
  rw [hs, e]
  rfl
/-- a member with as many digits is seen at the place where it differs first from above -/
theorem seen_above (T : Tells D Mb) {j : Nat} (hj : Mb j = 1) (h1 : k < j) (h2 : j < 2 ^ (bits k).length) :
    ∃ p w, Dig w ∧ w.length = (bits k).length ∧ val w = j ∧ (bits k)[p]? = some 0 ∧ w[p]? = some 1 ∧ (bits k).drop (p + 1) = w.drop (p + 1) ∧ Some1 D (upG D (bits k) p 1) p := by
  obtain ⟨w, hw, hl, hv⟩ := pad h2
  obtain ⟨p, e0, e1, e2⟩ := diff_of_lt (bits_dig k) hw hl.symm (by rw [val_bits, hv]; exact h1)
  refine ⟨p, w, hw, hl, hv, e0, e1, e2, w.take p, hw.take p, ?_, ?_⟩
  · rw [List.length_take]; have := lt_get e1; omega
  · rw [← T.hit hw e1 e2.symm, hv]; exact hj
theorem seen_below (T : Tells D Mb) {j : Nat} (hj : Mb j = 1) (h1 : j < k) :
    ∃ p w, Dig w ∧ w.length = (bits k).length ∧ val w = j ∧ (bits k)[p]? = some 1 ∧ w[p]? = some 0 ∧ w.drop (p + 1) = (bits k).drop (p + 1) ∧ Some1 D (upG D (bits k) p 0) p := by
  have hk : k < 2 ^ (bits k).length := len_le_iff.mp (Nat.le_refl _)
  obtain ⟨w, hw, hl, hv⟩ := pad (Nat.lt_trans h1 hk)
  obtain ⟨p, e0, e1, e2⟩ := diff_of_lt hw (bits_dig k) hl (by rw [val_bits, hv]; exact h1)
  refine ⟨p, w, hw, hl, hv, e1, e0, e2, w.take p, hw.take p, ?_, ?_⟩
  · rw [List.length_take]; have := lt_get e0; omega
  · rw [← T.hit hw e0 e2, hv]; exact hj
/-- the word that is put together -/
theorem word_facts {ds low : List Nat} {p b : Nat} (hd : Dig ds) (hl : Dig low) (hp : p < ds.length) (hn : low.length = p) (hb : b ≤ 1) :
    Dig (low ++ [b] ++ ds.drop (p + 1)) ∧ (low ++ [b] ++ ds.drop (p + 1)).length = ds.length ∧ (low ++ [b] ++ ds.drop (p + 1))[p]? = some b ∧ (low ++ [b] ++ ds.drop (p + 1)).drop (p + 1) = ds.drop (p + 1) ∧ (low ++ [b] ++ ds.drop (p + 1)).take p = low := by
  subst hn
  refine ⟨(hl.app (Dig.cons hb Dig.nil)).app (hd.drop _), ?_, ?_, ?_, ?_⟩
  · simp only [List.length_append, List.length_drop, List.length_singleton]; omega
  · rw [List.append_assoc, List.getElem?_append_right (Nat.le_refl _), Nat.sub_self]; rfl
  · rw [List.drop_append_of_le_length (by simp), List.drop_of_length_le (by simp)]; rfl
  · rw [List.append_assoc, List.take_append_of_le_length (Nat.le_refl _), List.take_length]
theorem get_of_drop {u v : List Nat} {p i : Nat} (h : u.drop p = v.drop p) (hi : p ≤ i) : u[i]? = v[i]? := by
  have := congrArg (fun l => l[i - p]?) h
  simp only [List.getElem?_drop] at this
  rwa [Nat.add_sub_cancel' hi] at this
theorem drop_of_drop {u v : List Nat} {p i : Nat} (h : u.drop p = v.drop p) (hi : p ≤ i) : u.drop i = v.drop i := by
  have := congrArg (fun l => l.drop (i - p)) h
  simp only [List.drop_drop] at this
  rwa [Nat.add_sub_cancel' hi] at this
theorem next_same (T : Tells D Mb) (hk : Mb k ≠ 1) {p : Nat} {low : List Nat} (h0 : (bits k)[p]? = some 0) (hb : ∀ i, i < p → (bits k)[i]? = some 0 → ¬ Some1 D (upG D (bits k) i 1) i)
    (hl : LowOk D (upG D (bits k) p 1) p 0 low) : NextSpec Mb k (some (val (low ++ [1] ++ (bits k).drop (p + 1)))) := by
  have hp := lt_get h0
  obtain ⟨f1, f2, f3, f4, f5⟩ := word_facts (bits_dig k) hl.dig hp hl.len (Nat.le_refl 1)
  have lt := lt_of_diff (bits_dig k) h0 f3 f4.symm
  rw [val_bits] at lt
  refine ⟨Nat.le_of_lt lt, ?_, fun j h1 h2 hj => ?_⟩
  · rw [T.hit f1 f3 f4, f5]; exact hl.hit
  · have hkj : k < j := Nat.lt_of_le_of_ne h1 fun e => hk (e ▸ hj)
    have hjL : j < 2 ^ (bits k).length := by
      have := val_lt f1
      rw [f2] at this
      omega
    obtain ⟨i, w, hw, hwl, hwv, g0, g1, g2, gs⟩ := seen_above T hj hkj hjL
    rcases Nat.lt_trichotomy i p with hi | hi | hi
    · exact hb i hi g0 gs
    · subst hi
      have hit : upG D (bits k) i 1 (run D 0 (w.take i)) = 1 := by rw [← T.hit hw g1 g2.symm, hwv]; exact hj
      have hbest := hl.best (w.take i) (hw.take i) (by rw [List.length_take]; omega) hit
      rw [if_pos rfl] at hbest
      have e1 := val_at f3
      have e2 := val_at g1
      rw [f5, f4] at e1
      rw [← g2] at e2
      omega
    · have a0 : (low ++ [1] ++ (bits k).drop (p + 1))[i]? = some 0 := by rw [get_of_drop f4 hi]; exact g0
      have a2 : (low ++ [1] ++ (bits k).drop (p + 1)).drop (i + 1) = w.drop (i + 1) := (drop_of_drop f4 (by omega)).trans g2
      have := lt_of_diff f1 a0 g1 a2
      omega
theorem no_same (T : Tells D Mb) (hk : Mb k ≠ 1) (hb : ∀ i, (bits k)[i]? = some 0 → ¬ Some1 D (upG D (bits k) i 1) i) {j : Nat} (h1 : k ≤ j) (h2 : (bits j).length ≤ (bits k).length) : Mb j ≠ 1 := fun hj => by
  have hkj : k < j := Nat.lt_of_le_of_ne h1 fun e => hk (e ▸ hj)
  obtain ⟨i, w, _, _, _, g0, _, _, gs⟩ := seen_above T hj hkj (len_le_iff.mp h2)
  exact hb i g0 gs
theorem last_same (T : Tells D Mb) (hk : Mb k ≠ 1) {p : Nat} {low : List Nat} (h0 : (bits k)[p]? = some 1) (hb : ∀ i, i < p → (bits k)[i]? = some 1 → ¬ Some1 D (upG D (bits k) i 0) i)
    (hl : LowOk D (upG D (bits k) p 0) p 1 low) : LastSpec Mb k (some (val (low ++ [0] ++ (bits k).drop (p + 1)))) := by
  have hp := lt_get h0
  obtain ⟨f1, f2, f3, f4, f5⟩ := word_facts (bits_dig k) hl.dig hp hl.len (Nat.zero_le 1)
  have lt := lt_of_diff f1 f3 h0 f4
  rw [val_bits] at lt
  refine ⟨Nat.le_of_lt lt, ?_, fun j h1 h2 hj => ?_⟩
  · rw [T.hit f1 f3 f4, f5]; exact hl.hit
  · have hkj : j < k := Nat.lt_of_le_of_ne h2 fun e => hk (e ▸ hj)
    obtain ⟨i, w, hw, hwl, hwv, g0, g1, g2, gs⟩ := seen_below T hj hkj
    rcases Nat.lt_trichotomy i p with hi | hi | hi
    · exact hb i hi g0 gs
    · subst hi
      have hit : upG D (bits k) i 0 (run D 0 (w.take i)) = 1 := by rw [← T.hit hw g1 g2, hwv]; exact hj
      have hbest := hl.best (w.take i) (hw.take i) (by rw [List.length_take]; omega) hit
      rw [if_neg (by decide)] at hbest
      have e1 := val_at f3
      have e2 := val_at g1
      rw [f5, f4] at e1
      rw [g2] at e2
      omega
    · have a1 : (low ++ [0] ++ (bits k).drop (p + 1))[i]? = some 1 := by rw [get_of_drop f4 hi]; exact g0
      have a2 : w.drop (i + 1) = (low ++ [0] ++ (bits k).drop (p + 1)).drop (i + 1) := g2.trans (drop_of_drop f4 (by omega)).symm
      have := lt_of_diff hw g1 a1 a2
      omega
theorem last_none (T : Tells D Mb) (hk : Mb k ≠ 1) (hb : ∀ i, (bits k)[i]? = some 1 → ¬ Some1 D (upG D (bits k) i 0) i) : LastSpec Mb k none := fun j h1 hj => by
  have hkj : j < k := Nat.lt_of_le_of_ne h1 fun e => hk (e ▸ hj)
  obtain ⟨i, w, _, _, _, g0, _, _, gs⟩ := seen_below T hj hkj
  exact hb i g0 gs
/-! ### by the number of digits -/
theorem len_top {low : List Nat} (h : Dig low) : (bits (val (low ++ [1]))).length = low.length + 1 := by rw [bits_top h]; simp
theorem top_mem (T : Tells D Mb) {l : Nat} {first : Nat} {low : List Nat} (hl : LowOk D (topG D) l first low) : Mb (val (low ++ [1])) = 1 := by
  rw [T.reads.top low hl.dig]; exact hl.hit
theorem mem_top (T : Tells D Mb) {j : Nat} (hj : Mb j = 1) : ∃ w, Dig w ∧ bits j = w ++ [1] ∧ j = val (w ++ [1]) ∧ topG D (run D 0 w) = 1 ∧ Some1 D (topG D) w.length := by
  have hj0 : j ≠ 0 := fun e => by rw [e, T.zero] at hj; cases hj
  obtain ⟨w, hw, e⟩ := bits_split hj0
  have ev : j = val (w ++ [1]) := by rw [← e, val_bits]
  have hg : topG D (run D 0 w) = 1 := by
    have := T.reads.top w hw
    rw [← ev, hj] at this
    exact this.symm
  exact ⟨w, hw, e, ev, hg, w, hw, rfl, hg⟩
theorem val_top (w : List Nat) : val (w ++ [1]) = val w + 2 ^ w.length := by
  rw [val_append]; show val w + 2 ^ w.length * (1 + 2 * 0) = _; omega
theorem next_longer (T : Tells D Mb) (hk : Mb k ≠ 1) (hs : ∀ i, (bits k)[i]? = some 0 → ¬ Some1 D (upG D (bits k) i 1) i) {length : Nat} {low : List Nat} (hL : (bits k).length < length)
    (hb : ∀ l, (bits k).length < l → l < length → ¬ Some1 D (topG D) (l - 1)) (hl : LowOk D (topG D) (length - 1) 0 low) : NextSpec Mb k (some (val (low ++ [1]))) := by
  have hlen := hl.len
  have h2 := len_top hl.dig
  refine ⟨?_, top_mem T hl, fun j h1 h3 hj => ?_⟩
  · have h4 : 2 ^ (bits k).length ≤ val (low ++ [1]) := len_lt_iff.mp (by omega)
    have h5 : k < 2 ^ (bits k).length := len_le_iff.mp (Nat.le_refl _)
    omega
  · by_cases hs1 : (bits j).length ≤ (bits k).length
    · exact no_same T hk hs h1 hs1 hj
    · obtain ⟨w, hw, e, ev, hg, sm⟩ := mem_top T hj
      have hwl : (bits j).length = w.length + 1 := by rw [e]; simp
      rcases Nat.lt_trichotomy (w.length + 1) length with hc | hc | hc
      · exact hb (w.length + 1) (by omega) hc sm
      · have hbest := hl.best w hw (by omega) hg
        rw [if_pos rfl] at hbest
        rw [val_top] at h3
        rw [ev, val_top] at h3
        have : low.length = w.length := by omega
        rw [this] at h3
        omega
      · have h4 : 2 ^ length ≤ j := len_lt_iff.mp (by omega)
        have h5 := val_lt (hl.dig.app Dig.one)
        have h6 : (low ++ [1]).length = length := by simp; omega
        rw [h6] at h5
        omega
theorem next_none (T : Tells D Mb) (hk : Mb k ≠ 1) (hs : ∀ i, (bits k)[i]? = some 0 → ¬ Some1 D (upG D (bits k) i 1) i)
    (hb : ∀ l, (bits k).length < l → l ≤ (bits k).length + D.length → ¬ Some1 D (topG D) (l - 1)) : NextSpec Mb k none := fun j h1 hj => by
  by_cases hs1 : (bits j).length ≤ (bits k).length
  · exact no_same T hk hs h1 hs1 hj
  · obtain ⟨l, h2, h3, hm⟩ := T.reads.near (L := (bits k).length) (by omega) hj
    obtain ⟨l0, rfl⟩ : ∃ l0, l = l0 + 1 := ⟨l - 1, by omega⟩
    exact hb (l0 + 1) h2 h3 ((T.reads.some l0).mp hm)
theorem endless_iff (T : Tells D Mb) : Endless Mb ↔ ∃ l, D.length + 1 ≤ l ∧ l ≤ 2 * D.length ∧ Some1 D (topG D) (l - 1) := by
  rw [T.reads.endless]
  constructor
  · rintro ⟨l, h1, h2, hm⟩
    obtain ⟨l0, rfl⟩ : ∃ l0, l = l0 + 1 := ⟨l - 1, by omega⟩
    exact ⟨l0 + 1, h1, h2, (T.reads.some l0).mp hm⟩
  · rintro ⟨l, h1, h2, hm⟩
    obtain ⟨l0, rfl⟩ : ∃ l0, l = l0 + 1 := ⟨l - 1, by omega⟩
    exact ⟨l0 + 1, h1, h2, (T.reads.some l0).mpr hm⟩
theorem great_some (T : Tells D Mb) (hE : ¬ Endless Mb) {length : Nat} {low : List Nat} (h1 : 1 ≤ length) (hb : ∀ l, length < l → l ≤ D.length → ¬ Some1 D (topG D) (l - 1))
    (hl : LowOk D (topG D) (length - 1) 1 low) : GreatSpec Mb (some (val (low ++ [1]))) := by
  have hlen := hl.len
  refine ⟨top_mem T hl, fun j h2 hj => ?_⟩
  obtain ⟨w, hw, e, ev, hg, sm⟩ := mem_top T hj
  have hwl : (bits j).length = w.length + 1 := by rw [e]; simp
  have hle := T.reads.short hE hj
  rcases Nat.lt_trichotomy (w.length + 1) length with hc | hc | hc
  · have h3 : j < 2 ^ (w.length + 1) := len_le_iff.mp (by omega)
    have h4 : 2 ^ (w.length + 1) ≤ val (low ++ [1]) := len_lt_iff.mp (by rw [len_top hl.dig]; omega)
    omega
  · have hbest := hl.best w hw (by omega) hg
    rw [if_neg (by decide)] at hbest
    rw [ev, val_top, val_top] at h2
    have : low.length = w.length := by omega
    rw [this] at h2
    omega
  · exact hb (w.length + 1) hc (by omega) sm
theorem great_none (T : Tells D Mb) (hE : ¬ Endless Mb) (hb : ∀ l, 0 < l → l ≤ D.length → ¬ Some1 D (topG D) (l - 1)) : GreatSpec Mb none := fun j hj => by
  obtain ⟨w, hw, e, ev, hg, sm⟩ := mem_top T hj
  have hwl : (bits j).length = w.length + 1 := by rw [e]; simp
  have hle := T.reads.short hE hj
  exact hb (w.length + 1) (by omega) (by omega) sm
end
end W36
end

section
/-! Classes of places that are alike, by splitting. -/
set_option linter.all false
namespace W36
abbrev at0 (b : List Nat) (q : Nat) : Nat := b.getD q 0
structure Part (R : List Row) (cnt : Nat) (b : List Nat) (G : Nat → List Nat) : Prop where
  len : b.length = R.length
  lt : ∀ q, q < R.length → at0 b q < cnt
  mem : ∀ nm, nm < cnt → ∀ q, q ∈ G nm ↔ q < R.length ∧ at0 b q = nm
  nd : ∀ nm, nm < cnt → (G nm).Nodup
  two : 2 ≤ cnt
  full : ∀ nm, 2 ≤ nm → nm < cnt → ∃ q, q < R.length ∧ at0 b q = nm
  coarse : ∀ p q, p < R.length → q < R.length → Eqv R p q → at0 b p = at0 b q
  ins : ∀ p q, p < R.length → q < R.length → at0 b p = at0 b q → ins R p = ins R q
def Sep (b : List Nat) (W x y : Nat) : Prop := ¬ (at0 b x = W ↔ at0 b y = W)
def Stab (R : List Row) (b : List Nat) (work : List Nat) (dcur : Nat) (T : List Nat) : Prop := ∀ p q, p < R.length → q < R.length → at0 b p = at0 b q → ∀ d, d ≤ 1 →
  at0 b (step R p d) = at0 b (step R q d) ∨ (∃ W ∈ work, Sep b W (step R p d) (step R q d)) ∨ (dcur ≤ d ∧ ¬ (step R p d ∈ T ↔ step R q d ∈ T))
def Closed (R : List Row) (T : List Nat) : Prop := ∀ p q, p < R.length → q < R.length → Eqv R p q → (p ∈ T ↔ q ∈ T)
/-- what is split off a class by a digit and the places to which it leads -/
structure Some2 (R : List Row) (b : List Nat) (name d : Nat) (T some : List Nat) : Prop where
  nd : some.Nodup
  mem : ∀ q, q ∈ some ↔ q < R.length ∧ at0 b q = name ∧ step R q d ∈ T
  ne : some ≠ []
/-- the block behind the split -/
def Split (R : List Row) (b b' : List Nat) (cnt : Nat) (some : List Nat) : Prop := b'.length = R.length ∧ ∀ q, q < R.length → at0 b' q = if q ∈ some then cnt else at0 b q
def splitG (G : Nat → List Nat) (b' : List Nat) (cnt name : Nat) (some : List Nat) (nm : Nat) : List Nat := if nm = name then (G name).filter fun q => at0 b' q == name else if nm = cnt then some else G nm
section
variable {R : List Row} {cnt : Nat} {b b' : List Nat} {G : Nat → List Nat} {name d : Nat} {T some : List Nat}
theorem Part.cnt_le (h : Part R cnt b G) : cnt ≤ R.length + 2 := by
  have nd : ((List.range (cnt - 2)).map fun i => (G (i + 2)).headD 0).Nodup := by
    refine List.pairwise_map.mpr (List.Pairwise.imp_of_mem ?_ (List.pairwise_lt_range (n := cnt - 2)))
    intro x y hx hy hxy e
    have hx := List.mem_range.mp hx
    have hy := List.mem_range.mp hy
    have hh : ∀ i, i < cnt - 2 → at0 b ((G (i + 2)).headD 0) = i + 2 := fun i hi => by
      obtain ⟨q, q1, q2⟩ := h.full (i + 2) (by omega) (by omega)
      have hq : q ∈ G (i + 2) := (h.mem _ (by omega) q).mpr ⟨q1, q2⟩
      cases hg : G (i + 2) with
      | nil => rw [hg] at hq; cases hq
      | cons z r =>
        have hz : z ∈ G (i + 2) := by rw [hg]; exact List.mem_cons_self
        exact ((h.mem _ (by omega) z).mp hz).2
    have e1 := hh x hx
    have e2 := hh y hy
    rw [e] at e1
    omega
  have := nodup_le R.length _ nd fun x hx => by
    obtain ⟨i, hi, rfl⟩ := List.mem_map.mp hx
    have hi := List.mem_range.mp hi
    obtain ⟨q, q1, q2⟩ := h.full (i + 2) (by omega) (by omega)
    have hq : q ∈ G (i + 2) := (h.mem _ (by omega) q).mpr ⟨q1, q2⟩
    cases hg : G (i + 2) with
    | nil => rw [hg] at hq; cases hq
    | cons z r =>
      have hz : z ∈ G (i + 2) := by rw [hg]; exact List.mem_cons_self
      exact ((h.mem _ (by omega) z).mp hz).1
  simp at this
  omega
theorem nodup_sub : ∀ {l m : List Nat}, l.Nodup → (∀ x ∈ l, x ∈ m) → l.length ≤ m.length
  | [], _, _, _ => Nat.zero_le _
  | a :: l, m, hnd, hsub => by
    obtain ⟨h1, h2⟩ := List.nodup_cons.mp hnd
    have ha := hsub a List.mem_cons_self
    have h3 := nodup_sub (l := l) (m := m.erase a) h2 fun y hy => (List.mem_erase_of_ne (fun e => h1 (by rw [← e]; exact hy))).mpr (hsub y (List.mem_cons_of_mem _ hy))
    rw [List.length_erase_of_mem ha] at h3
    have : 0 < m.length := List.length_pos_of_mem ha
    simp only [List.length_cons]
    omega
/-- a duplicate-free list within another one that is no longer holds all of it -/
theorem all_in : ∀ {l m : List Nat}, l.Nodup → m.Nodup → (∀ x ∈ l, x ∈ m) → m.length ≤ l.length → ∀ x ∈ m, x ∈ l
  | [], m, _, _, _, h, x, hx => by
    have : m = [] := List.length_eq_zero_iff.mp (by simpa using h)
    rw [this] at hx; cases hx
  | a :: l, m, hl, hm, hs, h, x, hx => by
    obtain ⟨h1, h2⟩ := List.nodup_cons.mp hl
    have ha := hs a List.mem_cons_self
    have key := all_in (l := l) (m := m.erase a) h2 (hm.erase a) (fun y hy => by
      have : y ≠ a := fun e => h1 (e ▸ hy)
      exact (List.mem_erase_of_ne this).mpr (hs y (List.mem_cons_of_mem _ hy))) (by
      rw [List.length_erase_of_mem ha]
      simp only [List.length_cons] at h
      omega)
    by_cases e : x = a
    · subst e; exact List.mem_cons_self
    · exact List.mem_cons_of_mem _ (key x ((List.mem_erase_of_ne e).mpr hx))
theorem split_same (h : Part R cnt b G) (hs : Some2 R b name d T some) (sp : Split R b b' cnt some) {p q : Nat} (hp : p < R.length) (hq : q < R.length) (e : at0 b' p = at0 b' q) : at0 b p = at0 b q ∧ (p ∈ some ↔ q ∈ some) := by
  rw [sp.2 p hp, sp.2 q hq] at e
  have l1 := h.lt p hp
  have l2 := h.lt q hq
  by_cases h1 : p ∈ some
  · by_cases h2 : q ∈ some
    · exact ⟨((hs.mem p).mp h1).2.1.trans ((hs.mem q).mp h2).2.1.symm, fun _ => h2, fun _ => h1⟩
    · rw [if_pos h1, if_neg h2] at e; omega
  · by_cases h2 : q ∈ some
    · rw [if_neg h1, if_pos h2] at e; omega
    · rw [if_neg h1, if_neg h2] at e
      exact ⟨e, fun z => absurd z h1, fun z => absurd z h2⟩
theorem split_part (v : Valid R) (h : Part R cnt b G) (hn : name < cnt) (hs : Some2 R b name d T some) (sp : Split R b b' cnt some) (hc : Closed R T) (hl : some.length < (G name).length) :
    Part R (cnt + 1) b' (splitG G b' cnt name some) := by
  have rest : ∃ q, q < R.length ∧ at0 b q = name ∧ q ∉ some := by
    apply Classical.byContradiction
    intro hno
    have hsub : ∀ x ∈ G name, x ∈ some := fun x hx => by
      apply Classical.byContradiction
      intro hx2
      obtain ⟨a1, a2⟩ := (h.mem name hn x).mp hx
      exact hno ⟨x, a1, a2, hx2⟩
    have h2 : (G name).length ≤ some.length := nodup_sub (h.nd name hn) hsub
    omega
  have lt' : ∀ q, q < R.length → at0 b' q < cnt + 1 := fun q hq => by
    rw [sp.2 q hq]
    have := h.lt q hq
    split <;> omega
  refine ⟨sp.1, lt', fun nm hnm q => ?_, fun nm hnm => ?_, by have := h.two; omega, fun nm h2 hnm => ?_, fun p q hp hq he => ?_, fun p q hp hq e => h.ins p q hp hq (split_same h hs sp hp hq e).1⟩
  · unfold splitG
    by_cases h1 : nm = name
    · subst h1
      rw [if_pos rfl, List.mem_filter, h.mem nm hn]
      constructor
      · rintro ⟨⟨a1, a2⟩, a3⟩
        exact ⟨a1, by simpa using a3⟩
      · rintro ⟨a1, a2⟩
        refine ⟨⟨a1, ?_⟩, by simpa using a2⟩
        rw [sp.2 q a1] at a2
        by_cases h3 : q ∈ some
        · rw [if_pos h3] at a2; omega
        · rw [if_neg h3] at a2; exact a2
    · rw [if_neg h1]
      by_cases h2 : nm = cnt
      · subst h2
        rw [if_pos rfl, hs.mem]
        constructor
        · rintro ⟨a1, a2, a3⟩
          refine ⟨a1, ?_⟩
          rw [sp.2 q a1, if_pos ((hs.mem q).mpr ⟨a1, a2, a3⟩)]
        · rintro ⟨a1, a2⟩
          rw [sp.2 q a1] at a2
          by_cases h3 : q ∈ some
          · exact (hs.mem q).mp h3
          · rw [if_neg h3] at a2
            have := h.lt q a1
            omega
      · rw [if_neg h2, h.mem nm (by omega)]
        constructor
        · rintro ⟨a1, a2⟩
          refine ⟨a1, ?_⟩
          rw [sp.2 q a1]
          by_cases h3 : q ∈ some
          · exact absurd (a2.symm.trans ((hs.mem q).mp h3).2.1) h1
          · rw [if_neg h3]; exact a2
        · rintro ⟨a1, a2⟩
          refine ⟨a1, ?_⟩
          rw [sp.2 q a1] at a2
          by_cases h3 : q ∈ some
          · rw [if_pos h3] at a2; exact absurd a2.symm h2
          · rw [if_neg h3] at a2; exact a2
  · unfold splitG
    by_cases h1 : nm = name
    · rw [if_pos h1]
      exact (h.nd name hn).sublist List.filter_sublist
    · rw [if_neg h1]
      by_cases h2 : nm = cnt
      · rw [if_pos h2]; exact hs.nd
      · rw [if_neg h2]; exact h.nd nm (by omega)
  · by_cases h1 : nm = cnt
    · subst h1
      obtain ⟨x, hx⟩ := List.exists_mem_of_ne_nil _ hs.ne
      have a1 := ((hs.mem x).mp hx).1
      exact ⟨x, a1, by rw [sp.2 x a1, if_pos hx]⟩
    · by_cases h3 : nm = name
      · subst h3
        obtain ⟨q, a1, a2, a3⟩ := rest
        exact ⟨q, a1, by rw [sp.2 q a1, if_neg a3]; exact a2⟩
      · obtain ⟨q, a1, a2⟩ := h.full nm h2 (by omega)
        refine ⟨q, a1, ?_⟩
        rw [sp.2 q a1, if_neg (fun z => h3 (a2.symm.trans ((hs.mem q).mp z).2.1))]
        exact a2
  · have e := h.coarse p q hp hq he
    rw [sp.2 p hp, sp.2 q hq]
    have hst := hc _ _ (step_lt v hp d) (step_lt v hq d) (he.step d)
    have : p ∈ some ↔ q ∈ some := by
      rw [hs.mem, hs.mem, e, hst]
      exact ⟨fun z => ⟨hq, z.2⟩, fun z => ⟨hp, z.2⟩⟩
    by_cases h3 : p ∈ some
    · rw [if_pos h3, if_pos (this.mp h3)]
    · rw [if_neg h3, if_neg (fun z => h3 (this.mpr z))]
      exact e
theorem split_stab (v : Valid R) (h : Part R cnt b G) (hn : name < cnt) (hs : Some2 R b name d T some) (sp : Split R b b' cnt some) {work : List Nat} {dcur added : Nat} {U : List Nat} (hw : ∀ W ∈ work, W < cnt) (hst : Stab R b work dcur U)
    (ha : added = cnt ∨ added = name) (ha2 : name ∈ work → added = cnt) : Stab R b' (work ++ [added]) dcur U := by
  intro p q hp hq e d' hd'
  obtain ⟨e0, _⟩ := split_same h hs sp hp hq e
  have hx := step_lt v hp d'
  have hy := step_lt v hq d'
  -- the split of the two places reached
  have val : ∀ z, z < R.length → at0 b' z = if z ∈ some then cnt else at0 b z := sp.2
  have inn : ∀ z, z ∈ some → at0 b z = name := fun z hz => ((hs.mem z).mp hz).2.1
  have memA : ∀ {W x y}, (∃ W ∈ work, Sep b' W x y) ∨ Sep b' W x y ∧ W = added → ∃ W ∈ work ++ [added], Sep b' W x y := fun {W x y} hh => by
    rcases hh with ⟨W', h1, h2⟩ | ⟨h1, h2⟩
    · exact ⟨W', List.mem_append_left _ h1, h2⟩
    · exact ⟨W, List.mem_append_right _ (List.mem_singleton.mpr h2), h1⟩
  rcases hst p q hp hq e0 d' hd' with c | ⟨W, hW, c⟩ | c
  · by_cases h1 : step R p d' ∈ some
    · by_cases h2 : step R q d' ∈ some
      · exact .inl (by rw [val _ hx, val _ hy, if_pos h1, if_pos h2])
      · refine .inr (.inl (memA (W := added) (.inr ⟨?_, rfl⟩)))
        have ex : at0 b' (step R p d') = cnt := by rw [val _ hx, if_pos h1]
        have ey : at0 b' (step R q d') = name := by rw [val _ hy, if_neg h2, ← c]; exact inn _ h1
        unfold Sep
        rw [ex, ey]
        rcases ha with rfl | rfl <;> omega
    · by_cases h2 : step R q d' ∈ some
      · refine .inr (.inl (memA (W := added) (.inr ⟨?_, rfl⟩)))
        have ey : at0 b' (step R q d') = cnt := by rw [val _ hy, if_pos h2]
        have ex : at0 b' (step R p d') = name := by rw [val _ hx, if_neg h1, c]; exact inn _ h2
        unfold Sep
        rw [ex, ey]
        rcases ha with rfl | rfl <;> omega
      · exact .inl (by rw [val _ hx, val _ hy, if_neg h1, if_neg h2]; exact c)
  · have hWc := hw W hW
    by_cases hWn : W = name
    · subst hWn
      have ea := ha2 hW
      -- exactly one of the two lay in the class
      have one : ∀ x y, x < R.length → y < R.length → at0 b x = W → at0 b y ≠ W → (∃ W' ∈ work ++ [added], Sep b' W' x y) := fun x y hx hy c1 c2 => by
        have hyn : y ∉ some := fun z => c2 (inn y z)
        have ey : at0 b' y = at0 b y := by rw [val _ hy, if_neg hyn]
        have ly := h.lt y hy
        by_cases h1 : x ∈ some
        · refine memA (W := added) (.inr ⟨?_, rfl⟩)
          have ex : at0 b' x = cnt := by rw [val _ hx, if_pos h1]
          unfold Sep
          rw [ex, ey, ea]
          omega
        · refine memA (W := W) (.inl ⟨W, hW, ?_⟩)
          have ex : at0 b' x = W := by rw [val _ hx, if_neg h1]; exact c1
          unfold Sep
          rw [ex, ey]
          omega
      unfold Sep at c
      by_cases c1 : at0 b (step R p d') = W
      · exact .inr (.inl (one _ _ hx hy c1 fun c2 => c ⟨fun _ => c2, fun _ => c1⟩))
      · have c2 : at0 b (step R q d') = W := by
          apply Classical.byContradiction
          intro c2
          exact c ⟨fun z => absurd z c1, fun z => absurd z c2⟩
        obtain ⟨W', w1, w2⟩ := one _ _ hy hx c2 c1
        exact .inr (.inl ⟨W', w1, fun z => w2 ⟨z.2, z.1⟩⟩)
    · refine .inr (.inl (memA (W := W) (.inl ⟨W, hW, ?_⟩)))
      have keep : ∀ z, z < R.length → (at0 b' z = W ↔ at0 b z = W) := fun z hz => by
        rw [val z hz]
        by_cases h1 : z ∈ some
        · rw [if_pos h1, inn z h1]
          exact ⟨fun z => by omega, fun z => absurd z.symm hWn⟩
        · rw [if_neg h1]
      unfold Sep
      rw [keep _ hx, keep _ hy]
      exact c
  · exact .inr (.inr c)
/-- classes that the digit does not lead as one stand among the names that are left -/
def Mix (R : List Row) (b : List Nat) (d : Nat) (T ns : List Nat) : Prop := ∀ p q, p < R.length → q < R.length → at0 b p = at0 b q → step R p d ∈ T → step R q d ∉ T → at0 b p ∈ ns
theorem mix_skip (h : Part R cnt b G) (hn : name < cnt) {ns : List Nat} (hnd : some.Nodup) (hm : ∀ q, q ∈ some ↔ q < R.length ∧ at0 b q = name ∧ step R q d ∈ T) (hl : ¬ some.length < (G name).length) (hx : Mix R b d T (name :: ns)) : Mix R b d T ns := by
  intro p q hp hq e h1 h2
  rcases List.mem_cons.mp (hx p q hp hq e h1 h2) with c | c
  · exfalso
    have hq' : q ∈ G name := (h.mem name hn q).mpr ⟨hq, by rw [← e]; exact c⟩
    have := all_in (l := some) (m := G name) hnd (h.nd name hn) (fun x hx => (h.mem name hn x).mpr ⟨((hm x).mp hx).1, ((hm x).mp hx).2.1⟩) (by omega) q hq'
    exact h2 ((hm q).mp this).2.2
  · exact c
theorem mix_split (h : Part R cnt b G) (hn : name < cnt) {ns : List Nat} (hs : Some2 R b name d T some) (sp : Split R b b' cnt some) (hx : Mix R b d T (name :: ns)) : Mix R b' d T ns := by
  intro p q hp hq e h1 h2
  obtain ⟨e0, e1⟩ := split_same h hs sp hp hq e
  rcases List.mem_cons.mp (hx p q hp hq e0 h1 h2) with c | c
  · exfalso
    have hp' : p ∈ some := (hs.mem p).mpr ⟨hp, c, h1⟩
    exact h2 ((hs.mem q).mp (e1.mp hp')).2.2
  · have hp' : p ∉ some := fun z => h2 ((hs.mem q).mp (e1.mp z)).2.2
    rw [sp.2 p hp, if_neg hp']
    exact c
theorem stab_next {work U : List Nat} (hst : Stab R b work d T) (hx : Mix R b d T []) : Stab R b work (d + 1) T := by
  intro p q hp hq e d' hd'
  rcases hst p q hp hq e d' hd' with c | c | ⟨c1, c2⟩
  · exact .inl c
  · exact .inr (.inl c)
  · by_cases hd : d' = d
    · subst hd
      exfalso
      by_cases h1 : step R p d' ∈ T
      · by_cases h2 : step R q d' ∈ T
        · exact c2 ⟨fun _ => h2, fun _ => h1⟩
        · exact absurd (hx p q hp hq e h1 h2) (by simp)
      · by_cases h2 : step R q d' ∈ T
        · exact absurd (hx q p hq hp e.symm h2 h1) (by simp)
        · exact c2 ⟨fun z => absurd z h1, fun z => absurd z h2⟩
    · exact .inr (.inr ⟨by omega, c2⟩)
theorem stab_pop (v : Valid R) (h : Part R cnt b G) {work U : List Nat} {W : Nat} (hW : W < cnt) (hst : Stab R b (work ++ [W]) 2 U) : Stab R b work 0 (G W) := by
  intro p q hp hq e d' hd'
  rcases hst p q hp hq e d' hd' with c | ⟨W', h1, c⟩ | ⟨c1, _⟩
  · exact .inl c
  · rcases List.mem_append.mp h1 with h1 | h1
    · exact .inr (.inl ⟨W', h1, c⟩)
    · have := List.mem_singleton.mp h1
      subst this
      refine .inr (.inr ⟨Nat.zero_le _, ?_⟩)
      rw [h.mem _ hW, h.mem _ hW]
      unfold Sep at c
      intro z
      exact c ⟨fun y => (z.mp ⟨step_lt v hp d', y⟩).2, fun y => (z.mpr ⟨step_lt v hq d', y⟩).2⟩
  · omega
theorem part_closed (h : Part R cnt b G) {W : Nat} (hW : W < cnt) : Closed R (G W) := fun p q hp hq e => by
  rw [h.mem W hW, h.mem W hW, h.coarse p q hp hq e]
  exact ⟨fun z => ⟨hq, z.2⟩, fun z => ⟨hp, z.2⟩⟩
/-- classes that are as they should be -/
def BlockOk (R : List Row) (b : List Nat) : Prop := b.length = R.length ∧ ∀ p q, p < R.length → q < R.length → (at0 b p = at0 b q ↔ Eqv R p q)
theorem block_ok (v : Valid R) (h : Part R cnt b G) {U : List Nat} (hst : Stab R b [] 2 U) : BlockOk R b := by
  refine ⟨h.len, fun p q hp hq => ⟨fun e w => ?_, h.coarse p q hp hq⟩⟩
  have stp : ∀ p q, p < R.length → q < R.length → at0 b p = at0 b q → ∀ d, at0 b (step R p d) = at0 b (step R q d) := fun p q hp hq e d => by
    have one : ∀ d, d ≤ 1 → at0 b (step R p d) = at0 b (step R q d) := fun d hd => by
      rcases hst p q hp hq e d hd with c | ⟨_, c, _⟩ | ⟨c, _⟩
      · exact c
      · cases c
      · omega
    by_cases hd : d = 0
    · exact one d (by omega)
    · rw [step_pos hd, step_pos hd]; exact one 1 (Nat.le_refl _)
  have key : ∀ (w : List Nat) p q, p < R.length → q < R.length → at0 b p = at0 b q → W36.ins R (run R p w) = W36.ins R (run R q w) := by
    intro w
    induction w with
    | nil => exact fun p q hp hq e => h.ins p q hp hq e
    | cons d w ih => exact fun p q hp hq e => ih _ _ (step_lt v hp d) (step_lt v hq d) (stp p q hp hq e d)
  exact key w p q hp hq e
/-- the start: inside or not -/
theorem part_init {R : List Row} (v : Valid R) {b : List Nat} {G : Nat → List Nat} (hb : b.length = R.length) (hi : ∀ q, q < R.length → at0 b q = W36.ins R q) (h0 : ∀ q, q ∈ G 0 ↔ q < R.length ∧ W36.ins R q = 0) (h1 : ∀ q, q ∈ G 1 ↔ q < R.length ∧ W36.ins R q = 1) (n0 : (G 0).Nodup) (n1 : (G 1).Nodup) : Part R 2 b G := by
  refine ⟨hb, fun q hq => by rw [hi q hq]; have := ins_le v q; omega, fun nm hnm q => ?_, fun nm hnm => ?_, Nat.le_refl _, fun nm h2 h3 => by omega, fun p q hp hq e => ?_, fun p q hp hq e => ?_⟩
  · have : nm = 0 ∨ nm = 1 := by omega
    rcases this with rfl | rfl
    · rw [h0]; exact ⟨fun z => ⟨z.1, by rw [hi q z.1]; exact z.2⟩, fun z => ⟨z.1, by rw [← hi q z.1]; exact z.2⟩⟩
    · rw [h1]; exact ⟨fun z => ⟨z.1, by rw [hi q z.1]; exact z.2⟩, fun z => ⟨z.1, by rw [← hi q z.1]; exact z.2⟩⟩
  · have : nm = 0 ∨ nm = 1 := by omega
    rcases this with rfl | rfl
    · exact n0
    · exact n1
  · rw [hi p hp, hi q hq]; exact e.ins
  · rw [hi p hp, hi q hq] at e; exact e
theorem stab_init {R : List Row} (v : Valid R) {b : List Nat} (hi : ∀ q, q < R.length → at0 b q = W36.ins R q) : Stab R b [0, 1] 2 [] := by
  intro p q hp hq e d hd
  have hx := step_lt v hp d
  have hy := step_lt v hq d
  have l1 := ins_le v (step R p d)
  have l2 := ins_le v (step R q d)
  rw [← hi _ hx] at l1
  rw [← hi _ hy] at l2
  by_cases c : at0 b (step R p d) = at0 b (step R q d)
  · exact .inl c
  · refine .inr (.inl ⟨0, by simp, ?_⟩)
    unfold Sep
    omega
end
end W36
end

section
/-! Counting of members; the ends; the two special rows. -/
set_option linter.all false
namespace W36
def cq (R : List Row) (q : Nat) : Nat → Nat
  | 0 => 0
  | n + 1 => cq R q n + ins R (run R q (bits (n + 1)))
theorem run_bit {R : List Row} {q d j : Nat} (hd : d ≤ 1) (hj : j ≠ 0) : run R q (bits (d + 2 * j)) = run R (step R q d) (bits j) := by
  rw [bits_double hj hd]; rfl
theorem cq_odd (R : List Row) (q : Nat) : ∀ m, cq R q (2 * m + 1) = ins R (step R q 1) + cq R (step R q 0) m + cq R (step R q 1) m
  | 0 => by
    show 0 + ins R (run R q (bits 1)) = _
    rw [bits_one, Nat.zero_add]; rfl
  | m + 1 => by
    have ih := cq_odd R q m
    have e1 : 2 * (m + 1) + 1 = (2 * m + 1) + 1 + 1 := by omega
    rw [e1]
    show cq R q (2 * m + 1) + ins R (run R q (bits (2 * m + 1 + 1))) + ins R (run R q (bits (2 * m + 1 + 1 + 1))) = ins R (step R q 1) + (cq R (step R q 0) m + ins R (run R (step R q 0) (bits (m + 1)))) + (cq R (step R q 1) m + ins R (run R (step R q 1) (bits (m + 1))))
    have e2 : 2 * m + 1 + 1 = 0 + 2 * (m + 1) := by omega
    have e3 : 2 * m + 1 + 1 + 1 = 1 + 2 * (m + 1) := by omega
    rw [e3, e2, run_bit (by decide) (by omega), run_bit (by decide) (by omega), ih]
    omega
theorem cq_even (R : List Row) (q m : Nat) : cq R q (2 * (m + 1)) = ins R (step R q 1) + cq R (step R q 0) (m + 1) + cq R (step R q 1) m := by
  have e1 : 2 * (m + 1) = (2 * m + 1) + 1 := by omega
  rw [e1]
  show cq R q (2 * m + 1) + ins R (run R q (bits (2 * m + 1 + 1))) = ins R (step R q 1) + (cq R (step R q 0) m + ins R (run R (step R q 0) (bits (m + 1)))) + cq R (step R q 1) m
  have e2 : 2 * m + 1 + 1 = 0 + 2 * (m + 1) := by omega
  rw [e2, run_bit (by decide) (by omega), cq_odd]
  omega
/-- one place further down -/
theorem cq_after (R : List Row) (q : Nat) {rest r b : Nat} (e : rest = 2 * r + b) (hb : b ≤ 1) (h1 : 1 ≤ rest) :
    cq R q rest = ins R (step R q 1) + cq R (step R q 0) r + cq R (step R q 1) (if b = 1 then r else r - 1) := by
  subst e
  have : b = 0 ∨ b = 1 := by omega
  rcases this with rfl | rfl
  · obtain ⟨s, rfl⟩ : ∃ s, r = s + 1 := ⟨r - 1, by omega⟩
    rw [Nat.add_zero, cq_even, if_neg (by decide), Nat.add_sub_cancel]
  · rw [cq_odd, if_pos rfl]
theorem cq_below (R : List Row) (q : Nat) {rest r b : Nat} (e : rest = 2 * r + b) (hb : b ≤ 1) (h1 : 1 ≤ rest) :
    cq R q (rest - 1) = ins R (step R q 1) * (if 1 < rest then 1 else 0) + cq R (step R q 0) (if b = 1 then r else r - 1) + cq R (step R q 1) (r - 1) := by
  subst e
  have : b = 0 ∨ b = 1 := by omega
  rcases this with rfl | rfl
  · obtain ⟨s, rfl⟩ : ∃ s, r = s + 1 := ⟨r - 1, by omega⟩
    have e2 : 2 * (s + 1) + 0 - 1 = 2 * s + 1 := by omega
    rw [e2, cq_odd, if_pos (by omega), if_neg (by decide), Nat.add_sub_cancel, Nat.mul_one]
  · rw [Nat.add_sub_cancel, if_pos rfl]
    cases r with
    | zero =>
      rw [if_neg (by decide), Nat.mul_zero]; rfl
    | succ s =>
      rw [if_pos (by omega), Nat.mul_one, cq_even, Nat.add_sub_cancel]
def cntM (Mb : Nat → Nat) : Nat → Nat
  | 0 => 0
  | n + 1 => cntM Mb n + Mb (n + 1)
theorem cq_cnt (R : List Row) : ∀ n, cq R 0 n = cntM (memb R) n
  | 0 => rfl
  | n + 1 => by
    show cq R 0 n + _ = cntM (memb R) n + memb R (n + 1)
    rw [cq_cnt R n, memb_pos R (by omega)]
section
variable {Mb : Nat → Nat}
theorem cnt_mono {n m : Nat} (h : n ≤ m) : cntM Mb n ≤ cntM Mb m := by
  induction h with
  | refl => exact Nat.le_refl _
  | step _ ih => exact Nat.le_trans ih (Nat.le_add_right _ _)
theorem cnt_same {n m : Nat} (h : n ≤ m) (h1 : ∀ k, Mb k ≤ 1) : cntM Mb n = cntM Mb m ↔ ∀ j, n < j → j ≤ m → Mb j ≠ 1 := by
  induction h with
  | refl => exact ⟨fun _ j h1 h2 => by omega, fun _ => rfl⟩
  | @step m hnm ih =>
    have hnm' : n ≤ m := hnm
    have hm := cnt_mono (Mb := Mb) hnm'
    show cntM Mb n = cntM Mb m + Mb (m + 1) ↔ _
    constructor
    · intro e
      have e1 : cntM Mb n = cntM Mb m := by omega
      have e2 : Mb (m + 1) = 0 := by omega
      intro j a b
      by_cases hj : j = m + 1
      · subst hj; omega
      · exact ih.mp e1 j a (by omega)
    · intro h
      have e1 := ih.mpr fun j a b => h j a (by omega)
      have e2 := h (m + 1) (by omega) (Nat.le_refl _)
      have := h1 (m + 1)
      omega
theorem cnt_zero {m : Nat} (h1 : ∀ k, Mb k ≤ 1) (h0 : Mb 0 = 0) : cntM Mb m = 0 ↔ ∀ j, j ≤ m → Mb j ≠ 1 := by
  have h := cnt_same (Mb := Mb) (Nat.zero_le m) h1
  constructor
  · intro e j hj
    by_cases hz : j = 0
    · subst hz; rw [h0]; decide
    · exact h.mp (by rw [e]; rfl) j (by omega) hj
  · intro e
    exact (h.mpr fun j _ hj => e j hj).symm
theorem co_le (k : Nat) : co Mb k ≤ 1 := by unfold co; split <;> omega
theorem cnt_co (h1 : ∀ k, Mb k ≤ 1) : ∀ n, cntM (co Mb) n + cntM Mb n = n
  | 0 => rfl
  | n + 1 => by
    have ih := cnt_co h1 n
    have := h1 (n + 1)
    show cntM (co Mb) n + co Mb (n + 1) + (cntM Mb n + Mb (n + 1)) = n + 1
    have e : co Mb (n + 1) = 1 - Mb (n + 1) := by unfold co; rw [if_neg (by omega)]
    rw [e]; omega
theorem pow_le {a b : Nat} (h : a ≤ b) : 2 ^ a ≤ 2 ^ b := Nat.pow_le_pow_right (by decide) h
section
variable {M : List Row} {g : Nat → Nat}
theorem none_cnt (r : Reads M g Mb) (h1 : ∀ k, Mb k ≤ 1) (h0 : Mb 0 = 0) : (∀ k, Mb k ≠ 1) ↔ cntM Mb (2 ^ (2 * M.length) - 1) = 0 := by
  rw [cnt_zero h1 h0]
  constructor
  · exact fun h j _ => h j
  · intro h k hk
    have hk0 : k ≠ 0 := fun e => by rw [e, h0] at hk; cases hk
    have hl : 0 < (bits k).length := by rw [bits_pos hk0]; simp
    obtain ⟨l, a, b, k', c, d⟩ := r.near hl hk
    have e1 := (len_le_iff (k := k') (L := l)).mp (by omega)
    have e2 : 2 ^ l ≤ 2 ^ (2 * M.length) := pow_le (by omega)
    exact h k' (by omega) d
theorem endless_cnt (r : Reads M g Mb) (h1 : ∀ k, Mb k ≤ 1) : Endless Mb ↔ cntM Mb (2 ^ M.length - 1) < cntM Mb (2 ^ (2 * M.length) - 1) := by
  have hp : 2 ^ M.length ≤ 2 ^ (2 * M.length) := pow_le (by omega)
  have hle : 2 ^ M.length - 1 ≤ 2 ^ (2 * M.length) - 1 := by omega
  have hs := cnt_same (Mb := Mb) hle h1
  have hm := cnt_mono (Mb := Mb) hle
  have hpos : 0 < 2 ^ M.length := Nat.pos_of_ne_zero (by simp)
  rw [r.endless]
  constructor
  · rintro ⟨l, a, b, k, c, d⟩
    apply Classical.byContradiction
    intro hn
    have e := hs.mp (by omega)
    have e1 := (len_le_iff (k := k) (L := 2 * M.length)).mp (by omega)
    have e2 := (len_lt_iff (k := k) (L := M.length)).mp (by omega)
    exact e k (by omega) (by omega) d
  · intro h
    apply Classical.byContradiction
    intro hn
    have : cntM Mb (2 ^ M.length - 1) = cntM Mb (2 ^ (2 * M.length) - 1) := hs.mpr fun j a b hj => hn ⟨(bits j).length, (len_lt_iff (k := j) (L := M.length)).mpr (by omega), (len_le_iff (k := j) (L := 2 * M.length)).mpr (by omega), j, rfl, hj⟩
    omega
theorem great_small (r : Reads M g Mb) (hE : ¬ Endless Mb) {t : Nat} (ht : Mb t = 1) : t < 2 ^ M.length := len_le_iff.mp (r.short hE ht)
end
end
/-! ### the special rows -/
def norm (w : List Nat) : List Nat := w.map fun d => if d = 0 then 0 else 1
theorem norm_dig (w : List Nat) : Dig (norm w) := fun d hd => by
  obtain ⟨x, _, rfl⟩ := List.mem_map.mp hd
  show (if x = 0 then 0 else 1) ≤ 1
  split <;> decide
theorem norm_run (R : List Row) : ∀ (w : List Nat) (q : Nat), run R q (norm w) = run R q w
  | [], _ => rfl
  | d :: w, q => by
    show run R (step R q (if d = 0 then 0 else 1)) (norm w) = run R (step R q d) w
    rw [norm_run R w]
    by_cases h : d = 0
    · rw [if_pos h, h]
    · rw [if_neg h, step_pos h]
theorem Tells.any {D : List Row} {Mb : Nat → Nat} (T : Tells D Mb) (w : List Nat) : ins D (run D 0 w) = Mb (val (norm w)) := by
  rw [← norm_run, T.acc _ (norm_dig w)]
theorem least_none {R D : List Row} {Mb : Nat → Nat} {s : Nat} (T : Tells D Mb) (L : LeastOk R s D) : D = [(0, 0, 0)] ↔ ∀ k, Mb k ≠ 1 := by
  constructor
  · rintro rfl k
    have h := T.at k
    have : ∀ w : List Nat, run [(0, 0, 0)] 0 w = 0 := by
      intro w
      induction w with
      | nil => rfl
      | cons d w ih =>
        show run [(0, 0, 0)] (step [(0, 0, 0)] 0 d) w = 0
        have : step [(0, 0, 0)] 0 d = 0 := by
          rw [step_get (R := [(0, 0, 0)]) (q := 0) (r := (0, 0, 0)) rfl]; split <;> rfl
        rw [this]; exact ih
    rw [this] at h
    rw [← h]; decide
  · intro h
    have z : ∀ k, Mb k = 0 := fun k => by have := T.le k; have := h k; omega
    have all : ∀ w, ins D (run D 0 w) = 0 := fun w => by rw [T.any, z]
    have e : ∀ i, i < D.length → i = 0 := fun i hi => by
      obtain ⟨w, hw⟩ := L.reach i hi
      refine L.apart i 0 hi L.pos fun u => ?_
      rw [← hw, ← run_append, all, all]
    have hl : D.length = 1 := by
      have := L.pos
      apply Classical.byContradiction
      intro hn
      have := e 1 (by omega)
      cases this
    obtain ⟨r, rfl⟩ := List.length_eq_one_iff.mp hl
    have h0 := step_lt L.valid (q := 0) (by simp) 0
    have h1 := step_lt L.valid (q := 0) (by simp) 1
    have h2 := all []
    rw [step_get (r := r) rfl] at h0 h1
    rw [show run [r] 0 [] = 0 from rfl, ins_get (r := r) rfl] at h2
    obtain ⟨a, b, c⟩ := r
    simp at h0 h1 h2
    rw [h0, h1, h2]
theorem least_all {R D : List Row} {Mb : Nat → Nat} {s : Nat} (T : Tells D Mb) (L : LeastOk R s D) : D = allRows ↔ ∀ k, k ≠ 0 → Mb k = 1 := by
  constructor
  · rintro rfl k hk
    have h := T.at k
    rw [all_run _ (bits_dig k), val_bits, if_neg hk] at h
    rw [← h]; rfl
  · intro h
    have val0 : ∀ w, ins D (run D 0 w) = if val (norm w) = 0 then 0 else 1 := fun w => by
      rw [T.any]
      by_cases hz : val (norm w) = 0
      · rw [if_pos hz, hz, T.zero]
      · rw [if_neg hz, h _ hz]
    have napp : ∀ u w, norm (u ++ w) = norm u ++ norm w := fun u w => by unfold norm; rw [List.map_append]
    have vz : ∀ u w, val (norm (u ++ w)) = 0 ↔ val (norm u) = 0 ∧ val (norm w) = 0 := fun u w => by
      rw [napp, val_append]
      have hp : 0 < 2 ^ (norm u).length := Nat.pos_of_ne_zero (by simp)
      constructor
      · intro e
        have h1 : val (norm u) = 0 := by omega
        have h2 : 2 ^ (norm u).length * val (norm w) = 0 := by omega
        rcases Nat.mul_eq_zero.mp h2 with h3 | h3
        · omega
        · exact ⟨h1, h3⟩
      · rintro ⟨h1, h2⟩; rw [h1, h2]; rfl
    have cls : ∀ u i, run D 0 u = i → i < D.length → (val (norm u) = 0 → i = 0) := fun u i e hi hz => by
      refine L.apart i 0 hi L.pos fun w => ?_
      rw [← e, ← run_append, val0, val0]
      by_cases hw : val (norm w) = 0
      · rw [if_pos ((vz u w).mpr ⟨hz, hw⟩), if_pos hw]
      · rw [if_neg (fun z => hw ((vz u w).mp z).2), if_neg hw]
    have cls2 : ∀ u v i j, run D 0 u = i → run D 0 v = j → i < D.length → j < D.length → val (norm u) ≠ 0 → val (norm v) ≠ 0 → i = j := fun u v i j eu ev hi hj hu hv => by
      refine L.apart i j hi hj fun w => ?_
      rw [← eu, ← ev, ← run_append, ← run_append, val0, val0, if_neg (fun z => hu ((vz u w).mp z).1), if_neg (fun z => hv ((vz v w).mp z).1)]
    have hs1 := step_lt L.valid L.pos 1
    have v1 : val (norm [1]) ≠ 0 := by decide
    have i0 : ins D 0 = 0 := by have := val0 []; exact this
    have is : ins D (step D 0 1) = 1 := by have := val0 [1]; rw [if_neg v1] at this; exact this
    have sne : step D 0 1 ≠ 0 := fun e => by rw [e, i0] at is; cases is
    have two : ∀ i, i < D.length → i = 0 ∨ i = step D 0 1 := fun i hi => by
      obtain ⟨w, hw⟩ := L.reach i hi
      by_cases hz : val (norm w) = 0
      · exact .inl (cls w i hw hi hz)
      · exact .inr (cls2 w [1] i _ hw rfl hi hs1 hz v1)
    have es : step D 0 1 = 1 := by
      have := two 1 (by omega)
      omega
    have hl : D.length = 2 := by
      apply Classical.byContradiction
      intro hn
      have := two 2 (by omega)
      omega
    rw [es] at is hs1
    have e00 : step D 0 0 = 0 := cls [0] _ rfl (step_lt L.valid L.pos 0) (by decide)
    have e1 : ∀ d, d ≤ 1 → step D 1 d = 1 := fun d hd => by
      have : run D 0 [1, d] = step D 1 d := by show step D (step D 0 1) d = _; rw [es]
      refine cls2 [1, d] [1] _ _ this es (step_lt L.valid hs1 d) hs1 (fun z => ?_) v1
      have := (vz [1] [d]).mp z
      exact v1 this.1
    have e10 := e1 0 (by decide)
    have e11 := e1 1 (by decide)
    match D, hl with
    | [a, b], _ =>
      rw [step_get (r := a) rfl] at e00 es
      rw [step_get (r := b) rfl] at e10 e11
      rw [ins_get (r := a) rfl] at i0
      rw [ins_get (r := b) rfl] at is
      obtain ⟨a1, a2, a3⟩ := a
      obtain ⟨b1, b2, b3⟩ := b
      simp at e00 es e10 e11 i0 is
      subst e00 es e10 e11 i0 is
      rfl
end W36
end

section
set_option linter.all false
set_option maxRecDepth 100000
set_option maxHeartbeats 4000000
/-! Sets of ints by comprehension: one clause, two clauses, no tests; the element an int. -/
namespace W36
open PySem PySem.Spec PyProof.Rows L2

section
variable {X : Cx}
/-- what adding the int y to the set at D asks, and where it leads -/
def AddTo (w : World) (D : Addr) (y : V) (H : Hp) (Nx : Hp → Prop) : Prop :=
  ∃ (c : Int) (S : Int → Bool) (n : Nat), y = .int c ∧ H D = some (SetO w D S n) ∧ n + 1 < scanBound ∧ Nx (upd H D (SetO w D (fun j => S j || decide (j = c)) (if S c = true then n else n + 1)))
theorem add_to {pins : List (Addr × Obj)} {σ : L2.St} {H : Hp} {s : Shared} {E : Value → Shared → Prop} {D : Addr} {y : V} {u : Value} {Nx : Hp → Prop} {Q : Value → Shared → Prop}
    (I : Inv X pins σ H s) (r : RelV y u) (a : AddTo X.w D y H Nx) (k : ∀ s' H', Inv X pins σ H' s' → Nx H' → Q .none s') : wpAny (model X.prog X.w) X.A (call (.builtin "set.add") [.ref D, u]) Q E s := by
  obtain ⟨c, S, n, rfl, hD, room, nx⟩ := a
  obtain ⟨tk, rfl⟩ := r
  refine setR_add (setO_get I hD) room fun h' sb new => ?_
  have ⟨o, _, _, _, ho, _⟩ := new
  exact k _ _ (I.write (e := D) (t' := s.toks + 1) (by rw [hD]; trivial) (.inl rfl) (fun b v hb hv => (sb.2 b hb).trans hv) ⟨o, ho⟩ (setO_new new)) nx
/-- the block's context, behind the making of the set -/
abbrev bk (X : Cx) (scope : Scope) (s : Shared) (H : Hp) (C : Addr) (cl : List (PySem.Str × Addr)) (fp : List Addr) : Cx := X.blk s H scope (compEnvC scope cl C X.env) fp

section
variable {prog : Program} {w : World} {A : Around} {R : Result → Shared → Prop} {s : Shared} {elt t0 i0 t1 i1 : Expr} {scope : Scope} {pos : Pos} {it acc : Value} {env : Env}
abbrev NoteR (prog : Program) (w : World) (A : Around) (env : Env) (R : Result → Shared → Prop) : Value → Shared → Prop := notedBy (model prog w) A env fun e s' => R (.error e) s'
abbrev sc1 (elt t0 i0 : Expr) (scope : Scope) (pos : Pos) : Expr := .SetComp elt [⟨t0, i0, [], 0⟩] scope pos
abbrev sc2 (elt t0 i0 t1 i1 : Expr) (scope : Scope) (pos : Pos) : Expr := .SetComp elt [⟨t0, i0, [], 0⟩, ⟨t1, i1, [], 0⟩] scope pos
theorem turn_sc1 : compTurn (sc1 elt t0 i0 scope pos) 0 it acc env = (do
      standAt i0.pos
      match ← pyNext it with
      | none => pure (.done .next)
      | some v =>
        letOwnedTupleGo t0 it v
        assign t0 env v
        (do let x ← eval elt env; standAt elt.pos; let _ ← call (.builtin "set.add") [acc, x])
        again (.compLoop (sc1 elt t0 i0 scope pos) 0 it acc env)) := by rfl
theorem turn_sc2_out : compTurn (sc2 elt t0 i0 t1 i1 scope pos) 0 it acc env = (do
      standAt i0.pos
      match ← pyNext it with
      | none => pure (.done .next)
      | some v =>
        letOwnedTupleGo t0 it v
        assign t0 env v
        let x ← eval i1 env
        standAt i1.pos
        let x ← foldedSetIterable i1 env x
        let _ ← runOwn (.compStart (sc2 elt t0 i0 t1 i1 scope pos) 1 (← holding [x] (pyIter x)) acc env) env
        again (.compLoop (sc2 elt t0 i0 t1 i1 scope pos) 0 it acc env)) := by rfl
theorem turn_sc2_in : compTurn (sc2 elt t0 i0 t1 i1 scope pos) 1 it acc env = (do
      standAt i1.pos
      match ← pyNext it with
      | none => pure (.done .next)
      | some v =>
        letOwnedTupleGo t1 it v
        assign t1 env v
        (do let x ← eval elt env; standAt elt.pos; let _ ← call (.builtin "set.add") [acc, x])
        again (.compLoop (sc2 elt t0 i0 t1 i1 scope pos) 1 it acc env)) := by rfl

/-- a clause that adds its element: the loop -/
theorem loop_add {e : Expr} {ix : Nat} {tg : Expr} {p : Pos} (ht : compTurn e ix it acc env = (do
      standAt p
      match ← pyNext it with
      | none => pure (.done .next)
      | some v =>
        letOwnedTupleGo tg it v
        assign tg env v
        (do let x ← eval elt env; standAt elt.pos; let _ ← call (.builtin "set.add") [acc, x])
        again (.compLoop e ix it acc env))) (hA : A.under (.compLoop e ix it acc env) = A)
    (hd : (model prog w).den (.compLoop e ix it acc env) = (compTurn e ix it acc env).onRaise fun x => do noteFrame x env; theTreesLotGoes x) (I : Nat → Shared → Prop)
    (turn : ∀ n s, I n s → wpAny (model prog w) A (pyNext it) (fun r s₁ => match r with
      | none => R (.ok .next) s₁
      | some v => wpAny (model prog w) A (letOwnedTupleGo tg it v) (fun _ s₂ => wpAny (model prog w) A (assign tg env v) (fun _ s₃ => wpAny (model prog w) A (eval elt env) (fun x s₄ =>
          wpAny (model prog w) A (call (.builtin "set.add") [acc, x]) (fun _ s₅ => ∃ m, m < n ∧ I m s₅) (NoteR prog w A env R) s₄) (NoteR prog w A env R) s₃) (NoteR prog w A env R) s₂) (NoteR prog w A env R) s₁) (NoteR prog w A env R) s)
    (n : Nat) (h : I n s) : codeAny (model prog w) A (.compLoop e ix it acc env) R s := by
  refine codeAny_loop rfl I (fun n s hI => ?_) n h
  rw [hA, hd]
  refine wpAny_noted ?_
  rw [ht]
  refine wpAny_bind (wpAny_standAt (wpAny_bind (thn (turn n s hI) fun r s₁ h₁ => ?_)))
  cases r with
  | none => exact wpAny_pure h₁
  | some v =>
    refine wpAny_bind (thn h₁ fun _ s₂ h₂ => wpAny_bind (thn h₂ fun _ s₃ h₃ => wpAny_bind (wpAny_bind (thn h₃ fun x s₄ h₄ => ?_))))
    exact wpAny_bind (wpAny_standAt (wpAny_bind (thn h₄ fun _ s₅ h₅ => wpAny_pure (wpAny_pure ⟨rfl, h₅⟩))))
/-- the outer of two clauses: the inner one runs to its end -/
theorem loop_out (hs : ∀ x, foldedSetIterable i1 env x = pure x) (I : Nat → Shared → Prop)
    (turn : ∀ n s, I n s → wpAny (model prog w) A (pyNext it) (fun r s₁ => match r with
      | none => R (.ok .next) s₁
      | some v => wpAny (model prog w) A (letOwnedTupleGo t0 it v) (fun _ s₂ => wpAny (model prog w) A (assign t0 env v) (fun _ s₃ => wpAny (model prog w) A (eval i1 env) (fun x s₄ =>
          wpAny (model prog w) A (pyIter x) (fun it1 s₅ => codeAny (model prog w) A (.compStart (sc2 elt t0 i0 t1 i1 scope pos) 1 it1 acc env) (fun r s' => match r with
            | .ok _ => ∃ m, m < n ∧ I m s'
            | .error _ => False) s₅) (NoteR prog w A env R) s₄) (NoteR prog w A env R) s₃) (NoteR prog w A env R) s₂) (NoteR prog w A env R) s₁) (NoteR prog w A env R) s)
    (n : Nat) (h : I n s) : codeAny (model prog w) A (.compLoop (sc2 elt t0 i0 t1 i1 scope pos) 0 it acc env) R s := by
  refine codeAny_loop rfl I (fun n s hI => ?_) n h
  show wpAny _ A ((compTurn (sc2 elt t0 i0 t1 i1 scope pos) 0 it acc env).onRaise (fun x => do noteFrame x env; theTreesLotGoes x)) _ _ s
  refine wpAny_noted ?_
  rw [turn_sc2_out]
  refine wpAny_bind (wpAny_standAt (wpAny_bind (thn (turn n s hI) fun r s₁ h₁ => ?_)))
  cases r with
  | none => exact wpAny_pure h₁
  | some v =>
    refine wpAny_bind (thn h₁ fun _ s₂ h₂ => wpAny_bind (thn h₂ fun _ s₃ h₃ => wpAny_bind (thn h₃ fun x s₄ h₄ => ?_)))
    refine wpAny_bind (wpAny_standAt (wpAny_bind (wpAny_of_eq (hs x) (wpAny_bind (wpAny_holding (thn h₄ fun it1 s₅ h₅ => ?_))))))
    refine wpAny_bind (wpAny_runOwn ?_)
    rw [Around.mark_none]
    refine codeAny_mono h₅ fun r s' hr => ?_
    cases r with
    | ok f =>
      first
        | exact wpAny_pure ⟨rfl, hr⟩
        | exact wpAny_bind (wpAny_pure (wpAny_pure ⟨rfl, hr⟩))
    | error e => exact hr.elim
theorem loop_one (I : Nat → Shared → Prop)
    (turn : ∀ n s, I n s → wpAny (model prog w) A (pyNext it) (fun r s₁ => match r with
      | none => R (.ok .next) s₁
      | some v => wpAny (model prog w) A (letOwnedTupleGo t0 it v) (fun _ s₂ => wpAny (model prog w) A (assign t0 env v) (fun _ s₃ => wpAny (model prog w) A (eval elt env) (fun x s₄ =>
          wpAny (model prog w) A (call (.builtin "set.add") [acc, x]) (fun _ s₅ => ∃ m, m < n ∧ I m s₅) (NoteR prog w A env R) s₄) (NoteR prog w A env R) s₃) (NoteR prog w A env R) s₂) (NoteR prog w A env R) s₁) (NoteR prog w A env R) s)
    (n : Nat) (h : I n s) : codeAny (model prog w) A (.compLoop (sc1 elt t0 i0 scope pos) 0 it acc env) R s := loop_add turn_sc1 rfl rfl I turn n h
theorem loop_in (I : Nat → Shared → Prop)
    (turn : ∀ n s, I n s → wpAny (model prog w) A (pyNext it) (fun r s₁ => match r with
      | none => R (.ok .next) s₁
      | some v => wpAny (model prog w) A (letOwnedTupleGo t1 it v) (fun _ s₂ => wpAny (model prog w) A (assign t1 env v) (fun _ s₃ => wpAny (model prog w) A (eval elt env) (fun x s₄ =>
          wpAny (model prog w) A (call (.builtin "set.add") [acc, x]) (fun _ s₅ => ∃ m, m < n ∧ I m s₅) (NoteR prog w A env R) s₄) (NoteR prog w A env R) s₃) (NoteR prog w A env R) s₂) (NoteR prog w A env R) s₁) (NoteR prog w A env R) s)
    (n : Nat) (h : I n s) : codeAny (model prog w) A (.compLoop (sc2 elt t0 i0 t1 i1 scope pos) 1 it acc env) R s := loop_add turn_sc2_in rfl rfl I turn n h
theorem start_in (h0 : codeAny (model prog w) A (.compLoop (sc2 elt t0 i0 t1 i1 scope pos) 1 it acc env) R s)
    (h : wpAny (model prog w) A (pyIter it) (fun it' s' => codeAny (model prog w) A (.compLoop (sc2 elt t0 i0 t1 i1 scope pos) 1 it' acc env) R s') (NoteR prog w A env R) s) :
    codeAny (model prog w) A (.compStart (sc2 elt t0 i0 t1 i1 scope pos) 1 it acc env) R s := by
  refine codeAny_of_tree ?_
  show wpAny _ _ ((compStart (sc2 elt t0 i0 t1 i1 scope pos) 1 it acc env).onRaise (fun x => do noteFrame x env; standAt theWindowsPlace)) _ _ s
  refine wpAny_notedAt ?_
  unfold compStart
  show wpAny _ _ (ask >>= _) _ _ s
  refine wpAny_bind (wpAny_askSetting (wpAny_ite ?_))
  split
  · first
      | exact wpAny_bind (wpAny_pure (wpAny_pure (And.intro rfl h0)))
      | exact wpAny_pure (And.intro rfl h0)
  · first
      | exact wpAny_bind (wpAny_rule (wpAny_bind (wpAny_standAt (wpAny_bind (thn h fun it' s' h' => wpAny_pure (And.intro rfl h'))))))
      | (refine wpAny_bind (wpAny_rule ?_); show wpAny _ _ (standAt i1.pos >>= _) _ _ s; exact wpAny_bind (wpAny_standAt (wpAny_bind (thn h fun it' s' h' => wpAny_pure (And.intro rfl h')))))
end

/-! ### the readings -/
/-- the walk of one clause that fills the set at D, from the heap H0 -/
def Fill (w : World) (g : TG) (te : TE) (vs : List Nat) (σ : L2.St) (Q : VK) (J : It) (D : Addr) (H0 : Hp) : Prop := ∃ W : Nat → Nat → Hp → Prop, (∃ m, W 0 m H0) ∧ ∀ i m H, W i m H →
  (J.stop i H ∧ Q (.ref D) H) ∨ (J.go i H ∧ ∃ Nx : Hp → Prop, (∀ H', Nx H' → ∃ m', m' < m ∧ W (i + 1) m' H') ∧ ∀ x H', J.yld i H x H' → g x (wipe σ vs) H' fun σ2 H2 => wipe σ2 vs = wipe σ vs ∧ te σ2 H2 fun y H3 => AddTo w D y H3 Nx)
/-- .. of two clauses -/
def Fill2 (w : World) (g : TG) (wi1 : TI) (g1 : TG) (te : TE) (vs vs1 : List Nat) (σ : L2.St) (Q : VK) (J : It) (D : Addr) (H0 : Hp) : Prop := ∃ W : Nat → Nat → Hp → Prop, (∃ m, W 0 m H0) ∧ ∀ i m H, W i m H →
  (J.stop i H ∧ Q (.ref D) H) ∨ (J.go i H ∧ ∃ Nx : Hp → Prop, (∀ H', Nx H' → ∃ m', m' < m ∧ W (i + 1) m' H') ∧ ∀ x H', J.yld i H x H' → g x (wipe σ vs) H' fun σ2 H2 => wipe σ2 vs = wipe σ vs ∧ wi1 σ2 H2 fun J1 H3 =>
    ∃ W1 : Nat → Nat → Hp → Prop, (∃ m, W1 0 m H3) ∧ ∀ j k H, W1 j k H →
      (J1.stop j H ∧ Nx H) ∨ (J1.go j H ∧ ∃ Nx1 : Hp → Prop, (∀ H', Nx1 H' → ∃ k', k' < k ∧ W1 (j + 1) k' H') ∧ ∀ x H', J1.yld j H x H' → g1 x (wipe σ2 vs1) H' fun σ3 H4 => wipe σ3 vs1 = wipe σ2 vs1 ∧ te σ3 H4 fun y H5 => AddTo w D y H5 Nx1))
/-- {elt for tg in iter}, elt an int: D the new set -/
def tSI (w : World) (wi : TI) (g : TG) (te : TE) (vs : List Nat) : TE := fun σ H Q => wi σ H fun J H1 => ∀ D, H1 D = none → Fill w g te vs σ Q J D (upd H1 D (SetO w D (fun _ => false) 0))
/-- {elt for tg in iter for tg1 in iter1} -/
def tSI2 (w : World) (wi : TI) (g : TG) (wi1 : TI) (g1 : TG) (te : TE) (vs vs1 : List Nat) : TE := fun σ H Q => wi σ H fun J H1 => ∀ D, H1 D = none → Fill2 w g wi1 g1 te vs vs1 σ Q J D (upd H1 D (SetO w D (fun _ => false) 0))

/-- what the block of a set comprehension begins with, and how it ends -/
theorem set_block {pins : List (Addr × Obj)} {s : Shared} {σ : L2.St} {H : Hp} {Q : VK} {e tg iter : Expr} {rest : List Comprehension} {elt : Expr} {scope : Scope} {own : List (PySem.Str × Nat)} {pos : Pos} {wi : TI}
    (he : e = .SetComp elt (⟨tg, iter, [], 0⟩ :: rest) scope pos)
    (hN : X.N.Nodup) (I : Inv X pins σ H s) (hi : PI X tg iter wi) (ok : BlkOk X.N X.env.scope scope own) (hs : ∀ x, foldedSetIterable iter X.env x = pure x)
    {Rd : It → Addr → Hp → Prop} (h : wi σ H fun J H1 => ∀ D, H1 D = none → Rd J D (upd H1 D (SetO X.w D (fun _ => false) 0)))
    (go : ∀ (it D C : Addr) (cl : List (PySem.Str × Addr)) (fp : List Addr) (tn : Nat → Heap → Prop) (J : It) (H3 : Hp) (s3 s4 : Shared), Inv (bk X scope s3 H3 C cl fp) [] (wipe σ (own.map (·.2))) H3 s4 → Turn X.prog X.w X.K tg J fp it tn → tn 0 s4.heap → (∀ b ∈ fp, H3 b = none) → Rd J D H3 →
      (∀ (s' : Shared) (H' : Hp) (σ' : L2.St), Inv (bk X scope s3 H3 C cl fp) [] σ' H' s' → Q (.ref D) H' → compPost (model X.prog X.w) X.A X.xe none (EP X pins σ Q) (.ref D) C (.ok .next) s') →
      codeAny (model X.prog X.w) X.A (.compLoop e 0 (.ref it) (.ref D) (compEnvC scope cl C X.env)) (compPost (model X.prog X.w) X.A X.xe none (EP X pins σ Q) (.ref D) C) s4) :
    wpAny (model X.prog X.w) X.A (eval e X.env) (EP X pins σ Q) X.xe s := by
  subst he
  have hfree : ∀ y ∈ scope.names, y.2 = .free → ∃ c, X.env.cells.lookup y.1 = some c := fun y hy e => (ok.free y hy e).elim (fun k => I.ok.has _ (.inl k)) fun k => I.ok.has _ (.inr k)
  rw [PpSet.eval_SetComp]
  refine wpAny_comprehension_free (use := none) rfl hs (closure_ok hfree) ok.kind (fun y hy e => by rw [ok.uniq y hy, e])
    (thn (hi.run pins s σ H _ I h) fun xv s1 hx => thn hx fun itv s2 h2 => ?_)
  obtain ⟨it, fp, tn, J, H2, rfl, I2, T, st2, f2, q⟩ := h2
  refine PpSet.newSet_ok (newEnv_comp ?_)
  have hDn : H2 s2.heap.objs.size = none := I2.hok.fresh (Nat.le_refl _)
  have rd := q _ hDn
  generalize hD : s2.heap.objs.size = D at hDn rd ⊢
  generalize hs3 : ({ s2 with heap := s2.heap.push { cls := .type "set", dict := none, data := .set #[] 0 (.fresh 0 0 (!X.w.params.followText "set-order")) } } : Shared) = s3
  have h3 : s3.heap = s2.heap.push { cls := .type "set", dict := none, data := .set #[] 0 (.fresh 0 0 (!X.w.params.followText "set-order")) } := by rw [← hs3]
  have I3 : Inv X pins σ (upd H2 D (SetO X.w D (fun _ => false) 0)) s3 := by
    rw [← hs3]
    refine I2.laid (t' := s2.toks) (fun b o e => Heap.get?_push_of_some _ e) (Nat.le_of_eq hD) ?_
    rw [← hD]
    exact setO_new (setR_fresh X.w)
  have f3 : ∀ b ∈ fp, FpOk X pins (upd H2 D (SetO X.w D (fun _ => false) 0)) b ∧ b < s3.heap.objs.size := fun b hb => by
    obtain ⟨o, e, _⟩ := T.obj _ _ st2 b hb
    have hlt := Heap.lt_size e
    have e3 : s3.heap.get? b = some o := by rw [h3]; exact Heap.get?_push_of_some _ e
    refine ⟨⟨?_, (f2 b hb).2⟩, Heap.lt_size e3⟩
    rw [upd_ne (by rw [← hD]; exact Nat.ne_of_lt hlt)]
    exact (f2 b hb).1
  generalize upd H2 D (SetO X.w D (fun _ => false) 0) = H3 at I3 rd f3
  have st3 : tn 0 s3.heap := T.keep _ _ _ st2 fun b _ o e => by rw [h3]; exact Heap.get?_push_of_some _ e
  have I4 := block_start I3 ok hN f3
  have st4 : tn 0 (pushCells (s3.heap.push { cls := .type "dict", data := .dict #[] }) scope.names) := T.keep _ _ _ st3 fun b _ o e => pushCells_keeps _ _ _ _ (Heap.get?_push_of_some _ e)
  have loop := go it D s3.heap.objs.size _ fp tn J H3 s3 _ I4 T st4 (fun b hb => (f3 b hb).1.1) rd fun s' H' σ' I6 qq => by
    -- back in the def's context
    have I7 : Inv X pins σ H' s' := I3.call' (ch := fp) I6.os I6.base I6.hok I6.bare fun b hb => ⟨(f3 b hb).1.2.2.2.1, (f3 b hb).1.2.1, (f3 b hb).1.2.2.2.2.1, (f3 b hb).1.2.2.2.2.2⟩
    have nC : H' s3.heap.objs.size = none := I6.free
    obtain ⟨m, hn, _⟩ := I6.loc
    have hn : s'.heap.Ns s3.heap.objs.size m := hn
    obtain ⟨g0, g1, g2, g3, g4, g5⟩ := I3.fpOk (Nat.le_refl _) nC
    exact ⟨m, hn, fun h'' sb => ⟨.ref D, H', I7.turned (t' := s'.toks) (fun b o hb e => (sb.2 b hb).trans e) g0 g1 g3 g4 g5, rfl, qq⟩⟩
  exact PpSet.codeAny_compStart_set loop (T.self X.A 0 _ _ _ st4 loop)

theorem blk_fp {s3 s' : Shared} {H3 H' : Hp} {scope : Scope} {C : Addr} {cl : List (PySem.Str × Addr)} {fp : List Addr} {σ' : L2.St} (I' : Inv (bk X scope s3 H3 C cl fp) [] σ' H' s') (hn : ∀ b ∈ fp, H' b = none) : ∀ b ∈ fp, FpOk (bk X scope s3 H3 C cl fp) [] H' b := fun b hb =>
  ⟨hn b hb, (I'.ok.exf b hb).1, I'.ok.exfs b hb, .inl hb, fun x c e => (I'.ok.exf b hb).2 x c e, fun p hp => absurd (show p ∈ ([] : List (Addr × Obj)) ++ [] from hp) (by simp)⟩

theorem pe_sI {elt tg iter : Expr} {scope : Scope} {own : List (PySem.Str × Nat)} {pos : Pos} {wi : TI} {g : TG} {te : TE} (hc : X.calm = true) (hN : X.N.Nodup) (hi : PI X tg iter wi) (ok : BlkOk X.N X.env.scope scope own)
    (hg : ∀ s H C cl fp, PG (bk X scope s H C cl fp) tg g) (he : ∀ s H C cl fp, PE (bk X scope s H C cl fp) elt te) (hs : ∀ x, foldedSetIterable iter X.env x = pure x := by intro _; rfl) :
    PE X (.SetComp elt [⟨tg, iter, [], 0⟩] scope pos) (tSI X.w wi g te (own.map (·.2))) := by
  refine ⟨fun pins s σ H Q I h => set_block (Rd := Fill X.w g te (own.map fun p : PySem.Str × Nat => p.2) σ Q) rfl hN I hi ok hs h fun it D C cl fp tn J H3 s3 s4 I4 T st4 nf rd fin => ?_⟩
  obtain ⟨W, ⟨m0, w0⟩, turn⟩ := rd
  refine loop_one (fun n s' => ∃ i H', Inv (bk X scope s3 H3 C cl fp) [] (wipe σ (own.map (·.2))) H' s' ∧ tn i s'.heap ∧ (∀ b ∈ fp, H' b = none) ∧ W i n H') ?_ m0 ⟨0, H3, I4, st4, nf, w0⟩
  rintro n s5 ⟨i, H5, I5, st5, n5, w5⟩
  rcases turn i n H5 w5 with ⟨stop, qq⟩ | ⟨gg, Nx, hNx, stp⟩
  · refine thnF (T.done (bk X scope s3 H3 C cl fp) rfl rfl rfl hc i [] s5 _ H5 (fun _ _ => False) I5 (blk_fp I5 n5) st5 stop) fun r s6 ⟨hr, I6⟩ => ?_
    subst hr
    exact fin s6 H5 _ I6 qq
  · refine thnF (T.item (bk X scope s3 H3 C cl fp) rfl rfl rfl hc i [] s5 _ H5 (fun _ _ => False) I5 (blk_fp I5 n5) st5 gg) fun r s6 ⟨u, hr, h6⟩ => ?_
    subst hr
    refine thnF h6 fun _ s7 ⟨x, H7, I7, r7, y7, st7, n7⟩ => ?_
    refine thnF ((hg s3 H3 C cl fp).run _ s7 _ H7 x u _ (I7.pinned (blk_fp I7 n7) (T.obj _ _ st7)) r7 (stp x H7 y7)) fun _ s8 ⟨σ8, H8, I8, hw8, q8⟩ => ?_
    refine thnF ((he s3 H3 C cl fp).run _ s8 σ8 H8 _ I8 q8) fun z s9 ⟨yv, H9, I9, r9, ad⟩ => ?_
    refine add_to (X := bk X scope s3 H3 C cl fp) I9 r9 ad fun s' H' I' nx => ?_
    obtain ⟨m', hm, w'⟩ := hNx H' nx
    have pin' : ∀ b ∈ fp, ∀ o, s7.heap.get? b = some o → s'.heap.get? b = some o ∧ H' b = none := fun b hb o e =>
      let z := I'.pin (b, o) (List.mem_append_right _ (List.mem_append_right _ (mem_pinsAt hb e)))
      ⟨z.1, z.2.1⟩
    refine ⟨m', hm, i + 1, H', (I'.unpinned (pins := [])).weak (by rw [← hw8, wipe_length]) (fun j v e => ?_), T.keep _ _ _ st7 fun b hb o e => (pin' b hb o e).1, fun b hb => ?_, w'⟩
    · rw [← hw8] at e
      exact (wipe_some e).1
    · obtain ⟨o, e, _⟩ := T.obj _ _ st7 b hb
      exact (pin' b hb o e).2

theorem pe_sI2 {elt tg iter tg1 iter1 : Expr} {scope : Scope} {own : List (PySem.Str × Nat)} {vs1 : List Nat} {pos : Pos} {wi wi1 : TI} {g g1 : TG} {te : TE} (hc : X.calm = true) (hN : X.N.Nodup) (hi : PI X tg iter wi) (ok : BlkOk X.N X.env.scope scope own) (hv : ∀ i ∈ vs1, i ∈ own.map (·.2))
    (hg : ∀ s H C cl fp, PG (bk X scope s H C cl fp) tg g) (hi1 : ∀ s H C cl fp, PI (bk X scope s H C cl fp) tg1 iter1 wi1) (hg1 : ∀ s H C cl fp, PG (bk X scope s H C cl fp) tg1 g1) (he : ∀ s H C cl fp, PE (bk X scope s H C cl fp) elt te)
    (hs : ∀ x, foldedSetIterable iter X.env x = pure x := by intro _; rfl) (hs1 : ∀ env x, foldedSetIterable iter1 env x = pure x := by intro _ _; rfl) :
    PE X (.SetComp elt [⟨tg, iter, [], 0⟩, ⟨tg1, iter1, [], 0⟩] scope pos) (tSI2 X.w wi g wi1 g1 te (own.map (·.2)) vs1) := by
  refine ⟨fun pins s σ H Q I h => set_block (Rd := Fill2 X.w g wi1 g1 te (own.map fun p : PySem.Str × Nat => p.2) vs1 σ Q) rfl hN I hi ok hs h fun it D C cl fp tn J H3 s3 s4 I4 T st4 nf rd fin => ?_⟩
  obtain ⟨W, ⟨m0, w0⟩, turn⟩ := rd
  refine loop_out (hs1 _) (fun n s' => ∃ i H', Inv (bk X scope s3 H3 C cl fp) [] (wipe σ (own.map (·.2))) H' s' ∧ tn i s'.heap ∧ (∀ b ∈ fp, H' b = none) ∧ W i n H') ?_ m0 ⟨0, H3, I4, st4, nf, w0⟩
  rintro n s5 ⟨i, H5, I5, st5, n5, w5⟩
  rcases turn i n H5 w5 with ⟨stop, qq⟩ | ⟨gg, Nx, hNx, stp⟩
  · refine thnF (T.done (bk X scope s3 H3 C cl fp) rfl rfl rfl hc i [] s5 _ H5 (fun _ _ => False) I5 (blk_fp I5 n5) st5 stop) fun r s6 ⟨hr, I6⟩ => ?_
    subst hr
    exact fin s6 H5 _ I6 qq
  · refine thnF (T.item (bk X scope s3 H3 C cl fp) rfl rfl rfl hc i [] s5 _ H5 (fun _ _ => False) I5 (blk_fp I5 n5) st5 gg) fun r s6 ⟨u, hr, h6⟩ => ?_
    subst hr
    refine thnF h6 fun _ s7 ⟨x, H7, I7, r7, y7, st7, n7⟩ => ?_
    refine thnF ((hg s3 H3 C cl fp).run _ s7 _ H7 x u _ (I7.pinned (blk_fp I7 n7) (T.obj _ _ st7)) r7 (stp x H7 y7)) fun _ s8 ⟨σ8, H8, I8, hw8, q8⟩ => ?_
    refine thnF ((hi1 s3 H3 C cl fp).run _ s8 σ8 H8 _ I8 q8) fun xv s9 hx => thnF hx fun itv s10 h10 => ?_
    obtain ⟨it1, fp1, tn1, J1, H10, rfl, I10, T1, st10, f10, W1, ⟨m1, w1⟩, turn1⟩ := h10
    -- the outer turn's end
    have out : ∀ {σ9 : L2.St} {s' : Shared} {H' : Hp}, Inv (bk X scope s3 H3 C cl fp) ([] ++ pinsAt fp s7.heap) σ9 H' s' → (wipe σ (own.map (·.2))).length = σ9.length → (∀ (j : Nat) v, (wipe σ (own.map (·.2)))[j]? = some (some v) → σ9[j]? = some (some v)) → Nx H' →
        ∃ m, m < n ∧ ∃ i H', Inv (bk X scope s3 H3 C cl fp) [] (wipe σ (own.map (·.2))) H' s' ∧ tn i s'.heap ∧ (∀ b ∈ fp, H' b = none) ∧ W i m H' := fun {σ9 s' H'} I' hl hk nx => by
      obtain ⟨m', hm, w'⟩ := hNx H' nx
      have pin' : ∀ b ∈ fp, ∀ o, s7.heap.get? b = some o → s'.heap.get? b = some o ∧ H' b = none := fun b hb o e =>
        let z := I'.pin (b, o) (List.mem_append_right _ (List.mem_append_right _ (mem_pinsAt hb e)))
        ⟨z.1, z.2.1⟩
      refine ⟨m', hm, i + 1, H', (I'.unpinned (pins := [])).weak hl hk, T.keep _ _ _ st7 fun b hb o e => (pin' b hb o e).1, fun b hb => ?_, w'⟩
      obtain ⟨o, e, _⟩ := T.obj _ _ st7 b hb
      exact (pin' b hb o e).2
    have hl8 : (wipe σ (own.map (·.2))).length = σ8.length := by rw [← hw8, wipe_length]
    have hk8 : ∀ (j : Nat) v, (wipe σ (own.map (·.2)))[j]? = some (some v) → (wipe σ8 vs1)[j]? = some (some v) := fun j v e => by
      rw [← hw8] at e
      obtain ⟨e1, e2⟩ := wipe_some e
      rw [wipe_out fun z => e2 (hv j z)]
      exact e1
    have fp1ok : ∀ {H' : Hp}, (∀ b ∈ fp1, H' b = none) → ∀ b ∈ fp1, FpOk (bk X scope s3 H3 C cl fp) ([] ++ pinsAt fp s7.heap) H' b := fun hn b hb => ⟨hn b hb, (f10 b hb).2⟩
    have loop1 : codeAny (model X.prog X.w) X.A (.compLoop (sc2 elt tg iter tg1 iter1 scope pos) 1 (.ref it1) (.ref D) (compEnvC scope cl C X.env))
        (fun r s' => match r with
          | .ok _ => ∃ m, m < n ∧ ∃ i H', Inv (bk X scope s3 H3 C cl fp) [] (wipe σ (own.map (·.2))) H' s' ∧ tn i s'.heap ∧ (∀ b ∈ fp, H' b = none) ∧ W i m H'
          | .error _ => False) s10 := by
      refine loop_in (fun k s' => ∃ j H', Inv (bk X scope s3 H3 C cl fp) ([] ++ pinsAt fp s7.heap) (wipe σ8 vs1) H' s' ∧ tn1 j s'.heap ∧ (∀ b ∈ fp1, H' b = none) ∧ W1 j k H') ?_ m1 ⟨0, H10, I10.weak (wipe_length _ _) (fun j v e => (wipe_some e).1), st10, fun b hb => (f10 b hb).1, w1⟩
      rintro k s12 ⟨j, H12, I12, st12, n12, w12⟩
      rcases turn1 j k H12 w12 with ⟨stop1, nx1⟩ | ⟨go1, Nx1, hNx1, stp1⟩
      · refine thnF (T1.done (bk X scope s3 H3 C cl fp) rfl rfl rfl hc j _ s12 (wipe σ8 vs1) H12 (fun _ _ => False) I12 (fp1ok n12) st12 stop1) fun r s13 ⟨hr, I13⟩ => ?_
        subst hr
        exact out I13 (hl8.trans (wipe_length σ8 vs1).symm) hk8 nx1
      · refine thnF (T1.item (bk X scope s3 H3 C cl fp) rfl rfl rfl hc j _ s12 (wipe σ8 vs1) H12 (fun _ _ => False) I12 (fp1ok n12) st12 go1) fun r s13 ⟨u1, hr, h13⟩ => ?_
        subst hr
        refine thnF h13 fun _ s14 ⟨x1, H14, I14, r14, y14, st14, n14⟩ => ?_
        refine thnF ((hg1 s3 H3 C cl fp).run _ s14 (wipe σ8 vs1) H14 x1 u1 _ (I14.pinned (fp1ok n14) (T1.obj _ _ st14)) r14 (stp1 x1 H14 y14)) fun _ s15 ⟨σ15, H15, I15, hw15, q15⟩ => ?_
        refine thnF ((he s3 H3 C cl fp).run _ s15 σ15 H15 _ I15 q15) fun z s16 ⟨yv, H16, I16, r16, ad⟩ => ?_
        refine add_to (X := bk X scope s3 H3 C cl fp) I16 r16 ad fun s' H' I' nx => ?_
        obtain ⟨m', hm, w'⟩ := hNx1 H' nx
        have pin' : ∀ b ∈ fp1, ∀ o, s14.heap.get? b = some o → s'.heap.get? b = some o ∧ H' b = none := fun b hb o e =>
          let z := I'.pin (b, o) (List.mem_append_right _ (List.mem_append_right _ (mem_pinsAt hb e)))
          ⟨z.1, z.2.1⟩
        refine ⟨m', hm, j + 1, H', I'.unpinned.weak (by rw [← hw15, wipe_length]) (fun j v e => by rw [← hw15] at e; exact (wipe_some e).1), T1.keep _ _ _ st14 fun b hb o e => (pin' b hb o e).1, fun b hb => ?_, w'⟩
        obtain ⟨o, e, _⟩ := T1.obj _ _ st14 b hb
        exact (pin' b hb o e).2
    exact start_in loop1 (T1.self X.A 0 _ _ _ st10 loop1)
end
end W36
end

section
set_option linter.all false
set_option maxRecDepth 100000
set_option maxHeartbeats 4000000
/-! A display of one pair whose key is a tuple. -/
namespace W36
open PySem PySem.Spec PyProof.Rows L2
section
variable {X : Cx}
/-- {k: v}, k a tuple of ints and texts; the new dict stands empty while the pair is made -/
def tDispT (tk tv : TE) : TE := fun σ H Q => ∀ p, H p = none → tk σ (upd H p (.dT [])) fun x H1 => tv σ H1 fun y H2 => H2 p = some (.dT []) ∧ ∃ (t : Addr) (ks : List Key), x = .ref t ∧ H2 t = some (.tup (ks.map kV)) ∧ Q (.ref p) (upd H2 p (.dT [(ks, y)]))
theorem pe_dispT {pos : Pos} {k v : Expr} {tk tv : TE} (hu : X.A.units + 1 < cLine) (hk : PE X k tk) (hv : PE X v tv) : PE X (.Dict [some k] [v] pos) (tDispT tk tv) := by
  refine ⟨fun pins s σ H Q I q => ?_⟩
  have hn := I.hok.fresh (Nat.le_refl s.heap.objs.size)
  have I1 := I.laid (a := s.heap.objs.size) (o := .dT []) (h' := s.heap.push { cls := .type "dict", data := .dict #[] }) (t' := s.toks) (fun _ _ q => Heap.get?_push_of_some _ q) (Nat.le_refl _) (dt_empty s.heap I.big)
  have hwalk : wpAny (model X.prog X.w) X.A (evalPairs (pairTrees [some k] [v] X.env pos)) (fun vs s1 => ∃ ps, CarriesH (tupleKind (mixKind X.prog X.w)) s1.heap vs ps ∧ s1.heap.DictOfH (tupleKind (mixKind X.prog X.w)) s.heap.objs.size [] ∧
      ∀ h' tk, h'.DictOfH (tupleKind (mixKind X.prog X.w)) s.heap.objs.size (storedAllH [] ps) → Heap.SameBut s.heap.objs.size s1.heap h' → EP X pins σ Q (.ref s.heap.objs.size) { s1 with heap := h', toks := tk }) X.xe
      { s with heap := s.heap.push { cls := .type "dict", data := .dict #[] } } := by
    refine pairTrees_cons_walk (thn (hk.run pins _ σ _ _ I1 (q _ hn)) fun u s1 ⟨x, H1, J1, rx, q1⟩ => thn (hv.run pins s1 σ H1 _ J1 q1) fun z s2 ⟨y, H2, J2, ry, q2⟩ => pairTrees_nil_walk ?_)
    obtain ⟨e, t, ks, rfl, et, q3⟩ := q2
    cases (show u = Value.ref t from rx)
    obtain ⟨_, hd, xs0, r0, dd⟩ := dt_of J2.hok e
    cases r0
    refine ⟨[(ks, t, z)], ⟨rfl, rfl, key_of J2.hok et, trivial⟩, dd, fun h' tk dd' hs => ?_⟩
    obtain ⟨ob, es, ep, h1, h2, h3, h4, _, h5⟩ := dd'
    refine ⟨.ref s.heap.objs.size, upd H2 s.heap.objs.size (.dT [(ks, y)]), d_write (t' := tk) J2 (by rw [e]; exact True.intro) hs ⟨ob, h1⟩ ⟨(by decide : (1 : Nat) ≤ sizeLine), hd, [(ks, t, z)], .cons ⟨rfl, ?_, ry⟩ .nil, ob, es, ep, h1, h2, h3, h4, h5⟩, rfl, q3⟩
    rw [upd_ne (ne_of et e (fun z => nomatch z))]
    exact et
  rw [arm_eval_Dict, zip_pairTrees [some k] [v] X.env pos rfl rfl, dictDisplay_pairs (pairTrees [some k] [v] X.env pos) (List.cons_ne_nil _ _) (show (1 : Nat) < 17 by decide)]
  refine wpAny_bind (wpAny_standAt (wpAny_bind (wpAny_subDictH (knd := tupleKind (mixKind X.prog X.w)) (show (tupleKind (mixKind X.prog X.w)).room X.A from Nat.lt_of_succ_lt hu) (show (1 : Nat) ≤ 15 by decide) (thn hwalk fun vs s1 ⟨ps, c, m, k⟩ => ⟨ps, c, m, fun h' tk a b => wpAny_pure (k h' tk a b)⟩))))
end
end W36
end

section
set_option linter.all false
set_option maxRecDepth 100000
set_option maxHeartbeats 4000000
/-! The text by places; what the top leaves; rows in the heap. -/
namespace W36
open PySem PySem.Spec PyProof.Rows L2
def topS (i : Nat) : Stmt := PySem.Challenge.pw_allwordlengths_k36_whole_sizes_beside_a.main.body.getD i (.Pass ⟨0, 0, 0, 0⟩)

abbrev s_digits_of : Stmt := topS 7
abbrev N_digits_of : List Str := ["number", "found"]
theorem sc_digits_of : FnScope N_digits_of ["number"] (defScope s_digits_of) := ⟨rfl, rfl, rfl, by decide +kernel, rfl, by decide +kernel, by decide +kernel⟩

abbrev s_number_of : Stmt := topS 8
abbrev N_number_of : List Str := ["digits", "found", "digit"]
theorem sc_number_of : FnScope N_number_of ["digits"] (defScope s_number_of) := ⟨rfl, rfl, rfl, by decide +kernel, rfl, by decide +kernel, by decide +kernel⟩

abbrev s_order_of : Stmt := topS 9
abbrev N_order_of : List Str := ["rows", "start", "found", "known", "at", "target"]
theorem sc_order_of : FnScope N_order_of ["rows", "start"] (defScope s_order_of) := ⟨rfl, rfl, rfl, by decide +kernel, rfl, by decide +kernel, by decide +kernel⟩

abbrev s_sources_of : Stmt := topS 10
abbrev N_sources_of : List Str := ["rows", "found", "at", "row", "digit", "key"]
theorem sc_sources_of : FnScope N_sources_of ["rows"] (defScope s_sources_of) := ⟨rfl, rfl, rfl, by decide +kernel, rfl, by decide +kernel, by decide +kernel⟩

abbrev s_blocks_of : Stmt := topS 11
abbrev N_blocks_of : List Str := ["rows", "block", "outer", "groups", "sources", "work", "targets", "digit", "marked", "name", "some", "other", "at", "row", "target", "source"]
theorem sc_blocks_of : FnScope N_blocks_of ["rows"] (defScope s_blocks_of) := ⟨rfl, rfl, rfl, by decide +kernel, rfl, by decide +kernel, by decide +kernel⟩

abbrev s_least_rows : Stmt := topS 12
abbrev N_least_rows : List Str := ["rows", "start", "order", "place", "at", "old", "kept", "block", "member", "name", "small", "number", "row"]
theorem sc_least_rows : FnScope N_least_rows ["rows", "start"] (defScope s_least_rows) := ⟨rfl, rfl, rfl, by decide +kernel, rfl, by decide +kernel, by decide +kernel⟩

abbrev s_told_rows : Stmt := topS 13
abbrev N_told_rows : List Str := ["rows", "start", "many", "wide", "verdict", "row"]
theorem sc_told_rows : FnScope N_told_rows ["rows", "start"] (defScope s_told_rows) := ⟨rfl, rfl, rfl, by decide +kernel, rfl, by decide +kernel, by decide +kernel⟩

abbrev s_paired_rows : Stmt := topS 14
abbrev N_paired_rows : List Str := ["one", "other", "rule", "names", "order", "found", "left", "right", "targets", "digit", "pair"]
theorem sc_paired_rows : FnScope N_paired_rows ["one", "other", "rule"] (defScope s_paired_rows) := ⟨rfl, rfl, rfl, by decide +kernel, rfl, by decide +kernel, by decide +kernel⟩

abbrev s_ahead_of : Stmt := topS 16
abbrev N_ahead_of : List Str := ["rows", "many", "found", "count", "at", "digit"]
theorem sc_ahead_of : FnScope N_ahead_of ["rows", "many"] (defScope s_ahead_of) := ⟨rfl, rfl, rfl, by decide +kernel, rfl, by decide +kernel, by decide +kernel⟩

abbrev s_before : Stmt := topS 17
abbrev N_before : List Str := ["rows", "flags", "digit", "row"]
theorem sc_before : FnScope N_before ["rows", "flags", "digit"] (defScope s_before) := ⟨rfl, rfl, rfl, by decide +kernel, rfl, by decide +kernel, by decide +kernel⟩

abbrev s_meets : Stmt := topS 18
abbrev N_meets : List Str := ["classes", "flags", "at"]
theorem sc_meets : FnScope N_meets ["classes", "flags"] (defScope s_meets) := ⟨rfl, rfl, rfl, by decide +kernel, rfl, by decide +kernel, by decide +kernel⟩

abbrev s_goals_of : Stmt := topS 19
abbrev N_goals_of : List Str := ["rows", "digits", "flags", "found", "digit", "row"]
theorem sc_goals_of : FnScope N_goals_of ["rows", "digits"] (defScope s_goals_of) := ⟨rfl, rfl, rfl, by decide +kernel, rfl, by decide +kernel, by decide +kernel⟩

abbrev s_low_digits : Stmt := topS 20
abbrev N_low_digits : List Str := ["rows", "ahead", "flags", "many", "first", "found", "place", "wished"]
theorem sc_low_digits : FnScope N_low_digits ["rows", "ahead", "flags", "many", "first"] (defScope s_low_digits) := ⟨rfl, rfl, rfl, by decide +kernel, rfl, by decide +kernel, by decide +kernel⟩

abbrev s_least_of_length : Stmt := topS 21
abbrev N_least_of_length : List Str := ["rows", "ahead", "length", "first", "flags", "row"]
theorem sc_least_of_length : FnScope N_least_of_length ["rows", "ahead", "length", "first"] (defScope s_least_of_length) := ⟨rfl, rfl, rfl, by decide +kernel, rfl, by decide +kernel, by decide +kernel⟩

abbrev s_next_number : Stmt := topS 22
abbrev N_next_number : List Str := ["rows", "number", "digits", "goals", "ahead", "place", "digit", "flags", "low", "length", "found"]
theorem sc_next_number : FnScope N_next_number ["rows", "number"] (defScope s_next_number) := ⟨rfl, rfl, rfl, by decide +kernel, rfl, by decide +kernel, by decide +kernel⟩

abbrev s_last_number : Stmt := topS 23
abbrev N_last_number : List Str := ["rows", "number", "digits", "goals", "ahead", "place", "digit", "flags", "low"]
theorem sc_last_number : FnScope N_last_number ["rows", "number"] (defScope s_last_number) := ⟨rfl, rfl, rfl, by decide +kernel, rfl, by decide +kernel, by decide +kernel⟩

abbrev s_has_endless : Stmt := topS 24
abbrev N_has_endless : List Str := ["rows", "many", "ahead", "flags", "row", "length"]
theorem sc_has_endless : FnScope N_has_endless ["rows"] (defScope s_has_endless) := ⟨rfl, rfl, rfl, by decide +kernel, rfl, by decide +kernel, by decide +kernel⟩

abbrev s_greatest_number : Stmt := topS 25
abbrev N_greatest_number : List Str := ["rows", "ahead", "length", "found"]
theorem sc_greatest_number : FnScope N_greatest_number ["rows"] (defScope s_greatest_number) := ⟨rfl, rfl, rfl, by decide +kernel, rfl, by decide +kernel, by decide +kernel⟩

abbrev s_is_integer : Stmt := topS 28
abbrev N_is_integer : List Str := ["number"]
theorem sc_is_integer : FnScope N_is_integer ["number"] (defScope s_is_integer) := ⟨rfl, rfl, rfl, by decide +kernel, rfl, by decide +kernel, by decide +kernel⟩

abbrev s_is_size : Stmt := topS 29
abbrev N_is_size : List Str := ["size"]
theorem sc_is_size : FnScope N_is_size ["size"] (defScope s_is_size) := ⟨rfl, rfl, rfl, by decide +kernel, rfl, by decide +kernel, by decide +kernel⟩

abbrev s_need_size : Stmt := topS 36
abbrev N_need_size : List Str := ["value"]
theorem sc_need_size : FnScope N_need_size ["value"] (defScope s_need_size) := ⟨rfl, rfl, rfl, by decide +kernel, rfl, by decide +kernel, by decide +kernel⟩

abbrev s_init : Stmt := inClass (topS 37) 0
abbrev N_init : List Str := ["self", "digit_rows"]
theorem sc_init : FnScope N_init ["self", "digit_rows"] (defScope s_init) := ⟨rfl, rfl, rfl, by decide +kernel, rfl, by decide +kernel, by decide +kernel⟩

abbrev s_m_least : Stmt := inClass (topS 37) 8
abbrev N_m_least : List Str := ["self"]
theorem sc_m_least : FnScope N_m_least ["self"] (defScope s_m_least) := ⟨rfl, rfl, rfl, by decide +kernel, rfl, by decide +kernel, by decide +kernel⟩

abbrev s_m_greatest : Stmt := inClass (topS 37) 9
abbrev N_m_greatest : List Str := ["self"]
theorem sc_m_greatest : FnScope N_m_greatest ["self"] (defScope s_m_greatest) := ⟨rfl, rfl, rfl, by decide +kernel, rfl, by decide +kernel, by decide +kernel⟩

abbrev s_m_next_from : Stmt := inClass (topS 37) 10
abbrev N_m_next_from : List Str := ["self", "k"]
theorem sc_m_next_from : FnScope N_m_next_from ["self", "k"] (defScope s_m_next_from) := ⟨rfl, rfl, rfl, by decide +kernel, rfl, by decide +kernel, by decide +kernel⟩

abbrev s_m_last_upto : Stmt := inClass (topS 37) 11
abbrev N_m_last_upto : List Str := ["self", "k"]
theorem sc_m_last_upto : FnScope N_m_last_upto ["self", "k"] (defScope s_m_last_upto) := ⟨rfl, rfl, rfl, by decide +kernel, rfl, by decide +kernel, by decide +kernel⟩

abbrev s_m_from_on : Stmt := inClass (topS 37) 12
abbrev N_m_from_on : List Str := ["self", "others", "last"]
theorem sc_m_from_on : FnScope N_m_from_on ["self"] (defScope s_m_from_on) := ⟨rfl, rfl, rfl, by decide +kernel, rfl, by decide +kernel, by decide +kernel⟩

abbrev s_m_is_none : Stmt := inClass (topS 37) 13
abbrev N_m_is_none : List Str := ["self"]
theorem sc_m_is_none : FnScope N_m_is_none ["self"] (defScope s_m_is_none) := ⟨rfl, rfl, rfl, by decide +kernel, rfl, by decide +kernel, by decide +kernel⟩

abbrev s_m_is_all : Stmt := inClass (topS 37) 14
abbrev N_m_is_all : List Str := ["self"]
theorem sc_m_is_all : FnScope N_m_is_all ["self"] (defScope s_m_is_all) := ⟨rfl, rfl, rfl, by decide +kernel, rfl, by decide +kernel, by decide +kernel⟩

abbrev s_m_is_endless : Stmt := inClass (topS 37) 15
abbrev N_m_is_endless : List Str := ["self"]
theorem sc_m_is_endless : FnScope N_m_is_endless ["self"] (defScope s_m_is_endless) := ⟨rfl, rfl, rfl, by decide +kernel, rfl, by decide +kernel, by decide +kernel⟩

abbrev s_is_told_row : Stmt := topS 38
abbrev N_is_told_row : List Str := ["row", "many", "part"]
theorem sc_is_told_row : FnScope N_is_told_row ["row", "many"] (defScope s_is_told_row) := ⟨rfl, rfl, rfl, by decide +kernel, rfl, by decide +kernel, by decide +kernel⟩

abbrev s_sizes_of_rows : Stmt := topS 39
abbrev N_sizes_of_rows : List Str := ["rows", "many", "at", "row"]
theorem sc_sizes_of_rows : FnScope N_sizes_of_rows ["rows"] (defScope s_sizes_of_rows) := ⟨rfl, rfl, rfl, by decide +kernel, rfl, by decide +kernel, by decide +kernel⟩

abbrev s_l_draw : Stmt := topS 47
abbrev N_l_draw : List Str := ["_law_pen_here", "_law_many", "_law_digit", "_law_spot", "_law_cell", "_law_mixed"]
theorem sc_l_draw : FnScope N_l_draw ["_law_pen_here", "_law_many"] (defScope s_l_draw) := ⟨rfl, rfl, rfl, by decide +kernel, rfl, by decide +kernel, by decide +kernel⟩

abbrev s_l_rule : Stmt := topS 41
abbrev N_l_rule : List Str := ["_law_pen_here", "_law_most", "_law_many", "_law_way", "_law_rows", "_law_at", "_law_near", "_law_far"]
theorem sc_l_rule : FnScope N_l_rule ["_law_pen_here", "_law_most"] (defScope s_l_rule) := ⟨rfl, rfl, rfl, by decide +kernel, rfl, by decide +kernel, by decide +kernel⟩

abbrev s_l_led : Stmt := topS 42
abbrev N_l_led : List Str := ["_law_rows", "_law_start", "_law_number", "_law_at", "_law_place"]
theorem sc_l_led : FnScope N_l_led ["_law_rows", "_law_start", "_law_number"] (defScope s_l_led) := ⟨rfl, rfl, rfl, by decide +kernel, rfl, by decide +kernel, by decide +kernel⟩

abbrev s_l_members : Stmt := topS 43
abbrev N_l_members : List Str := ["_law_rows", "_law_start", "_law_number", "_law_less", "_law_upto", "_law_ones", "_law_place", "_law_rest", "_law_middle", "_law_after", "_law_below", "_law_row", "_law_at"]
theorem sc_l_members : FnScope N_l_members ["_law_rows", "_law_start", "_law_number"] (defScope s_l_members) := ⟨rfl, rfl, rfl, by decide +kernel, rfl, by decide +kernel, by decide +kernel⟩

abbrev s_l_is_truth : Stmt := topS 44
abbrev N_l_is_truth : List Str := ["_law_value", "_law_due"]
theorem sc_l_is_truth : FnScope N_l_is_truth ["_law_value", "_law_due"] (defScope s_l_is_truth) := ⟨rfl, rfl, rfl, by decide +kernel, rfl, by decide +kernel, by decide +kernel⟩

abbrev s_l_is_int : Stmt := topS 45
abbrev N_l_is_int : List Str := ["_law_value"]
theorem sc_l_is_int : FnScope N_l_is_int ["_law_value"] (defScope s_l_is_int) := ⟨rfl, rfl, rfl, by decide +kernel, rfl, by decide +kernel, by decide +kernel⟩

abbrev s_l_pen : Stmt := topS 46
abbrev N_l_pen : List Str := ["_law_script"]
theorem sc_l_pen : FnScope N_l_pen ["_law_script"] (defScope s_l_pen) := ⟨rfl, rfl, rfl, by decide +kernel, rfl, by decide +kernel, by decide +kernel⟩

abbrev s_l_big : Stmt := topS 48
abbrev N_l_big : List Str := ["_law_pen_here", "_law_many", "_law_found", "_law_k"]
theorem sc_l_big : FnScope N_l_big ["_law_pen_here", "_law_many"] (defScope s_l_big) := ⟨rfl, rfl, rfl, by decide +kernel, rfl, by decide +kernel, by decide +kernel⟩

abbrev s_l_size : Stmt := topS 49
abbrev N_l_size : List Str := ["_law_pen_here", "_law_way", "_law_near"]
theorem sc_l_size : FnScope N_l_size ["_law_pen_here"] (defScope s_l_size) := ⟨rfl, rfl, rfl, by decide +kernel, rfl, by decide +kernel, by decide +kernel⟩

abbrev s_l_next_right : Stmt := topS 50
abbrev N_l_next_right : List Str := ["_law_rows", "_law_told", "_law_k", "_law_below"]
theorem sc_l_next_right : FnScope N_l_next_right ["_law_rows", "_law_told", "_law_k"] (defScope s_l_next_right) := ⟨rfl, rfl, rfl, by decide +kernel, rfl, by decide +kernel, by decide +kernel⟩

abbrev s_l_last_right : Stmt := topS 51
abbrev N_l_last_right : List Str := ["_law_rows", "_law_told", "_law_k"]
theorem sc_l_last_right : FnScope N_l_last_right ["_law_rows", "_law_told", "_law_k"] (defScope s_l_last_right) := ⟨rfl, rfl, rfl, by decide +kernel, rfl, by decide +kernel, by decide +kernel⟩

abbrev s_l_ends_right : Stmt := topS 52
abbrev N_l_ends_right : List Str := ["_law_rows", "_law_found", "_law_few", "_law_many", "_law_low", "_law_high", "_law_greatest", "_law_on"]
theorem sc_l_ends_right : FnScope N_l_ends_right ["_law_rows", "_law_found"] (defScope s_l_ends_right) := ⟨rfl, rfl, rfl, by decide +kernel, rfl, by decide +kernel, by decide +kernel⟩

abbrev s_law : Stmt := topS 53
abbrev N_law : List Str := ["_law_script", "_law_pen_here", "_law_rows", "_law_found", "_law_n", "_law_k", "_law_told", "_law_last"]
theorem sc_law : FnScope N_law ["_law_script"] (defScope s_law) := ⟨rfl, rfl, rfl, by decide +kernel, rfl, by decide +kernel, by decide +kernel⟩


/-! ### rules with the written part said, for a block's context -/
section
variable {X : Cx} {K : PySem.W.Frag}
theorem ixl (h : X.K = K) : IxR X (rIxL K) := h ▸ ix_list
theorem ixt (h : X.K = K) : IxR X (rIxT K) := h ▸ ix_tup
theorem pg_tupK {es : List Expr} {k n : Nat} {t : TGs} {pos : Pos} (hK : X.K = K) (hc : X.calm = true) (h : PGs X es t) (hn : (assignEach es X.env).length = n := by rfl) (hst : (assignEach es X.env).findIdx? (·.1) = none := by rfl) : PG X (.Tuple es k pos) (gTup K n t) := hK ▸ pg_tup hc h hn hst
theorem pi_tupK {tg l : Expr} {tl : TE} (hK : X.K = K) (hl : PE X l tl) : PI X tg l (iTup K tl) := hK ▸ pi_tup hl
theorem pi_listK {tg l : Expr} {tl : TE} (hK : X.K = K) (hl : PE X l tl) : PI X tg l (iList K tl) := hK ▸ pi_list hl
end
/-! ### rows in the heap -/
def rowV (r : Row) : List V := [.int (r.1 : Int), .int (r.2.1 : Int), .int (r.2.2 : Int)]
/-- the values are tuples that hold the rows -/
def RowsAt (K : PySem.W.Frag) (H : Hp) (vs : List V) (R : List W36.Row) : Prop := vs.length = R.length ∧ ∀ (i : Nat) (r : W36.Row), R[i]? = some r → ∃ t, vs[i]? = some (.ref t) ∧ SqT K H t (rowV r)
def RowsL (K : PySem.W.Frag) (H : Hp) (a : Addr) (R : List W36.Row) : Prop := ∃ vs, SqL K H a vs ∧ RowsAt K H vs R
def RowsT (K : PySem.W.Frag) (H : Hp) (a : Addr) (R : List W36.Row) : Prop := ∃ vs, SqT K H a vs ∧ RowsAt K H vs R
/-- a list of numbers -/
abbrev nums (l : List Nat) : List V := l.map fun (n : Nat) => V.int (n : Int)
theorem Same.sqt {K : PySem.W.Frag} {H H' : Hp} {a : Addr} {xs : List V} (e : Same H H') (h : SqT K H a xs) : SqT K H' a xs := by
  rcases h with (h | ⟨o, h⟩) | h
  · exact .inl (.inl (e _ _ h))
  · exact .inl (.inr ⟨o, e _ _ h⟩)
  · exact .inr h
theorem RowsAt.same {K : PySem.W.Frag} {H H' : Hp} {vs : List V} {R : List W36.Row} (h : RowsAt K H vs R) (e : Same H H') : RowsAt K H' vs R :=
  ⟨h.1, fun i r hr => let ⟨t, a, b⟩ := h.2 i r hr; ⟨t, a, Same.sqt e b⟩⟩
theorem RowsL.same {K : PySem.W.Frag} {H H' : Hp} {a : Addr} {R : List W36.Row} (h : RowsL K H a R) (e : Same H H') : RowsL K H' a R := let ⟨vs, x, y⟩ := h; ⟨vs, e.seq x, y.same e⟩
theorem RowsT.same {K : PySem.W.Frag} {H H' : Hp} {a : Addr} {R : List W36.Row} (h : RowsT K H a R) (e : Same H H') : RowsT K H' a R := let ⟨vs, x, y⟩ := h; ⟨vs, Same.sqt e x, y.same e⟩
theorem same_new {H : Hp} {p : Addr} {o : HO} (h : H p = none) : Same H (upd H p o) := fun b x e => by
  rw [upd_ne (ne_of_none e h)]; exact e
theorem same_mut {H H' : Hp} {p : Addr} {o : HO} (e : Same H H') (h : H p = none) : Same H (upd H' p o) := fun b x z => by
  rw [upd_ne (ne_of_none z h)]; exact e b x z
theorem rowV0 (r : Row) : atI (rowV r) 0 = some (.int (r.1 : Int)) := atI_nat (j := 0) rfl
theorem rowV1 (r : Row) : atI (rowV r) 1 = some (.int (r.2.1 : Int)) := atI_nat (j := 1) rfl
theorem rowV2 (r : Row) : atI (rowV r) 2 = some (.int (r.2.2 : Int)) := atI_nat (j := 2) rfl
theorem nums_get {l : List Nat} {i x : Nat} (h : l[i]? = some x) : (nums l)[i]? = some (.int (x : Int)) := by
  unfold nums; rw [List.getElem?_map, h]; rfl
theorem nums_at {l : List Nat} {i x : Nat} (h : l[i]? = some x) : atI (nums l) (i : Int) = some (.int (x : Int)) := atI_nat (nums_get h)
theorem nums_of {l : List Nat} {i : Nat} {v : V} (h : (nums l)[i]? = some v) : ∃ x, l[i]? = some x ∧ v = .int (x : Int) := by
  unfold nums at h
  rw [List.getElem?_map] at h
  cases e : l[i]? with
  | none => rw [e] at h; cases h
  | some x => rw [e] at h; exact ⟨x, rfl, (Option.some.inj h).symm⟩
theorem nums_len (l : List Nat) : (nums l).length = l.length := by simp
theorem nums_app (l : List Nat) (x : Nat) : nums (l ++ [x]) = nums l ++ [.int (x : Int)] := by unfold nums; rw [List.map_append]; rfl
theorem szl {n : Nat} (h : n ≤ 100000) : n ≤ sizeLine := Nat.le_trans h (by decide)
theorem szs {n : Nat} (h : n < 100000) : n < sizeLine := Nat.lt_of_lt_of_le h (by decide)
theorem RowsAt.get {K : PySem.W.Frag} {H : Hp} {vs : List V} {R : List W36.Row} (h : RowsAt K H vs R) {i : Nat} {r : W36.Row} (e : R[i]? = some r) : ∃ t, atI vs (i : Int) = some (.ref t) ∧ SqT K H t (rowV r) :=
  let ⟨t, a, b⟩ := h.2 i r e; ⟨t, atI_nat a, b⟩
theorem RowsAt.of {K : PySem.W.Frag} {H : Hp} {vs : List V} {R : List W36.Row} (h : RowsAt K H vs R) {i : Nat} {v : V} (e : vs[i]? = some v) : ∃ r t, R[i]? = some r ∧ v = .ref t ∧ SqT K H t (rowV r) := by
  have hl := lt_get e
  rw [h.1] at hl
  obtain ⟨r, er⟩ := get_lt hl
  obtain ⟨t, a, b⟩ := h.2 i r er
  rw [e] at a
  exact ⟨r, t, er, Option.some.inj a, b⟩
/-- an item of a row by a digit -/
theorem row_at {r : Row} {d : Nat} (hd : d ≤ 1) : atI (rowV r) (d : Int) = some (.int ((if d = 0 then r.1 else r.2.1 : Nat) : Int)) := by
  have : d = 0 ∨ d = 1 := by omega
  rcases this with rfl | rfl
  · exact rowV0 r
  · exact rowV1 r

structure Txt (K : PySem.W.Frag) (mg : Str → Option Value) where
  C : Addr
  cl : Cls K C
  nA : NoAttr K C "digit_rows"
  i_ha : PySem.W.findIn K (.ref C) "__class__" = some (some (.builtin "object.__class__"))
  i_hn : PySem.W.specialIn K (.builtin "object.__class__") "__get__" = some (some (.builtin "getset_descriptor.__get__"))
  i_htk : PySem.W.takesIn K (.builtin "object.__class__") = some true
  i_hm : PySem.W.mroIn K C (.type "object") = some true
  g_Sizes : mg "Sizes" = some (.ref C)
  a_digits_of : Addr
  d_digits_of : FuncData
  F_digits_of : Fun K "digits_of" "digits_of" s_digits_of a_digits_of d_digits_of
  b_digits_of : Binds K d_digits_of ["number"] []
  g_digits_of : mg "digits_of" = some (.ref a_digits_of)
  a_number_of : Addr
  d_number_of : FuncData
  F_number_of : Fun K "number_of" "number_of" s_number_of a_number_of d_number_of
  b_number_of : Binds K d_number_of ["digits"] []
  g_number_of : mg "number_of" = some (.ref a_number_of)
  a_order_of : Addr
  d_order_of : FuncData
  F_order_of : Fun K "order_of" "order_of" s_order_of a_order_of d_order_of
  b_order_of : Binds K d_order_of ["rows", "start"] []
  g_order_of : mg "order_of" = some (.ref a_order_of)
  a_sources_of : Addr
  d_sources_of : FuncData
  F_sources_of : Fun K "sources_of" "sources_of" s_sources_of a_sources_of d_sources_of
  b_sources_of : Binds K d_sources_of ["rows"] []
  g_sources_of : mg "sources_of" = some (.ref a_sources_of)
  a_blocks_of : Addr
  d_blocks_of : FuncData
  F_blocks_of : Fun K "blocks_of" "blocks_of" s_blocks_of a_blocks_of d_blocks_of
  b_blocks_of : Binds K d_blocks_of ["rows"] []
  g_blocks_of : mg "blocks_of" = some (.ref a_blocks_of)
  a_least_rows : Addr
  d_least_rows : FuncData
  F_least_rows : Fun K "least_rows" "least_rows" s_least_rows a_least_rows d_least_rows
  b_least_rows : Binds K d_least_rows ["rows", "start"] []
  g_least_rows : mg "least_rows" = some (.ref a_least_rows)
  a_told_rows : Addr
  d_told_rows : FuncData
  F_told_rows : Fun K "told_rows" "told_rows" s_told_rows a_told_rows d_told_rows
  b_told_rows : Binds K d_told_rows ["rows", "start"] []
  g_told_rows : mg "told_rows" = some (.ref a_told_rows)
  a_paired_rows : Addr
  d_paired_rows : FuncData
  F_paired_rows : Fun K "paired_rows" "paired_rows" s_paired_rows a_paired_rows d_paired_rows
  b_paired_rows : Binds K d_paired_rows ["one", "other", "rule"] []
  g_paired_rows : mg "paired_rows" = some (.ref a_paired_rows)
  a_ahead_of : Addr
  d_ahead_of : FuncData
  F_ahead_of : Fun K "ahead_of" "ahead_of" s_ahead_of a_ahead_of d_ahead_of
  b_ahead_of : Binds K d_ahead_of ["rows", "many"] []
  g_ahead_of : mg "ahead_of" = some (.ref a_ahead_of)
  a_before : Addr
  d_before : FuncData
  F_before : Fun K "before" "before" s_before a_before d_before
  b_before : Binds K d_before ["rows", "flags", "digit"] []
  g_before : mg "before" = some (.ref a_before)
  a_meets : Addr
  d_meets : FuncData
  F_meets : Fun K "meets" "meets" s_meets a_meets d_meets
  b_meets : Binds K d_meets ["classes", "flags"] []
  g_meets : mg "meets" = some (.ref a_meets)
  a_goals_of : Addr
  d_goals_of : FuncData
  F_goals_of : Fun K "goals_of" "goals_of" s_goals_of a_goals_of d_goals_of
  b_goals_of : Binds K d_goals_of ["rows", "digits"] []
  g_goals_of : mg "goals_of" = some (.ref a_goals_of)
  a_low_digits : Addr
  d_low_digits : FuncData
  F_low_digits : Fun K "low_digits" "low_digits" s_low_digits a_low_digits d_low_digits
  b_low_digits : Binds K d_low_digits ["rows", "ahead", "flags", "many", "first"] []
  g_low_digits : mg "low_digits" = some (.ref a_low_digits)
  a_least_of_length : Addr
  d_least_of_length : FuncData
  F_least_of_length : Fun K "least_of_length" "least_of_length" s_least_of_length a_least_of_length d_least_of_length
  b_least_of_length : Binds K d_least_of_length ["rows", "ahead", "length", "first"] []
  g_least_of_length : mg "least_of_length" = some (.ref a_least_of_length)
  a_next_number : Addr
  d_next_number : FuncData
  F_next_number : Fun K "next_number" "next_number" s_next_number a_next_number d_next_number
  b_next_number : Binds K d_next_number ["rows", "number"] []
  g_next_number : mg "next_number" = some (.ref a_next_number)
  a_last_number : Addr
  d_last_number : FuncData
  F_last_number : Fun K "last_number" "last_number" s_last_number a_last_number d_last_number
  b_last_number : Binds K d_last_number ["rows", "number"] []
  g_last_number : mg "last_number" = some (.ref a_last_number)
  a_has_endless : Addr
  d_has_endless : FuncData
  F_has_endless : Fun K "has_endless" "has_endless" s_has_endless a_has_endless d_has_endless
  b_has_endless : Binds K d_has_endless ["rows"] []
  g_has_endless : mg "has_endless" = some (.ref a_has_endless)
  a_greatest_number : Addr
  d_greatest_number : FuncData
  F_greatest_number : Fun K "greatest_number" "greatest_number" s_greatest_number a_greatest_number d_greatest_number
  b_greatest_number : Binds K d_greatest_number ["rows"] []
  g_greatest_number : mg "greatest_number" = some (.ref a_greatest_number)
  a_is_integer : Addr
  d_is_integer : FuncData
  F_is_integer : Fun K "is_integer" "is_integer" s_is_integer a_is_integer d_is_integer
  b_is_integer : Binds K d_is_integer ["number"] []
  g_is_integer : mg "is_integer" = some (.ref a_is_integer)
  a_is_size : Addr
  d_is_size : FuncData
  F_is_size : Fun K "is_size" "is_size" s_is_size a_is_size d_is_size
  b_is_size : Binds K d_is_size ["size"] []
  g_is_size : mg "is_size" = some (.ref a_is_size)
  a_need_size : Addr
  d_need_size : FuncData
  F_need_size : Fun K "need_size" "need_size" s_need_size a_need_size d_need_size
  b_need_size : Binds K d_need_size ["value"] []
  g_need_size : mg "need_size" = some (.ref a_need_size)
  a_init : Addr
  d_init : FuncData
  F_init : Fun K "__init__" "Sizes.__init__" s_init a_init d_init
  b_init : Binds K d_init ["self", "digit_rows"] []
  a_m_least : Addr
  d_m_least : FuncData
  F_m_least : Fun K "least" "Sizes.least" s_m_least a_m_least d_m_least
  b_m_least : Binds K d_m_least ["self"] []
  t_least : Meth K C "least" a_m_least
  a_m_greatest : Addr
  d_m_greatest : FuncData
  F_m_greatest : Fun K "greatest" "Sizes.greatest" s_m_greatest a_m_greatest d_m_greatest
  b_m_greatest : Binds K d_m_greatest ["self"] []
  t_greatest : Meth K C "greatest" a_m_greatest
  a_m_next_from : Addr
  d_m_next_from : FuncData
  F_m_next_from : Fun K "next_from" "Sizes.next_from" s_m_next_from a_m_next_from d_m_next_from
  b_m_next_from : Binds K d_m_next_from ["self", "k"] []
  t_next_from : Meth K C "next_from" a_m_next_from
  a_m_last_upto : Addr
  d_m_last_upto : FuncData
  F_m_last_upto : Fun K "last_upto" "Sizes.last_upto" s_m_last_upto a_m_last_upto d_m_last_upto
  b_m_last_upto : Binds K d_m_last_upto ["self", "k"] []
  t_last_upto : Meth K C "last_upto" a_m_last_upto
  a_m_from_on : Addr
  d_m_from_on : FuncData
  F_m_from_on : Fun K "from_on" "Sizes.from_on" s_m_from_on a_m_from_on d_m_from_on
  b_m_from_on : Binds K d_m_from_on ["self"] []
  t_from_on : Meth K C "from_on" a_m_from_on
  a_m_is_none : Addr
  d_m_is_none : FuncData
  F_m_is_none : Fun K "is_none" "Sizes.is_none" s_m_is_none a_m_is_none d_m_is_none
  b_m_is_none : Binds K d_m_is_none ["self"] []
  t_is_none : Meth K C "is_none" a_m_is_none
  a_m_is_all : Addr
  d_m_is_all : FuncData
  F_m_is_all : Fun K "is_all" "Sizes.is_all" s_m_is_all a_m_is_all d_m_is_all
  b_m_is_all : Binds K d_m_is_all ["self"] []
  t_is_all : Meth K C "is_all" a_m_is_all
  a_m_is_endless : Addr
  d_m_is_endless : FuncData
  F_m_is_endless : Fun K "is_endless" "Sizes.is_endless" s_m_is_endless a_m_is_endless d_m_is_endless
  b_m_is_endless : Binds K d_m_is_endless ["self"] []
  t_is_endless : Meth K C "is_endless" a_m_is_endless
  a_is_told_row : Addr
  d_is_told_row : FuncData
  F_is_told_row : Fun K "is_told_row" "is_told_row" s_is_told_row a_is_told_row d_is_told_row
  b_is_told_row : Binds K d_is_told_row ["row", "many"] []
  g_is_told_row : mg "is_told_row" = some (.ref a_is_told_row)
  a_sizes_of_rows : Addr
  d_sizes_of_rows : FuncData
  F_sizes_of_rows : Fun K "sizes_of_rows" "sizes_of_rows" s_sizes_of_rows a_sizes_of_rows d_sizes_of_rows
  b_sizes_of_rows : Binds K d_sizes_of_rows ["rows"] []
  g_sizes_of_rows : mg "sizes_of_rows" = some (.ref a_sizes_of_rows)
  a_l_draw : Addr
  d_l_draw : FuncData
  F_l_draw : Fun K "_law_draw" "_law_draw" s_l_draw a_l_draw d_l_draw
  b_l_draw : Binds K d_l_draw ["_law_pen_here", "_law_many"] []
  g_l_draw : mg "_law_draw" = some (.ref a_l_draw)
  a_l_rule : Addr
  d_l_rule : FuncData
  F_l_rule : Fun K "_law_rule" "_law_rule" s_l_rule a_l_rule d_l_rule
  b_l_rule : Binds K d_l_rule ["_law_pen_here", "_law_most"] []
  g_l_rule : mg "_law_rule" = some (.ref a_l_rule)
  a_l_led : Addr
  d_l_led : FuncData
  F_l_led : Fun K "_law_led" "_law_led" s_l_led a_l_led d_l_led
  b_l_led : Binds K d_l_led ["_law_rows", "_law_start", "_law_number"] []
  g_l_led : mg "_law_led" = some (.ref a_l_led)
  a_l_members : Addr
  d_l_members : FuncData
  F_l_members : Fun K "_law_members" "_law_members" s_l_members a_l_members d_l_members
  b_l_members : Binds K d_l_members ["_law_rows", "_law_start", "_law_number"] []
  g_l_members : mg "_law_members" = some (.ref a_l_members)
  a_l_is_truth : Addr
  d_l_is_truth : FuncData
  F_l_is_truth : Fun K "_law_is_truth" "_law_is_truth" s_l_is_truth a_l_is_truth d_l_is_truth
  b_l_is_truth : Binds K d_l_is_truth ["_law_value", "_law_due"] []
  g_l_is_truth : mg "_law_is_truth" = some (.ref a_l_is_truth)
  a_l_is_int : Addr
  d_l_is_int : FuncData
  F_l_is_int : Fun K "_law_is_int" "_law_is_int" s_l_is_int a_l_is_int d_l_is_int
  b_l_is_int : Binds K d_l_is_int ["_law_value"] []
  g_l_is_int : mg "_law_is_int" = some (.ref a_l_is_int)
  a_l_pen : Addr
  d_l_pen : FuncData
  F_l_pen : Fun K "_law_pen" "_law_pen" s_l_pen a_l_pen d_l_pen
  b_l_pen : Binds K d_l_pen ["_law_script"] []
  g_l_pen : mg "_law_pen" = some (.ref a_l_pen)
  a_l_big : Addr
  d_l_big : FuncData
  F_l_big : Fun K "_law_big" "_law_big" s_l_big a_l_big d_l_big
  b_l_big : Binds K d_l_big ["_law_pen_here", "_law_many"] []
  g_l_big : mg "_law_big" = some (.ref a_l_big)
  a_l_size : Addr
  d_l_size : FuncData
  F_l_size : Fun K "_law_size" "_law_size" s_l_size a_l_size d_l_size
  b_l_size : Binds K d_l_size ["_law_pen_here"] []
  g_l_size : mg "_law_size" = some (.ref a_l_size)
  a_l_next_right : Addr
  d_l_next_right : FuncData
  F_l_next_right : Fun K "_law_next_right" "_law_next_right" s_l_next_right a_l_next_right d_l_next_right
  b_l_next_right : Binds K d_l_next_right ["_law_rows", "_law_told", "_law_k"] []
  g_l_next_right : mg "_law_next_right" = some (.ref a_l_next_right)
  a_l_last_right : Addr
  d_l_last_right : FuncData
  F_l_last_right : Fun K "_law_last_right" "_law_last_right" s_l_last_right a_l_last_right d_l_last_right
  b_l_last_right : Binds K d_l_last_right ["_law_rows", "_law_told", "_law_k"] []
  g_l_last_right : mg "_law_last_right" = some (.ref a_l_last_right)
  a_l_ends_right : Addr
  d_l_ends_right : FuncData
  F_l_ends_right : Fun K "_law_ends_right" "_law_ends_right" s_l_ends_right a_l_ends_right d_l_ends_right
  b_l_ends_right : Binds K d_l_ends_right ["_law_rows", "_law_found"] []
  g_l_ends_right : mg "_law_ends_right" = some (.ref a_l_ends_right)
  a_law : Addr
  d_law : FuncData
  F_law : Fun K "law" "law" s_law a_law d_law
  b_law : Binds K d_law ["_law_script"] []
  g_law : mg "law" = some (.ref a_law)
  M_Sizes : Mk K C a_init
  tk1 : Tok
  tk2 : Tok
  tk3 : Tok
  g_MOST : mg "MOST" = some (.int (10 ^ 30) tk1)
  g_MOST_ROWS : mg "MOST_ROWS" = some (.int 400 tk2)
  g_MOST_TOLD : mg "MOST_TOLD" = some (.int 64 tk3)
  a_ALL : Addr
  a_NO : Addr
  g_ALL_ROWS : mg "ALL_ROWS" = some (.ref a_ALL)
  g_NO_ROWS : mg "NO_ROWS" = some (.ref a_NO)
  ok_ALL : ∀ H, RowsT K H a_ALL [(0, 1, 0), (1, 1, 1)]
  ok_NO : ∀ H, RowsT K H a_NO [(0, 0, 0)]
  n_len : mg "len" = none
  n_range : mg "range" = none
  n_enumerate : mg "enumerate" = none
  n_reversed : mg "reversed" = none
  n_list : mg "list" = none
  n_tuple : mg "tuple" = none
  n_sorted : mg "sorted" = none
  n_any : mg "any" = none
  n_all : mg "all" = none
  n_isinstance : mg "isinstance" = none
  n_int : mg "int" = none
  n_bool : mg "bool" = none
  n_str : mg "str" = none
  n_min : mg "min" = none
  n_max : mg "max" = none
end W36
end

section
set_option linter.all false
set_option maxRecDepth 100000
set_option maxHeartbeats 4000000
/-! digits_of, number_of, before, meets. -/
namespace W36
open PySem PySem.Spec PyProof.Rows L2
section
variable {P : Program} {w : World} {K : PySem.W.Frag} {mg : Str → Option Value} {base : Heap}
def big : Nat := 2 ^ 250
theorem bits_short {n : Nat} (h : n < big) : (bits n).length ≤ 250 := len_le_iff.mpr h
def sp_digits_of : Sp := fun vs H Q _ => ∃ n : Nat, vs = [.int (n : Int)] ∧ n < big ∧ ∀ H' p, Same H H' → H p = none → H' p = some (.lst (nums (bits n))) → Q (.ref p) H'
theorem ok_digits_of (T : Txt K mg) : FnOk P w K mg base CX0 1 T.a_digits_of T.d_digits_of ["number"] sp_digits_of := by
  refine T.F_digits_of.ok sc_digits_of (fun vs H Q E h => ?_) (fun cdv A outer s H vs Q E hr h => ?_)
  · obtain ⟨n, rfl, _⟩ := h
    rfl
  · obtain ⟨n, rfl, hn, q⟩ := h
    refine ⟨_, (pss_cons (ps_set (i := 1) sc_digits_of.nd rfl (Or.inl rfl) (pe_lst pa_nil))
      (pss_cons (ps_while PassesOwn.never (pt_cmpR op_gt (pv 0) pe_int (nomark _))
      (pss_cons (ps_expr (pe_bm PySem.F.plainAttrs_list PySem.F.slot_list_append PySem.F.type_list_append mt_append (pv 1) (pa_cons (pe_op op_odd (pv 0) pe_int) pa_nil)))
        (pss_one (ps_set (i := 0) sc_digits_of.nd rfl (Or.inl rfl) (pe_op op_halfN (pv 0) pe_int)))))
      (pss_one (ps_ret (pv 1))))), ?_⟩
    refine ⟨Nat.zero_le _, fun l hl => ?_⟩
    refine ⟨fun m σ H' => ∃ acc, σ = [some (.int (m : Int)), some (.ref l)] ∧ Same H H' ∧ H' l = some (.lst (nums acc)) ∧ acc ++ bits m = bits n, ⟨n, [], rfl, same_new hl, upd_same, rfl⟩, fun m σ H' hW => ?_⟩
    obtain ⟨acc, rfl, sm, el, eb⟩ := hW
    refine ⟨_, rfl, _, _, rfl, rfl, _, rfl, ite2 (fun c => ?_) (fun c => ?_)⟩
    · have hm : m ≠ 0 := by
        have := of_decide_eq_true c
        omega
      have hb := bits_short hn
      rw [← eb, List.length_append] at hb
      refine ⟨_, fun σ' H2 hN => hN, ?_⟩
      refine ⟨_, rfl, .inl ⟨rfl, _, SqL.of el⟩, _, rfl, m, rfl, rfl, l, _, _, rfl, rfl, el, szs (by rw [nums_len]; omega), ?_⟩
      refine ⟨_, rfl, m, rfl, rfl, m / 2, by omega, acc ++ [m % 2], rfl, same_mut sm hl, ?_, ?_⟩
      · rw [nums_app]; exact upd_same
      · rw [← eb, bits_pos hm, List.append_assoc]; rfl
    · have hm : m = 0 := by
        have z : ¬ ((0 : Int) < (m : Int)) := fun z => c (decide_eq_true z)
        omega
      subst hm
      rw [bits_zero, List.append_nil] at eb
      subst eb
      exact ⟨_, rfl, q H' l sm hl el⟩
def sp_number_of (K : PySem.W.Frag) : Sp := fun vs H Q _ => ∃ (a : Addr) (ds : List Nat), vs = [.ref a] ∧ SqL K H a (nums ds) ∧ ds.length ≤ 1000 ∧ ∀ H', Same H H' → Q (.int (val ds : Int)) H'
theorem val_drop {ds : List Nat} {i d : Nat} (h : ds[i]? = some d) : val (ds.drop i) = d + 2 * val (ds.drop (i + 1)) := by
  have hl := lt_get h
  rw [List.drop_eq_getElem_cons hl]
  rw [List.getElem?_eq_getElem hl] at h
  rw [Option.some.inj h]
  rfl
theorem ok_number_of (T : Txt K mg) : FnOk P w K mg base CX0 1 T.a_number_of T.d_number_of ["digits"] (sp_number_of K) := by
  refine T.F_number_of.ok sc_number_of (fun vs H Q E h => ?_) (fun cdv A outer s H vs Q E hr h => ?_)
  · obtain ⟨a, ds, rfl, _⟩ := h
    rfl
  · obtain ⟨a, ds, rfl, hS, hlen, q⟩ := h
    refine ⟨_, (pss_cons (ps_set (i := 1) sc_number_of.nd rfl (Or.inl rfl) pe_int)
      (pss_cons (ps_for PassesOwn.never rfl (pi_reversed (by rfl) T.n_reversed (pa_cons (pe_callTy call_list_of (by rfl) T.n_list (by decide +kernel) (pa_cons (pv 0) pa_nil)) pa_nil)) (pg_name (i := 2) sc_number_of.nd rfl (Or.inl rfl))
      (pss_one (ps_set (i := 1) sc_number_of.nd rfl (Or.inl rfl) (pe_op op_add (pe_op op_mul pe_int (pv 1)) (pv 2)))))
      (pss_one (ps_ret (pv 1))))), ?_⟩
    refine ⟨_, rfl, a, _, rfl, .inl hS, fun l hl => ?_⟩
    have eL := fun H' (sm : Same (upd H l (.lst (nums ds))) H') => SqL.of (K := K) (sm l _ upd_same)
    refine ⟨l, _, rfl, SqL.of upd_same, fun i m σ H' => i + m = ds.length ∧ ∃ z, σ = [some (.ref a), some (.int (val (ds.drop m) : Int)), z] ∧ Same (upd H l (.lst (nums ds))) H', ⟨ds.length, by omega, none, by rw [List.drop_length]; rfl, Same.refl _⟩, fun i m σ H' hW => ?_⟩
    obtain ⟨em, z, rfl, sm⟩ := hW
    by_cases hi : m = 0
    · subst hi
      refine .inl ⟨show (nums ds).length ≤ i by rw [nums_len]; omega, ?_⟩
      refine ⟨_, rfl, ?_⟩
      exact q H' ((same_new hl).trans sm)
    · have hm1 : m - 1 < ds.length := by omega
      have e1 : (nums ds).length - 1 - i = m - 1 := by rw [nums_len]; omega
      obtain ⟨d, ed⟩ := get_lt hm1
      refine .inr ⟨⟨by rw [nums_len]; omega, _, _, eL H' sm, by rw [e1]; exact nums_get ed⟩, _, fun σ' H2 hN => hN, fun x H2 hy => ?_⟩
      obtain ⟨rfl, fx⟩ := hy
      have ex := fx _ (eL H2 sm)
      rw [e1, nums_get ed] at ex
      cases ex
      refine ⟨_, rfl, 2, _, rfl, rfl, .inl ⟨by decide, by decide⟩, _, rfl, _, _, rfl, rfl, ?_⟩
      refine ⟨m - 1, by omega, by omega, some (.int (d : Int)), ?_, sm⟩
      have e3 : m - 1 + 1 = m := by omega
      have e4 := val_drop ed
      rw [e3] at e4
      have e5 : (2 : Int) * (val (ds.drop m) : Int) + (d : Int) = (val (ds.drop (m - 1)) : Int) := by omega
      rw [← e5]
      rfl
end
end W36
end

section
set_option linter.all false
set_option maxRecDepth 100000
set_option maxHeartbeats 4000000
/-! before, meets, ahead_of, goals_of. -/
namespace W36
open PySem PySem.Spec PyProof.Rows L2
section
variable {P : Program} {w : World} {K : PySem.W.Frag} {mg : Str → Option Value} {base : Heap}
theorem tab_at {R : List W36.Row} {g : Nat → Nat} {q : Nat} (h : q < R.length) : atI (nums (tab R g)) (q : Int) = some (.int (g q : Int)) := nums_at (tab_get R g h)
def sp_before (K : PySem.W.Frag) : Sp := fun vs H Q _ => ∃ (a b : Addr) (R : List W36.Row) (g : Nat → Nat) (d : Nat), vs = [.ref a, .ref b, .int (d : Int)] ∧ RowsT K H a R ∧ SqL K H b (nums (tab R g)) ∧ Valid R ∧ R.length ≤ 60 ∧ d ≤ 1 ∧
  ∀ H' p, Same H H' → H p = none → H' p = some (.lst (nums (tab R fun q => g (step R q d)))) → Q (.ref p) H'
theorem ok_before (T : Txt K mg) : FnOk P w K mg base CX0 1 T.a_before T.d_before ["rows", "flags", "digit"] (sp_before K) := by
  refine T.F_before.ok sc_before (fun vs H Q E h => ?_) (fun cdv A outer s H vs Q E hr h => ?_)
  · obtain ⟨a, b, R, g, d, rfl, _⟩ := h
    rfl
  · obtain ⟨a, b, R, g, d, rfl, hR, hS, hv, hlen, hd, q⟩ := h
    obtain ⟨ts, hT, hA⟩ := hR
    refine ⟨_, (pss_one (ps_ret (pe_lc (own := [("row", 3)]) rfl sc_before.nd (pi_tup (pv 0)) (blkOk_by (N := N_before) (sc := defScope s_before) (by decide +kernel)) (fun _ _ _ _ _ => (pg_name (i := 3) sc_before.nd rfl (Or.inl rfl))) (fun _ _ _ _ _ => pts_nil) (fun _ _ _ _ _ => (pe_ix (ixl (K := K) rfl) (pv 1) (pe_ix (ixt (K := K) rfl) (pv 3) (pv 2) (fun _ _ => rfl)) (fun _ _ => rfl)))))), ?_⟩
    refine ⟨_, rfl, a, rfl, ⟨_, hT⟩, fun D nD => ?_⟩
    refine lc_tup (K := K) (a := a) (xs := ts) (fun i H' => Same H H' ∧ H' D = some (.lst (nums ((tab R fun q => g (step R q d)).take i)))) ⟨same_new nD, upd_same⟩ (fun i H' _ p => Same.sqt p.1 hT) (fun i x H' hi p => ?_) (fun H' p => ?_)
    · obtain ⟨sm, eD⟩ := p
      obtain ⟨r, t, er, rfl, ht⟩ := hA.of hi
      have hil := lt_get er
      refine ⟨rfl, ?_⟩
      refine ⟨_, rfl, _, rfl, _, rfl, t, _, _, _, rfl, rfl, Same.sqt sm ht, row_at hd, b, _, _, _, rfl, rfl, sm.seq hS, tab_at (by rw [← step_get er]; exact step_lt hv hil d), ?_⟩
      refine ⟨_, eD, szs (by rw [nums_len, List.length_take]; omega), same_mut sm nD, ?_⟩
      rw [upd_same, tab_take _ _ hil, nums_app, step_get er]
    · obtain ⟨sm, eD⟩ := p
      rw [hA.1, tab_all] at eD
      exact q H' D sm nD eD
def sp_meets (K : PySem.W.Frag) : Sp := fun vs H Q _ => ∃ (a b : Addr) (cl : List Nat) (R : List W36.Row) (g : Nat → Nat), vs = [.ref a, .ref b] ∧ SqL K H a (nums cl) ∧ SqL K H b (nums (tab R g)) ∧ cl.length ≤ 1000 ∧ (∀ q ∈ cl, q < R.length) ∧
  ∀ H', Same H H' → Q (.bl (cl.any fun q => g q == 1)) H'
theorem any_map (cl : List Nat) (g : Nat → Nat) : (cl.map fun q => g q == 1).any id = cl.any fun q => g q == 1 := by rw [List.any_map]; rfl
theorem dec_int (x y : Nat) : decide (V.int (x : Int) = V.int (y : Int)) = (x == y) := by
  by_cases h : x = y
  · subst h; simp
  · have h2 : ¬ V.int (x : Int) = V.int (y : Int) := fun e => h (by injection e with e; exact Int.ofNat.inj e)
    rw [decide_eq_false h2]
    exact (beq_eq_false_iff_ne.mpr h).symm
theorem ok_meets (T : Txt K mg) : FnOk P w K mg base CX0 1 T.a_meets T.d_meets ["classes", "flags"] (sp_meets K) := by
  refine T.F_meets.ok sc_meets (fun vs H Q E h => ?_) (fun cdv A outer s H vs Q E hr h => ?_)
  · obtain ⟨a, b, cl, R, g, rfl, _⟩ := h
    rfl
  · obtain ⟨a, b, cl, R, g, rfl, hC, hS, hlen, hlt, q⟩ := h
    refine ⟨_, (pss_one (ps_ret (pe_callB (cr_any rfl) (by rfl) T.n_any (by decide +kernel) (pa_cons (pe_lc (own := [("at", 2)]) rfl sc_meets.nd (pi_list (pv 0)) (blkOk_by (N := N_meets) (sc := defScope s_meets) (by decide +kernel)) (fun _ _ _ _ _ => (pg_name (i := 2) sc_meets.nd rfl (Or.inl rfl))) (fun _ _ _ _ _ => pts_nil) (fun _ _ _ _ _ => (pe_cmpR op_eq (pe_ix (ixl (K := K) rfl) (pv 1) (pv 2) (fun _ _ => rfl)) pe_int (nomark _)))) pa_nil)))), ?_⟩
    refine ⟨_, rfl, a, rfl, ⟨_, hC⟩, fun D nD => ?_⟩
    refine lc_list (K := K) (a := a) (xs := nums cl) (fun i H' => Same H H' ∧ H' D = some (.lst (((cl.take i).map fun q => g q == 1).map V.bl))) ⟨same_new nD, upd_same⟩ (fun i H' _ p => p.1.seq hC) (fun i x H' hi p => ?_) (fun H' p => ?_)
    · obtain ⟨sm, eD⟩ := p
      obtain ⟨c, ec, rfl⟩ := nums_of hi
      have hil := lt_get ec
      refine ⟨rfl, ?_⟩
      refine ⟨_, rfl, _, rfl, b, _, _, _, rfl, rfl, sm.seq hS, tab_at (hlt c (List.mem_of_getElem? ec)), rfl, ?_⟩
      refine ⟨_, eD, szs (by rw [List.length_map, List.length_map, List.length_take]; omega), same_mut sm nD, ?_⟩
      rw [upd_same, List.take_add_one, ec, List.map_append, List.map_append]
      have := dec_int (g c) 1
      rw [show V.int ((1 : Nat) : Int) = V.int 1 from rfl] at this
      rw [this]
      rfl
    · obtain ⟨sm, eD⟩ := p
      rw [nums_len, List.take_length] at eD
      refine ⟨D, _, rfl, SqL.of eD, ?_⟩
      rw [any_map]
      exact q H' sm
end
end W36
end

section
set_option linter.all false
set_option maxRecDepth 100000
set_option maxHeartbeats 4000000
/-! ahead_of, goals_of. -/
namespace W36
open PySem PySem.Spec PyProof.Rows L2
section
variable {P : Program} {w : World} {K : PySem.W.Frag} {mg : Str → Option Value} {base : Heap}
def AheadAt (K : PySem.W.Frag) (H : Hp) (p : Addr) (R : List W36.Row) (m : Nat) : Prop :=
  ∃ ls, SqL K H p ls ∧ ls.length = m + 1 ∧ ∀ c, c ≤ m → ∃ l cl, ls[c]? = some (.ref l) ∧ SqL K H l (nums cl) ∧ IsAhead R c cl ∧ cl.length ≤ 60
theorem AheadAt.same {H H' : Hp} {p : Addr} {R : List W36.Row} {m : Nat} (h : AheadAt K H p R m) (e : Same H H') : AheadAt K H' p R m :=
  let ⟨ls, a, b, c⟩ := h
  ⟨ls, e.seq a, b, fun i hi => let ⟨l, cl, x, y, z⟩ := c i hi; ⟨l, cl, x, e.seq y, z⟩⟩
def sp_ahead_of (K : PySem.W.Frag) : Sp := fun vs H Q _ => ∃ (a : Addr) (R : List W36.Row) (m : Nat), vs = [.ref a, .int (m : Int)] ∧ RowsT K H a R ∧ Valid R ∧ 0 < R.length ∧ R.length ≤ 60 ∧ m ≤ 1000 ∧
  ∀ H' p, Same H H' → H p = none → AheadAt K H' p R m → Q (.ref p) H'
theorem nums_ints (cl : List Nat) : (cl.map (fun (m : Nat) => (m : Int))).map V.int = nums cl := by rw [List.map_map]; rfl
theorem ok_ahead_of (T : Txt K mg) : FnOk P w K mg base CX0 1 T.a_ahead_of T.d_ahead_of ["rows", "many"] (sp_ahead_of K) := by
  refine T.F_ahead_of.ok sc_ahead_of (fun vs H Q E h => ?_) (fun cdv A outer s H vs Q E hr h => ?_)
  · obtain ⟨a, R, m, rfl, _⟩ := h
    rfl
  · obtain ⟨a, R, m, rfl, hR, hv, h0, h60, hm, q⟩ := h
    obtain ⟨ts, hT, hA⟩ := hR
    refine ⟨_, (pss_cons (ps_set (i := 2) sc_ahead_of.nd rfl (Or.inl rfl) (pe_lst (pa_cons (pe_lst (pa_cons pe_int pa_nil)) pa_nil)))
      (pss_cons (ps_for PassesOwn.never rfl (pi_range1 (by rfl) T.n_range (pa_cons (pv 1) pa_nil)) (pg_name (i := 3) sc_ahead_of.nd rfl (Or.inl rfl))
      (pss_one (ps_expr (pe_bm PySem.F.plainAttrs_list PySem.F.slot_list_append PySem.F.type_list_append mt_append (pv 2) (pa_cons (pe_callB (cr_sortedSet rfl) (by rfl) T.n_sorted (by decide +kernel) (pa_cons (pe_sI2 (own := [("at", 4), ("digit", 5)]) (vs1 := [5]) rfl sc_ahead_of.nd (pi_list (pe_ix ix_list (pv 2) (pv 3) (fun _ _ => rfl))) (blkOk_by (N := N_ahead_of) (sc := defScope s_ahead_of) (by decide +kernel)) (by decide) (fun _ _ _ _ _ => (pg_name (i := 4) sc_ahead_of.nd rfl (Or.inl rfl))) (fun _ _ _ _ _ => (pi_tupK (K := K) rfl (pe_tup (pa_cons pe_int (pa_cons pe_int pa_nil))))) (fun _ _ _ _ _ => (pg_name (i := 5) sc_ahead_of.nd rfl (Or.inl rfl))) (fun _ _ _ _ _ => (pe_ix (ixt (K := K) rfl) (pe_ix (ixt (K := K) rfl) (pv 0) (pv 4) (fun _ _ => rfl)) (pv 5) (fun _ _ => rfl)))) pa_nil)) pa_nil)))))
      (pss_one (ps_ret (pv 2))))), ?_⟩
    refine ⟨by show 1 ≤ sizeLine; decide, fun l0 hl0 => ⟨by show 1 ≤ sizeLine; decide, fun p hp => ?_⟩⟩
    have np : H p = none := (same_new hl0).free hp
    have s1 : Same H (upd (upd H l0 (.lst [.int 0])) p (.lst [.ref l0])) := (same_new hl0).trans (same_new hp)
    have npl : l0 ≠ p := fun e => by rw [← e, upd_same] at hp; cases hp
    refine ⟨_, rfl, (m : Int), rfl, by omega, by omega, for_range (lo := 0) (n := m) (fun i σ H' => ∃ x4 x5 x3, σ = [some (.ref a), some (.int (m : Int)), some (.ref p), x3, x4, x5] ∧ Same H H' ∧
      ∃ ls, H' p = some (.lst ls) ∧ ls.length = i + 1 ∧ ∀ c, c ≤ i → ∃ l cl, ls[c]? = some (.ref l) ∧ H' l = some (.lst (nums cl)) ∧ IsAhead R c cl ∧ cl.length ≤ 60) ?_ (fun i σ H' hi hP => ?_) (fun σ H' hP => ?_)⟩
    · refine ⟨none, none, none, rfl, s1, _, upd_same, rfl, fun c hc => ⟨l0, [0], ?_, ?_, ?_, by decide⟩⟩
      · have : c = 0 := by omega
        subst this; rfl
      · rw [upd_ne npl, upd_same]; rfl
      · have : c = 0 := by omega
        subst this
        intro q
        rw [reach_zero]
        simp
    · obtain ⟨x4, x5, x3, rfl, sm, ls, ep, hl, hc⟩ := hP
      obtain ⟨l, cl, e1, e2, e3, e4⟩ := hc i (Nat.le_refl i)
      rw [Int.zero_add]
      refine ⟨_, rfl, .inl ⟨rfl, _, SqL.of ep⟩, ?_⟩
      refine ⟨_, rfl, _, rfl, p, ls, _, _, rfl, rfl, SqL.of ep, atI_nat e1, l, rfl, ⟨_, SqL.of e2⟩, fun D nD => ?_⟩
      have nDH : H D = none := sm.free nD
      refine ⟨fun i2 m2 H2 => m2 + i2 = cl.length ∧ Same H' H2 ∧ ∃ S n ms, H2 D = some (SetO w D S n) ∧ IsS S n ms ∧ ∀ q, q ∈ ms ↔ ∃ x ∈ cl.take i2, ∃ d, d ≤ 1 ∧ step R x d = q,
        ⟨cl.length, by omega, same_new nD, _, _, [], upd_same, IsS.empty, fun q => ⟨fun h => (by cases h), fun ⟨x, hx, _⟩ => (by rw [List.take_zero] at hx; cases hx)⟩⟩, fun i2 m2 H2 hW => ?_⟩
      obtain ⟨em, sm2, S, n, ms, eD, hS, hms⟩ := hW
      have eL : SqL K H2 l (nums cl) := SqL.of (sm2 l _ e2)
      have msl : ∀ {ms : List Nat} {cl' : List Nat} {j : Nat} {x : Nat}, (∀ q, q ∈ ms → (∃ x ∈ cl', ∃ d, d ≤ 1 ∧ step R x d = q) ∨ ∃ d, d < j ∧ step R x d = q) → (∀ x ∈ cl', x < R.length) → x < R.length → ∀ q ∈ ms, q < R.length := fun {ms cl' j x} h hx hx2 q hq => by
        rcases h q hq with ⟨y, hy, d, _, rfl⟩ | ⟨d, _, rfl⟩
        · exact step_lt hv (hx y hy) d
        · exact step_lt hv hx2 d
      have cll : ∀ x ∈ cl, x < R.length := fun x hx => reach_lt hv h0 ((e3 x).mp hx)
      by_cases hi2 : i2 < cl.length
      · obtain ⟨c, ec⟩ := get_lt hi2
        have hcR := cll c (List.mem_of_getElem? ec)
        refine .inr ⟨⟨_, _, eL, nums_get ec⟩, _, fun H3 nx => ⟨m2 - 1, by omega, nx⟩, fun x H3 hy => ?_⟩
        obtain ⟨rfl, fx⟩ := hy
        have ex := fx _ eL
        rw [nums_get ec] at ex
        cases ex
        refine ⟨rfl, by show 2 ≤ sizeLine; decide, fun t ht => ⟨t, rfl, ⟨_, SqT.of upd_same⟩, ?_⟩⟩
        have nDt : D ≠ t := ne_of_none eD ht
        refine ⟨fun j k H4 => k + j = 2 ∧ Same (upd H3 t (.tup [.int 0, .int 1])) (upd H4 D (SetO w D S n)) ∧ Same H' H4 ∧ ∃ S n ms, H4 D = some (SetO w D S n) ∧ IsS S n ms ∧ ∀ q, q ∈ ms ↔ (∃ x ∈ cl.take i2, ∃ d, d ≤ 1 ∧ step R x d = q) ∨ ∃ d, d < j ∧ step R c d = q,
          ⟨2, rfl, ?_, sm2.trans (same_new ht), S, n, ms, by rw [upd_ne nDt]; exact eD, hS, fun q => ?_⟩, fun j k H4 hW1 => ?_⟩
        · intro b o e
          by_cases hb : b = D
          · subst hb
            rw [upd_ne nDt, eD] at e
            rw [upd_same]; exact e
          · rw [upd_ne hb]; exact e
        · rw [hms]
          exact ⟨fun h => .inl h, fun h => h.elim id fun ⟨d, hd, _⟩ => absurd hd (Nat.not_lt_zero d)⟩
        · obtain ⟨ek, st, sm4, S4, n4, ms4, eD4, hS4, hms4⟩ := hW1
          have eT : SqT K H4 t [.int 0, .int 1] := SqT.of (by
            have := st t _ upd_same
            rw [upd_ne nDt.symm] at this
            exact this)
          by_cases hj : j < 2
          · have ej : ([V.int 0, V.int 1] : List V)[j]? = some (.int (j : Int)) := by
              have : j = 0 ∨ j = 1 := by omega
              rcases this with rfl | rfl <;> rfl
            refine .inr ⟨⟨_, _, eT, ej⟩, _, fun H5 nx => ⟨k - 1, by omega, nx⟩, fun x H5 hy => ?_⟩
            obtain ⟨rfl, fx⟩ := hy
            have ex := fx _ eT
            rw [ej] at ex
            cases ex
            obtain ⟨r, er⟩ := get_lt hcR
            obtain ⟨tr, et, htr⟩ := hA.get er
            have hlt4 : ∀ q ∈ ms4, q < R.length := msl (fun q hq => (hms4 q).mp hq) (fun x hx => cll x (List.mem_of_mem_take hx)) hcR
            have hn4 : n4 ≤ 60 := by
              have := nodup_le _ _ hS4.nd hlt4
              have := hS4.len
              omega
            refine ⟨rfl, ?_⟩
            refine ⟨_, rfl, _, rfl, a, ts, _, _, rfl, rfl, Same.sqt (sm.trans sm4) hT, et, _, rfl, tr, _, _, _, rfl, rfl, Same.sqt (sm.trans sm4) htr, row_at (by omega), ?_⟩
            refine ⟨_, S4, n4, rfl, eD4, Nat.lt_of_le_of_lt (Nat.succ_le_succ hn4) (by decide), ?_⟩
            refine ⟨by omega, ?_, same_mut sm4 nD, _, _, _, upd_same, hS4.add _, fun q => ?_⟩
            · rw [upd_upd]; exact st
            · rw [visit_mem, hms4, ← step_get er j]
              constructor
              · rintro ((h | ⟨d, hd, e⟩) | e)
                · exact .inl h
                · exact .inr ⟨d, by omega, e⟩
                · exact .inr ⟨j, by omega, e.symm⟩
              · rintro (h | ⟨d, hd, e⟩)
                · exact .inl (.inl h)
                · by_cases hdj : d = j
                  · subst hdj; exact .inr e.symm
                  · exact .inl (.inr ⟨d, by omega, e⟩)
          · have hj2 : j = 2 := by omega
            subst hj2
            refine .inl ⟨⟨_, eT, by show 2 ≤ 2; decide⟩, by omega, sm4, S4, n4, ms4, eD4, hS4, fun q => ?_⟩
            rw [hms4, List.take_add_one, ec]
            simp only [Option.toList_some, List.mem_append, List.mem_singleton]
            constructor
            · rintro (⟨x, hx, h⟩ | ⟨d, hd, e⟩)
              · exact ⟨x, .inl hx, h⟩
              · exact ⟨c, .inr rfl, d, by omega, e⟩
            · rintro ⟨x, hx | rfl, d, hd, e⟩
              · exact .inl ⟨x, hx, d, hd, e⟩
              · exact .inr ⟨d, by omega, e⟩
      · refine .inl ⟨⟨_, eL, by rw [nums_len]; omega⟩, ?_⟩
        have et : cl.take i2 = cl := List.take_of_length_le (by omega)
        rw [et] at hms
        have hlt : ∀ q ∈ ms, q < R.length := fun q hq => by
          obtain ⟨x, hx, d, _, rfl⟩ := (hms q).mp hq
          exact step_lt hv (cll x hx) d
        have hn : n ≤ 60 := by
          have := nodup_le _ _ hS.nd hlt
          have := hS.len
          omega
        refine ⟨D, S, n, rfl, eD, by omega, fun ns p' hp' hmem hlen np' => ?_⟩
        obtain ⟨cl', rfl, hcl', hnd⟩ := hS.sorted hmem hp'
        rw [nums_ints]
        rw [List.length_map] at hlen
        have epH2 : H2 p = some (.lst ls) := sm2 p _ ep
        have npp : p ≠ p' := ne_of_none epH2 np'
        refine ⟨p, ls, _, rfl, rfl, by rw [upd_ne npp]; exact epH2, szs (by omega), ?_⟩
        refine ⟨x4, x5, _, rfl, same_mut ((sm.trans sm2).trans (same_new np')) np, _, upd_same, by rw [List.length_append, hl]; rfl, fun c hcc => ?_⟩
        by_cases hci : c ≤ i
        · obtain ⟨l2, cl2, f1, f2, f3⟩ := hc c hci
          have f2' := sm2 l2 _ f2
          have nl2 : l2 ≠ p := by
            intro e
            subst e
            rw [ep] at f2
            have := congrArg (fun o => match o with | some (HO.lst xs) => xs | _ => []) f2
            have h3 : ls = nums cl2 := this
            have h4 := hc 0 (Nat.zero_le _)
            obtain ⟨l9, _, h5, _⟩ := h4
            rw [h3] at h5
            obtain ⟨_, _, h6⟩ := nums_of h5
            cases h6
          refine ⟨l2, cl2, by rw [List.getElem?_append_left (by omega)]; exact f1, ?_, f3⟩
          rw [upd_ne nl2, upd_ne (ne_of_none f2' np')]
          exact f2'
        · have : c = i + 1 := by omega
          subst this
          refine ⟨p', cl', by rw [List.getElem?_append_right (by omega), hl, Nat.sub_self]; rfl, ?_, fun q => ?_, ?_⟩
          · rw [upd_ne npp.symm, upd_same]
          · rw [hcl', hms, reach_succ]
            constructor
            · rintro ⟨x, hx, d, hd, e⟩
              exact ⟨x, d, hd, (e3 x).mp hx, e⟩
            · rintro ⟨x, d, hd, hx, e⟩
              exact ⟨x, (e3 x).mpr hx, d, hd, e⟩
          · omega
    · obtain ⟨x4, x5, x3, rfl, sm, ls, ep, hl, hc⟩ := hP
      refine ⟨_, rfl, q H' p sm np ⟨ls, SqL.of ep, hl, fun c hcm => ?_⟩⟩
      obtain ⟨l, cl, f1, f2, f3⟩ := hc c hcm
      exact ⟨l, cl, f1, SqL.of f2, f3⟩
end
end W36
end

section
set_option linter.all false
set_option maxRecDepth 100000
set_option maxHeartbeats 4000000
/-! goals_of, low_digits, least_of_length. -/
namespace W36
open PySem PySem.Spec PyProof.Rows L2
section
variable {P : Program} {w : World} {K : PySem.W.Frag} {mg : Str → Option Value} {base : Heap}
/-- lists of flags: behind the digits from each place on -/
def GoalsAt (K : PySem.W.Frag) (H : Hp) (p : Addr) (R : List W36.Row) (ds : List Nat) : Prop :=
  ∃ ls, SqL K H p ls ∧ ls.length = ds.length + 1 ∧ ∀ c, c ≤ ds.length → ∃ l, ls[c]? = some (.ref l) ∧ SqL K H l (nums (tab R fun q => ins R (run R q (ds.drop c))))
theorem GoalsAt.same {H H' : Hp} {p : Addr} {R : List W36.Row} {ds : List Nat} (h : GoalsAt K H p R ds) (e : Same H H') : GoalsAt K H' p R ds :=
  let ⟨ls, a, b, c⟩ := h
  ⟨ls, e.seq a, b, fun i hi => let ⟨l, x, y⟩ := c i hi; ⟨l, x, e.seq y⟩⟩
def sp_goals_of (K : PySem.W.Frag) : Sp := fun vs H Q _ => ∃ (a b : Addr) (R : List W36.Row) (ds : List Nat), vs = [.ref a, .ref b] ∧ RowsT K H a R ∧ SqL K H b (nums ds) ∧ Valid R ∧ R.length ≤ 60 ∧ Dig ds ∧ ds.length ≤ 1000 ∧
  ∀ H' p, Same H H' → H p = none → GoalsAt K H' p R ds → Q (.ref p) H'
theorem ok_goals_of (T : Txt K mg) : FnOk P w K mg base CX0 2 T.a_goals_of T.d_goals_of ["rows", "digits"] (sp_goals_of K) := by
  refine T.F_goals_of.ok sc_goals_of (fun vs H Q E h => ?_) (fun cdv A outer s H vs Q E hr h => ?_)
  · obtain ⟨a, b, R, ds, rfl, _⟩ := h
    rfl
  · obtain ⟨a, b, R, ds, rfl, hR, hS, hv, h60, hd, hlen, q⟩ := h
    obtain ⟨ts, hT, hA⟩ := id hR
    refine ⟨_, (pss_cons (ps_setLc (i := 2) (own := [("row", 5)]) rfl sc_goals_of.nd rfl rfl (sw_true rfl rfl rfl (by decide +kernel)) (pi_tup (pv 0)) (blkOk_by (N := N_goals_of) (sc := defScope s_goals_of) (by decide +kernel)) (fun _ _ _ _ _ => (pg_name (i := 5) sc_goals_of.nd rfl (Or.inl rfl))) (fun _ _ _ _ _ => pts_nil) (fun _ _ _ _ _ => (pe_ix (ixt (K := K) rfl) (pv 5) pe_int (fun _ _ => rfl))))
      (pss_cons (ps_set (i := 3) sc_goals_of.nd rfl (Or.inl rfl) (pe_lst (pa_cons (pv 2) pa_nil)))
      (pss_cons (ps_for PassesOwn.never rfl (pi_reversed (by rfl) T.n_reversed (pa_cons (pe_callTy call_list_of (by rfl) T.n_list (by decide +kernel) (pa_cons (pv 1) pa_nil)) pa_nil)) (pg_name (i := 4) sc_goals_of.nd rfl (Or.inl rfl))
      (pss_cons (ps_set (i := 2) sc_goals_of.nd rfl (Or.inl rfl) (pe_call (ok_before T) (hr.mono (by decide)) (by rfl) T.g_before T.F_before.kp T.b_before .nil pass0 (pa_cons (pv 0) (pa_cons (pv 2) (pa_cons (pv 4) pa_nil)))))
        (pss_one (ps_expr (pe_bm PySem.F.plainAttrs_list PySem.F.slot_list_append PySem.F.type_list_append mt_append (pv 3) (pa_cons (pv 2) pa_nil))))))
      (pss_cons (ps_expr (pe_bm0 PySem.F.plainAttrs_list PySem.F.slot_list_reverse PySem.F.type_list_reverse mt_reverse (pv 3)))
      (pss_one (ps_ret (pv 3))))))), ?_⟩
    -- flags = [row[2] for row in rows]
    refine ⟨_, rfl, a, rfl, ⟨_, hT⟩, fun D nD => ?_⟩
    refine lc_tup (K := K) (a := a) (xs := ts) (fun i H' => Same H H' ∧ H' D = some (.lst (nums ((tab R (ins R)).take i)))) ⟨same_new nD, upd_same⟩ (fun i H' _ p => Same.sqt p.1 hT) (fun i x H' hi p => ?_) (fun H' p => ?_)
    · obtain ⟨sm, eD⟩ := p
      obtain ⟨r, t, er, rfl, ht⟩ := hA.of hi
      have hil := lt_get er
      refine ⟨rfl, ?_⟩
      refine ⟨_, rfl, t, _, 2, _, rfl, rfl, Same.sqt sm ht, rowV2 r, ?_⟩
      refine ⟨_, eD, szs (by rw [nums_len, List.length_take]; omega), same_mut sm nD, ?_⟩
      rw [upd_same, tab_take _ _ hil, nums_app, ins_get er]
    · obtain ⟨sm, eD⟩ := p
      rw [hA.1, tab_all] at eD
      -- found = [flags]
      refine ⟨_, rfl, by show 1 ≤ sizeLine; decide, fun p np => ?_⟩
      have npH : H p = none := sm.free np
      -- the digits from the top one on
      refine ⟨_, rfl, b, _, rfl, .inl ((sm.trans (same_new np)).seq hS), fun l nl => ?_⟩
      have nlp : l ≠ p := fun e => by rw [e, upd_same] at nl; cases nl
      have nlH : H l = none := (sm.trans (same_new np)).free nl
      have s0 : Same H (upd (upd H' p (.lst [.ref D])) l (.lst (nums ds))) := (sm.trans (same_new np)).trans (same_new nl)
      refine ⟨l, _, rfl, SqL.of upd_same, fun i m σ H2 => i + m = ds.length ∧ ∃ f z5 z4, σ = [some (.ref a), some (.ref b), some (.ref f), some (.ref p), z4, z5] ∧ Same H H2 ∧ H2 l = some (.lst (nums ds)) ∧ SqL K H2 f (nums (tab R fun q => ins R (run R q (ds.drop m)))) ∧
        ∃ ls, H2 p = some (.lst ls) ∧ ls.length = i + 1 ∧ ∀ c, c ≤ i → ∃ l', ls[c]? = some (.ref l') ∧ l' ≠ p ∧ SqL K H2 l' (nums (tab R fun q => ins R (run R q (ds.drop (ds.length - c))))),
        ⟨ds.length, by omega, D, none, none, rfl, s0, upd_same, ?_, [.ref D], ?_, rfl, fun c hc => ?_⟩, fun i m σ H2 hW => ?_⟩
      · have eDp : D ≠ p := ne_of_none eD np
        have eDl : D ≠ l := ne_of_none (show (upd H' p (.lst [.ref D])) D = _ from (upd_ne eDp).trans eD) nl
        rw [List.drop_length]
        refine SqL.of ?_
        rw [upd_ne eDl, upd_ne eDp]
        exact eD
      · rw [upd_ne nlp.symm, upd_same]
      · have eDp : D ≠ p := ne_of_none eD np
        have eDl : D ≠ l := ne_of_none (show (upd H' p (.lst [.ref D])) D = _ from (upd_ne eDp).trans eD) nl
        have : c = 0 := by omega
        subst this
        refine ⟨D, rfl, eDp, SqL.of ?_⟩
        rw [upd_ne eDl, upd_ne eDp, Nat.sub_zero, List.drop_length]
        exact eD
      · obtain ⟨em, f, z5, z4, rfl, sm2, el, ef, ls, ep, hl, hls⟩ := hW
        by_cases hm : m = 0
        · subst hm
          refine .inl ⟨show (nums ds).length ≤ i by rw [nums_len]; omega, ?_⟩
          -- found.reverse(); return found
          refine ⟨_, rfl, .inl ⟨rfl, _, SqL.of ep⟩, p, ls, rfl, rfl, ep, ?_⟩
          refine ⟨_, rfl, q _ p (same_mut sm2 npH) npH ⟨_, SqL.of upd_same, by rw [List.length_reverse, hl]; omega, fun c hc => ?_⟩⟩
          obtain ⟨l', e1, e2, e3⟩ := hls (ds.length - c) (by omega)
          have e4 : ds.length - (ds.length - c) = c := by omega
          rw [e4] at e3
          refine ⟨l', ?_, ?_⟩
          · rw [List.getElem?_reverse (by omega), hl]
            have : i + 1 - 1 - c = ds.length - c := by omega
            rw [this]; exact e1
          · rcases e3 with (e | ⟨o, e⟩) | e
            · exact .inl (.inl (by rw [upd_ne e2]; exact e))
            · exact .inl (.inr ⟨o, by rw [upd_ne e2]; exact e⟩)
            · exact .inr e
        · have hm1 : m - 1 < ds.length := by omega
          have e1 : (nums ds).length - 1 - i = m - 1 := by rw [nums_len]; omega
          obtain ⟨d, ed⟩ := get_lt hm1
          have eL : SqL K H2 l (nums ds) := SqL.of el
          refine .inr ⟨⟨by rw [nums_len]; omega, _, _, eL, by rw [e1]; exact nums_get ed⟩, _, fun σ' H3 hN => hN, fun x H3 hy => ?_⟩
          obtain ⟨rfl, fx⟩ := hy
          have ex := fx _ eL
          rw [e1, nums_get ed] at ex
          cases ex
          have hdd : d ≤ 1 := hd d (List.mem_of_getElem? ed)
          refine ⟨_, rfl, _, rfl, _, rfl, a, f, R, _, d, rfl, hR.same sm2, ef, hv, h60, hdd, fun H4 f2 sm4 nf2 ef2 => ?_⟩
          have ep4 := sm4 p _ ep
          have nf2p : f2 ≠ p := fun e => by rw [e, ep] at nf2; cases nf2
          refine ⟨_, rfl, .inl ⟨rfl, _, SqL.of ep4⟩, _, rfl, p, ls, _, rfl, rfl, ep4, szs (by omega), ?_⟩
          have drop1 : ∀ q, ins R (run R (step R q d) (ds.drop m)) = ins R (run R q (ds.drop (m - 1))) := fun q => by
            rw [List.drop_eq_getElem_cons hm1]
            rw [List.getElem?_eq_getElem hm1] at ed
            rw [Option.some.inj ed]
            have : m - 1 + 1 = m := by omega
            rw [this]
            rfl
          have ef3 : H4 f2 = some (.lst (nums (tab R fun q => ins R (run R q (ds.drop (m - 1)))))) := by
            rw [ef2, tab_congr fun q _ => drop1 q]
          have npl : l ≠ p := fun e => by
            rw [e, ep] at el
            obtain ⟨l', h1, _⟩ := hls 0 (Nat.zero_le _)
            have := congrArg (fun o => match o with | some (HO.lst xs) => xs | _ => []) el
            have h3 : ls = nums ds := this
            rw [h3] at h1
            obtain ⟨_, _, h6⟩ := nums_of h1
            cases h6
          refine ⟨m - 1, by omega, by omega, f2, z5, _, rfl, same_mut (sm2.trans sm4) npH, by rw [upd_ne npl]; exact sm4 l _ el, SqL.of (by rw [upd_ne nf2p]; exact ef3), _, upd_same, by rw [List.length_append, hl]; rfl, fun c hc => ?_⟩
          by_cases hci : c ≤ i
          · obtain ⟨l', g1, g2, g3⟩ := hls c hci
            refine ⟨l', by rw [List.getElem?_append_left (by omega)]; exact g1, g2, ?_⟩
            rcases sm4.seq g3 with (e | ⟨o, e⟩) | e
            · exact .inl (.inl (by rw [upd_ne g2]; exact e))
            · exact .inl (.inr ⟨o, by rw [upd_ne g2]; exact e⟩)
            · exact .inr e
          · have : c = i + 1 := by omega
            subst this
            have e5 : ds.length - (i + 1) = m - 1 := by omega
            refine ⟨f2, by rw [List.getElem?_append_right (by omega), hl, Nat.sub_self]; rfl, nf2p, SqL.of ?_⟩
            rw [upd_ne nf2p, e5]
            exact ef3
end
end W36
end

section
set_option linter.all false
set_option maxRecDepth 100000
set_option maxHeartbeats 4000000
/-! low_digits, least_of_length. -/
namespace W36
open PySem PySem.Spec PyProof.Rows L2
section
variable {P : Program} {w : World} {K : PySem.W.Frag} {mg : Str → Option Value} {base : Heap}
/-- read, whatever is written at p -/
def KeepL (K : PySem.W.Frag) (H : Hp) (p f : Addr) (xs : List V) : Prop := ∀ o, SqL K (upd H p o) f xs
theorem upd_self {H : Hp} {p : Addr} {o : HO} (h : H p = some o) : upd H p o = H := by
  funext b
  by_cases hb : b = p
  · subst hb; rw [upd_same, h]
  · rw [upd_ne hb]
theorem KeepL.sq {H : Hp} {p f : Addr} {o : HO} {xs : List V} (h : KeepL K H p f xs) (hp : H p = some o) : SqL K H f xs := by
  have := h o
  rwa [upd_self hp] at this
theorem same_upd2 {H H' : Hp} (e : Same H H') (p : Addr) (o : HO) : Same (upd H p o) (upd H' p o) := fun b x z => by
  by_cases hb : b = p
  · subst hb; rw [upd_same] at z ⊢; exact z
  · rw [upd_ne hb] at z ⊢; exact e b x z
theorem KeepL.same {H H' : Hp} {p f : Addr} {xs : List V} (h : KeepL K H p f xs) (e : Same H H') : KeepL K H' p f xs := fun o => (same_upd2 e p o).seq (h o)
theorem KeepL.upd {H : Hp} {p f : Addr} {o : HO} {xs : List V} (h : KeepL K H p f xs) : KeepL K (upd H p o) p f xs := fun o' => by rw [upd_upd]; exact h o'
theorem KeepL.old {H H' : Hp} {p f : Addr} {xs : List V} (h : SqL K H f xs) (e : Same H H') (hp : H p = none) : KeepL K H' p f xs := fun o => (same_mut e hp).seq h
theorem KeepL.new {H : Hp} {p f : Addr} {xs : List V} (h : H f = some (.lst xs)) (hne : f ≠ p) : KeepL K H p f xs := fun o => SqL.of (by rw [upd_ne hne]; exact h)
def sp_low_digits (K : PySem.W.Frag) : Sp := fun vs H Q _ => ∃ (a ah f : Addr) (R : List W36.Row) (g : Nat → Nat) (m many first : Nat), vs = [.ref a, .ref ah, .ref f, .int (many : Int), .int (first : Int)] ∧ RowsT K H a R ∧ AheadAt K H ah R m ∧ SqL K H f (nums (tab R g)) ∧
  Valid R ∧ 0 < R.length ∧ R.length ≤ 60 ∧ many ≤ m + 1 ∧ many ≤ 1000 ∧ first ≤ 1 ∧ Some1 R g many ∧ ∀ H' p low, Same H H' → H p = none → H' p = some (.lst (nums low)) → LowOk R g many first low → Q (.ref p) H'
theorem rev_nums (u : List Nat) : (nums u).reverse = nums u.reverse := by unfold nums; rw [List.map_reverse]
theorem ok_low_digits (T : Txt K mg) : FnOk P w K mg base CX0 2 T.a_low_digits T.d_low_digits ["rows", "ahead", "flags", "many", "first"] (sp_low_digits K) := by
  refine T.F_low_digits.ok sc_low_digits (fun vs H Q E h => ?_) (fun cdv A outer s H vs Q E hr h => ?_)
  · obtain ⟨a, ah, f, R, g, m, many, first, rfl, _⟩ := h
    rfl
  · obtain ⟨a, ah, f, R, g, m, many, first, rfl, hR, hAh, hS, hv, h0, h60, hmm, hm, hf, h1, q⟩ := h
    refine ⟨_, (pss_cons (ps_set (i := 5) sc_low_digits.nd rfl (Or.inl rfl) (pe_lst pa_nil))
      (pss_cons (ps_for PassesOwn.never rfl (pi_range3 (by rfl) T.n_range (pa_cons (pe_op op_sub (pv 3) pe_int) (pa_cons (pe_un un_neg pe_int) (pa_cons (pe_un un_neg pe_int) pa_nil)))) (pg_name (i := 6) sc_low_digits.nd rfl (Or.inl rfl))
      (pss_cons (ps_set (i := 7) sc_low_digits.nd rfl (Or.inl rfl) (pe_call (ok_before T) (hr.mono (by decide)) (by rfl) T.g_before T.F_before.kp T.b_before .nil pass0 (pa_cons (pv 0) (pa_cons (pv 2) (pa_cons (pv 4) pa_nil)))))
        (pss_one (ps_if (pt_val (pe_call (ok_meets T) (hr.mono (by decide)) (by rfl) T.g_meets T.F_meets.kp T.b_meets .nil pass0 (pa_cons (pe_ix ix_list (pv 1) (pv 6) (fun _ _ => rfl)) (pa_cons (pv 7) pa_nil))))
        (pss_cons (ps_expr (pe_bm PySem.F.plainAttrs_list PySem.F.slot_list_append PySem.F.type_list_append mt_append (pv 5) (pa_cons (pv 4) pa_nil)))
          (pss_one (ps_set (i := 2) sc_low_digits.nd rfl (Or.inl rfl) (pv 7))))
        (pss_cons (ps_expr (pe_bm PySem.F.plainAttrs_list PySem.F.slot_list_append PySem.F.type_list_append mt_append (pv 5) (pa_cons (pe_op op_sub pe_int (pv 4)) pa_nil)))
          (pss_one (ps_set (i := 2) sc_low_digits.nd rfl (Or.inl rfl) (pe_call (ok_before T) (hr.mono (by decide)) (by rfl) T.g_before T.F_before.kp T.b_before .nil pass0 (pa_cons (pv 0) (pa_cons (pv 2) (pa_cons (pe_op op_sub pe_int (pv 4)) pa_nil)))))))))))
      (pss_cons (ps_expr (pe_bm0 PySem.F.plainAttrs_list PySem.F.slot_list_reverse PySem.F.type_list_reverse mt_reverse (pv 5)))
      (pss_one (ps_ret (pv 5)))))), ?_⟩
    refine ⟨Nat.zero_le _, fun p np => ?_⟩
    have e1 : ((many : Int) - 1 - (-1)).toNat = many := by omega
    refine ⟨_, rfl, _, _, rfl, rfl, 1, rfl, 1, rfl, (many : Int) - 1, -1, -1, many, rfl, (by have z := RgC.neg (i := (many : Int) - 1) (j := -1) (by omega) (by omega) (by omega) (by omega); rw [e1] at z; exact z), for_rangeC (lo := (many : Int) - 1) (c := -1) (n := many) (fun i σ H' => ∃ f' u z6 z7, σ = [some (.ref a), some (.ref ah), some (.ref f'), some (.int (many : Int)), some (.int (first : Int)), some (.ref p), z6, z7] ∧
      Same H H' ∧ H' p = some (.lst (nums u.reverse)) ∧ KeepL K H' p f' (nums (tab R fun q => g (run R q u))) ∧ LowInv R g many first (many - i) u)
      ⟨f, [], none, none, rfl, same_new np, upd_same, KeepL.old hS (same_new np) np, .init h1⟩ (fun i σ H' hi hP => ?_) (fun σ H' hP => ?_)⟩
    · obtain ⟨f', u, z6, z7, rfl, sm, ep, hk, hI⟩ := hP
      have hul : u.length ≤ 1000 := by have := hI.len; omega
      have place : (many : Int) - 1 + (i : Int) * -1 = ((many - 1 - i : Nat) : Int) := by omega
      rw [place]
      have hps : many - i = (many - 1 - i) + 1 := by omega
      rw [hps] at hI
      have hnext : many - (i + 1) = many - 1 - i := by omega
      -- wished = before(rows, flags, first)
      refine ⟨_, rfl, _, rfl, _, rfl, a, f', R, _, first, rfl, hR.same sm, hk.sq ep, hv, h60, hf, fun H2 f2 s2 nf2 ef2 => ?_⟩
      have ep2 := s2 p _ ep
      have hk2 := hk.same s2
      have nf2p : f2 ≠ p := fun e => by rw [e, ep] at nf2; cases nf2
      -- if meets(ahead[place], wished)
      obtain ⟨ls, l1, l2, l3⟩ := (hAh.same (sm.trans s2))
      obtain ⟨l, cl, c1, c2, c3, c4⟩ := l3 (many - 1 - i) (by omega)
      refine ⟨_, rfl, _, rfl, ah, ls, _, _, rfl, rfl, l1, atI_nat c1, _, rfl, l, f2, cl, R, _, rfl, c2, SqL.of ef2, by omega, fun q hq => reach_lt hv h0 ((c3 q).mp hq), fun H3 s3 => ?_⟩
      refine ⟨_, rfl, ?_⟩
      have ep3 := s3 p _ ep2
      have ef3 := s3 f2 _ ef2
      have sm3 := (sm.trans s2).trans s3
      refine ite2 (fun hb => ?_) (fun hb => ?_)
      · have hs := (meets_iff c3).mp hb
        -- found.append(first); flags = wished
        refine ⟨_, rfl, .inl ⟨rfl, _, SqL.of ep3⟩, _, rfl, p, _, _, rfl, rfl, ep3, szs (by rw [nums_len, List.length_reverse]; omega), ?_⟩
        refine ⟨_, rfl, f2, first :: u, _, _, rfl, same_mut sm3 np, ?_, (KeepL.new ef3 nf2p).upd, ?_⟩
        · rw [upd_same, List.reverse_cons, nums_app]
        · rw [hnext]; exact hI.yes hf hs
      · have hs : ¬ _ := fun z => hb ((meets_iff c3).mpr z)
        have e10 : (1 : Int) - (first : Int) = ((1 - first : Nat) : Int) := by omega
        -- found.append(1 - first)
        refine ⟨_, rfl, .inl ⟨rfl, _, SqL.of ep3⟩, _, rfl, 1, _, rfl, rfl, p, _, _, rfl, rfl, ep3, szs (by rw [nums_len, List.length_reverse]; omega), ?_⟩
        -- flags = before(rows, flags, 1 - first)
        have hk3 := (hk2.same s3).upd (o := .lst (nums u.reverse ++ [.int (1 - (first : Int))]))
        refine ⟨_, rfl, _, rfl, _, rfl, 1, _, rfl, rfl, a, f', R, _, 1 - first, by rw [← e10]; rfl, hR.same (same_mut sm3 np), hk3.sq upd_same, hv, h60, by omega, fun H4 f4 s4 nf4 ef4 => ?_⟩
        have ep4 := s4 p _ upd_same
        have nf4p : f4 ≠ p := fun e => by rw [e, upd_same] at nf4; cases nf4
        refine ⟨f4, (1 - first) :: u, _, _, rfl, (same_mut sm3 np).trans s4, ?_, KeepL.new ef4 nf4p, ?_⟩
        · rw [ep4, List.reverse_cons, nums_app, ← e10]
        · rw [hnext]; exact hI.no hf hs
    · obtain ⟨f', u, z6, z7, rfl, sm, ep, hk, hI⟩ := hP
      rw [Nat.sub_self] at hI
      refine ⟨_, rfl, .inl ⟨rfl, _, SqL.of ep⟩, p, _, rfl, rfl, ep, ?_⟩
      refine ⟨_, rfl, q _ p u (same_mut sm np) np ?_ hI.ok⟩
      rw [upd_same, rev_nums, List.reverse_reverse]
def optV : Option Nat → V
  | none => .non
  | some n => .int (n : Int)
/-- the least or greatest with so many digits -/
def LenSpec (R : List W36.Row) (length first : Nat) : Option Nat → Prop
  | none => ¬ Some1 R (topG R) (length - 1)
  | some t => ∃ low, LowOk R (topG R) (length - 1) first low ∧ t = val (low ++ [1])
def sp_least_of_length (K : PySem.W.Frag) : Sp := fun vs H Q _ => ∃ (a ah : Addr) (R : List W36.Row) (m length first : Nat), vs = [.ref a, .ref ah, .int (length : Int), .int (first : Int)] ∧ RowsT K H a R ∧ AheadAt K H ah R m ∧
  Valid R ∧ 0 < R.length ∧ R.length ≤ 60 ∧ 1 ≤ length ∧ length ≤ m + 1 ∧ length ≤ 900 ∧ first ≤ 1 ∧ ∀ H' r, Same H H' → LenSpec R length first r → Q (optV r) H'
theorem ok_least_of_length (T : Txt K mg) : FnOk P w K mg base CX0 3 T.a_least_of_length T.d_least_of_length ["rows", "ahead", "length", "first"] (sp_least_of_length K) := by
  refine T.F_least_of_length.ok sc_least_of_length (fun vs H Q E h => ?_) (fun cdv A outer s H vs Q E hr h => ?_)
  · obtain ⟨a, ah, R, m, length, first, rfl, _⟩ := h
    rfl
  · obtain ⟨a, ah, R, m, length, first, rfl, hR, hAh, hv, h0, h60, hl1, hlm, hl9, hf, q⟩ := h
    obtain ⟨ts, hT, hA⟩ := id hR
    refine ⟨_, (pss_cons (ps_set (i := 4) sc_least_of_length.nd rfl (Or.inl rfl) (pe_call (ok_before T) (hr.mono (by decide)) (by rfl) T.g_before T.F_before.kp T.b_before .nil pass0 (pa_cons (pv 0) (pa_cons (pe_lc (own := [("row", 5)]) rfl sc_least_of_length.nd (pi_tup (pv 0)) (blkOk_by (N := N_least_of_length) (sc := defScope s_least_of_length) (by decide +kernel)) (fun _ _ _ _ _ => (pg_name (i := 5) sc_least_of_length.nd rfl (Or.inl rfl))) (fun _ _ _ _ _ => pts_nil) (fun _ _ _ _ _ => (pe_ix (ixt (K := K) rfl) (pv 5) pe_int (fun _ _ => rfl)))) (pa_cons pe_int pa_nil)))))
      (pss_cons (ps_if (pt_not (pt_val (pe_call (ok_meets T) (hr.mono (by decide)) (by rfl) T.g_meets T.F_meets.kp T.b_meets .nil pass0 (pa_cons (pe_ix ix_list (pv 1) (pe_op op_sub (pv 2) pe_int) (fun _ _ => rfl)) (pa_cons (pv 4) pa_nil)))))
      (pss_one (ps_ret pe_non))
      pss_nil)
      (pss_one (ps_ret (pe_call (ok_number_of T) (hr.mono (by decide)) (by rfl) T.g_number_of T.F_number_of.kp T.b_number_of .nil pass0 (pa_cons (pe_op op_cat (pe_call (ok_low_digits T) (hr.mono (by decide)) (by rfl) T.g_low_digits T.F_low_digits.kp T.b_low_digits .nil pass0 (pa_cons (pv 0) (pa_cons (pv 1) (pa_cons (pv 4) (pa_cons (pe_op op_sub (pv 2) pe_int) (pa_cons (pv 3) pa_nil)))))) (pe_lst (pa_cons pe_int pa_nil))) pa_nil)))))), ?_⟩
    -- flags = before(rows, [row[2] for row in rows], 1)
    refine ⟨_, rfl, ?_⟩
    refine ⟨_, rfl, a, rfl, ⟨_, hT⟩, fun D nD => ?_⟩
    refine lc_tup (K := K) (a := a) (xs := ts) (fun i H' => Same H H' ∧ H' D = some (.lst (nums ((tab R (ins R)).take i)))) ⟨same_new nD, upd_same⟩ (fun i H' _ p => Same.sqt p.1 hT) (fun i x H' hi p => ?_) (fun H' p => ?_)
    · obtain ⟨sm, eD⟩ := p
      obtain ⟨r, t, er, rfl, ht⟩ := hA.of hi
      have hil := lt_get er
      refine ⟨rfl, ?_⟩
      refine ⟨_, rfl, t, _, 2, _, rfl, rfl, Same.sqt sm ht, rowV2 r, ?_⟩
      refine ⟨_, eD, szs (by rw [nums_len, List.length_take]; omega), same_mut sm nD, ?_⟩
      rw [upd_same, tab_take _ _ hil, nums_app, ins_get er]
    · obtain ⟨sm, eD⟩ := p
      rw [hA.1, tab_all] at eD
      refine ⟨a, D, R, _, 1, rfl, hR.same sm, SqL.of eD, hv, h60, Nat.le_refl _, fun H2 f2 s2 nf2 ef2 => ?_⟩
      have sm2 := sm.trans s2
      -- if not meets(ahead[length - 1], flags)
      obtain ⟨ls, l1, l2, l3⟩ := hAh.same sm2
      obtain ⟨l, cl, c1, c2, c3, c4⟩ := l3 (length - 1) (by omega)
      have e1 : (length : Int) - 1 = ((length - 1 : Nat) : Int) := by omega
      refine ⟨_, rfl, _, rfl, _, _, rfl, rfl, ah, ls, _, _, rfl, rfl, l1, by rw [e1]; exact atI_nat c1, _, rfl, l, f2, cl, R, _, rfl, c2, SqL.of ef2, by omega, fun q hq => reach_lt hv h0 ((c3 q).mp hq), fun H3 s3 => ?_⟩
      refine ⟨_, rfl, ?_⟩
      have sm3 := sm2.trans s3
      have hb' := meets_iff (g := topG R) c3
      generalize hb0 : (cl.any fun q => ins R (step R q 1) == 1) = b
      have hb : (b = true) ↔ Some1 R (topG R) (length - 1) := by rw [← hb0]; exact hb'
      cases b with
      | false => exact q H3 none sm3 fun z => by cases hb.mpr z
      | true =>
        have hs := hb.mp rfl
        -- low_digits(rows, ahead, flags, length - 1, first) + [1]
        refine ⟨_, rfl, _, rfl, _, rfl, _, rfl, _, _, rfl, rfl, _, rfl, ?_⟩
        refine ⟨a, ah, f2, R, topG R, m, length - 1, first, by rw [← e1]; rfl, hR.same sm3, hAh.same sm3, (SqL.of (s3 f2 _ ef2)), hv, h0, h60, by omega, by omega, hf, hs, fun H4 p low s4 np ep hlow => ?_⟩
        refine ⟨by show 1 ≤ sizeLine; decide, fun o no => ?_⟩
        have nop : p ≠ o := ne_of_none ep no
        have hll := hlow.len
        refine ⟨p, o, _, _, rfl, rfl, by rw [upd_ne nop]; exact ep, upd_same, szl (by rw [nums_len]; show low.length + 1 ≤ 100000; omega), fun c nc => ?_⟩
        refine ⟨c, low ++ [1], rfl, SqL.of (by rw [upd_same, nums_app]; rfl), by rw [List.length_append, hll]; show length - 1 + 1 ≤ 1000; omega, fun H5 s5 => ?_⟩
        exact q H5 (some (val (low ++ [1]))) ((((sm3.trans s4).trans (same_new no)).trans (same_new nc)).trans s5) ⟨low, hlow, rfl⟩
end
end W36
end

section
set_option linter.all false
set_option maxRecDepth 100000
set_option maxHeartbeats 4000000
/-! next_number, last_number. -/
namespace W36
open PySem PySem.Spec PyProof.Rows L2
theorem cut_nums (ds : List Nat) {p : Nat} (h : p ≤ ds.length) : cutV (nums ds) (some (p : Int)) none = nums (ds.drop p) := by
  unfold cutV
  rw [HT.sIx_nat, HT.sIx_none, nums_len, Nat.min_eq_left h]
  unfold nums
  rw [List.map_drop, List.take_of_length_le (by simp)]
section
variable {P : Program} {w : World} {K : PySem.W.Frag} {mg : Str → Option Value} {base : Heap}
def sp_next_number (K : PySem.W.Frag) : Sp := fun vs H Q _ => ∃ (a : Addr) (D : List W36.Row) (Mb : Nat → Nat) (k : Nat), vs = [.ref a, .int (k : Int)] ∧ RowsT K H a D ∧ Tells D Mb ∧ D.length ≤ 60 ∧ k < big ∧
  ∀ H' r, Same H H' → NextSpec Mb k r → (∀ t, r = some t → (bits t).length ≤ (bits k).length + D.length) → Q (optV r) H'
theorem ok_next_number (T : Txt K mg) : FnOk P w K mg base CX0 4 T.a_next_number T.d_next_number ["rows", "number"] (sp_next_number K) := by
  refine T.F_next_number.ok sc_next_number (fun vs H Q E h => ?_) (fun cdv A outer s H vs Q E hr h => ?_)
  · obtain ⟨a, D, Mb, k, rfl, _⟩ := h
    rfl
  · obtain ⟨a, D, Mb, k, rfl, hR, hT, h60, hk, q⟩ := h
    have hv := hT.valid
    have h0 := hT.pos
    have hL := bits_short hk
    have hdig := bits_dig k
    obtain ⟨ts, hRT, hA⟩ := id hR
    refine ⟨_, (pss_cons (ps_set (i := 2) sc_next_number.nd rfl (Or.inl rfl) (pe_call (ok_digits_of T) (hr.mono (by decide)) (by rfl) T.g_digits_of T.F_digits_of.kp T.b_digits_of .nil pass0 (pa_cons (pv 1) pa_nil)))
      (pss_cons (ps_set (i := 3) sc_next_number.nd rfl (Or.inl rfl) (pe_call (ok_goals_of T) (hr.mono (by decide)) (by rfl) T.g_goals_of T.F_goals_of.kp T.b_goals_of .nil pass0 (pa_cons (pv 0) (pa_cons (pv 2) pa_nil))))
      (pss_cons (ps_if (pt_cmpR op_eq (pe_ix ix_list (pe_ix ix_list (pv 3) pe_int (fun _ _ => rfl)) pe_int (fun _ _ => rfl)) pe_int (nomark _))
      (pss_one (ps_ret (pv 1)))
      pss_nil)
      (pss_cons (ps_set (i := 4) sc_next_number.nd rfl (Or.inl rfl) (pe_call (ok_ahead_of T) (hr.mono (by decide)) (by rfl) T.g_ahead_of T.F_ahead_of.kp T.b_ahead_of .nil pass0 (pa_cons (pv 0) (pa_cons (pe_op op_add (pe_callB call_len_seq (by rfl) T.n_len (by decide +kernel) (pa_cons (pv 2) pa_nil)) (pe_callB call_len_seq (by rfl) T.n_len (by decide +kernel) (pa_cons (pv 0) pa_nil))) pa_nil))))
      (pss_cons (ps_for PassesOwn.never rfl (pi_enum (by rfl) T.n_enumerate (pa_cons (pv 2) pa_nil)) (pg_tup rfl (pgs_cons (pg_name (i := 5) sc_next_number.nd rfl (Or.inl rfl)) (pgs_cons (pg_name (i := 6) sc_next_number.nd rfl (Or.inl rfl)) pgs_nil)))
      (pss_one (ps_if (pt_cmpR op_eq (pv 6) pe_int (nomark _))
        (pss_cons (ps_set (i := 7) sc_next_number.nd rfl (Or.inl rfl) (pe_call (ok_before T) (hr.mono (by decide)) (by rfl) T.g_before T.F_before.kp T.b_before .nil pass0 (pa_cons (pv 0) (pa_cons (pe_ix ix_list (pv 3) (pe_op op_add (pv 5) pe_int) (fun _ _ => rfl)) (pa_cons pe_int pa_nil)))))
          (pss_one (ps_if (pt_val (pe_call (ok_meets T) (hr.mono (by decide)) (by rfl) T.g_meets T.F_meets.kp T.b_meets .nil pass0 (pa_cons (pe_ix ix_list (pv 4) (pv 5) (fun _ _ => rfl)) (pa_cons (pv 7) pa_nil))))
          (pss_cons (ps_set (i := 8) sc_next_number.nd rfl (Or.inl rfl) (pe_call (ok_low_digits T) (hr.mono (by decide)) (by rfl) T.g_low_digits T.F_low_digits.kp T.b_low_digits .nil pass0 (pa_cons (pv 0) (pa_cons (pv 4) (pa_cons (pv 7) (pa_cons (pv 5) (pa_cons pe_int pa_nil)))))))
            (pss_one (ps_ret (pe_call (ok_number_of T) (hr.mono (by decide)) (by rfl) T.g_number_of T.F_number_of.kp T.b_number_of .nil pass0 (pa_cons (pe_op op_cat (pe_op op_cat (pv 8) (pe_lst (pa_cons pe_int pa_nil))) (pe_slice sl_list (pv 2) (po_some (pe_op op_add (pv 5) pe_int)) po_none)) pa_nil)))))
          pss_nil)))
        pss_nil)))
      (pss_cons (ps_for PassesOwn.never rfl (pi_range2 (by rfl) T.n_range (pa_cons (pe_op op_add (pe_callB call_len_seq (by rfl) T.n_len (by decide +kernel) (pa_cons (pv 2) pa_nil)) pe_int) (pa_cons (pe_op op_add (pe_op op_add (pe_callB call_len_seq (by rfl) T.n_len (by decide +kernel) (pa_cons (pv 2) pa_nil)) (pe_callB call_len_seq (by rfl) T.n_len (by decide +kernel) (pa_cons (pv 0) pa_nil))) pe_int) pa_nil))) (pg_name (i := 9) sc_next_number.nd rfl (Or.inl rfl))
      (pss_cons (ps_set (i := 10) sc_next_number.nd rfl (Or.inl rfl) (pe_call (ok_least_of_length T) (hr.mono (by decide)) (by rfl) T.g_least_of_length T.F_least_of_length.kp T.b_least_of_length .nil pass0 (pa_cons (pv 0) (pa_cons (pv 4) (pa_cons (pv 9) (pa_cons pe_int pa_nil))))))
        (pss_one (ps_if (pt_cmpR op_notN (pv 10) pe_non (nomark _))
        (pss_one (ps_ret (pv 10)))
        pss_nil))))
      (pss_one (ps_ret pe_non)))))))), ?_⟩
    -- digits, goals
    refine ⟨_, rfl, k, rfl, hk, fun H1 dp s1 n1 e1 => ?_⟩
    have eds : SqL K H1 dp (nums (bits k)) := SqL.of e1
    refine ⟨_, rfl, _, rfl, a, dp, D, bits k, rfl, hR.same s1, eds, hv, h60, hdig, by omega, fun H2 gp s2 n2 hG => ?_⟩
    obtain ⟨gs, g1, g2, g3⟩ := id hG
    obtain ⟨l0, f1, f2⟩ := g3 0 (Nat.zero_le _)
    -- if goals[0][0] == 1
    refine ⟨_, rfl, gp, gs, 0, _, rfl, rfl, g1, atI_nat (j := 0) f1, l0, _, 0, _, rfl, rfl, f2, tab_at (q := 0) h0, rfl, _, rfl, ?_⟩
    have hit : decide (V.int ((ins D (run D 0 ((bits k).drop 0)) : Nat) : Int) = V.int 1) = (Mb k == 1) := by
      rw [List.drop_zero, hT.at]; exact dec_int (Mb k) 1
    rw [hit]
    refine ite2 (fun hb => ?_) (fun hb => ?_)
    · have hm : Mb k = 1 := by simpa using hb
      exact ⟨_, rfl, q H2 (some k) (s1.trans s2) ⟨Nat.le_refl _, hm, fun j h1 h2 => absurd h2 (by omega)⟩ fun t et => by cases et; omega⟩
    have hm : Mb k ≠ 1 := fun z => hb (by simp [z])
    -- ahead
    have eds2 : SqL K H2 dp (nums (bits k)) := s2.seq eds
    refine ⟨_, rfl, ?_⟩
    refine ⟨_, rfl, dp, _, rfl, .inl eds2, _, rfl, a, _, rfl, .inr (Same.sqt (s1.trans s2) hRT), _, _, rfl, rfl, ?_⟩
    have elen : ((nums (bits k)).length : Int) + (ts.length : Int) = (((bits k).length + D.length : Nat) : Int) := by rw [nums_len, hA.1]; omega
    refine ⟨a, D, (bits k).length + D.length, by rw [← elen]; rfl, hR.same (s1.trans s2), hv, h0, h60, by omega, fun H3 ah s3 n3 hAh => ?_⟩
    have S3 : Same H H3 := (s1.trans s2).trans s3
    have eds3 := s3.seq eds2
    have hG3 := hG.same s3
    -- for place, digit in enumerate(digits)
    refine ⟨_, rfl, dp, _, rfl, eds3, for_it (walk_enum (xs := nums (bits k))) (fun i σ H' => ∃ z5 z6 z7 z8 z9 z10, σ = [some (.ref a), some (.int (k : Int)), some (.ref dp), some (.ref gp), some (.ref ah), z5, z6, z7, z8, z9, z10] ∧ Same H3 H' ∧
      ∀ j, j < i → (bits k)[j]? = some 0 → ¬ Some1 D (upG D (bits k) j 1) j) ⟨none, none, none, none, none, none, rfl, Same.refl _, fun j hj => absurd hj (Nat.not_lt_zero j)⟩ (fun i σ H' hi hP => ?_) (fun i x σ H' H'' hi hP hy => ?_) (fun σ H' hP => ?_)⟩
    · obtain ⟨_, _, _, _, _, _, _, sm, _⟩ := hP
      exact sm.seq eds3
    · obtain ⟨z5, z6, z7, z8, z9, z10, rfl, sm, hno⟩ := hP
      obtain ⟨t, x1, x2, rfl, nt, rfl, ex1, ex2⟩ := hy
      cases ex1
      obtain ⟨d, ed, rfl⟩ := nums_of ex2
      have hil := lt_get ed
      have smT := sm.trans (same_new (o := .tup [.int (i : Int), .int (d : Int)]) nt)
      refine ⟨t, _, rfl, SqT.of upd_same, rfl, _, _, rfl, _, _, rfl, rfl, ?_⟩
      -- if digit == 0
      refine ⟨_, rfl, rfl, _, rfl, ?_⟩
      rw [show decide (V.int (d : Int) = V.int 0) = (d == 0) from dec_int d 0]
      refine ite2 (fun hd => ?_) (fun hd => ?_)
      · have hd0 : d = 0 := by simpa using hd
        subst hd0
        -- flags = before(rows, goals[place + 1], 1)
        obtain ⟨gs3, k1, k2, k3⟩ := hG3.same smT
        obtain ⟨l1, m1, m2⟩ := k3 (i + 1) hil
        refine ⟨_, rfl, _, rfl, _, rfl, _, _, rfl, rfl, gp, gs3, _, _, rfl, rfl, k1, at_of (j := i + 1) (by omega) m1, ?_⟩
        refine ⟨a, l1, D, _, 1, rfl, hR.same (S3.trans smT), m2, hv, h60, Nat.le_refl _, fun H4 f2 s4 nf2 ef2 => ?_⟩
        have sm4 := smT.trans s4
        -- if meets(ahead[place], flags)
        obtain ⟨ls, a1, a2, a3⟩ := hAh.same sm4
        obtain ⟨l, cl, c1, c2, c3, c4⟩ := a3 i (by omega)
        refine ⟨_, rfl, _, rfl, ah, ls, _, _, rfl, rfl, a1, atI_nat c1, _, rfl, l, f2, cl, D, _, rfl, c2, SqL.of ef2, by omega, fun q hq => reach_lt hv h0 ((c3 q).mp hq), fun H5 s5 => ?_⟩
        refine ⟨_, rfl, ?_⟩
        have sm5 := sm4.trans s5
        have hiff : (cl.any fun q => ins D (run D (step D q 1) ((bits k).drop (i + 1))) == 1) = true ↔ Some1 D (upG D (bits k) i 1) i := meets_iff (g := upG D (bits k) i 1) c3
        refine ite2 (fun hb => ?_) (fun hb => ?_)
        · have hs := hiff.mp hb
          refine ⟨_, rfl, _, rfl, _, rfl, _, rfl, a, ah, f2, D, upG D (bits k) i 1, _, i, 0, rfl, hR.same (S3.trans sm5), hAh.same sm5, SqL.of (s5 f2 _ ef2), hv, h0, h60, by omega, by omega, Nat.zero_le _, hs, fun H6 lp low s6 nlp elp hlow => ?_⟩
          have sm6 := sm5.trans s6
          have hll := hlow.len
          -- number_of(low + [1] + digits[place + 1:])
          refine ⟨_, rfl, by show 1 ≤ sizeLine; decide, fun o no => ?_⟩
          have nlo : lp ≠ o := ne_of_none elp no
          refine ⟨lp, o, _, _, rfl, rfl, by rw [upd_ne nlo]; exact elp, upd_same, szl (by rw [nums_len]; show low.length + 1 ≤ 100000; omega), fun c nc => ?_⟩
          have s7 := (same_new (o := .lst [.int 1]) no).trans (same_new (o := .lst (nums low ++ [.int 1])) nc)
          refine ⟨_, rfl, _, rfl, _, _, rfl, rfl, _, rfl, dp, _, rfl, (sm6.trans s7).seq eds3, fun e ne => ?_⟩
          have nce : c ≠ e := ne_of_none (H := upd (upd H6 o (.lst [.int 1])) c (.lst (nums low ++ [.int 1]))) upd_same ne
          have ecut : cutV (nums (bits k)) (some ((i : Int) + 1)) none = nums ((bits k).drop (i + 1)) := cut_nums (bits k) hil
          have eword : nums low ++ [V.int 1] ++ nums ((bits k).drop (i + 1)) = nums (low ++ [1] ++ (bits k).drop (i + 1)) := by unfold nums; rw [List.map_append, List.map_append]; rfl
          obtain ⟨w1, w2, _⟩ := word_facts hdig hlow.dig hil hll (Nat.le_refl 1)
          refine ⟨c, e, _, _, rfl, rfl, by rw [upd_ne nce]; exact upd_same, upd_same, szl ?_, fun m nm => ?_⟩
          · rw [ecut, List.length_append, nums_len, nums_len, List.length_drop]
            show low.length + 1 + _ ≤ _
            omega
          · refine ⟨m, low ++ [1] ++ (bits k).drop (i + 1), rfl, SqL.of (by rw [upd_same, ecut, ← eword]), by rw [w2]; omega, fun H7 s8 => ?_⟩
            refine q H7 (some (val (low ++ [1] ++ (bits k).drop (i + 1)))) (S3.trans ((((sm6.trans s7).trans (same_new ne)).trans (same_new nm)).trans s8)) (next_same hT hm ed (fun j hj ej => hno j hj ej) hlow) fun t et => ?_
            cases et
            have := len_le_iff.mpr (val_lt w1)
            omega
        · refine ⟨_, _, _, z8, z9, z10, rfl, sm5, fun j hj ej => ?_⟩
          by_cases hji : j = i
          · subst hji; exact fun z => hb (hiff.mpr z)
          · exact hno j (by omega) ej
      · refine ⟨_, _, z7, z8, z9, z10, rfl, smT, fun j hj ej => ?_⟩
        by_cases hji : j = i
        · subst hji
          rw [ed] at ej
          exact absurd (by simpa using ej) hd
        · exact hno j (by omega) ej
    · obtain ⟨z5, z6, z7, z8, z9, z10, rfl, sm, hno⟩ := hP
      have hno' : ∀ j, (bits k)[j]? = some 0 → ¬ Some1 D (upG D (bits k) j 1) j := fun j ej => hno j (by rw [nums_len]; exact lt_get ej) ej
      have eds' := sm.seq eds3
      have hRT' := Same.sqt (S3.trans sm) hRT
      -- for length in range(len(digits) + 1, len(digits) + len(rows) + 1)
      refine ⟨_, rfl, dp, _, rfl, .inl eds', _, _, rfl, rfl, _, rfl, dp, _, rfl, .inl eds', _, rfl, a, _, rfl, .inr hRT', _, _, rfl, rfl, _, _, rfl, rfl, _, _, rfl, ⟨by rw [nums_len]; omega, by rw [nums_len]; omega, by rw [nums_len, hA.1]; omega, by rw [nums_len, hA.1]; omega⟩, ?_⟩
      have en : (((nums (bits k)).length : Int) + (ts.length : Int) + 1 - (((nums (bits k)).length : Int) + 1)).toNat = D.length := by rw [nums_len, hA.1]; omega
      rw [en]
      refine for_range (lo := ((nums (bits k)).length : Int) + 1) (n := D.length) (fun i σ H' => ∃ z5 z6 z7 z8 z9 z10, σ = [some (.ref a), some (.int (k : Int)), some (.ref dp), some (.ref gp), some (.ref ah), z5, z6, z7, z8, z9, z10] ∧ Same H3 H' ∧
        ∀ l, (bits k).length < l → l ≤ (bits k).length + i → ¬ Some1 D (topG D) (l - 1)) ⟨z5, z6, z7, z8, z9, z10, rfl, sm, fun l h1 h2 => absurd h1 (by omega)⟩ (fun i σ H' hi hP => ?_) (fun σ H' hP => ?_)
      · obtain ⟨z5, z6, z7, z8, z9, z10, rfl, sm', hlo⟩ := hP
        have eL : ((nums (bits k)).length : Int) + 1 + (i : Int) = (((bits k).length + 1 + i : Nat) : Int) := by rw [nums_len]; omega
        rw [eL]
        refine ⟨_, rfl, _, rfl, _, rfl, a, ah, D, _, (bits k).length + 1 + i, 0, rfl, hR.same (S3.trans sm'), hAh.same sm', hv, h0, h60, by omega, by omega, by omega, Nat.zero_le _, fun H5 r s5 hr5 => ?_⟩
        refine ⟨_, rfl, rfl, _, rfl, ?_⟩
        cases r with
        | none =>
          refine ⟨z5, z6, z7, z8, _, _, rfl, sm'.trans s5, fun l h1 h2 => ?_⟩
          by_cases hl : l = (bits k).length + 1 + i
          · subst hl; exact hr5
          · exact hlo l h1 (by omega)
        | some t =>
          obtain ⟨low, hlow, rfl⟩ := hr5
          refine ⟨_, rfl, ?_⟩
          refine q H5 (some (val (low ++ [1]))) (S3.trans (sm'.trans s5)) (next_longer hT hm hno' (by omega) (fun l h1 h2 => hlo l h1 (by omega)) hlow) fun t et => ?_
          cases et
          have := hlow.len
          rw [len_top hlow.dig]
          omega
      · obtain ⟨z5, z6, z7, z8, z9, z10, rfl, sm', hlo⟩ := hP
        exact q H' none (S3.trans sm') (next_none hT hm hno' fun l h1 h2 => hlo l h1 h2) fun t et => by cases et
end
end W36
end

section
set_option linter.all false
set_option maxRecDepth 100000
set_option maxHeartbeats 4000000
/-! last_number. -/
namespace W36
open PySem PySem.Spec PyProof.Rows L2
section
variable {P : Program} {w : World} {K : PySem.W.Frag} {mg : Str → Option Value} {base : Heap}
def sp_last_number (K : PySem.W.Frag) : Sp := fun vs H Q _ => ∃ (a : Addr) (D : List W36.Row) (Mb : Nat → Nat) (k : Nat), vs = [.ref a, .int (k : Int)] ∧ RowsT K H a D ∧ Tells D Mb ∧ D.length ≤ 60 ∧ k < big ∧
  ∀ H' r, Same H H' → LastSpec Mb k r → Q (optV r) H'
theorem ok_last_number (T : Txt K mg) : FnOk P w K mg base CX0 3 T.a_last_number T.d_last_number ["rows", "number"] (sp_last_number K) := by
  refine T.F_last_number.ok sc_last_number (fun vs H Q E h => ?_) (fun cdv A outer s H vs Q E hr h => ?_)
  · obtain ⟨a, D, Mb, k, rfl, _⟩ := h
    rfl
  · obtain ⟨a, D, Mb, k, rfl, hR, hT, h60, hk, q⟩ := h
    have hv := hT.valid
    have h0 := hT.pos
    have hL := bits_short hk
    have hdig := bits_dig k
    refine ⟨_, (pss_cons (ps_set (i := 2) sc_last_number.nd rfl (Or.inl rfl) (pe_call (ok_digits_of T) (hr.mono (by decide)) (by rfl) T.g_digits_of T.F_digits_of.kp T.b_digits_of .nil pass0 (pa_cons (pv 1) pa_nil)))
      (pss_cons (ps_set (i := 3) sc_last_number.nd rfl (Or.inl rfl) (pe_call (ok_goals_of T) (hr.mono (by decide)) (by rfl) T.g_goals_of T.F_goals_of.kp T.b_goals_of .nil pass0 (pa_cons (pv 0) (pa_cons (pv 2) pa_nil))))
      (pss_cons (ps_if (pt_cmpR op_eq (pe_ix ix_list (pe_ix ix_list (pv 3) pe_int (fun _ _ => rfl)) pe_int (fun _ _ => rfl)) pe_int (nomark _))
      (pss_one (ps_ret (pv 1)))
      pss_nil)
      (pss_cons (ps_set (i := 4) sc_last_number.nd rfl (Or.inl rfl) (pe_call (ok_ahead_of T) (hr.mono (by decide)) (by rfl) T.g_ahead_of T.F_ahead_of.kp T.b_ahead_of .nil pass0 (pa_cons (pv 0) (pa_cons (pe_callB call_len_seq (by rfl) T.n_len (by decide +kernel) (pa_cons (pv 2) pa_nil)) pa_nil))))
      (pss_cons (ps_for PassesOwn.never rfl (pi_enum (by rfl) T.n_enumerate (pa_cons (pv 2) pa_nil)) (pg_tup rfl (pgs_cons (pg_name (i := 5) sc_last_number.nd rfl (Or.inl rfl)) (pgs_cons (pg_name (i := 6) sc_last_number.nd rfl (Or.inl rfl)) pgs_nil)))
      (pss_one (ps_if (pt_cmpR op_eq (pv 6) pe_int (nomark _))
        (pss_cons (ps_set (i := 7) sc_last_number.nd rfl (Or.inl rfl) (pe_call (ok_before T) (hr.mono (by decide)) (by rfl) T.g_before T.F_before.kp T.b_before .nil pass0 (pa_cons (pv 0) (pa_cons (pe_ix ix_list (pv 3) (pe_op op_add (pv 5) pe_int) (fun _ _ => rfl)) (pa_cons pe_int pa_nil)))))
          (pss_one (ps_if (pt_val (pe_call (ok_meets T) (hr.mono (by decide)) (by rfl) T.g_meets T.F_meets.kp T.b_meets .nil pass0 (pa_cons (pe_ix ix_list (pv 4) (pv 5) (fun _ _ => rfl)) (pa_cons (pv 7) pa_nil))))
          (pss_cons (ps_set (i := 8) sc_last_number.nd rfl (Or.inl rfl) (pe_call (ok_low_digits T) (hr.mono (by decide)) (by rfl) T.g_low_digits T.F_low_digits.kp T.b_low_digits .nil pass0 (pa_cons (pv 0) (pa_cons (pv 4) (pa_cons (pv 7) (pa_cons (pv 5) (pa_cons pe_int pa_nil)))))))
            (pss_one (ps_ret (pe_call (ok_number_of T) (hr.mono (by decide)) (by rfl) T.g_number_of T.F_number_of.kp T.b_number_of .nil pass0 (pa_cons (pe_op op_cat (pe_op op_cat (pv 8) (pe_lst (pa_cons pe_int pa_nil))) (pe_slice sl_list (pv 2) (po_some (pe_op op_add (pv 5) pe_int)) po_none)) pa_nil)))))
          pss_nil)))
        pss_nil)))
      (pss_one (ps_ret pe_non))))))), ?_⟩
    -- digits, goals
    refine ⟨_, rfl, k, rfl, hk, fun H1 dp s1 n1 e1 => ?_⟩
    have eds : SqL K H1 dp (nums (bits k)) := SqL.of e1
    refine ⟨_, rfl, _, rfl, a, dp, D, bits k, rfl, hR.same s1, eds, hv, h60, hdig, by omega, fun H2 gp s2 n2 hG => ?_⟩
    obtain ⟨gs, g1, g2, g3⟩ := id hG
    obtain ⟨l0, f1, f2⟩ := g3 0 (Nat.zero_le _)
    -- if goals[0][0] == 1
    refine ⟨_, rfl, gp, gs, 0, _, rfl, rfl, g1, atI_nat (j := 0) f1, l0, _, 0, _, rfl, rfl, f2, tab_at (q := 0) h0, rfl, _, rfl, ?_⟩
    have hit : decide (V.int ((ins D (run D 0 ((bits k).drop 0)) : Nat) : Int) = V.int 1) = (Mb k == 1) := by
      rw [List.drop_zero, hT.at]; exact dec_int (Mb k) 1
    rw [hit]
    refine ite2 (fun hb => ?_) (fun hb => ?_)
    · have hm : Mb k = 1 := by simpa using hb
      exact ⟨_, rfl, q H2 (some k) (s1.trans s2) ⟨Nat.le_refl _, hm, fun j h1 h2 => absurd h1 (by omega)⟩⟩
    have hm : Mb k ≠ 1 := fun z => hb (by simp [z])
    -- ahead
    have eds2 : SqL K H2 dp (nums (bits k)) := s2.seq eds
    refine ⟨_, rfl, ?_⟩
    refine ⟨_, rfl, dp, _, rfl, .inl eds2, ?_⟩
    have elen : ((nums (bits k)).length : Int) = (((bits k).length : Nat) : Int) := by rw [nums_len]
    refine ⟨a, D, (bits k).length, by rw [← elen]; rfl, hR.same (s1.trans s2), hv, h0, h60, by omega, fun H3 ah s3 n3 hAh => ?_⟩
    have S3 : Same H H3 := (s1.trans s2).trans s3
    have eds3 := s3.seq eds2
    have hG3 := hG.same s3
    -- for place, digit in enumerate(digits)
    refine ⟨_, rfl, dp, _, rfl, eds3, for_it (walk_enum (xs := nums (bits k))) (fun i σ H' => ∃ z5 z6 z7 z8, σ = [some (.ref a), some (.int (k : Int)), some (.ref dp), some (.ref gp), some (.ref ah), z5, z6, z7, z8] ∧ Same H3 H' ∧
      ∀ j, j < i → (bits k)[j]? = some 1 → ¬ Some1 D (upG D (bits k) j 0) j) ⟨none, none, none, none, rfl, Same.refl _, fun j hj => absurd hj (Nat.not_lt_zero j)⟩ (fun i σ H' hi hP => ?_) (fun i x σ H' H'' hi hP hy => ?_) (fun σ H' hP => ?_)⟩
    · obtain ⟨_, _, _, _, _, sm, _⟩ := hP
      exact sm.seq eds3
    · obtain ⟨z5, z6, z7, z8, rfl, sm, hno⟩ := hP
      obtain ⟨t, x1, x2, rfl, nt, rfl, ex1, ex2⟩ := hy
      cases ex1
      obtain ⟨d, ed, rfl⟩ := nums_of ex2
      have hil := lt_get ed
      have smT := sm.trans (same_new (o := .tup [.int (i : Int), .int (d : Int)]) nt)
      refine ⟨t, _, rfl, SqT.of upd_same, rfl, _, _, rfl, _, _, rfl, rfl, ?_⟩
      -- if digit == 1
      refine ⟨_, rfl, rfl, _, rfl, ?_⟩
      rw [show decide (V.int (d : Int) = V.int 1) = (d == 1) from dec_int d 1]
      refine ite2 (fun hd => ?_) (fun hd => ?_)
      · have hd0 : d = 1 := by simpa using hd
        subst hd0
        -- flags = before(rows, goals[place + 1], 0)
        obtain ⟨gs3, k1, k2, k3⟩ := hG3.same smT
        obtain ⟨l1, m1, m2⟩ := k3 (i + 1) hil
        refine ⟨_, rfl, _, rfl, _, rfl, _, _, rfl, rfl, gp, gs3, _, _, rfl, rfl, k1, at_of (j := i + 1) (by omega) m1, ?_⟩
        refine ⟨a, l1, D, _, 0, rfl, hR.same (S3.trans smT), m2, hv, h60, Nat.zero_le _, fun H4 f2 s4 nf2 ef2 => ?_⟩
        have sm4 := smT.trans s4
        -- if meets(ahead[place], flags)
        obtain ⟨ls, a1, a2, a3⟩ := hAh.same sm4
        obtain ⟨l, cl, c1, c2, c3, c4⟩ := a3 i (by omega)
        refine ⟨_, rfl, _, rfl, ah, ls, _, _, rfl, rfl, a1, atI_nat c1, _, rfl, l, f2, cl, D, _, rfl, c2, SqL.of ef2, by omega, fun q hq => reach_lt hv h0 ((c3 q).mp hq), fun H5 s5 => ?_⟩
        refine ⟨_, rfl, ?_⟩
        have sm5 := sm4.trans s5
        have hiff : (cl.any fun q => ins D (run D (step D q 0) ((bits k).drop (i + 1))) == 1) = true ↔ Some1 D (upG D (bits k) i 0) i := meets_iff (g := upG D (bits k) i 0) c3
        refine ite2 (fun hb => ?_) (fun hb => ?_)
        · have hs := hiff.mp hb
          refine ⟨_, rfl, _, rfl, _, rfl, _, rfl, a, ah, f2, D, upG D (bits k) i 0, _, i, 1, rfl, hR.same (S3.trans sm5), hAh.same sm5, SqL.of (s5 f2 _ ef2), hv, h0, h60, by omega, by omega, Nat.le_refl _, hs, fun H6 lp low s6 nlp elp hlow => ?_⟩
          have sm6 := sm5.trans s6
          have hll := hlow.len
          -- number_of(low + [0] + digits[place + 1:])
          refine ⟨_, rfl, by show 1 ≤ sizeLine; decide, fun o no => ?_⟩
          have nlo : lp ≠ o := ne_of_none elp no
          refine ⟨lp, o, _, _, rfl, rfl, by rw [upd_ne nlo]; exact elp, upd_same, szl (by rw [nums_len]; show low.length + 1 ≤ 100000; omega), fun c nc => ?_⟩
          have s7 := (same_new (o := .lst [.int 0]) no).trans (same_new (o := .lst (nums low ++ [.int 0])) nc)
          refine ⟨_, rfl, _, rfl, _, _, rfl, rfl, _, rfl, dp, _, rfl, (sm6.trans s7).seq eds3, fun e ne => ?_⟩
          have nce : c ≠ e := ne_of_none (H := upd (upd H6 o (.lst [.int 0])) c (.lst (nums low ++ [.int 0]))) upd_same ne
          have ecut : cutV (nums (bits k)) (some ((i : Int) + 1)) none = nums ((bits k).drop (i + 1)) := cut_nums (bits k) hil
          have eword : nums low ++ [V.int 0] ++ nums ((bits k).drop (i + 1)) = nums (low ++ [0] ++ (bits k).drop (i + 1)) := by unfold nums; rw [List.map_append, List.map_append]; rfl
          obtain ⟨w1, w2, _⟩ := word_facts hdig hlow.dig hil hll (Nat.zero_le 1)
          refine ⟨c, e, _, _, rfl, rfl, by rw [upd_ne nce]; exact upd_same, upd_same, szl ?_, fun m nm => ?_⟩
          · rw [ecut, List.length_append, nums_len, nums_len, List.length_drop]
            show low.length + 1 + _ ≤ _
            omega
          · refine ⟨m, low ++ [0] ++ (bits k).drop (i + 1), rfl, SqL.of (by rw [upd_same, ecut, ← eword]), by rw [w2]; omega, fun H7 s8 => ?_⟩
            exact q H7 (some (val (low ++ [0] ++ (bits k).drop (i + 1)))) (S3.trans ((((sm6.trans s7).trans (same_new ne)).trans (same_new nm)).trans s8)) (last_same hT hm ed (fun j hj ej => hno j hj ej) hlow)
        · refine ⟨_, _, _, z8, rfl, sm5, fun j hj ej => ?_⟩
          by_cases hji : j = i
          · subst hji; exact fun z => hb (hiff.mpr z)
          · exact hno j (by omega) ej
      · refine ⟨_, _, z7, z8, rfl, smT, fun j hj ej => ?_⟩
        by_cases hji : j = i
        · subst hji
          rw [ed] at ej
          exact absurd (by simpa using ej) hd
        · exact hno j (by omega) ej
    · obtain ⟨z5, z6, z7, z8, rfl, sm, hno⟩ := hP
      exact q H' none (S3.trans sm) (last_none hT hm fun j ej => hno j (by rw [nums_len]; exact lt_get ej) ej)
/-! ### the ends -/
def sp_has_endless (K : PySem.W.Frag) : Sp := fun vs H Q _ => ∃ (a : Addr) (D : List W36.Row) (Mb : Nat → Nat), vs = [.ref a] ∧ RowsT K H a D ∧ Tells D Mb ∧ D.length ≤ 60 ∧ ∀ H' b, Same H H' → (b = true ↔ Endless Mb) → Q (.bl b) H'
theorem ok_has_endless (T : Txt K mg) : FnOk P w K mg base CX0 2 T.a_has_endless T.d_has_endless ["rows"] (sp_has_endless K) := by
  refine T.F_has_endless.ok sc_has_endless (fun vs H Q E h => ?_) (fun cdv A outer s H vs Q E hr h => ?_)
  · obtain ⟨a, D, Mb, rfl, _⟩ := h
    rfl
  · obtain ⟨a, D, Mb, rfl, hR, hT, h60, q⟩ := h
    have hv := hT.valid
    have h0 := hT.pos
    obtain ⟨ts, hRT, hA⟩ := id hR
    refine ⟨_, (pss_cons (ps_set (i := 1) sc_has_endless.nd rfl (Or.inl rfl) (pe_callB call_len_seq (by rfl) T.n_len (by decide +kernel) (pa_cons (pv 0) pa_nil)))
      (pss_cons (ps_set (i := 2) sc_has_endless.nd rfl (Or.inr rfl) (pe_call (ok_ahead_of T) (hr.mono (by decide)) (by rfl) T.g_ahead_of T.F_ahead_of.kp T.b_ahead_of .nil pass0 (pa_cons (pv 0) (pa_cons (pe_op op_mul pe_int (pv 1)) pa_nil))))
      (pss_cons (ps_set (i := 3) sc_has_endless.nd rfl (Or.inr rfl) (pe_call (ok_before T) (hr.mono (by decide)) (by rfl) T.g_before T.F_before.kp T.b_before .nil pass0 (pa_cons (pv 0) (pa_cons (pe_lc (own := [("row", 4)]) rfl sc_has_endless.nd (pi_tup (pv 0)) (blkOk_by (N := N_has_endless) (sc := defScope s_has_endless) (by decide +kernel)) (fun _ _ _ _ _ => (pg_name (i := 4) sc_has_endless.nd rfl (Or.inl rfl))) (fun _ _ _ _ _ => pts_nil) (fun _ _ _ _ _ => (pe_ix (ixt (K := K) rfl) (pv 4) pe_int (fun _ _ => rfl)))) (pa_cons pe_int pa_nil)))))
      (pss_one (ps_ret (pe_callB (cr_any rfl) (by rfl) T.n_any (by decide +kernel) (pa_cons (pe_lc (own := [("length", 5)]) rfl sc_has_endless.nd (pi_range2 (by rfl) T.n_range (pa_cons (pe_op op_add (pv 1) pe_int) (pa_cons (pe_op op_add (pe_op op_mul pe_int (pv 1)) pe_int) pa_nil))) (blkOk_by (N := N_has_endless) (sc := defScope s_has_endless) (by decide +kernel)) (fun _ _ _ _ _ => (pg_name (i := 5) sc_has_endless.nd rfl (Or.inl rfl))) (fun _ _ _ _ _ => pts_nil) (fun _ _ _ _ _ => (pe_call (ok_meets T) (hr.mono (by decide)) (by rfl) T.g_meets T.F_meets.kp T.b_meets .nil pass0 (pa_cons (pe_ix (ixl (K := K) rfl) (pv 2) (pe_op op_sub (pv 5) pe_int) (fun _ _ => rfl)) (pa_cons (pv 3) pa_nil))))) pa_nil))))))), ?_⟩
    -- many, ahead
    refine ⟨_, rfl, a, _, rfl, .inr hRT, ?_⟩
    refine ⟨_, rfl, _, rfl, 2, _, rfl, rfl, .inl ⟨by decide, by decide⟩, ?_⟩
    have e2 : (2 : Int) * (ts.length : Int) = ((2 * D.length : Nat) : Int) := by rw [hA.1]; omega
    refine ⟨a, D, 2 * D.length, by rw [← e2]; rfl, hR, hv, h0, h60, by omega, fun H1 ah s1 n1 hAh => ?_⟩
    -- flags = before(rows, [row[2] for row in rows], 1)
    refine ⟨_, rfl, ?_⟩
    refine ⟨_, rfl, a, rfl, ⟨_, Same.sqt s1 hRT⟩, fun Dl nD => ?_⟩
    refine lc_tup (K := K) (a := a) (xs := ts) (fun i H' => Same H1 H' ∧ H' Dl = some (.lst (nums ((tab D (ins D)).take i)))) ⟨same_new nD, upd_same⟩ (fun i H' _ p => Same.sqt (s1.trans p.1) hRT) (fun i x H' hi p => ?_) (fun H' p => ?_)
    · obtain ⟨sm, eD⟩ := p
      obtain ⟨r, t, er, rfl, ht⟩ := hA.of hi
      have hil := lt_get er
      refine ⟨rfl, ?_⟩
      refine ⟨_, rfl, t, _, 2, _, rfl, rfl, Same.sqt (s1.trans sm) ht, rowV2 r, ?_⟩
      refine ⟨_, eD, szs (by rw [nums_len, List.length_take]; omega), same_mut sm nD, ?_⟩
      rw [upd_same, tab_take _ _ hil, nums_app, ins_get er]
    · obtain ⟨sm, eD⟩ := p
      rw [hA.1, tab_all] at eD
      refine ⟨a, Dl, D, _, 1, rfl, hR.same (s1.trans sm), SqL.of eD, hv, h60, Nat.le_refl _, fun H2 f2 s2 nf2 ef2 => ?_⟩
      have S2 : Same H1 H2 := sm.trans s2
      have hAh2 := hAh.same S2
      -- any([...])
      refine ⟨_, rfl, _, _, rfl, rfl, _, rfl, 2, _, rfl, rfl, .inl ⟨by decide, by decide⟩, _, _, rfl, rfl, _, _, rfl, ⟨by rw [hA.1]; omega, by rw [hA.1]; omega, by rw [hA.1]; omega, by rw [hA.1]; omega⟩, fun Dk nDk => ?_⟩
      have en : ((2 : Int) * (ts.length : Int) + 1 - ((ts.length : Int) + 1)).toNat = D.length := by rw [hA.1]; omega
      rw [en]
      refine lc_range (lo := (ts.length : Int) + 1) (n := D.length) (fun i H' => Same H2 H' ∧ ∃ bs : List Bool, H' Dk = some (.lst (bs.map V.bl)) ∧ bs.length = i ∧ (bs.any id = true ↔ ∃ l, D.length + 1 ≤ l ∧ l ≤ D.length + i ∧ Some1 D (topG D) (l - 1)))
        ⟨same_new nDk, [], upd_same, rfl, ⟨fun h => (by cases h), fun ⟨l, h1, h2, _⟩ => absurd h1 (by omega)⟩⟩ (fun i H' hi p => ?_) (fun H' p => ?_)
      · obtain ⟨sm', bs, eDk, hbl, hbs⟩ := p
        have eL : (ts.length : Int) + 1 + (i : Int) = ((D.length + 1 + i : Nat) : Int) := by rw [hA.1]; omega
        rw [eL]
        have eL2 : ((D.length + 1 + i : Nat) : Int) - 1 = ((D.length + i : Nat) : Int) := by omega
        obtain ⟨ls, a1, a2, a3⟩ := hAh2.same sm'
        obtain ⟨l, cl, c1, c2, c3, c4⟩ := a3 (D.length + i) (by omega)
        refine ⟨rfl, ?_⟩
        refine ⟨_, rfl, _, rfl, _, _, rfl, rfl, ah, ls, _, _, rfl, rfl, a1, by rw [eL2]; exact atI_nat c1, _, rfl, l, f2, cl, D, _, rfl, c2, SqL.of (sm' f2 _ ef2), by omega, fun q hq => reach_lt hv h0 ((c3 q).mp hq), fun H5 s5 => ?_⟩
        have hiff : (cl.any fun q => ins D (step D q 1) == 1) = true ↔ Some1 D (topG D) (D.length + i) := meets_iff (g := topG D) c3
        refine ⟨_, s5 Dk _ eDk, szs (by rw [List.length_map]; omega), same_mut (sm'.trans s5) nDk, bs ++ [cl.any fun q => ins D (step D q 1) == 1], by rw [upd_same, List.map_append]; rfl, by rw [List.length_append, hbl]; rfl, ?_⟩
        rw [List.any_append, Bool.or_eq_true, hbs]
        have : ([cl.any fun q => ins D (step D q 1) == 1].any id = true) ↔ Some1 D (topG D) (D.length + i) := by rw [← hiff]; simp
        rw [this]
        constructor
        · rintro (⟨l, h1, h2, h3⟩ | h)
          · exact ⟨l, h1, by omega, h3⟩
          · exact ⟨D.length + 1 + i, by omega, by omega, by rw [show D.length + 1 + i - 1 = D.length + i by omega]; exact h⟩
        · rintro ⟨l, h1, h2, h3⟩
          by_cases hl : l = D.length + (i + 1)
          · subst hl
            exact .inr (by rw [show D.length + (i + 1) - 1 = D.length + i by omega] at h3; exact h3)
          · exact .inl ⟨l, h1, by omega, h3⟩
      · obtain ⟨sm', bs, eDk, hbl, hbs⟩ := p
        refine ⟨Dk, bs, rfl, SqL.of eDk, ?_⟩
        refine q H' _ ((s1.trans S2).trans sm') ?_
        rw [hbs, endless_iff hT]
        constructor
        · rintro ⟨l, h1, h2, h3⟩
          exact ⟨l, h1, by omega, h3⟩
        · rintro ⟨l, h1, h2, h3⟩
          exact ⟨l, h1, by omega, h3⟩
def sp_greatest_number (K : PySem.W.Frag) : Sp := fun vs H Q _ => ∃ (a : Addr) (D : List W36.Row) (Mb : Nat → Nat), vs = [.ref a] ∧ RowsT K H a D ∧ Tells D Mb ∧ D.length ≤ 60 ∧ ¬ Endless Mb ∧ ∀ H' r, Same H H' → GreatSpec Mb r → Q (optV r) H'
theorem ok_greatest_number (T : Txt K mg) : FnOk P w K mg base CX0 4 T.a_greatest_number T.d_greatest_number ["rows"] (sp_greatest_number K) := by
  refine T.F_greatest_number.ok sc_greatest_number (fun vs H Q E h => ?_) (fun cdv A outer s H vs Q E hr h => ?_)
  · obtain ⟨a, D, Mb, rfl, _⟩ := h
    rfl
  · obtain ⟨a, D, Mb, rfl, hR, hT, h60, hE, q⟩ := h
    have hv := hT.valid
    have h0 := hT.pos
    obtain ⟨ts, hRT, hA⟩ := id hR
    refine ⟨_, (pss_cons (ps_set (i := 1) sc_greatest_number.nd rfl (Or.inl rfl) (pe_call (ok_ahead_of T) (hr.mono (by decide)) (by rfl) T.g_ahead_of T.F_ahead_of.kp T.b_ahead_of .nil pass0 (pa_cons (pv 0) (pa_cons (pe_callB call_len_seq (by rfl) T.n_len (by decide +kernel) (pa_cons (pv 0) pa_nil)) pa_nil))))
      (pss_cons (ps_for PassesOwn.never rfl (pi_range3 (by rfl) T.n_range (pa_cons (pe_callB call_len_seq (by rfl) T.n_len (by decide +kernel) (pa_cons (pv 0) pa_nil)) (pa_cons pe_int (pa_cons (pe_un un_neg pe_int) pa_nil)))) (pg_name (i := 2) sc_greatest_number.nd rfl (Or.inl rfl))
      (pss_cons (ps_set (i := 3) sc_greatest_number.nd rfl (Or.inl rfl) (pe_call (ok_least_of_length T) (hr.mono (by decide)) (by rfl) T.g_least_of_length T.F_least_of_length.kp T.b_least_of_length .nil pass0 (pa_cons (pv 0) (pa_cons (pv 1) (pa_cons (pv 2) (pa_cons pe_int pa_nil))))))
        (pss_one (ps_if (pt_cmpR op_notN (pv 3) pe_non (nomark _))
        (pss_one (ps_ret (pv 3)))
        pss_nil))))
      (pss_one (ps_ret pe_non)))), ?_⟩
    refine ⟨_, rfl, ?_⟩
    refine ⟨_, rfl, a, _, rfl, .inr hRT, ?_⟩
    refine ⟨a, D, D.length, by rw [← hA.1]; rfl, hR, hv, h0, h60, by omega, fun H1 ah s1 n1 hAh => ?_⟩
    have en : ((ts.length : Int) - 0).toNat = D.length := by rw [hA.1]; omega
    refine ⟨_, rfl, a, _, rfl, .inr (Same.sqt s1 hRT), 1, rfl, (ts.length : Int), 0, -1, D.length, rfl, (by have z := RgC.neg (i := (ts.length : Int)) (j := 0) (by omega) (by rw [hA.1]; omega) (by omega) (by omega); rw [en] at z; exact z),
      for_rangeC (lo := (ts.length : Int)) (c := -1) (n := D.length) (fun i σ H' => ∃ z2 z3, σ = [some (.ref a), some (.ref ah), z2, z3] ∧ Same H1 H' ∧ ∀ l, D.length < l + i → l ≤ D.length → 0 < l → ¬ Some1 D (topG D) (l - 1))
      ⟨none, none, rfl, Same.refl _, fun l h1 h2 => absurd h1 (by omega)⟩ (fun i σ H' hi hP => ?_) (fun σ H' hP => ?_)⟩
    · obtain ⟨z2, z3, rfl, sm, hno⟩ := hP
      have place : (ts.length : Int) + (i : Int) * -1 = ((D.length - i : Nat) : Int) := by rw [hA.1]; omega
      rw [place]
      refine ⟨_, rfl, _, rfl, _, rfl, a, ah, D, _, D.length - i, 1, rfl, hR.same (s1.trans sm), hAh.same sm, hv, h0, h60, by omega, by omega, by omega, Nat.le_refl _, fun H5 r s5 hr5 => ?_⟩
      refine ⟨_, rfl, rfl, _, rfl, ?_⟩
      cases r with
      | none =>
        refine ⟨_, _, rfl, sm.trans s5, fun l h1 h2 h3 => ?_⟩
        by_cases hl : l = D.length - i
        · subst hl; exact hr5
        · exact hno l (by omega) h2 h3
      | some t =>
        obtain ⟨low, hlow, rfl⟩ := hr5
        refine ⟨_, rfl, ?_⟩
        exact q H5 (some (val (low ++ [1]))) (s1.trans (sm.trans s5)) (great_some hT hE (by omega) (fun l h1 h2 => hno l (by omega) h2 (by omega)) hlow)
    · obtain ⟨z2, z3, rfl, sm, hno⟩ := hP
      exact q H' none (s1.trans sm) (great_none hT hE fun l h1 h2 => hno l (by omega) h2 h1)
end
end W36
end

section
set_option linter.all false
set_option maxRecDepth 100000
set_option maxHeartbeats 4000000
/-! order_of, sources_of. -/
namespace W36
open PySem PySem.Spec PyProof.Rows L2
section
variable {P : Program} {w : World} {K : PySem.W.Frag} {mg : Str → Option Value} {base : Heap}
/-- a dict with whole numbers as keys, by what it holds -/
def DictN (H : Hp) (d : Addr) (B : Nat) (F : Nat → Option V) : Prop := ∃ kvs, H d = some (.dK kvs) ∧ kvs.length ≤ B ∧ ∀ t : Nat, valV kvs (Sum.inl (t : Int) : Key) = F t
theorem DictN.same {H H' : Hp} {d : Addr} {B : Nat} {F : Nat → Option V} (h : DictN H d B F) (e : Same H H') : DictN H' d B F := let ⟨k, a, b, c⟩ := h; ⟨k, e _ _ a, b, c⟩
theorem DictN.put {H : Hp} {d : Addr} {kvs : List (Key × V)} {B : Nat} {F : Nat → Option V} (hl : kvs.length ≤ B) (hF : ∀ t : Nat, valV kvs (Sum.inl (t : Int) : Key) = F t) (x : Nat) (v : V) :
    DictN (upd H d (.dK (putK kvs (Sum.inl (x : Int)) v))) d (B + 1) (fun t => if t = x then some v else F t) := by
  refine ⟨_, upd_same, ?_, fun t => ?_⟩
  · have := length_putK kvs (Sum.inl (x : Int) : Key) v
    omega
  · rw [valV_put, hF]
    show _ = if t = x then some v else F t
    by_cases h : t = x
    · subst h; rw [if_pos rfl, if_pos rfl]
    · rw [if_neg h, if_neg (fun e => h (by injection e with e; exact Int.ofNat.inj e))]
def knownF (f : List Nat) (t : Nat) : Option V := if t ∈ f then some (.bl true) else none
theorem dictN_congr {H : Hp} {d : Addr} {B : Nat} {F G : Nat → Option V} (h : DictN H d B F) (e : ∀ t, F t = G t) : DictN H d B G := let ⟨k, a, b, c⟩ := h; ⟨k, a, b, fun t => (c t).trans (e t)⟩
theorem DictN.le {H : Hp} {d : Addr} {B C : Nat} {F : Nat → Option V} (h : DictN H d B F) (e : B ≤ C) : DictN H d C F := let ⟨k, a, b, c⟩ := h; ⟨k, a, Nat.le_trans b e, c⟩
def sp_order_of (K : PySem.W.Frag) : Sp := fun vs H Q _ => ∃ (a : Addr) (R : List W36.Row) (start : Nat), vs = [.ref a, .int (start : Int)] ∧ RowsL K H a R ∧ Valid R ∧ start < R.length ∧ R.length ≤ 60 ∧
  ∀ H' p, Same H H' → H p = none → H' p = some (.lst (nums (order R start))) → Q (.ref p) H'
theorem ok_order_of (T : Txt K mg) : FnOk P w K mg base CX0 1 T.a_order_of T.d_order_of ["rows", "start"] (sp_order_of K) := by
  refine T.F_order_of.ok sc_order_of (fun vs H Q E h => ?_) (fun cdv A outer s H vs Q E hr h => ?_)
  · obtain ⟨a, R, start, rfl, _⟩ := h
    rfl
  · obtain ⟨a, R, start, rfl, hR, hv, hst, h60, q⟩ := h
    obtain ⟨ts, hL, hA⟩ := id hR
    refine ⟨_, (pss_cons (ps_set (i := 2) sc_order_of.nd rfl (Or.inl rfl) (pe_lst (pa_cons (pv 1) pa_nil)))
      (pss_cons (ps_set (i := 3) sc_order_of.nd rfl (Or.inl rfl) (pe_disp (pps_cons (pv 1) pe_bl pps_nil) (by rfl) (by rfl) (fun z => by cases z) (by decide)))
      (pss_cons (ps_set (i := 4) sc_order_of.nd rfl (Or.inl rfl) pe_int)
      (pss_cons (ps_while PassesOwn.never (pt_cmpR op_lt (pv 4) (pe_callB call_len_seq (by rfl) T.n_len (by decide +kernel) (pa_cons (pv 2) pa_nil)) (nomark _))
      (pss_cons (ps_for PassesOwn.never rfl (pi_tup (pe_tup (pa_cons (pe_ix ix_tup (pe_ix ix_list (pv 0) (pe_ix ix_list (pv 2) (pv 4) (fun _ _ => rfl)) (fun _ _ => rfl)) pe_int (fun _ _ => rfl)) (pa_cons (pe_ix ix_tup (pe_ix ix_list (pv 0) (pe_ix ix_list (pv 2) (pv 4) (fun _ _ => rfl)) (fun _ _ => rfl)) pe_int (fun _ _ => rfl)) pa_nil)))) (pg_name (i := 5) sc_order_of.nd rfl (Or.inl rfl))
        (pss_one (ps_if (pt_cmp (pc_dnotin (hu_of hr) (pv 5) (pv 3)))
          (pss_cons (ps_dput (hu_of hr) (pv 3) (pv 5) pe_bl rfl)
            (pss_one (ps_expr (pe_bm PySem.F.plainAttrs_list PySem.F.slot_list_append PySem.F.type_list_append mt_append (pv 2) (pa_cons (pv 5) pa_nil)))))
          pss_nil)))
        (pss_one (ps_aug (i := 4) sc_order_of.nd rfl (Or.inl rfl) pe_int ip_add))))
      (pss_one (ps_ret (pv 2))))))), ?_⟩
    -- found = [start]; known = {start: True}
    refine ⟨_, rfl, by show 1 ≤ sizeLine; decide, fun p np => ?_⟩
    intro d nd
    refine ⟨_, rfl, upd_same, [(Sum.inl (start : Int), .bl true)], rfl, by show 1 ≤ 15; decide, ?_⟩
    rw [upd_upd]
    have ndH : H d = none := (same_new np).free nd
    have npd : p ≠ d := ne_of_none (H := upd H p (.lst [V.int (start : Int)])) upd_same nd
    have s0 : Same H (upd (upd H p (.lst [.int (start : Int)])) d (.dK (mergeK [] [(Sum.inl (start : Int), .bl true)]))) := (same_new np).trans (same_new nd)
    -- at = 0; while at < len(found)
    refine ⟨fun m σ H' => ∃ i f x5, m + i = R.length ∧ σ = [some (.ref a), some (.int (start : Int)), some (.ref p), some (.ref d), some (.int (i : Int)), x5] ∧ Same H H' ∧ H' p = some (.lst (nums f)) ∧ DictN H' d f.length (knownF f) ∧ Seek R start i f ∧ ordGo R m i f = order R start,
      ⟨R.length, 0, [start], none, rfl, rfl, s0, ?_, ⟨_, upd_same, Nat.le_refl _, fun t => ?_⟩, .init hst, rfl⟩, fun m σ H' hW => ?_⟩
    · rw [upd_ne npd, upd_same]; rfl
    · show valV [((Sum.inl (start : Int) : Key), V.bl true)] (Sum.inl (t : Int)) = knownF [start] t
      unfold knownF
      by_cases h : t = start
      · subst h; rw [valV_pos rfl, if_pos (List.mem_singleton.mpr rfl)]
      · rw [valV_neg (fun e => h (by injection e with e; exact (Int.ofNat.inj e).symm)), if_neg (fun z => h (List.mem_singleton.mp z))]; rfl
    · obtain ⟨i, f, x5, em, rfl, sm, ep, hd, hS, hgo⟩ := hW
      have hfl := hS.len
      refine ⟨_, rfl, _, rfl, p, _, rfl, .inl (SqL.of ep), _, _, rfl, rfl, _, rfl, ite2 (fun c => ?_) (fun c => ?_)⟩
      · have hi : i < f.length := by
          have := of_decide_eq_true c
          rw [nums_len] at this
          omega
        obtain ⟨x, ex⟩ := get_lt hi
        have hx : x < R.length := hS.lt x (List.mem_of_getElem? ex)
        obtain ⟨r, er⟩ := get_lt hx
        obtain ⟨t, et, htr⟩ := hA.get er
        have hL' := sm.seq hL
        have htr' := Same.sqt sm htr
        have e0 : step R x 0 = r.1 := by rw [step_get er]; rfl
        have e1 : step R x 1 = r.2.1 := by rw [step_get er]; rfl
        have hgd : f.getD i 0 = x := by rw [List.getD_eq_getElem?_getD, ex]; rfl
        refine ⟨_, fun σ' H2 hN => hN, ?_⟩
        -- for target in (..)
        refine ⟨_, rfl, _, rfl, _, rfl, p, _, _, _, rfl, rfl, SqL.of ep, nums_at ex, a, ts, _, _, rfl, rfl, hL', et, t, _, 0, _, rfl, rfl, htr', rowV0 r, ?_⟩
        refine ⟨_, rfl, _, rfl, _, rfl, p, _, _, _, rfl, rfl, SqL.of ep, nums_at ex, a, ts, _, _, rfl, rfl, hL', et, t, _, 1, _, rfl, rfl, htr', rowV1 r, ?_⟩
        refine ⟨by show 2 ≤ sizeLine; decide, fun tp ntp => ?_⟩
        have npt : p ≠ tp := ne_of_none ep ntp
        have hd0 := hd
        obtain ⟨kvs0, ekv0, _, _⟩ := hd0
        have ndt : d ≠ tp := ne_of_none ekv0 ntp
        refine ⟨tp, rfl, ⟨_, SqT.of upd_same⟩, for_tup (K := K) (a := tp) (xs := [.int (r.1 : Int), .int (r.2.1 : Int)]) (fun j σ H4 => ∃ x5 f', σ = [some (.ref a), some (.int (start : Int)), some (.ref p), some (.ref d), some (.int (i : Int)), x5] ∧ Same H H4 ∧ H4 tp = some (.tup [.int (r.1 : Int), .int (r.2.1 : Int)]) ∧ H4 p = some (.lst (nums f')) ∧ DictN H4 d f'.length (knownF f') ∧
          f'.length ≤ f.length + j ∧ f' = (if j = 0 then f else if j = 1 then visit f r.1 else visit (visit f r.1) r.2.1)) ⟨x5, f, rfl, sm.trans (same_new ntp), upd_same, by rw [upd_ne npt]; exact ep, hd.same (same_new ntp), by omega, by rw [if_pos rfl]⟩ (fun j σ H4 _ hP => ?_) (fun j y σ H4 ej hP => ?_) (fun σ H4 hP => ?_)⟩
        · obtain ⟨_, _, _, _, et4, _⟩ := hP
          exact SqT.of et4
        · obtain ⟨x5, f', rfl, sm4, et4, ep4, hd4, hl4, ef⟩ := hP
          have hj : j = 0 ∨ j = 1 := by
            have := lt_get ej
            simp only [List.length_cons, List.length_nil] at this
            omega
          -- the target's number
          obtain ⟨y0, rfl, hnext⟩ : ∃ y0 : Nat, y = .int (y0 : Int) ∧ visit f' y0 = (if j + 1 = 0 then f else if j + 1 = 1 then visit f r.1 else visit (visit f r.1) r.2.1) := by
            rcases hj with rfl | rfl
            · exact ⟨r.1, (Option.some.inj ej).symm, by rw [ef]; rfl⟩
            · exact ⟨r.2.1, (Option.some.inj ej).symm, by rw [ef]; rfl⟩
          obtain ⟨kvs, ekv, hkl, hkF⟩ := hd4
          have npd4 : p ≠ d := npd
          have ndt4 : d ≠ tp := ndt
          refine ⟨_, rfl, _, rfl, d, _, rfl, DGet.k (k := Sum.inl (y0 : Int)) ekv, _, rfl, ?_⟩
          rw [hkF]
          by_cases hy : y0 ∈ f'
          · have e : knownF f' y0 = some (.bl true) := if_pos hy
            rw [e]
            refine ⟨_, f', rfl, sm4, et4, ep4, ⟨kvs, ekv, hkl, hkF⟩, by omega, ?_⟩
            rw [← hnext]; exact (if_pos hy).symm
          · have e : knownF f' y0 = none := if_neg hy
            rw [e]
            -- known[target] = True; found.append(target)
            refine ⟨_, rfl, _, rfl, d, _, rfl, DPut.k (k := Sum.inl (y0 : Int)) ekv (szs (by omega)), ?_⟩
            have ep5 : (upd H4 d (.dK (putK kvs (Sum.inl (y0 : Int)) (.bl true)))) p = some (.lst (nums f')) := by rw [upd_ne npd4]; exact ep4
            refine ⟨_, rfl, .inl ⟨rfl, _, SqL.of ep5⟩, _, rfl, p, _, _, rfl, rfl, ep5, szs (by rw [nums_len]; omega), ?_⟩
            have ev : visit f' y0 = f' ++ [y0] := if_neg hy
            refine ⟨_, f' ++ [y0], rfl, same_mut (same_mut sm4 ndH) np, ?_, ?_, ?_, by rw [List.length_append]; simp; omega, by rw [← ev]; exact hnext⟩
            · rw [upd_ne npt.symm, upd_ne ndt4.symm]; exact et4
            · rw [upd_same, nums_app]
            · obtain ⟨k2, g1, g2, g3⟩ := DictN.put (H := H4) (d := d) hkl hkF y0 (.bl true)
              refine ⟨k2, by rw [upd_ne npd4.symm]; exact g1, by rw [List.length_append]; simpa using g2, fun t => ?_⟩
              rw [g3]
              show (if t = y0 then some (V.bl true) else knownF f' t) = knownF (f' ++ [y0]) t
              unfold knownF
              by_cases h : t = y0
              · subst h
                rw [if_pos rfl, if_pos (List.mem_append_right _ (List.mem_singleton.mpr rfl))]
              · rw [if_neg h]
                by_cases h2 : t ∈ f'
                · rw [if_pos h2, if_pos (List.mem_append_left _ h2)]
                · rw [if_neg h2, if_neg (fun z => (List.mem_append.mp z).elim h2 fun z => h (List.mem_singleton.mp z))]
        · obtain ⟨x5, f', rfl, sm4, et4, ep4, hd4, hl4, ef⟩ := hP
          have ef' : f' = visit (visit f r.1) r.2.1 := ef
          obtain ⟨m', rfl⟩ : ∃ m', m = m' + 1 := ⟨m - 1, by omega⟩
          have hS' := hS.next hv hi
          have hgo' := hgo
          unfold ordGo at hgo'
          rw [if_pos hi] at hgo'
          rw [hgd, e0, e1, ← ef'] at hS' hgo'
          refine ⟨_, rfl, _, _, rfl, rfl, m', by omega, i + 1, f', x5, by omega, rfl, sm4, ep4, hd4, hS', hgo'⟩
      · have hi : ¬ i < f.length := fun z => c (decide_eq_true (by rw [nums_len]; omega))
        have he : ordGo R m i f = f := by
          cases m with
          | zero => rfl
          | succ m => unfold ordGo; rw [if_neg hi]
        rw [he] at hgo
        refine ⟨_, rfl, q H' p sm np ?_⟩
        rw [← hgo]; exact ep
end
end W36
end

section
set_option linter.all false
set_option maxRecDepth 100000
set_option maxHeartbeats 4000000
/-! sources_of. -/
namespace W36
open PySem PySem.Spec PyProof.Rows L2
section
variable {P : Program} {w : World} {K : PySem.W.Frag} {mg : Str → Option Value} {base : Heap}
def key2 (d t : Nat) : List Key := [Sum.inl (d : Int), Sum.inl (t : Int)]
theorem key2_inj {d t d' t' : Nat} : key2 d t = key2 d' t' ↔ d = d' ∧ t = t' := by
  unfold key2
  constructor
  · intro h
    injection h with h1 h2
    injection h2 with h2 _
    injection h1 with h1
    injection h2 with h2
    exact ⟨Int.ofNat.inj h1, Int.ofNat.inj h2⟩
  · rintro ⟨rfl, rfl⟩; rfl
def srcUpto (R : List W36.Row) (i d t : Nat) : List Nat := (List.range i).filter fun q => step R q d == t
def srcs (R : List W36.Row) (d t : Nat) : List Nat := srcUpto R R.length d t
theorem srcUpto_succ (R : List W36.Row) (i d t : Nat) : srcUpto R (i + 1) d t = srcUpto R i d t ++ (if step R i d = t then [i] else []) := by
  unfold srcUpto
  rw [List.range_succ, List.filter_append, List.filter_cons]
  by_cases h : step R i d = t
  · rw [if_pos h, if_pos (by simp [h])]; rfl
  · rw [if_neg h, if_neg (by simp [h])]; rfl
theorem srcUpto_len (R : List W36.Row) (i d t : Nat) : (srcUpto R i d t).length ≤ i := by
  have h := List.length_filter_le (fun q => step R q d == t) (List.range i)
  rw [List.length_range] at h
  exact h
/-- a dict from (digit, index) to the tuple of numbers C gives; nothing where it gives none -/
def SrcD (H : Hp) (p : Addr) (B : Nat) (C : Nat → Nat → List Nat) : Prop := ∃ kvs, H p = some (.dT kvs) ∧ kvs.length ≤ B ∧ ∀ d t : Nat, d ≤ 1 →
  (C d t = [] ∧ valV kvs (key2 d t) = none) ∨ ∃ u, valV kvs (key2 d t) = some (.ref u) ∧ H u = some (.tup (nums (C d t))) ∧ C d t ≠ []
theorem SrcD.same {H H' : Hp} {p : Addr} {B : Nat} {C : Nat → Nat → List Nat} (h : SrcD H p B C) (e : Same H H') : SrcD H' p B C := by
  obtain ⟨kvs, a, b, c⟩ := h
  refine ⟨kvs, e _ _ a, b, fun d t h1 => ?_⟩
  rcases c d t h1 with x | ⟨u, x, y, z⟩
  · exact .inl x
  · exact .inr ⟨u, x, e _ _ y, z⟩
theorem SrcD.congr {H : Hp} {p : Addr} {B : Nat} {C C' : Nat → Nat → List Nat} (h : SrcD H p B C) (e : ∀ d t, C d t = C' d t) : SrcD H p B C' := by
  have : C = C' := funext fun d => funext fun t => e d t
  rw [← this]; exact h
theorem SrcD.put {H : Hp} {p u : Addr} {kvs : List (List Key × V)} {B : Nat} {C : Nat → Nat → List Nat} (hp : H p = some (.dT kvs)) (hb : kvs.length ≤ B)
    (hC : ∀ d t : Nat, d ≤ 1 → (C d t = [] ∧ valV kvs (key2 d t) = none) ∨ ∃ u, valV kvs (key2 d t) = some (.ref u) ∧ H u = some (.tup (nums (C d t))) ∧ C d t ≠ []) (d0 t0 : Nat) {xs : List Nat} (hx : xs ≠ []) (hu : H u = some (.tup (nums xs))) :
    SrcD (upd H p (.dT (putK kvs (key2 d0 t0) (.ref u)))) p (B + 1) (fun d t => if d = d0 ∧ t = t0 then xs else C d t) := by
  have nup : ∀ {v : Addr} {ys : List V}, H v = some (.tup ys) → v ≠ p := fun h => ne_of h hp (fun z => nomatch z)
  refine ⟨_, upd_same, ?_, fun d t h1 => ?_⟩
  · have := length_putK kvs (key2 d0 t0) (.ref u)
    omega
  · rw [valV_put]
    show ((if d = d0 ∧ t = t0 then xs else C d t) = [] ∧ _) ∨ ∃ u', _ ∧ _ = some (HO.tup (nums (if d = d0 ∧ t = t0 then xs else C d t))) ∧ (if d = d0 ∧ t = t0 then xs else C d t) ≠ []
    by_cases h : d = d0 ∧ t = t0
    · rw [if_pos h, if_pos (key2_inj.mpr h)]
      exact .inr ⟨u, rfl, by rw [upd_ne (nup hu)]; exact hu, hx⟩
    · rw [if_neg h, if_neg (fun e => h (key2_inj.mp e))]
      rcases hC d t h1 with x | ⟨v, x, y, z⟩
      · exact .inl x
      · exact .inr ⟨v, x, by rw [upd_ne (nup y)]; exact y, z⟩
def sp_sources_of (K : PySem.W.Frag) : Sp := fun vs H Q _ => ∃ (a : Addr) (R : List W36.Row), vs = [.ref a] ∧ RowsL K H a R ∧ Valid R ∧ R.length ≤ 60 ∧
  ∀ H' p, Same H H' → H p = none → SrcD H' p 1000 (srcs R) → Q (.ref p) H'
theorem ok_sources_of (T : Txt K mg) : FnOk P w K mg base CX0 1 T.a_sources_of T.d_sources_of ["rows"] (sp_sources_of K) := by
  refine T.F_sources_of.ok sc_sources_of (fun vs H Q E h => ?_) (fun cdv A outer s H vs Q E hr h => ?_)
  · obtain ⟨a, R, rfl, _⟩ := h
    rfl
  · obtain ⟨a, R, rfl, hR, hv, h60, q⟩ := h
    obtain ⟨ts, hL, hA⟩ := id hR
    refine ⟨_, (pss_cons (ps_set (i := 1) sc_sources_of.nd rfl (Or.inl rfl) pe_dnewT)
      (pss_cons (ps_for PassesOwn.never rfl (pi_enum (by rfl) T.n_enumerate (pa_cons (pv 0) pa_nil)) (pg_tup rfl (pgs_cons (pg_name (i := 2) sc_sources_of.nd rfl (Or.inl rfl)) (pgs_cons (pg_name (i := 3) sc_sources_of.nd rfl (Or.inl rfl)) pgs_nil)))
      (pss_one (ps_for PassesOwn.never rfl (pi_tup (pe_tup (pa_cons pe_int (pa_cons pe_int pa_nil)))) (pg_name (i := 4) sc_sources_of.nd rfl (Or.inl rfl))
        (pss_cons (ps_set (i := 5) sc_sources_of.nd rfl (Or.inl rfl) (pe_tup (pa_cons (pv 4) (pa_cons (pe_ix ix_tup (pv 3) (pv 4) (fun _ _ => rfl)) pa_nil))))
          (pss_one (ps_dput (hu_of hr) (pv 1) (pv 5) (pe_op op_catA (pe_dget2 (hu_of hr) (pv 1) (pv 5) (pe_tup pa_nil) ⟨rfl, by rfl, by rfl, by rfl⟩) (pe_tup (pa_cons (pv 2) pa_nil))) rfl))))))
      (pss_one (ps_ret (pv 1))))), ?_⟩
    intro p np
    -- for at, row in enumerate(rows)
    refine ⟨_, rfl, a, ts, rfl, (same_new np).seq hL, for_it (walk_enum (xs := ts)) (fun i σ H' => ∃ z2 z3 z4 z5, σ = [some (.ref a), some (.ref p), z2, z3, z4, z5] ∧ Same H H' ∧ SrcD H' p (2 * i) (srcUpto R i))
      ⟨none, none, none, none, rfl, same_new np, [], upd_same, Nat.le_refl _, fun d t _ => .inl ⟨rfl, rfl⟩⟩ (fun i σ H' hi hP => ?_) (fun i x σ H' H'' hi hP hy => ?_) (fun σ H' hP => ?_)⟩
    · obtain ⟨_, _, _, _, _, sm, _⟩ := hP
      exact sm.seq hL
    · obtain ⟨z2, z3, z4, z5, rfl, sm, hC⟩ := hP
      obtain ⟨t, x1, x2, rfl, nt, rfl, ex1, ex2⟩ := hy
      cases ex1
      obtain ⟨r, tr, er, rfl, htr⟩ := hA.of ex2
      have hil := lt_get er
      have smT := sm.trans (same_new (o := .tup [.int (i : Int), .ref tr]) nt)
      refine ⟨t, _, rfl, SqT.of upd_same, rfl, _, _, rfl, _, _, rfl, rfl, ?_⟩
      have hC1 := hC.same (same_new (o := .tup [.int (i : Int), .ref tr]) nt)
      -- for digit in (0, 1)
      refine ⟨by show 2 ≤ sizeLine; decide, fun tp ntp => ?_⟩
      refine ⟨tp, rfl, ⟨_, SqT.of upd_same⟩, for_tup (K := K) (a := tp) (xs := [.int 0, .int 1]) (fun j σ H4 => ∃ z4 z5, σ = [some (.ref a), some (.ref p), some (.int (i : Int)), some (.ref tr), z4, z5] ∧ Same H H4 ∧ H4 tp = some (.tup [.int 0, .int 1]) ∧
        SrcD H4 p (2 * i + j) (fun d t => if d < j then srcUpto R (i + 1) d t else srcUpto R i d t)) ⟨z4, z5, rfl, smT.trans (same_new ntp), upd_same, (hC1.same (same_new ntp)).congr fun d t => by rw [if_neg (Nat.not_lt_zero d)]⟩ (fun j σ H4 _ hP => ?_) (fun j y σ H4 ej hP => ?_) (fun σ H4 hP => ?_)⟩
      · obtain ⟨_, _, _, _, et4, _⟩ := hP
        exact SqT.of et4
      · obtain ⟨z4, z5, rfl, sm4, et4, hC4⟩ := hP
        have hj : j = 0 ∨ j = 1 := by
          have := lt_get ej
          simp only [List.length_cons, List.length_nil] at this
          omega
        have ey : y = .int (j : Int) := by rcases hj with rfl | rfl <;> exact (Option.some.inj ej).symm
        subst ey
        obtain ⟨kvs, ekv, hkl, hkC⟩ := id hC4
        -- key = (digit, row[digit])
        refine ⟨_, rfl, _, rfl, _, rfl, tr, _, _, _, rfl, rfl, Same.sqt sm4 htr, row_at (by omega), ?_⟩
        rw [← step_get er j]
        refine ⟨by show 2 ≤ sizeLine; decide, fun kp nkp => ?_⟩
        have npk : p ≠ kp := ne_of_none ekv nkp
        have sk := same_new (o := .tup [.int (j : Int), .int ((step R i j : Nat) : Int)]) nkp
        have ekv5 := sk p _ ekv
        -- found[key] = found.get(key, ()) + (at,)
        refine ⟨_, rfl, p, rfl, .inr ⟨kvs, .inl ekv5⟩, _, rfl, by show 0 ≤ sizeLine; decide, fun ep nep => ?_⟩
        have npe : p ≠ ep := ne_of_none ekv5 nep
        have nke : kp ≠ ep := ne_of_none (H := upd H4 kp (.tup [.int (j : Int), .int ((step R i j : Nat) : Int)])) upd_same nep
        have se := sk.trans (same_new (o := .tup []) nep)
        have ekv6 := se p _ ekv
        have ekp6 : (upd (upd H4 kp (.tup [.int (j : Int), .int ((step R i j : Nat) : Int)])) ep (.tup [])) kp = some (.tup ((key2 j (step R i j)).map kV)) := by rw [upd_ne nke, upd_same]; rfl
        refine ⟨valV kvs (key2 j (step R i j)), DGet.t ekv6 ekp6, ?_⟩
        -- (at,)
        refine ⟨_, rfl, by show 1 ≤ sizeLine; decide, fun op nop => ?_⟩
        have so := se.trans (same_new (o := .tup [.int (i : Int)]) nop)
        have ekv7 := so p _ ekv
        have nko : kp ≠ op := ne_of_none ekp6 nop
        have neo : ep ≠ op := ne_of_none (H := upd (upd H4 kp (.tup [.int (j : Int), .int ((step R i j : Nat) : Int)])) ep (.tup [])) upd_same nop
        have ekp7 : (upd (upd (upd H4 kp (.tup [.int (j : Int), .int ((step R i j : Nat) : Int)])) ep (.tup [])) op (.tup [.int (i : Int)])) kp = some (.tup ((key2 j (step R i j)).map kV)) := by rw [upd_ne nko]; exact ekp6
        have fin : ∀ (H9 : Hp) (u : Addr), Same H4 H9 → H9 p = some (.dT kvs) → H9 u = some (.tup (nums (srcUpto R i j (step R i j) ++ [i]))) →
            ∃ z4 z5, [some (V.ref a), some (.ref p), some (.int (i : Int)), some (.ref tr), some (.int (j : Int)), some (.ref kp)] = [some (V.ref a), some (.ref p), some (.int (i : Int)), some (.ref tr), z4, z5] ∧ Same H (upd H9 p (.dT (putK kvs (key2 j (step R i j)) (.ref u)))) ∧ (upd H9 p (.dT (putK kvs (key2 j (step R i j)) (.ref u)))) tp = some (.tup [.int 0, .int 1]) ∧
              SrcD (upd H9 p (.dT (putK kvs (key2 j (step R i j)) (.ref u)))) p (2 * i + (j + 1)) (fun d t => if d < j + 1 then srcUpto R (i + 1) d t else srcUpto R i d t) := fun H9 u s9 e9 u9 => by
          refine ⟨_, _, rfl, same_mut (sm4.trans s9) np, ?_, ?_⟩
          · rw [upd_ne (ne_of (s9 tp _ et4) e9 (fun z => nomatch z))]; exact s9 tp _ et4
          · have hC9 : ∀ d t : Nat, d ≤ 1 → ((fun d t => if d < j then srcUpto R (i + 1) d t else srcUpto R i d t) d t = [] ∧ valV kvs (key2 d t) = none) ∨ ∃ u, valV kvs (key2 d t) = some (.ref u) ∧ H9 u = some (.tup (nums ((fun d t => if d < j then srcUpto R (i + 1) d t else srcUpto R i d t) d t))) ∧ (fun d t => if d < j then srcUpto R (i + 1) d t else srcUpto R i d t) d t ≠ [] := fun d t h1 => by
              rcases hkC d t h1 with x | ⟨v, x, y, z⟩
              · exact .inl x
              · exact .inr ⟨v, x, s9 v _ y, z⟩
            refine (SrcD.put (C := fun d t => if d < j then srcUpto R (i + 1) d t else srcUpto R i d t) e9 hkl hC9 j (step R i j) (by simp) u9).congr fun d t => ?_
            show (if d = j ∧ t = step R i j then srcUpto R i j (step R i j) ++ [i] else if d < j then srcUpto R (i + 1) d t else srcUpto R i d t) = if d < j + 1 then srcUpto R (i + 1) d t else srcUpto R i d t
            by_cases hd : d = j
            · subst hd
              rw [if_neg (Nat.lt_irrefl d), if_pos (Nat.lt_succ_self d), srcUpto_succ]
              by_cases ht : t = step R i d
              · subst ht; rw [if_pos ⟨rfl, rfl⟩, if_pos rfl]
              · rw [if_neg (fun z => ht z.2), if_neg (fun z => ht z.symm), List.append_nil]
            · rw [if_neg (fun z => hd z.1)]
              by_cases hd2 : d < j
              · rw [if_pos hd2, if_pos (by omega)]
              · rw [if_neg hd2, if_neg (by omega)]
        have hCj : (fun d t => if d < j then srcUpto R (i + 1) d t else srcUpto R i d t) j (step R i j) = srcUpto R i j (step R i j) := if_neg (Nat.lt_irrefl j)
        have hlen := srcUpto_len R i j (step R i j)
        rcases hkC j (step R i j) (by omega) with ⟨x1, x2⟩ | ⟨u, x1, x2, x3⟩
        · rw [hCj] at x1
          rw [x2]
          refine ⟨ep, op, [], [.int (i : Int)], rfl, rfl, SqT.of (by rw [upd_ne neo, upd_same]), SqT.of upd_same, by show 0 + 1 ≤ sizeLine; decide, fun _ => ?_, fun z => absurd rfl z, fun z => absurd rfl z⟩
          refine ⟨_, rfl, _, rfl, p, _, rfl, DPut.t ekv7 ekp7 (szs (by omega)), ?_⟩
          exact fin _ op so ekv7 (by rw [upd_same, x1]; rfl)
        · rw [hCj] at x2 x3
          rw [x1]
          refine ⟨u, op, _, [.int (i : Int)], rfl, rfl, SqT.of (so u _ x2), SqT.of upd_same, szl (by rw [nums_len]; show _ + 1 ≤ _; omega), fun z => absurd (by simpa using z) x3, fun _ z => (by cases z), fun _ _ cp ncp => ?_⟩
          have sc := so.trans (same_new (o := .tup (nums (srcUpto R i j (step R i j)) ++ [.int (i : Int)])) ncp)
          have ekv8 := sc p _ ekv
          refine ⟨_, rfl, _, rfl, p, _, rfl, DPut.t ekv8 (by rw [upd_ne (ne_of_none ekp7 ncp)]; exact ekp7) (szs (by omega)), ?_⟩
          exact fin _ cp sc ekv8 (by rw [upd_same, nums_app])
      · obtain ⟨z4, z5, rfl, sm4, et4, hC4⟩ := hP
        refine ⟨_, _, z4, z5, rfl, sm4, ?_⟩
        have : 2 * i + 2 = 2 * (i + 1) := by omega
        obtain ⟨kvs, g1, g2, g3⟩ := hC4
        refine ⟨kvs, g1, by rw [← this]; exact g2, fun d t h1 => ?_⟩
        have hd : d < 2 := by omega
        have z := g3 d t h1
        simp only [List.length_cons, List.length_nil, Nat.zero_add, Nat.reduceAdd, if_pos hd] at z
        exact z
    · obtain ⟨z2, z3, z4, z5, rfl, sm, hC⟩ := hP
      obtain ⟨kvs, g1, g2, g3⟩ := hC
      refine ⟨_, rfl, q H' p sm np ⟨kvs, g1, ?_, ?_⟩⟩
      · rw [hA.1] at g2; omega
      · rw [hA.1] at g3; exact g3
end
end W36
end

section
set_option linter.all false
set_option maxRecDepth 100000
set_option maxHeartbeats 4000000
/-! Data for comparisons: lists of numbers, tuples of rows. -/
namespace W36
open PySem PySem.Spec PyProof.Rows L2
def natD (l : List Nat) : List PyData := l.map fun (n : Nat) => PyData.int (n : Int)
def rowD (r : W36.Row) : PyData := .tuple (natD [r.1, r.2.1, r.2.2])
section
variable {K : PySem.W.Frag} {H : Hp}
theorem dp_nums : ∀ l : List Nat, DpAll K H (nums l) (natD l)
  | [] => .nil
  | x :: l => .cons (.int _) (dp_nums l)
theorem dp_list {a : Addr} {l : List Nat} (h : SqL K H a (nums l)) : Dp K H (.ref a) (.list (natD l)) := .lst h (dp_nums l)
theorem dp_rows {a : Addr} {R : List W36.Row} (h : RowsT K H a R) : Dp K H (.ref a) (.tuple (R.map rowD)) := by
  obtain ⟨vs, hT, hA⟩ := h
  refine .tup hT ?_
  have : ∀ (vs : List V) (R : List W36.Row), RowsAt K H vs R → DpAll K H vs (R.map rowD) := by
    intro vs
    induction vs with
    | nil =>
      intro R h
      have : R = [] := List.length_eq_zero_iff.mp h.1.symm
      subst this
      exact .nil
    | cons v vs ih =>
      intro R h
      cases R with
      | nil => exact absurd h.1 (by simp)
      | cons r R =>
        obtain ⟨t, e, ht⟩ := h.2 0 r rfl
        cases e
        refine .cons (.tup ht (dp_nums [r.1, r.2.1, r.2.2])) (ih R ⟨by simpa using h.1, fun i s hs => ?_⟩)
        exact h.2 (i + 1) s (by simpa using hs)
  exact this vs R hA
end
theorem natD_can : ∀ l : List Nat, PyData.canLayAll0 (natD l) = true
  | [] => rfl
  | x :: l => by
    show (PyData.canLay0 (.int (x : Int)) && PyData.canLayAll0 (natD l)) = true
    rw [natD_can l]; rfl
theorem natD_depth : ∀ l : List Nat, PyData.depthAll (natD l) ≤ 1
  | [] => by show 0 ≤ 1; decide
  | x :: l => by
    have := natD_depth l
    show max (PyData.depth (.int (x : Int))) (PyData.depthAll (natD l)) ≤ 1
    show max 0 (PyData.depthAll (natD l)) ≤ 1
    omega
theorem natD_shaped (l : List Nat) : SeqAt.shaped (.list (natD l)) = true := by
  unfold SeqAt.shaped
  rw [Bool.and_eq_true, decide_eq_true_eq]
  refine ⟨natD_can l, ?_⟩
  have := natD_depth l
  show PyData.depthAll (natD l) + 1 ≤ 64
  omega
theorem rows_can : ∀ R : List W36.Row, PyData.canLayAll0 (R.map rowD) = true
  | [] => rfl
  | r :: R => by
    show (PyData.canLayAll0 (natD [r.1, r.2.1, r.2.2]) && PyData.canLayAll0 (R.map rowD)) = true
    rw [rows_can R, natD_can]; rfl
theorem rows_depth : ∀ R : List W36.Row, PyData.depthAll (R.map rowD) ≤ 2
  | [] => by show 0 ≤ 2; decide
  | r :: R => by
    have h1 := rows_depth R
    have h2 := natD_depth [r.1, r.2.1, r.2.2]
    show max (PyData.depthAll (natD [r.1, r.2.1, r.2.2]) + 1) (PyData.depthAll (R.map rowD)) ≤ 2
    omega
theorem rows_shaped (R : List W36.Row) : SeqAt.shaped (.tuple (R.map rowD)) = true := by
  unfold SeqAt.shaped
  rw [Bool.and_eq_true, decide_eq_true_eq]
  refine ⟨rows_can R, ?_⟩
  have := rows_depth R
  show PyData.depthAll (R.map rowD) + 1 ≤ 64
  omega
theorem eqv_empty (l : List Nat) : PyData.eqv (.list (natD l)) (.list (natD [])) = decide (l = []) := by
  cases l with
  | nil => rfl
  | cons x l => rfl
theorem eqv_int (x y : Nat) : PyData.eqv (.int (x : Int)) (.int (y : Int)) = decide (x = y) := by
  show ((x : Int) == (y : Int)) = _
  by_cases h : x = y
  · subst h; simp
  · rw [decide_eq_false h]
    exact beq_eq_false_iff_ne.mpr fun e => h (Int.ofNat.inj e)
theorem eqv_row (r s : W36.Row) : PyData.eqv (rowD r) (rowD s) = decide (r = s) := by
  obtain ⟨a, b, c⟩ := r
  obtain ⟨x, y, z⟩ := s
  show (PyData.eqv (.int (a : Int)) (.int (x : Int)) && (PyData.eqv (.int (b : Int)) (.int (y : Int)) && (PyData.eqv (.int (c : Int)) (.int (z : Int)) && true))) = _
  rw [eqv_int, eqv_int, eqv_int, Bool.and_true]
  by_cases h1 : a = x
  · by_cases h2 : b = y
    · by_cases h3 : c = z
      · subst h1; subst h2; subst h3; simp
      · simp [h1, h2, h3]
    · simp [h1, h2]
  · simp [h1]
theorem eqv_rows : ∀ R S : List W36.Row, PyData.eqvAll (R.map rowD) (S.map rowD) = decide (R = S)
  | [], [] => rfl
  | [], _ :: _ => rfl
  | _ :: _, [] => rfl
  | r :: R, s :: S => by
    show (PyData.eqv (rowD r) (rowD s) && PyData.eqvAll (R.map rowD) (S.map rowD)) = _
    rw [eqv_row, eqv_rows R S]
    by_cases h1 : r = s
    · by_cases h2 : R = S
      · subst h1; subst h2; simp
      · simp [h1, h2]
    · simp [h1]
end W36
end

section
set_option linter.all false
set_option maxRecDepth 100000
set_option maxHeartbeats 4000000
/-! What blocks_of keeps between two steps. -/
namespace W36
open PySem PySem.Spec PyProof.Rows L2
section
variable {K : PySem.W.Frag}
theorem SrcD.upd {H : Hp} {p x : Addr} {B : Nat} {C : Nat → Nat → List Nat} {o o' : HO} (h : SrcD H p B C) (hx : H x = some o) (h1 : ∀ xs, o ≠ .tup xs) (h2 : ∀ kvs, o ≠ .dT kvs) : SrcD (L2.upd H x o') p B C := by
  obtain ⟨kvs, a, b, c⟩ := h
  have n1 : p ≠ x := ne_of a hx fun e => h2 _ e.symm
  refine ⟨kvs, by rw [upd_ne n1]; exact a, b, fun d t hd => ?_⟩
  rcases c d t hd with z | ⟨u, z1, z2, z3⟩
  · exact .inl z
  · have n2 : u ≠ x := ne_of z2 hx fun e => h1 _ e.symm
    exact .inr ⟨u, z1, by rw [upd_ne n2]; exact z2, z3⟩
structure BS (H0 H : Hp) (bp gp wp sp : Addr) (R : List W36.Row) (cnt : Nat) (b : List Nat) (G : Nat → List Nat) (work : List Nat) : Prop where
  same : Same H0 H
  blk : H bp = some (.lst (nums b))
  grp : ∃ kvs, H gp = some (.dK kvs) ∧ kvs.length = cnt ∧ (∀ nm : Nat, cnt ≤ nm → valV kvs (Sum.inl (nm : Int) : Key) = none) ∧
    ∀ nm : Nat, nm < cnt → ∃ l, valV kvs (Sum.inl (nm : Int) : Key) = some (.ref l) ∧ l ≠ bp ∧ l ≠ wp ∧ H l = some (.lst (nums (G nm)))
  wrk : H wp = some (.lst (nums work))
  src : SrcD H sp 1000 (srcs R)
  ne : bp ≠ wp
  nb : H0 bp = none
  ng : H0 gp = none
  nw : H0 wp = none
section
variable {H0 H H' : Hp} {bp gp wp sp : Addr} {R : List W36.Row} {cnt : Nat} {b b2 : List Nat} {G : Nat → List Nat} {work w2 : List Nat}
theorem BS.ext (h : BS H0 H bp gp wp sp R cnt b G work) (e : Same H H') : BS H0 H' bp gp wp sp R cnt b G work := by
  obtain ⟨kvs, g1, g2, g3, g4⟩ := h.grp
  refine ⟨h.same.trans e, e _ _ h.blk, ⟨kvs, e _ _ g1, g2, g3, fun nm hn => ?_⟩, e _ _ h.wrk, h.src.same e, h.ne, h.nb, h.ng, h.nw⟩
  obtain ⟨l, a1, a2, a3, a4⟩ := g4 nm hn
  exact ⟨l, a1, a2, a3, e _ _ a4⟩
theorem BS.setB (h : BS H0 H bp gp wp sp R cnt b G work) : BS H0 (upd H bp (.lst (nums b2))) bp gp wp sp R cnt b2 G work := by
  obtain ⟨kvs, g1, g2, g3, g4⟩ := h.grp
  have n1 : gp ≠ bp := ne_of g1 h.blk fun z => nomatch z
  refine ⟨same_mut h.same h.nb, upd_same, ⟨kvs, by rw [upd_ne n1]; exact g1, g2, g3, fun nm hn => ?_⟩, by rw [upd_ne h.ne.symm]; exact h.wrk, h.src.upd h.blk (fun _ z => nomatch z) (fun _ z => nomatch z), h.ne, h.nb, h.ng, h.nw⟩
  obtain ⟨l, a1, a2, a3, a4⟩ := g4 nm hn
  exact ⟨l, a1, a2, a3, by rw [upd_ne a2]; exact a4⟩
theorem BS.setW (h : BS H0 H bp gp wp sp R cnt b G work) : BS H0 (upd H wp (.lst (nums w2))) bp gp wp sp R cnt b G w2 := by
  obtain ⟨kvs, g1, g2, g3, g4⟩ := h.grp
  have n1 : gp ≠ wp := ne_of g1 h.wrk fun z => nomatch z
  refine ⟨same_mut h.same h.nw, by rw [upd_ne h.ne]; exact h.blk, ⟨kvs, by rw [upd_ne n1]; exact g1, g2, g3, fun nm hn => ?_⟩, upd_same, h.src.upd h.wrk (fun _ z => nomatch z) (fun _ z => nomatch z), h.ne, h.nb, h.ng, h.nw⟩
  obtain ⟨l, a1, a2, a3, a4⟩ := g4 nm hn
  exact ⟨l, a1, a2, a3, by rw [upd_ne a3]; exact a4⟩
theorem inl_ne {x y : Nat} (h : x ≠ y) : ¬ (Sum.inl (x : Int) : Key) = Sum.inl (y : Int) := fun e => h (by injection e with e; exact Int.ofNat.inj e)
theorem putK_len_old {kvs : List (Key × V)} {k : Key} {v w : V} (h : valV kvs k = some w) : (putK kvs k v).length = kvs.length := by
  unfold putK
  rw [valV_any, h, if_pos (show (some w).isSome = true from rfl), List.length_map]
theorem BS.put (h : BS H0 H bp gp wp sp R cnt b G work) {kvs : List (Key × V)} (hk : H gp = some (.dK kvs)) {name l : Nat} {xs : List Nat} (hn : name ≤ cnt) (hl : H l = some (.lst (nums xs))) (n1 : l ≠ bp) (n2 : l ≠ wp) :
    BS H0 (upd H gp (.dK (putK kvs (Sum.inl (name : Int)) (.ref l)))) bp gp wp sp R (if name = cnt then cnt + 1 else cnt) b (fun nm => if nm = name then xs else G nm) work := by
  obtain ⟨kvs', g1, g2, g3, g4⟩ := h.grp
  rw [hk] at g1
  cases g1
  have m1 : bp ≠ gp := ne_of h.blk hk fun z => nomatch z
  have m2 : wp ≠ gp := ne_of h.wrk hk fun z => nomatch z
  refine ⟨same_mut h.same h.ng, by rw [upd_ne m1]; exact h.blk, ⟨_, upd_same, ?_, fun nm hnm => ?_, fun nm hnm => ?_⟩, by rw [upd_ne m2]; exact h.wrk, h.src.upd hk (fun _ z => nomatch z) (fun _ z => nomatch z), h.ne, h.nb, h.ng, h.nw⟩
  · by_cases hc : name = cnt
    · subst hc
      rw [if_pos rfl, putK_new _ (g3 name (Nat.le_refl _)), List.length_append, g2]; rfl
    · obtain ⟨l2, a1, _⟩ := g4 name (by omega)
      rw [if_neg hc, putK_len_old a1, g2]
  · rw [valV_put]
    have : nm ≠ name := by
      intro e
      subst e
      by_cases hc : nm = cnt
      · rw [if_pos hc] at hnm; omega
      · rw [if_neg hc] at hnm; omega
    rw [if_neg (inl_ne this)]
    refine g3 nm ?_
    by_cases hc : name = cnt
    · rw [if_pos hc] at hnm; omega
    · rw [if_neg hc] at hnm; omega
  · rw [valV_put]
    show ∃ l', _ ∧ _ ∧ _ ∧ upd H gp _ l' = some (.lst (nums (if nm = name then xs else G nm)))
    by_cases hc : nm = name
    · subst hc
      rw [if_pos rfl, if_pos rfl]
      exact ⟨l, rfl, n1, n2, by rw [upd_ne (ne_of hl hk fun z => nomatch z)]; exact hl⟩
    · rw [if_neg (inl_ne hc), if_neg hc]
      obtain ⟨l2, a1, a2, a3, a4⟩ := g4 nm (by
        by_cases hd : name = cnt
        · rw [if_pos hd] at hnm; omega
        · rw [if_neg hd] at hnm; omega)
      exact ⟨l2, a1, a2, a3, by rw [upd_ne (ne_of a4 hk fun z => nomatch z)]; exact a4⟩
end
end
/-! ### what is marked -/
def marks (R : List W36.Row) (d : Nat) (ts : List Nat) : List Nat := ts.flatMap (srcs R d)
theorem mem_srcs {R : List W36.Row} {d t q : Nat} : q ∈ srcs R d t ↔ q < R.length ∧ step R q d = t := by
  unfold srcs srcUpto
  rw [List.mem_filter, List.mem_range]
  exact ⟨fun h => ⟨h.1, by simpa using h.2⟩, fun h => ⟨h.1, by simpa using h.2⟩⟩
theorem mem_marks {R : List W36.Row} {d q : Nat} {ts : List Nat} : q ∈ marks R d ts ↔ q < R.length ∧ step R q d ∈ ts := by
  unfold marks
  rw [List.mem_flatMap]
  constructor
  · rintro ⟨t, ht, h⟩
    obtain ⟨h1, h2⟩ := mem_srcs.mp h
    exact ⟨h1, h2 ▸ ht⟩
  · rintro ⟨h1, h2⟩
    exact ⟨_, h2, mem_srcs.mpr ⟨h1, rfl⟩⟩
theorem nd_srcs (R : List W36.Row) (d t : Nat) : (srcs R d t).Nodup := List.nodup_range.sublist List.filter_sublist
theorem nd_marks {R : List W36.Row} {d : Nat} : ∀ {ts : List Nat}, ts.Nodup → (marks R d ts).Nodup
  | [], _ => List.nodup_nil
  | t :: ts, h => by
    obtain ⟨h1, h2⟩ := List.nodup_cons.mp h
    show (srcs R d t ++ marks R d ts).Nodup
    refine List.nodup_append.mpr ⟨nd_srcs R d t, nd_marks h2, fun x hx y hy e => ?_⟩
    subst e
    obtain ⟨_, e1⟩ := mem_srcs.mp hx
    obtain ⟨_, e2⟩ := mem_marks.mp hy
    rw [e1] at e2
    exact h1 e2
theorem marks_snoc (R : List W36.Row) (d : Nat) (ts : List Nat) (t : Nat) : marks R d (ts ++ [t]) = marks R d ts ++ srcs R d t := by
  unfold marks
  rw [List.flatMap_append]; simp
theorem in_nums {x : Nat} : ∀ {l : List Nat}, inV (.int (x : Int)) (nums l) = decide (x ∈ l)
  | [] => by simp [inV]
  | y :: l => by
    have ih := @in_nums x l
    show (((y : Int) == (x : Int)) || inV (.int (x : Int)) (nums l)) = decide (x ∈ y :: l)
    rw [ih]
    by_cases h : y = x
    · subst h; simp
    · have : ((y : Int) == (x : Int)) = false := beq_eq_false_iff_ne.mpr fun e => h (Int.ofNat.inj e)
      rw [this, Bool.false_or]
      have h' : x ≠ y := fun e => h e.symm
      simp [h']
theorem flat_nums (l : List Nat) : (nums l).all flatV = true := by
  rw [List.all_eq_true]
  intro v hv
  obtain ⟨x, _, rfl⟩ := List.mem_map.mp hv
  rfl
end W36
end

section
set_option linter.all false
set_option maxRecDepth 100000
set_option maxHeartbeats 8000000
/-! blocks_of. -/
namespace W36
open PySem PySem.Spec PyProof.Rows L2
theorem dget_n {H : Hp} {d : Addr} {kvs : List (Key × V)} {n : Nat} {v : V} (h : H d = some (.dK kvs)) (e : valV kvs (Sum.inl (n : Int) : Key) = some v) : DGet H d (.int (n : Int)) (some v) := by
  rw [← e]; exact DGet.k (k := Sum.inl (n : Int)) h
/-- a list that is read and never written here -/
structure Pin (H : Hp) (bp gp wp l : Addr) (xs : List V) : Prop where
  at_ : H l = some (.lst xs)
  nb : l ≠ bp
  nw : l ≠ wp
theorem Pin.ext {H H' : Hp} {bp gp wp l : Addr} {xs : List V} (h : Pin H bp gp wp l xs) (e : Same H H') : Pin H' bp gp wp l xs := ⟨e _ _ h.at_, h.nb, h.nw⟩
theorem Pin.setB {H : Hp} {bp gp wp l : Addr} {xs : List V} {o : HO} (h : Pin H bp gp wp l xs) : Pin (upd H bp o) bp gp wp l xs := ⟨by rw [upd_ne h.nb]; exact h.at_, h.nb, h.nw⟩
theorem Pin.setW {H : Hp} {bp gp wp l : Addr} {xs : List V} {o : HO} (h : Pin H bp gp wp l xs) : Pin (upd H wp o) bp gp wp l xs := ⟨by rw [upd_ne h.nw]; exact h.at_, h.nb, h.nw⟩
theorem Pin.setG {H : Hp} {bp gp wp l : Addr} {xs : List V} {o : HO} {kvs : List (Key × V)} (h : Pin H bp gp wp l xs) (hg : H gp = some (.dK kvs)) : Pin (upd H gp o) bp gp wp l xs := ⟨by rw [upd_ne (ne_of h.at_ hg fun z => nomatch z)]; exact h.at_, h.nb, h.nw⟩
theorem Pin.new {H H0 : Hp} {bp gp wp sp l : Addr} {xs : List V} {R : List W36.Row} {cnt : Nat} {b : List Nat} {G : Nat → List Nat} {work : List Nat} (B : BS H0 H bp gp wp sp R cnt b G work) {H' : Hp} (n : H l = none) (e : H' l = some (.lst xs)) : Pin H' bp gp wp l xs :=
  ⟨e, fun z => (by rw [z, B.blk] at n; cases n), fun z => (by rw [z, B.wrk] at n; cases n)⟩
theorem filt_range {R : List W36.Row} {i : Nat} {f : Nat → Bool} : (List.range (i + 1)).filter f = (List.range i).filter f ++ (if f i = true then [i] else []) := by
  rw [List.range_succ, List.filter_append, List.filter_cons]
  by_cases h : f i = true
  · rw [if_pos h, if_pos h]; rfl
  · rw [if_neg h, if_neg h]; rfl
theorem filt_take {l : List Nat} {i x : Nat} {f : Nat → Bool} (h : l[i]? = some x) : (l.take (i + 1)).filter f = (l.take i).filter f ++ (if f x = true then [x] else []) := by
  rw [List.take_add_one, h, List.filter_append]
  show _ ++ List.filter f [x] = _
  rw [List.filter_cons]
  by_cases h : f x = true
  · rw [if_pos h, if_pos h]; rfl
  · rw [if_neg h, if_neg h]; rfl
theorem stab_any {R : List W36.Row} {b work T U : List Nat} (h : Stab R b work 2 T) : Stab R b work 2 U := fun p q hp hq e d hd => by
  rcases h p q hp hq e d hd with c | c | ⟨c, _⟩
  · exact .inl c
  · exact .inr (.inl c)
  · omega
theorem at0_get {b : List Nat} {q : Nat} (h : q < b.length) : b[q]? = some (at0 b q) := by
  show b[q]? = some (b.getD q 0)
  rw [List.getD_eq_getElem?_getD]
  obtain ⟨r, e⟩ := get_lt h
  rw [e]; rfl
theorem ixN_nat {n q : Nat} (h : q < n) : ixN n (q : Int) = some q := by
  unfold ixN
  rw [if_pos (by omega), if_pos (by omega)]; rfl
theorem nums_set {l : List Nat} {q x : Nat} : (nums l).set q (.int (x : Int)) = nums (l.set q x) := by
  unfold nums; rw [List.map_set]
theorem at0_set {l : List Nat} {q x y : Nat} (h : q < l.length) : at0 (l.set q x) y = if y = q then x else at0 l y := by
  show (l.set q x).getD y 0 = if y = q then x else l.getD y 0
  rw [List.getD_eq_getElem?_getD, List.getD_eq_getElem?_getD, List.getElem?_set]
  by_cases e : q = y
  · subst e; rw [if_pos rfl, if_pos rfl, if_pos h]; rfl
  · rw [if_neg e, if_neg (fun z => e z.symm)]
/-- what stands through the splitting: the pair of digits, the places reached, the marked, the names -/
structure Std (H : Hp) (bp gp wp : Addr) (tp : Addr) (ls : List (Addr × List Nat)) : Prop where
  tup : H tp = some (.tup [.int 0, .int 1])
  lst : ∀ e ∈ ls, H e.1 = some (.lst (nums e.2)) ∧ e.1 ≠ bp ∧ e.1 ≠ wp
theorem Std.ext {H H' : Hp} {bp gp wp tp : Addr} {ls : List (Addr × List Nat)} (h : Std H bp gp wp tp ls) (e : Same H H') : Std H' bp gp wp tp ls := ⟨e _ _ h.tup, fun x hx => ⟨e _ _ (h.lst x hx).1, (h.lst x hx).2⟩⟩
theorem Std.add {H : Hp} {bp gp wp tp l : Addr} {xs : List Nat} {ls : List (Addr × List Nat)} (h : Std H bp gp wp tp ls) (e : H l = some (.lst (nums xs))) (n1 : l ≠ bp) (n2 : l ≠ wp) : Std H bp gp wp tp ((l, xs) :: ls) :=
  ⟨h.tup, fun x hx => (List.mem_cons.mp hx).elim (fun z => by subst z; exact ⟨e, n1, n2⟩) (h.lst x)⟩
theorem Std.less {H : Hp} {bp gp wp tp : Addr} {e : Addr × List Nat} {ls : List (Addr × List Nat)} (h : Std H bp gp wp tp (e :: ls)) : Std H bp gp wp tp ls := ⟨h.tup, fun x hx => h.lst x (List.mem_cons_of_mem _ hx)⟩
theorem Std.setB {H : Hp} {bp gp wp tp : Addr} {ls : List (Addr × List Nat)} {xs : List V} {o : HO} (h : Std H bp gp wp tp ls) (hb : H bp = some (.lst xs)) : Std (upd H bp o) bp gp wp tp ls :=
  ⟨by rw [upd_ne (ne_of h.tup hb fun z => nomatch z)]; exact h.tup, fun x hx => let z := h.lst x hx; ⟨by rw [upd_ne z.2.1]; exact z.1, z.2⟩⟩
theorem Std.setW {H : Hp} {bp gp wp tp : Addr} {ls : List (Addr × List Nat)} {xs : List V} {o : HO} (h : Std H bp gp wp tp ls) (hb : H wp = some (.lst xs)) : Std (upd H wp o) bp gp wp tp ls :=
  ⟨by rw [upd_ne (ne_of h.tup hb fun z => nomatch z)]; exact h.tup, fun x hx => let z := h.lst x hx; ⟨by rw [upd_ne z.2.2]; exact z.1, z.2⟩⟩
theorem Std.setG {H : Hp} {bp gp wp tp : Addr} {ls : List (Addr × List Nat)} {kvs : List (Key × V)} {o : HO} (h : Std H bp gp wp tp ls) (hb : H gp = some (.dK kvs)) : Std (upd H gp o) bp gp wp tp ls :=
  ⟨by rw [upd_ne (ne_of h.tup hb fun z => nomatch z)]; exact h.tup, fun x hx => let z := h.lst x hx; ⟨by rw [upd_ne (ne_of z.1 hb fun y => nomatch y)]; exact z.1, z.2⟩⟩
theorem new_ne {H0 H : Hp} {bp gp wp sp l : Addr} {R : List W36.Row} {cnt : Nat} {b : List Nat} {G : Nat → List Nat} {work : List Nat} (B : BS H0 H bp gp wp sp R cnt b G work) (n : H l = none) : l ≠ bp ∧ l ≠ wp :=
  ⟨fun z => (by rw [z, B.blk] at n; cases n), fun z => (by rw [z, B.wrk] at n; cases n)⟩
theorem marks_take {R : List W36.Row} {d i t : Nat} {T : List Nat} (h : T[i]? = some t) : marks R d (T.take (i + 1)) = marks R d (T.take i) ++ srcs R d t := by
  rw [List.take_add_one, h]
  exact marks_snoc R d _ t
theorem marks_len {R : List W36.Row} {d i : Nat} {T : List Nat} (h : T.Nodup) : (marks R d (T.take i)).length ≤ R.length :=
  nodup_le _ _ (nd_marks (h.sublist (List.take_sublist i T))) fun x hx => (mem_marks.mp hx).1
section
variable {P : Program} {w : World} {K : PySem.W.Frag} {mg : Str → Option Value} {base : Heap}
def sp_blocks_of (K : PySem.W.Frag) : Sp := fun vs H Q _ => ∃ (a : Addr) (R : List W36.Row), vs = [.ref a] ∧ RowsL K H a R ∧ Valid R ∧ R.length ≤ 60 ∧
  ∀ H' p b, Same H H' → H p = none → H' p = some (.lst (nums b)) → BlockOk R b → Q (.ref p) H'
theorem ok_blocks_of (T : Txt K mg) : FnOk P w K mg base CX0 2 T.a_blocks_of T.d_blocks_of ["rows"] (sp_blocks_of K) := by
  refine T.F_blocks_of.ok sc_blocks_of (fun vs H Q E h => ?_) (fun cdv A outer s H vs Q E hr h => ?_)
  · obtain ⟨a, R, rfl, _⟩ := h
    rfl
  · obtain ⟨a, R, rfl, hR, hv, h60, q⟩ := h
    obtain ⟨ts, hL, hA⟩ := id hR
    refine ⟨_, (pss_cons (ps_set (i := 1) sc_blocks_of.nd rfl (Or.inr rfl) (pe_lc (own := [("row", 13)]) rfl sc_blocks_of.nd (pi_list (pv 0)) (blkOk_by (N := N_blocks_of) (sc := defScope s_blocks_of) (by decide +kernel)) (fun _ _ _ _ _ => (pg_name (i := 13) sc_blocks_of.nd rfl (Or.inl rfl))) (fun _ _ _ _ _ => pts_nil) (fun _ _ _ _ _ => (pe_ix (ixt (K := K) rfl) (pv 13) pe_int (fun _ _ => rfl)))))
      (pss_cons (ps_setLc (i := 2) (own := [("at", 12), ("row", 13)]) rfl sc_blocks_of.nd rfl rfl (sw_true rfl rfl rfl (by decide +kernel)) (pi_enum (by rfl) T.n_enumerate (pa_cons (pv 0) pa_nil)) (blkOk_by (N := N_blocks_of) (sc := defScope s_blocks_of) (by decide +kernel)) (fun _ _ _ _ _ => (pg_tupK (K := K) (n := 2) rfl rfl (pgs_cons (pg_name (i := 12) sc_blocks_of.nd rfl (Or.inl rfl)) (pgs_cons (pg_name (i := 13) sc_blocks_of.nd rfl (Or.inl rfl)) pgs_nil)))) (fun _ _ _ _ _ => (pts_one (pt_cmpR op_eq (pe_ix (ixt (K := K) rfl) (pv 13) pe_int (fun _ _ => rfl)) pe_int (nomark _)))) (fun _ _ _ _ _ => (pv 12)))
      (pss_cons (ps_set (i := 3) sc_blocks_of.nd rfl (Or.inl rfl) (pe_disp (pps_cons pe_int (pv 2) (pps_cons pe_int (pe_lc (own := [("at", 12), ("row", 13)]) rfl sc_blocks_of.nd (pi_enum (by rfl) T.n_enumerate (pa_cons (pv 0) pa_nil)) (blkOk_by (N := N_blocks_of) (sc := defScope s_blocks_of) (by decide +kernel)) (fun _ _ _ _ _ => (pg_tupK (K := K) (n := 2) rfl rfl (pgs_cons (pg_name (i := 12) sc_blocks_of.nd rfl (Or.inl rfl)) (pgs_cons (pg_name (i := 13) sc_blocks_of.nd rfl (Or.inl rfl)) pgs_nil)))) (fun _ _ _ _ _ => (pts_one (pt_cmpR op_eq (pe_ix (ixt (K := K) rfl) (pv 13) pe_int (fun _ _ => rfl)) pe_int (nomark _)))) (fun _ _ _ _ _ => (pv 12))) pps_nil)) (by rfl) (by rfl) (fun z => by cases z) (by decide)))
      (pss_cons (ps_set (i := 4) sc_blocks_of.nd rfl (Or.inr rfl) (pe_call (ok_sources_of T) (hr.mono (by decide)) (by rfl) T.g_sources_of T.F_sources_of.kp T.b_sources_of .nil pass0 (pa_cons (pv 0) pa_nil)))
      (pss_cons (ps_set (i := 5) sc_blocks_of.nd rfl (Or.inl rfl) (pe_lst (pa_cons pe_int (pa_cons pe_int pa_nil))))
      (pss_cons (ps_while PassesOwn.never (pt_cmpR (op_neD hr.units) (pv 5) (pe_lst pa_nil) (nomark _))
      (pss_cons (ps_set (i := 6) sc_blocks_of.nd rfl (Or.inl rfl) (pe_dget (hu_of hr) (pv 3) (pe_bm0 PySem.F.plainAttrs_list PySem.F.slot_list_pop PySem.F.type_list_pop mt_pop (pv 5)) (fun _ _ => rfl)))
        (pss_one (ps_for PassesOwn.never rfl (pi_tup (pe_tup (pa_cons pe_int (pa_cons pe_int pa_nil)))) (pg_name (i := 7) sc_blocks_of.nd rfl (Or.inr rfl))
        (pss_cons (ps_setLc2 (i := 8) (own := [("target", 14), ("source", 15)]) (vs1 := [15]) rfl sc_blocks_of.nd rfl rfl (sw_true rfl rfl rfl (by decide +kernel)) (pi_list (pv 6)) (blkOk_by (N := N_blocks_of) (sc := defScope s_blocks_of) (by decide +kernel)) (by decide) (fun _ _ _ _ _ => (pg_name (i := 14) sc_blocks_of.nd rfl (Or.inl rfl))) (fun _ _ _ _ _ => pts_nil) (fun _ _ _ _ _ => (pi_tupK (K := K) rfl (pe_dget2 (hu_of hr) (pv 4) (pe_tup (pa_cons (pv 7) (pa_cons (pv 14) pa_nil))) (pe_tup pa_nil) ⟨rfl, by rfl, by rfl, by rfl⟩))) (fun _ _ _ _ _ => (pg_name (i := 15) sc_blocks_of.nd rfl (Or.inl rfl))) (fun _ _ _ _ _ => pts_nil) (fun _ _ _ _ _ => (pv 15)))
          (pss_one (ps_for PassesOwn.never rfl (pi_list (pe_callB (cr_sortedSet rfl) (by rfl) T.n_sorted (by decide +kernel) (pa_cons (pe_sI (own := [("source", 15)]) rfl sc_blocks_of.nd (pi_list (pv 8)) (blkOk_by (N := N_blocks_of) (sc := defScope s_blocks_of) (by decide +kernel)) (fun _ _ _ _ _ => (pg_name (i := 15) sc_blocks_of.nd rfl (Or.inl rfl))) (fun _ _ _ _ _ => (pe_ix (ixl (K := K) rfl) (pv 1) (pv 15) (fun _ _ => rfl)))) pa_nil))) (pg_name (i := 9) sc_blocks_of.nd rfl (Or.inr rfl))
          (pss_cons (ps_setLc (i := 10) (own := [("source", 15)]) rfl sc_blocks_of.nd rfl rfl (sw_true rfl rfl rfl (by decide +kernel)) (pi_list (pv 8)) (blkOk_by (N := N_blocks_of) (sc := defScope s_blocks_of) (by decide +kernel)) (fun _ _ _ _ _ => (pg_name (i := 15) sc_blocks_of.nd rfl (Or.inl rfl))) (fun _ _ _ _ _ => (pts_one (pt_cmpR op_eq (pe_ix (ixl (K := K) rfl) (pv 1) (pv 15) (fun _ _ => rfl)) (pv 9) (nomark _)))) (fun _ _ _ _ _ => (pv 15)))
            (pss_one (ps_if (pt_cmpR op_lt (pe_callB call_len_seq (by rfl) T.n_len (by decide +kernel) (pa_cons (pv 10) pa_nil)) (pe_callB call_len_seq (by rfl) T.n_len (by decide +kernel) (pa_cons (pe_dget (hu_of hr) (pv 3) (pv 9) (fun _ _ => rfl)) pa_nil)) (nomark _))
            (pss_cons (ps_set (i := 11) sc_blocks_of.nd rfl (Or.inl rfl) (pe_callB call_lenD (by rfl) T.n_len (by decide +kernel) (pa_cons (pv 3) pa_nil)))
              (pss_cons (ps_for PassesOwn.never rfl (pi_list (pv 10)) (pg_name (i := 12) sc_blocks_of.nd rfl (Or.inl rfl))
              (pss_one (ps_asg (pv 11) (pg_sub (pv 1) (pv 12) set_list))))
              (pss_cons (ps_dput (hu_of hr) (pv 3) (pv 11) (pv 10) rfl)
              (pss_cons (ps_dput (hu_of hr) (pv 3) (pv 9) (pe_lc (own := [("at", 12)]) rfl sc_blocks_of.nd (pi_list (pe_dget (hu_of hr) (pv 3) (pv 9) (fun _ _ => rfl))) (blkOk_by (N := N_blocks_of) (sc := defScope s_blocks_of) (by decide +kernel)) (fun _ _ _ _ _ => (pg_name (i := 12) sc_blocks_of.nd rfl (Or.inl rfl))) (fun _ _ _ _ _ => (pts_one (pt_cmpR op_eq (pe_ix (ixl (K := K) rfl) (pv 1) (pv 12) (fun _ _ => rfl)) (pv 9) (nomark _)))) (fun _ _ _ _ _ => (pv 12))) rfl)
              (pss_one (ps_expr (pe_bm PySem.F.plainAttrs_list PySem.F.slot_list_append PySem.F.type_list_append mt_append (pv 5) (pa_cons (pe_ifExp (PW.pt (pw_or (pt_cmpR op_in_seq (pv 9) (pv 5) (by with_unfolding_all rfl)) (pw_or1 (pt_cmpR op_le (pe_callB call_len_seq (by rfl) T.n_len (by decide +kernel) (pa_cons (pv 10) pa_nil)) (pe_callB call_len_seq (by rfl) T.n_len (by decide +kernel) (pa_cons (pe_dget (hu_of hr) (pv 3) (pv 9) (fun _ _ => rfl)) pa_nil)) (nomark _))))) (pv 11) (pv 9)) pa_nil))))))))
            pss_nil))))))))))
      (pss_one (ps_ret (pv 1))))))))), ?_⟩
    -- block = [row[2] for row in rows]
    refine ⟨_, rfl, a, rfl, ⟨_, hL⟩, fun bp nbp => ?_⟩
    refine lc_list (K := K) (a := a) (xs := ts) (fun i H' => Same H H' ∧ H' bp = some (.lst (nums ((tab R (ins R)).take i)))) ⟨same_new nbp, upd_same⟩ (fun i H' _ p => p.1.seq hL) (fun i x H' hi p => ?_) (fun H1 p => ?_)
    · obtain ⟨sm, eD⟩ := p
      obtain ⟨r, t, er, rfl, ht⟩ := hA.of hi
      have hil := lt_get er
      refine ⟨rfl, ?_⟩
      refine ⟨_, rfl, t, _, 2, _, rfl, rfl, Same.sqt sm ht, rowV2 r, ?_⟩
      refine ⟨_, eD, szs (by rw [nums_len, List.length_take]; omega), same_mut sm nbp, ?_⟩
      rw [upd_same, tab_take _ _ hil, nums_app, ins_get er]
    obtain ⟨S1, eB⟩ := p
    rw [hA.1, tab_all] at eB
    -- the two groups, over enumerate
    have two : ∀ (H1 : Hp) (D : Addr) (c : Nat), Same H H1 → H1 D = none → ∀ (Pv : Nat → Hp → Prop), Pv = (fun i H' => Same H1 H' ∧ H' D = some (.lst (nums ((List.range i).filter fun q => ins R q == c)))) →
        ∀ (i : Nat) (x : V) (H' H'' : Hp), i < ts.length → Pv i H' → YPair (fun i => some (.int (i : Nat))) (fun i => ts[i]?) i H' x H'' → ∃ (t tr : Addr) (r : W36.Row), x = .ref t ∧ H'' t = some (.tup [.int (i : Int), .ref tr]) ∧ SqT K H'' tr (rowV r) ∧ R[i]? = some r ∧ Same H1 H'' ∧ H'' D = some (.lst (nums ((List.range i).filter fun q => ins R q == c))) := fun H1 D c s1 nD Pv ePv i x H' H'' hi p hy => by
      subst ePv
      obtain ⟨sm, eD⟩ := p
      obtain ⟨t, x1, x2, rfl, nt, rfl, ex1, ex2⟩ := hy
      cases ex1
      obtain ⟨r, tr, er, rfl, htr⟩ := hA.of ex2
      have smT := sm.trans (same_new (o := .tup [.int (i : Int), .ref tr]) nt)
      exact ⟨t, tr, r, rfl, upd_same, Same.sqt (s1.trans smT) htr, er, smT, by rw [upd_ne (ne_of_none eD nt)]; exact eD⟩
    -- outer = [at for at, row in enumerate(rows) if row[2] == 0]
    refine ⟨_, rfl, a, ts, rfl, S1.seq hL, fun op nop => ?_⟩
    refine lc_it (walk_enum (xs := ts)) (fun i H' => Same H1 H' ∧ H' op = some (.lst (nums ((List.range i).filter fun q => ins R q == 0)))) ⟨same_new nop, upd_same⟩ (fun i H' _ p => (S1.trans p.1).seq hL) (fun i x H' H'' hi p hy => ?_) (fun H2 p => ?_)
    · obtain ⟨t, tr, r, rfl, et, htr, er, sm, eD⟩ := two H1 op 0 S1 nop _ rfl i x H' H'' hi p hy
      have hil := lt_get er
      refine ⟨t, _, rfl, SqT.of et, rfl, _, _, rfl, _, _, rfl, rfl, rfl, ?_⟩
      refine ⟨_, rfl, tr, _, 2, _, rfl, rfl, htr, rowV2 r, rfl, _, rfl, ?_⟩
      rw [show decide (V.int ((r.2.2 : Nat) : Int) = V.int 0) = (r.2.2 == 0) from dec_int r.2.2 0]
      have ei := ins_get er
      refine ite2 (fun hb => ?_) (fun hb => ?_)
      · refine ⟨_, rfl, _, eD, szs ?_, same_mut sm nop, ?_⟩
        · rw [nums_len]
          have := List.length_filter_le (fun q => ins R q == 0) (List.range i)
          rw [List.length_range] at this
          omega
        · rw [upd_same, filt_range (R := R), if_pos (by rw [ei]; exact hb), nums_app]
      · refine ⟨sm, ?_⟩
        rw [filt_range (R := R), if_neg (by rw [ei]; exact hb), List.append_nil]; exact eD
    obtain ⟨s2, eO⟩ := p
    have S2 := S1.trans s2
    have eB2 := s2 bp _ eB
    -- groups = {0: outer, 1: [..]}
    intro gp ngp
    refine ⟨_, rfl, ?_⟩
    have s3 := same_new (o := .dK []) ngp
    refine ⟨_, rfl, a, ts, rfl, (S2.trans s3).seq hL, fun ip nip => ?_⟩
    refine lc_it (walk_enum (xs := ts)) (fun i H' => Same (upd H2 gp (.dK [])) H' ∧ H' ip = some (.lst (nums ((List.range i).filter fun q => ins R q == 1)))) ⟨same_new nip, upd_same⟩ (fun i H' _ p => ((S2.trans s3).trans p.1).seq hL) (fun i x H' H'' hi p hy => ?_) (fun H3 p => ?_)
    · obtain ⟨t, tr, r, rfl, et, htr, er, sm, eD⟩ := two _ ip 1 (S2.trans s3) nip _ rfl i x H' H'' hi p hy
      have hil := lt_get er
      refine ⟨t, _, rfl, SqT.of et, rfl, _, _, rfl, _, _, rfl, rfl, rfl, ?_⟩
      refine ⟨_, rfl, tr, _, 2, _, rfl, rfl, htr, rowV2 r, rfl, _, rfl, ?_⟩
      rw [show decide (V.int ((r.2.2 : Nat) : Int) = V.int 1) = (r.2.2 == 1) from dec_int r.2.2 1]
      have ei := ins_get er
      refine ite2 (fun hb => ?_) (fun hb => ?_)
      · refine ⟨_, rfl, _, eD, szs ?_, same_mut sm nip, ?_⟩
        · rw [nums_len]
          have := List.length_filter_le (fun q => ins R q == 1) (List.range i)
          rw [List.length_range] at this
          omega
        · rw [upd_same, filt_range (R := R), if_pos (by rw [ei]; exact hb), nums_app]
      · refine ⟨sm, ?_⟩
        rw [filt_range (R := R), if_neg (by rw [ei]; exact hb), List.append_nil]; exact eD
    obtain ⟨s4, eI⟩ := p
    rw [hA.1] at eO eI
    have eG3 : H3 gp = some (.dK []) := s4 gp _ upd_same
    refine ⟨eG3, [(Sum.inl 0, .ref op), (Sum.inl 1, .ref ip)], rfl, by show 2 ≤ 15; decide, ?_⟩
    have S3 : Same H H3 := (S2.trans s3).trans s4
    have ngpH : H gp = none := S2.free ngp
    -- sources = sources_of(rows)
    have S3' := same_mut (o := .dK (mergeK [] [((Sum.inl 0 : Key), V.ref op), (Sum.inl 1, .ref ip)])) S3 ngpH
    refine ⟨_, rfl, a, R, rfl, hR.same S3', hv, h60, fun H4 sp s5 nsp hsrc => ?_⟩
    -- work = [0, 1]
    refine ⟨by show 2 ≤ sizeLine; decide, fun wp nwp => ?_⟩
    have eB3 := s4 bp _ (same_new ngp bp _ eB2)
    have nbg : bp ≠ gp := ne_of_none eB2 ngp
    have nwpH : H wp = none := (S3'.trans s5).free nwp
    have e6 : ∀ {x : Addr} {o : HO}, H3 x = some o → x ≠ gp → (upd H4 wp (.lst [.int 0, .int 1])) x = some o := fun h n => by
      have h1 := s5 _ _ (show (upd H3 gp (.dK (mergeK [] [((Sum.inl 0 : Key), V.ref op), (Sum.inl 1, .ref ip)]))) _ = _ by rw [upd_ne n]; exact h)
      rw [upd_ne (ne_of_none h1 nwp)]; exact h1
    have eO3 := s4 op _ (same_new ngp op _ eO)
    have nOg : op ≠ gp := ne_of_none eO ngp
    have nIg : ip ≠ gp := ne_of eI eG3 fun z => nomatch z
    have eG4 : H4 gp = some (.dK (mergeK [] [((Sum.inl 0 : Key), V.ref op), (Sum.inl 1, .ref ip)])) := s5 gp _ upd_same
    have nOb : op ≠ bp := fun z => by rw [z, eB] at nop; cases nop
    have nIb : ip ≠ bp := fun z => by
      have := same_new (o := .dK []) ngp bp _ eB2
      rw [z, this] at nip; cases nip
    have eb6 := e6 eB3 nbg
    have eo6 := e6 eO3 nOg
    have ei6 := e6 eI nIg
    have nw_ : ∀ {x : Addr} {o : HO}, H3 x = some o → x ≠ gp → x ≠ wp := fun h n => by
      have h1 := s5 _ _ (show (upd H3 gp (.dK (mergeK [] [((Sum.inl 0 : Key), V.ref op), (Sum.inl 1, .ref ip)]))) _ = _ by rw [upd_ne n]; exact h)
      exact ne_of_none h1 nwp
    have B0 : BS H (upd H4 wp (.lst [.int 0, .int 1])) bp gp wp sp R 2 (tab R (ins R)) (fun nm => (List.range R.length).filter fun q => ins R q == nm) [0, 1] := by
      refine ⟨same_mut (S3'.trans s5) nwpH, eb6, ⟨_, (by rw [upd_ne (ne_of_none eG4 nwp)]; exact eG4), rfl, fun nm hnm => ?_, fun nm hnm => ?_⟩, upd_same, hsrc.same (same_new nwp), nw_ eB3 nbg, nbp, ngpH, nwpH⟩
      · have h0 : ¬ (Sum.inl (0 : Int) : Key) = Sum.inl (nm : Int) := inl_ne (x := 0) (by omega)
        have h1 : ¬ (Sum.inl (1 : Int) : Key) = Sum.inl (nm : Int) := inl_ne (x := 1) (by omega)
        show valV [((Sum.inl 0 : Key), V.ref op), (Sum.inl 1, .ref ip)] (Sum.inl (nm : Int)) = none
        rw [valV_neg h0, valV_neg h1]; rfl
      · have : nm = 0 ∨ nm = 1 := by omega
        rcases this with rfl | rfl
        · exact ⟨op, rfl, nOb, nw_ eO3 nOg, eo6⟩
        · exact ⟨ip, rfl, nIb, nw_ eI nIg, ei6⟩
    have hbl : (tab R (ins R)).length = R.length := tab_len _ _
    have hbi : ∀ q, q < R.length → at0 (tab R (ins R)) q = ins R q := fun q hq => by
      show (tab R (ins R)).getD q 0 = _
      rw [List.getD_eq_getElem?_getD, tab_get _ _ hq]; rfl
    have P0 : Part R 2 (tab R (ins R)) (fun nm => (List.range R.length).filter fun q => ins R q == nm) := by
      refine part_init hv hbl hbi (fun q => ?_) (fun q => ?_) (List.nodup_range.sublist List.filter_sublist) (List.nodup_range.sublist List.filter_sublist)
      · rw [List.mem_filter, List.mem_range]; simp
      · rw [List.mem_filter, List.mem_range]; simp
    have T0 : Stab R (tab R (ins R)) [0, 1] 2 [] := stab_init hv hbi
    -- while work != []
    refine ⟨fun m σ H' => ∃ cnt b G work z6 z7 z8 z9 z10 z11 z12 z13 z14 z15, m = 2 * (R.length + 2 - cnt) + work.length ∧ σ = [some (.ref a), some (.ref bp), some (.ref op), some (.ref gp), some (.ref sp), some (.ref wp), z6, z7, z8, z9, z10, z11, z12, z13, z14, z15] ∧
      BS H H' bp gp wp sp R cnt b G work ∧ Part R cnt b G ∧ Stab R b work 2 [] ∧ (∀ W ∈ work, W < cnt) ∧ work.length ≤ cnt,
      ⟨_, 2, _, _, [0, 1], none, none, none, none, none, none, none, none, none, none, rfl, rfl, B0, P0, T0, by simp, by decide⟩, fun m σ H5 hW => ?_⟩
    obtain ⟨cnt, b, G, work, z6, z7, z8, z9, z10, z11, z12, z13, z14, z15, em, rfl, B, hP, hS, hw, hwl⟩ := hW
    refine ⟨_, rfl, by show 0 ≤ sizeLine; decide, fun ep nep => ?_⟩
    have B1 := B.ext (same_new (o := .lst []) nep)
    refine ⟨.list (natD work), .list (natD []), dp_list (SqL.of B1.wrk), dp_list (SqL.of upd_same), natD_shaped _, natD_shaped _, _, rfl, ite2 (fun c => ?_) (fun c => ?_)⟩
    · rw [eqv_empty] at c
      have hne : work ≠ [] := by
        intro z
        rw [decide_eq_true z] at c
        cases c
      rcases List.eq_nil_or_concat work with z | ⟨wk, Wn, ewk⟩
      · exact absurd z hne
      rw [List.concat_eq_append] at ewk
      subst ewk
      have hWn : Wn < cnt := hw Wn (List.mem_append_right _ (List.mem_singleton.mpr rfl))
      refine ⟨_, fun σ' H' hN => hN, ?_⟩
      -- targets = groups[work.pop()]
      obtain ⟨kvs, hk, hkl, hkn, hkg⟩ := id B1.grp
      obtain ⟨lT, elT, nlb, nlw, eT⟩ := hkg Wn hWn
      have hcn := hP.cnt_le
      have hg : (nums (wk ++ [Wn]))[(nums (wk ++ [Wn])).length - 1]? = some (.int (Wn : Int)) := by
        rw [nums_app, List.length_append, List.length_singleton, Nat.add_sub_cancel, List.getElem?_append_right (Nat.le_refl _), Nat.sub_self]; rfl
      have hdl : (nums (wk ++ [Wn])).dropLast = nums wk := by rw [nums_app, List.dropLast_concat]
      have B2 := B1.setW (w2 := wk)
      have hwk : ∀ W ∈ wk, W < cnt := fun W h => hw W (List.mem_append_left _ h)
      have hk2 : (upd (upd H5 ep (.lst [])) wp (.lst (nums wk))) gp = some (.dK kvs) := by rw [upd_ne (ne_of hk B1.wrk fun z => nomatch z)]; exact hk
      have eT2 : (upd (upd H5 ep (.lst [])) wp (.lst (nums wk))) lT = some (.lst (nums (G Wn))) := by rw [upd_ne nlw]; exact eT
      refine ⟨_, rfl, ⟨_, rfl, .inl ⟨rfl, _, SqL.of B1.wrk⟩, wp, _, _, rfl, rfl, B1.wrk, hg, ?_⟩⟩
      rw [hdl]
      refine ⟨gp, .ref lT, rfl, dget_n hk2 elT, ?_⟩
      have hTn := hP.nd Wn hWn
      have hTc := part_closed hP hWn
      have hTm := hP.mem Wn hWn
      have T2 := stab_pop hv hP (U := []) hWn hS
      have hwl2 : wk.length + 1 ≤ cnt := by rw [List.length_append] at hwl; exact hwl
      have em2 : 2 * (R.length + 2 - cnt) + wk.length + 1 = m := by rw [em, List.length_append]; rfl
      clear em hwl hw hg hdl
      generalize eTl : G Wn = TT at *
      -- for digit in (0, 1)
      refine ⟨by show 2 ≤ sizeLine; decide, fun tp ntp => ?_⟩
      have nn := new_ne B2 ntp
      refine ⟨tp, rfl, ⟨_, SqT.of upd_same⟩, for_tup (K := K) (a := tp) (xs := [.int 0, .int 1]) (fun j σ H6 => ∃ cnt b G work z7 z8 z9 z10 z11 z12 z13 z14 z15, 2 * (R.length + 2 - cnt) + work.length + 1 ≤ m ∧ σ = [some (.ref a), some (.ref bp), some (.ref op), some (.ref gp), some (.ref sp), some (.ref wp), some (.ref lT), z7, z8, z9, z10, z11, z12, z13, z14, z15] ∧
        BS H H6 bp gp wp sp R cnt b G work ∧ Part R cnt b G ∧ Stab R b work j TT ∧ (∀ W ∈ work, W < cnt) ∧ work.length ≤ cnt ∧ Std H6 bp gp wp tp [(lT, TT)])
        ⟨cnt, b, G, wk, z7, z8, z9, z10, z11, z12, z13, z14, z15, by omega, rfl, B2.ext (same_new ntp), hP, T2, hwk, by omega, ⟨upd_same, fun e he => ?_⟩⟩ (fun j σ H6 _ hX => ?_) (fun j y σ H6 ej hX => ?_) (fun σ H6 hX => ?_)⟩
      · have := List.mem_singleton.mp he
        subst this
        exact ⟨by rw [upd_ne (ne_of_none eT2 ntp)]; exact eT2, nlb, nlw⟩
      · obtain ⟨cnt, b, G, work, z7, z8, z9, z10, z11, z12, z13, z14, z15, _, rfl, _, _, _, _, _, ST⟩ := hX
        exact SqT.of ST.tup
      · obtain ⟨cnt, b, G, work, z7, z8, z9, z10, z11, z12, z13, z14, z15, hm, rfl, B, hP, hS, hw, hwl, ST⟩ := hX
        have hj : j = 0 ∨ j = 1 := by
          have := lt_get ej
          simp only [List.length_cons, List.length_nil] at this
          omega
        have ey : y = .int (j : Int) := by rcases hj with rfl | rfl <;> exact (Option.some.inj ej).symm
        subst ey
        -- marked = [source for target in targets for source in sources.get((digit, target), ())]
        refine ⟨_, rfl, lT, rfl, ⟨_, SqL.of (ST.lst _ List.mem_cons_self).1⟩, fun mp nmp => ?_⟩
        have nM := new_ne B nmp
        refine ⟨fun i k H7 => k + i = TT.length ∧ Same H6 H7 ∧ H7 mp = some (.lst (nums (marks R j (TT.take i)))), ⟨TT.length, by omega, same_new nmp, upd_same⟩, fun i k H7 hW => ?_⟩
        obtain ⟨ek, s7, eM⟩ := hW
        have eL7 : SqL K H7 lT (nums TT) := SqL.of (s7 _ _ (ST.lst _ List.mem_cons_self).1)
        by_cases hi : i < TT.length
        · obtain ⟨t, et⟩ := get_lt hi
          refine .inr ⟨⟨_, _, eL7, nums_get et⟩, _, fun H8 nx => ⟨k - 1, by omega, nx⟩, fun x H8 hy => ?_⟩
          obtain ⟨rfl, fx⟩ := hy
          have ex := fx _ eL7
          rw [nums_get et] at ex
          cases ex
          refine ⟨rfl, ?_⟩
          have B7 := B.ext s7
          obtain ⟨kvs2, ekv, hkl2, hkC⟩ := id B7.src
          refine ⟨_, rfl, sp, rfl, .inr ⟨kvs2, .inl ekv⟩, _, rfl, _, rfl, by show 2 ≤ sizeLine; decide, fun kp nkp => ?_⟩
          have sk := same_new (o := .tup [.int (j : Int), .int (t : Int)]) nkp
          refine ⟨by show 0 ≤ sizeLine; decide, fun ep nep => ?_⟩
          have se := sk.trans (same_new (o := .tup []) nep)
          have nke : kp ≠ ep := ne_of_none (H := upd H8 kp (.tup [.int (j : Int), .int (t : Int)])) upd_same nep
          have ekp : (upd (upd H8 kp (.tup [.int (j : Int), .int (t : Int)])) ep (.tup [])) kp = some (.tup ((key2 j t).map kV)) := by rw [upd_ne nke, upd_same]; rfl
          refine ⟨valV kvs2 (key2 j t), DGet.t (se sp _ ekv) ekp, ?_⟩
          have hu : ∃ u, ((valV kvs2 (key2 j t)).getD (.ref ep)) = .ref u ∧ (upd (upd H8 kp (.tup [.int (j : Int), .int (t : Int)])) ep (.tup [])) u = some (.tup (nums (srcs R j t))) := by
            rcases hkC j t (by omega) with ⟨x1, x2⟩ | ⟨u, x1, x2, x3⟩
            · rw [x1, x2]; exact ⟨ep, rfl, upd_same⟩
            · rw [x1]; exact ⟨u, rfl, se u _ x2⟩
          obtain ⟨u, eu, hu⟩ := hu
          rw [eu]
          refine ⟨u, rfl, ⟨_, SqT.of hu⟩, ?_⟩
          have eM8 := se mp _ eM
          have hml := marks_len (R := R) (d := j) (i := i + 1) hTn
          rw [marks_take et, List.length_append] at hml
          refine ⟨fun j2 k2 H9 => k2 + j2 = (srcs R j t).length ∧ Same H6 H9 ∧ H9 u = some (.tup (nums (srcs R j t))) ∧ H9 mp = some (.lst (nums (marks R j (TT.take i) ++ (srcs R j t).take j2))), ⟨_, rfl, s7.trans se, hu, ?_⟩, fun j2 k2 H9 hW2 => ?_⟩
          · rw [List.take_zero, List.append_nil]; exact eM8
          obtain ⟨ek2, s9, eu9, eM9⟩ := hW2
          have nuM : u ≠ mp := ne_of eu9 eM9 fun z => nomatch z
          by_cases hj2 : j2 < (srcs R j t).length
          · obtain ⟨x, exs⟩ := get_lt hj2
            refine .inr ⟨⟨_, _, SqT.of eu9, nums_get exs⟩, _, fun H10 nx => ⟨k2 - 1, by omega, nx⟩, fun x' H10 hy => ?_⟩
            obtain ⟨rfl, fx⟩ := hy
            have ex := fx _ (SqT.of eu9)
            rw [nums_get exs] at ex
            cases ex
            refine ⟨rfl, ?_⟩
            refine ⟨_, rfl, _, eM9, szs ?_, by omega, same_mut s9 nmp, by rw [upd_ne nuM]; exact eu9, ?_⟩
            · rw [nums_len, List.length_append, List.length_take]; omega
            · rw [upd_same, ← nums_app, List.append_assoc, List.take_add_one, exs]; rfl
          · have : (srcs R j t).take j2 = srcs R j t := List.take_of_length_le (by omega)
            rw [this, ← marks_take et] at eM9
            exact .inl ⟨⟨_, SqT.of eu9, by rw [nums_len]; omega⟩, by omega, s9, eM9⟩
        refine .inl ⟨⟨_, eL7, by rw [nums_len]; omega⟩, ?_⟩
        have : TT.take i = TT := List.take_of_length_le (by omega)
        rw [this] at eM
        have hMn : (marks R j TT).Nodup := nd_marks hTn
        have hMl : (marks R j TT).length ≤ R.length := nodup_le _ _ hMn fun x hx => (mem_marks.mp hx).1
        have B7 := B.ext s7
        have ST7 := (ST.ext s7).add eM nM.1 nM.2
        have hMm : ∀ q, q ∈ marks R j TT ↔ q < R.length ∧ step R q j ∈ TT := fun q => mem_marks
        clear B ST s7 eL7 ek
        generalize eMl : marks R j TT = M at *
        -- for name in sorted({block[source] for source in marked})
        refine ⟨_, rfl, mp, rfl, ⟨_, SqL.of eM⟩, fun D nD => ?_⟩
        refine ⟨fun i2 m2 H8 => m2 + i2 = M.length ∧ Same H7 H8 ∧ ∃ S n ms, H8 D = some (SetO w D S n) ∧ IsS S n ms ∧ ∀ q, q ∈ ms ↔ ∃ x ∈ M.take i2, at0 b x = q,
          ⟨M.length, by omega, same_new nD, _, _, [], upd_same, IsS.empty, fun q => ⟨fun h => (by cases h), fun ⟨x, hx, _⟩ => (by rw [List.take_zero] at hx; cases hx)⟩⟩, fun i2 m2 H8 hW => ?_⟩
        obtain ⟨em8, s8, S, n, ms, eD, hSS, hms⟩ := hW
        have B8 := B7.ext s8
        have hcn := hP.cnt_le
        have hn : n ≤ 62 := by
          have h1 := nodup_le cnt ms hSS.nd fun q hq => by
            obtain ⟨x, hx, rfl⟩ := (hms q).mp hq
            exact hP.lt x ((hMm x).mp (List.mem_of_mem_take hx)).1
          have := hSS.len
          omega
        have eM8 := s8 mp _ eM
        by_cases hi2 : i2 < M.length
        · obtain ⟨x, exs⟩ := get_lt hi2
          have hxR := ((hMm x).mp (List.mem_of_getElem? exs)).1
          refine .inr ⟨⟨_, _, SqL.of eM8, nums_get exs⟩, _, fun H10 nx => ⟨m2 - 1, by omega, nx⟩, fun x' H10 hy => ?_⟩
          obtain ⟨rfl, fx⟩ := hy
          have ex := fx _ (SqL.of eM8)
          rw [nums_get exs] at ex
          cases ex
          refine ⟨rfl, ?_⟩
          refine ⟨_, rfl, _, rfl, bp, _, _, _, rfl, rfl, SqL.of B8.blk, nums_at (at0_get (by rw [hP.len]; exact hxR)), ?_⟩
          refine ⟨_, S, n, rfl, eD, Nat.lt_of_le_of_lt (Nat.succ_le_succ hn) (by decide), by omega, same_mut s8 nD, _, _, _, upd_same, hSS.add _, fun q => ?_⟩
          rw [visit_mem, hms, List.take_add_one, exs]
          simp only [Option.toList_some, List.mem_append, List.mem_singleton]
          constructor
          · rintro (⟨z, h1, h2⟩ | h)
            · exact ⟨z, .inl h1, h2⟩
            · exact ⟨x, .inr rfl, h.symm⟩
          · rintro ⟨z, h1 | rfl, h2⟩
            · exact .inl ⟨z, h1, h2⟩
            · exact .inr h2.symm
        refine .inl ⟨⟨_, SqL.of eM8, by rw [nums_len]; omega⟩, ?_⟩
        have et : M.take i2 = M := List.take_of_length_le (by omega)
        rw [et] at hms
        refine ⟨D, S, n, rfl, eD, by omega, fun ns np hp hmem hlen nnp => ?_⟩
        obtain ⟨cl, rfl, hcl, hnd⟩ := hSS.sorted hmem hp
        rw [nums_ints]
        have nN := new_ne B8 nnp
        have s9 := same_new (o := .lst (nums cl)) nnp
        have B9 := B8.ext s9
        have ST9 := ((ST7.ext s8).ext s9).add upd_same nN.1 nN.2
        have hcc : ∀ nm ∈ cl, nm < cnt := fun nm h => by
          obtain ⟨x, hx, rfl⟩ := (hms nm).mp ((hcl nm).mp h)
          exact hP.lt x ((hMm x).mp hx).1
        have X0 : Mix R b j TT (cl.drop 0) := fun p q hp hq e h1 h2 => by
          rw [List.drop_zero, hcl, hms]
          exact ⟨p, (hMm p).mpr ⟨hp, h1⟩, rfl⟩
        clear B7 B8 ST7 s8 eD hSS eM eM8 hn em8
        refine ⟨np, rfl, ⟨_, SqL.of upd_same⟩, for_list (K := K) (a := np) (xs := nums cl) (fun i σ H6 => ∃ cnt b G work z9 z10 z11 z12 z13 z14 z15, 2 * (R.length + 2 - cnt) + work.length + 1 ≤ m ∧ σ = [some (.ref a), some (.ref bp), some (.ref op), some (.ref gp), some (.ref sp), some (.ref wp), some (.ref lT), some (.int (j : Int)), some (.ref mp), z9, z10, z11, z12, z13, z14, z15] ∧
          BS H H6 bp gp wp sp R cnt b G work ∧ Part R cnt b G ∧ Stab R b work j TT ∧ (∀ W ∈ work, W < cnt) ∧ work.length ≤ cnt ∧ Std H6 bp gp wp tp [(np, cl), (mp, M), (lT, TT)] ∧ (∀ nm ∈ cl, nm < cnt) ∧ Mix R b j TT (cl.drop i) ∧ ∀ nm ∈ cl.drop i, ∃ x ∈ M, at0 b x = nm)
          ⟨cnt, b, G, work, z9, z10, z11, z12, z13, z14, z15, hm, rfl, B9, hP, hS, hw, hwl, ST9, hcc, X0, fun nm h => (hms nm).mp ((hcl nm).mp (List.mem_of_mem_drop h))⟩ (fun i σ H6 _ hX => ?_) (fun i y σ H6 ei hX => ?_) (fun σ H6 hX => ?_)⟩
        · obtain ⟨cnt, b, G, work, z9, z10, z11, z12, z13, z14, z15, _, rfl, _, _, _, _, _, ST, _⟩ := hX
          exact SqL.of (ST.lst _ List.mem_cons_self).1
        · obtain ⟨cnt, b, G, work, z9, z10, z11, z12, z13, z14, z15, hm, rfl, B, hP, hS, hw, hwl, ST, hcc, hX, hXn⟩ := hX
          obtain ⟨name, enm, rfl⟩ := nums_of ei
          have hname : name < cnt := hcc name (List.mem_of_getElem? enm)
          have eMp := (ST.lst (mp, M) (by simp)).1
          have hcn := hP.cnt_le
          have hdr : cl.drop i = name :: cl.drop (i + 1) := by
            have h := List.drop_eq_getElem_cons (lt_get enm)
            rw [h]
            have e2 := List.getElem?_eq_getElem (lt_get enm)
            rw [enm] at e2
            rw [← Option.some.inj e2]
          have hXi : Mix R b j TT (name :: cl.drop (i + 1)) := by rw [← hdr]; exact hX
          rw [hdr] at hXn
          have hXn1 : ∀ nm ∈ cl.drop (i + 1), ∃ x ∈ M, at0 b x = nm := fun nm h => hXn nm (List.mem_cons_of_mem _ h)
          have hXn0 : ∃ x ∈ M, at0 b x = name := hXn name List.mem_cons_self
          have hnd1 : name ∉ cl.drop (i + 1) := by
            have h := hnd.sublist (List.drop_sublist i cl)
            rw [hdr] at h
            exact (List.nodup_cons.mp h).1
          -- some = [source for source in marked if block[source] == name]
          refine ⟨_, rfl, mp, rfl, ⟨_, SqL.of eMp⟩, fun sp2 nsp2 => ?_⟩
          have nS2 := new_ne B nsp2
          refine lc_list (K := K) (a := mp) (xs := nums M) (fun i2 H7 => Same H6 H7 ∧ H7 sp2 = some (.lst (nums ((M.take i2).filter fun q => at0 b q == name)))) ⟨same_new nsp2, by rw [List.take_zero]; exact upd_same⟩ (fun i2 H7 _ p => SqL.of (p.1 mp _ eMp)) (fun i2 x H7 hi2 p => ?_) (fun H7 p => ?_)
          · obtain ⟨s7, eS⟩ := p
            obtain ⟨x, exM, rfl⟩ := nums_of hi2
            have hxR := ((hMm x).mp (List.mem_of_getElem? exM)).1
            have B7 := B.ext s7
            refine ⟨rfl, ?_⟩
            refine ⟨_, rfl, _, rfl, bp, _, _, _, rfl, rfl, SqL.of B7.blk, nums_at (at0_get (by rw [hP.len]; exact hxR)), _, rfl, rfl, _, rfl, ?_⟩
            rw [dec_int]
            refine ite2 (fun hb => ?_) (fun hb => ?_)
            · refine ⟨_, rfl, _, eS, szs ?_, same_mut s7 nsp2, ?_⟩
              · rw [nums_len]
                have h1 := List.length_filter_le (fun q => at0 b q == name) (M.take i2)
                have h2 := lt_get exM
                rw [List.length_take] at h1
                omega
              · rw [upd_same, filt_take exM, if_pos hb, nums_app]
            · refine ⟨s7, ?_⟩
              rw [filt_take exM, if_neg hb, List.append_nil]; exact eS
          obtain ⟨s7, eS⟩ := p
          rw [nums_len, List.take_length] at eS
          have B7 := B.ext s7
          have ST7 := (ST.ext s7).add eS nS2.1 nS2.2
          have hsm : ∀ q, q ∈ M.filter (fun q => at0 b q == name) ↔ q < R.length ∧ at0 b q = name ∧ step R q j ∈ TT := fun q => by
            rw [List.mem_filter, hMm]
            constructor
            · rintro ⟨⟨a1, a2⟩, a3⟩; exact ⟨a1, by simpa using a3, a2⟩
            · rintro ⟨a1, a2, a3⟩; exact ⟨⟨a1, a3⟩, by simpa using a2⟩
          have hsn : (M.filter fun q => at0 b q == name).Nodup := hMn.sublist List.filter_sublist
          have hsl : (M.filter fun q => at0 b q == name).length ≤ R.length := nodup_le _ _ hsn fun x hx => ((hsm x).mp hx).1
          have hsne : M.filter (fun q => at0 b q == name) ≠ [] := by
            obtain ⟨x, h1, h2⟩ := hXn0
            exact List.ne_nil_of_mem (List.mem_filter.mpr ⟨h1, beq_iff_eq.mpr h2⟩)
          clear B ST s7 eMp
          generalize M.filter (fun q => at0 b q == name) = some2 at *
          -- if len(some) < len(groups[name])
          obtain ⟨kvs, hk, hkl, hkn, hkg⟩ := id B7.grp
          obtain ⟨lN, elN, nNb, nNw, eN⟩ := hkg name hname
          refine ⟨_, rfl, sp2, _, rfl, .inl (SqL.of eS), ?_⟩
          refine ⟨_, rfl, _, rfl, gp, .ref lN, rfl, dget_n hk elN, lN, _, rfl, .inl (SqL.of eN), _, _, rfl, rfl, _, rfl, ite2 (fun c => ?_) (fun c => ?_)⟩
          · have hlt : some2.length < (G name).length := by
              have := of_decide_eq_true c
              rw [nums_len, nums_len] at this
              omega
            have hSo : Some2 R b name j TT some2 := ⟨hsn, hsm, hsne⟩
            -- other = len(groups)
            refine ⟨_, rfl, gp, kvs, rfl, hk, ?_⟩
            rw [hkl]
            -- for at in some: block[at] = other
            refine ⟨_, rfl, sp2, rfl, ⟨_, SqL.of eS⟩, for_list (K := K) (a := sp2) (xs := nums some2) (fun i2 σ H8 => ∃ z12 bi, σ = [some (.ref a), some (.ref bp), some (.ref op), some (.ref gp), some (.ref sp), some (.ref wp), some (.ref lT), some (.int (j : Int)), some (.ref mp), some (.int (name : Int)), some (.ref sp2), some (.int (cnt : Int)), z12, z13, z14, z15] ∧
              BS H H8 bp gp wp sp R cnt bi G work ∧ bi.length = R.length ∧ (∀ q, q < R.length → at0 bi q = if q ∈ some2.take i2 then cnt else at0 b q) ∧ Std H8 bp gp wp tp [(sp2, some2), (np, cl), (mp, M), (lT, TT)] ∧ H8 gp = some (.dK kvs) ∧ H8 lN = some (.lst (nums (G name))))
              ⟨z12, b, rfl, B7, hP.len, fun q _ => by rw [List.take_zero]; rfl, ST7, hk, eN⟩ (fun i2 σ H8 _ hX => ?_) (fun i2 y σ H8 ei2 hX => ?_) (fun σ H8 hX => ?_)⟩
            · obtain ⟨_, _, rfl, _, _, _, ST, _⟩ := hX
              exact SqL.of (ST.lst _ List.mem_cons_self).1
            · obtain ⟨z12, bi, rfl, B, hbl, hbv, ST, hk8, eN8⟩ := hX
              obtain ⟨x, exS, rfl⟩ := nums_of ei2
              have hxR := ((hsm x).mp (List.mem_of_getElem? exS)).1
              refine ⟨_, rfl, _, rfl, _, rfl, bp, _, _, _, rfl, rfl, B.blk, ixN_nat (by rw [nums_len, hbl]; exact hxR), ?_⟩
              rw [nums_set]
              refine ⟨_, _, rfl, B.setB, by rw [List.length_set]; exact hbl, fun q hq => ?_, ST.setB B.blk, by rw [upd_ne (ne_of hk8 B.blk fun z => nomatch z)]; exact hk8, by rw [upd_ne nNb]; exact eN8⟩
              rw [at0_set (by rw [hbl]; exact hxR), hbv q hq, List.take_add_one, exS]
              by_cases h : q = x
              · subst h
                rw [if_pos rfl, if_pos (List.mem_append_right _ (by simp))]
              · rw [if_neg h]
                by_cases h2 : q ∈ some2.take i2
                · rw [if_pos h2, if_pos (List.mem_append_left _ h2)]
                · rw [if_neg h2, if_neg (fun z => (List.mem_append.mp z).elim h2 fun z => h (by simpa using z))]
            obtain ⟨z12', b', rfl, B8, hbl, hbv, ST8, hk8, eN8⟩ := hX
            rw [nums_len, List.take_length] at hbv
            have hsp : Split R b b' cnt some2 := ⟨hbl, hbv⟩
            have eS8 := (ST8.lst _ List.mem_cons_self).1
            -- groups[other] = some
            refine ⟨_, rfl, _, rfl, _, rfl, gp, _, rfl, DPut.k (k := Sum.inl (cnt : Int)) hk8 (szs (by omega)), ?_⟩
            have B9 := B8.put hk8 (Nat.le_refl cnt) eS8 nS2.1 nS2.2
            rw [if_pos rfl] at B9
            have ST9 := ST8.setG (o := .dK (putK kvs (Sum.inl (cnt : Int)) (.ref sp2))) hk8
            have eN9 : (upd H8 gp (.dK (putK kvs (Sum.inl (cnt : Int)) (.ref sp2)))) lN = some (.lst (nums (G name))) := by rw [upd_ne (ne_of eN8 hk8 fun z => nomatch z)]; exact eN8
            have hk9 : (upd H8 gp (.dK (putK kvs (Sum.inl (cnt : Int)) (.ref sp2)))) gp = some (.dK (putK kvs (Sum.inl (cnt : Int)) (.ref sp2))) := upd_same
            have eg9 : valV (putK kvs (Sum.inl (cnt : Int)) (.ref sp2)) (Sum.inl (name : Int) : Key) = some (.ref lN) := by
              rw [valV_put, if_neg (inl_ne (by omega))]; exact elN
            generalize upd H8 gp (.dK (putK kvs (Sum.inl (cnt : Int)) (.ref sp2))) = H9 at *
            have hGn := hP.nd name hname
            have hGl : (G name).length ≤ R.length := nodup_le _ _ hGn fun x hx => ((hP.mem name hname x).mp hx).1
            -- groups[name] = [..]
            refine ⟨_, rfl, _, rfl, gp, .ref lN, rfl, dget_n hk9 eg9, lN, rfl, ⟨_, SqL.of eN9⟩, fun np2 nnp2 => ?_⟩
            have nN2 := new_ne B9 nnp2
            refine lc_list (K := K) (a := lN) (xs := nums (G name)) (fun i2 H7 => Same H9 H7 ∧ H7 np2 = some (.lst (nums (((G name).take i2).filter fun q => at0 b' q == name)))) ⟨same_new nnp2, by rw [List.take_zero]; exact upd_same⟩ (fun i2 H7 _ p => SqL.of (p.1 lN _ eN9)) (fun i2 x H7 hi2 p => ?_) (fun H10 p => ?_)
            · obtain ⟨s7, eL⟩ := p
              obtain ⟨x, exG, rfl⟩ := nums_of hi2
              have hxR := ((hP.mem name hname x).mp (List.mem_of_getElem? exG)).1
              have B7 := B9.ext s7
              refine ⟨rfl, ?_⟩
              refine ⟨_, rfl, _, rfl, bp, _, _, _, rfl, rfl, SqL.of B7.blk, nums_at (at0_get (by rw [hbl]; exact hxR)), _, rfl, rfl, _, rfl, ?_⟩
              rw [dec_int]
              refine ite2 (fun hb => ?_) (fun hb => ?_)
              · refine ⟨_, rfl, _, eL, szs ?_, same_mut s7 nnp2, ?_⟩
                · rw [nums_len]
                  have h1 := List.length_filter_le (fun q => at0 b' q == name) ((G name).take i2)
                  have h2 := lt_get exG
                  rw [List.length_take] at h1
                  omega
                · rw [upd_same, filt_take exG, if_pos hb, nums_app]
              · refine ⟨s7, ?_⟩
                rw [filt_take exG, if_neg hb, List.append_nil]; exact eL
            obtain ⟨s10, eL⟩ := p
            rw [nums_len, List.take_length] at eL
            have B10 := B9.ext s10
            have ST10 := ST9.ext s10
            have hk10 := s10 gp _ hk9
            have hkl2 : (putK kvs (Sum.inl (cnt : Int)) (V.ref sp2)).length ≤ cnt + 1 := by
              have := length_putK kvs (Sum.inl (cnt : Int) : Key) (.ref sp2)
              omega
            refine ⟨_, rfl, _, rfl, gp, _, rfl, DPut.k (k := Sum.inl (name : Int)) hk10 (szs (by omega)), ?_⟩
            have B11 := B10.put hk10 (name := name) (by omega) eL nN2.1 nN2.2
            rw [if_neg (show ¬ name = cnt + 1 by omega)] at B11
            have B12 : BS H _ bp gp wp sp R (cnt + 1) b' (splitG G b' cnt name some2) work := B11
            clear B11
            have ST11 := ST10.setG (o := .dK (putK (putK kvs (Sum.inl (cnt : Int)) (.ref sp2)) (Sum.inl (name : Int)) (.ref np2))) hk10
            have eL11 : (upd H10 gp (.dK (putK (putK kvs (Sum.inl (cnt : Int)) (.ref sp2)) (Sum.inl (name : Int)) (.ref np2)))) np2 = some (.lst (nums ((G name).filter fun q => at0 b' q == name))) := by rw [upd_ne (ne_of eL hk10 fun z => nomatch z)]; exact eL
            have hk11 : (upd H10 gp (.dK (putK (putK kvs (Sum.inl (cnt : Int)) (.ref sp2)) (Sum.inl (name : Int)) (.ref np2)))) gp = some (.dK (putK (putK kvs (Sum.inl (cnt : Int)) (.ref sp2)) (Sum.inl (name : Int)) (.ref np2))) := upd_same
            have eg11 : valV (putK (putK kvs (Sum.inl (cnt : Int)) (.ref sp2)) (Sum.inl (name : Int)) (.ref np2)) (Sum.inl (name : Int) : Key) = some (.ref np2) := by rw [valV_put, if_pos rfl]
            generalize upd H10 gp (.dK (putK (putK kvs (Sum.inl (cnt : Int)) (.ref sp2)) (Sum.inl (name : Int)) (.ref np2))) = H11 at *
            have hP2 := split_part hv hP hname hSo hsp hTc hlt
            have hcn2 := hP2.cnt_le
            have hX2 := mix_split hP hname hSo hsp hXi
            have fin : ∀ added : Nat, (added = cnt ∨ added = name) → (name ∈ work → added = cnt) →
                ∃ cnt' b'' G' work' y9 y10 y11 y12 y13 y14 y15, 2 * (R.length + 2 - cnt') + work'.length + 1 ≤ m ∧ [some (V.ref a), some (.ref bp), some (.ref op), some (.ref gp), some (.ref sp), some (.ref wp), some (.ref lT), some (.int (j : Int)), some (.ref mp), some (.int (name : Int)), some (.ref sp2), some (.int (cnt : Int)), z12', z13, z14, z15] = [some (V.ref a), some (.ref bp), some (.ref op), some (.ref gp), some (.ref sp), some (.ref wp), some (.ref lT), some (.int (j : Int)), some (.ref mp), y9, y10, y11, y12, y13, y14, y15] ∧
                  BS H (upd H11 wp (.lst (nums work ++ [.int (added : Int)]))) bp gp wp sp R cnt' b'' G' work' ∧ Part R cnt' b'' G' ∧ Stab R b'' work' j TT ∧ (∀ W ∈ work', W < cnt') ∧ work'.length ≤ cnt' ∧ Std (upd H11 wp (.lst (nums work ++ [.int (added : Int)]))) bp gp wp tp [(np, cl), (mp, M), (lT, TT)] ∧ (∀ nm ∈ cl, nm < cnt') ∧ Mix R b'' j TT (cl.drop (i + 1)) ∧ ∀ nm ∈ cl.drop (i + 1), ∃ x ∈ M, at0 b'' x = nm := fun added h1 h2 => by
              rw [← nums_app]
              refine ⟨cnt + 1, b', splitG G b' cnt name some2, work ++ [added], _, _, _, _, _, _, _, ?_, rfl, B12.setW, hP2, split_stab hv hP hname hSo hsp hw hS h1 h2, fun W hW => ?_, ?_, (ST11.setW B12.wrk).less, fun nm h => Nat.lt_succ_of_lt (hcc nm h), hX2, fun nm h => ?_⟩
              · rw [List.length_append, List.length_singleton]; omega
              · rcases List.mem_append.mp hW with h | h
                · exact Nat.lt_succ_of_lt (hw W h)
                · have := List.mem_singleton.mp h
                  rcases h1 with h1 | h1 <;> omega
              · rw [List.length_append, List.length_singleton]; omega
              · obtain ⟨x, hx1, hx2⟩ := hXn1 nm h
                refine ⟨x, hx1, ?_⟩
                have hxn : x ∉ some2 := fun z => hnd1 (by rw [← ((hsm x).mp z).2.1, hx2]; exact h)
                rw [hsp.2 x ((hMm x).mp hx1).1, if_neg hxn]; exact hx2
            -- work.append(..)
            have eW := B12.wrk
            have eS11 := (ST11.lst _ List.mem_cons_self).1
            have hwz : (nums work).length < sizeLine := szs (by rw [nums_len]; omega)
            refine ⟨_, rfl, .inl ⟨rfl, _, SqL.of eW⟩, ?_⟩
            refine ⟨_, rfl, _, rfl, wp, nums work, rfl, .inl (SqL.of eW), rfl, flat_nums _, _, rfl, ite2 (fun c => ?_) (fun c => ?_)⟩
            · exact ⟨_, rfl, wp, _, _, rfl, rfl, eW, hwz, fin cnt (.inl rfl) fun _ => rfl⟩
            · have hnw : name ∉ work := fun z => c (by
                show (if false = true then _ else inV (.int (name : Int)) (nums work)) = true
                rw [if_neg (by decide), in_nums]; exact decide_eq_true z)
              refine ⟨_, rfl, sp2, _, rfl, .inl (SqL.of eS11), ?_⟩
              refine ⟨_, rfl, _, rfl, gp, .ref np2, rfl, dget_n hk11 eg11, np2, _, rfl, .inl (SqL.of eL11), _, _, rfl, rfl, _, rfl, ite2 (fun c2 => ?_) (fun c2 => ?_)⟩
              · exact ⟨_, rfl, wp, _, _, rfl, rfl, eW, hwz, fin cnt (.inl rfl) fun _ => rfl⟩
              · exact ⟨_, rfl, wp, _, _, rfl, rfl, eW, hwz, fin name (.inr rfl) fun z => absurd z hnw⟩
          · have hlt : ¬ some2.length < (G name).length := fun z => c (decide_eq_true (by rw [nums_len, nums_len]; omega))
            exact ⟨cnt, b, G, work, _, _, z11, z12, z13, z14, z15, hm, rfl, B7, hP, hS, hw, hwl, ST7.less, hcc, mix_skip hP hname hsn hsm hlt hXi, hXn1⟩
        · obtain ⟨cnt, b, G, work, z9, z10, z11, z12, z13, z14, z15, hm, rfl, B, hP, hS, hw, hwl, ST, hcc, hX, hXn⟩ := hX
          rw [nums_len, List.drop_length] at hX
          exact ⟨cnt, b, G, work, _, _, z9, z10, z11, z12, z13, z14, z15, hm, rfl, B, hP, stab_next (U := []) hS hX, hw, hwl, ST.less.less⟩
      · obtain ⟨cnt, b, G, work, z7, z8, z9, z10, z11, z12, z13, z14, z15, hm, rfl, B, hP, hS, hw, hwl, ST⟩ := hX
        exact ⟨2 * (R.length + 2 - cnt) + work.length, by omega, cnt, b, G, work, _, z7, z8, z9, z10, z11, z12, z13, z14, z15, rfl, rfl, B, hP, stab_any hS, hw, hwl⟩
    · rw [eqv_empty] at c
      have hnil : work = [] := by
        apply Classical.byContradiction
        intro z
        rw [decide_eq_false z] at c
        exact c rfl
      subst hnil
      refine ⟨_, rfl, q _ bp _ B1.same nbp B1.blk (block_ok hv hP hS)⟩
end
end W36
end

section
set_option linter.all false
set_option maxRecDepth 100000
set_option maxHeartbeats 8000000
/-! least_rows, told_rows. -/
namespace W36
open PySem PySem.Spec PyProof.Rows L2
section
variable {K : PySem.W.Frag}
theorem sqt_upd {H : Hp} {a D : Addr} {xs : List V} {o o' : HO} (h : SqT K H a xs) (e : H D = some o) (h1 : ∀ ys, o ≠ .tup ys) (h2 : ∀ f ys, o ≠ .frz f (.tup ys)) : SqT K (upd H D o') a xs := by
  rcases h with (h | ⟨f, h⟩) | h
  · exact .inl (.inl (by rw [upd_ne (ne_of h e fun z => h1 _ z.symm)]; exact h))
  · exact .inl (.inr ⟨f, by rw [upd_ne (ne_of h e fun z => h2 _ _ z.symm)]; exact h⟩)
  · exact .inr h
theorem RowsAt.updL {H : Hp} {D : Addr} {xs : List V} {o' : HO} {vs : List V} {R : List W36.Row} (h : RowsAt K H vs R) (e : H D = some (.lst xs)) : RowsAt K (upd H D o') vs R :=
  ⟨h.1, fun i r hr => let ⟨t, a, b⟩ := h.2 i r hr; ⟨t, a, sqt_upd b e (fun _ z => nomatch z) (fun _ _ z => nomatch z)⟩⟩
theorem RowsAt.nil {H : Hp} : RowsAt K H [] [] := ⟨rfl, fun i r h => by simp at h⟩
theorem RowsAt.snoc {H : Hp} {vs : List V} {R : List W36.Row} {r : W36.Row} {t : Addr} (h : RowsAt K H vs R) (ht : SqT K H t (rowV r)) : RowsAt K H (vs ++ [.ref t]) (R ++ [r]) := by
  refine ⟨by rw [List.length_append, List.length_append, h.1]; rfl, fun i s hs => ?_⟩
  by_cases hi : i < R.length
  · rw [List.getElem?_append_left hi] at hs
    obtain ⟨u, a, b⟩ := h.2 i s hs
    exact ⟨u, by rw [List.getElem?_append_left (by rw [h.1]; exact hi)]; exact a, b⟩
  · have hl := lt_get hs
    rw [List.length_append, List.length_singleton] at hl
    have e : i = R.length := by omega
    subst e
    rw [List.getElem?_append_right (Nat.le_refl _), Nat.sub_self] at hs
    cases hs
    exact ⟨t, by rw [List.getElem?_append_right (by rw [h.1]; exact Nat.le_refl _), h.1, Nat.sub_self]; rfl, ht⟩
/-- a list of rows that grows by one -/
theorem grow_rows {H0 H : Hp} {D t : Addr} {vs : List V} {R : List W36.Row} {r : W36.Row} (sm : Same H0 H) (nD : H0 D = none) (eD : H D = some (.lst vs)) (hR : RowsAt K H vs R) (nt : H t = none) :
    Same H0 (upd (upd H t (.tup (rowV r))) D (.lst (vs ++ [.ref t]))) ∧ (upd (upd H t (.tup (rowV r))) D (.lst (vs ++ [.ref t]))) D = some (.lst (vs ++ [.ref t])) ∧ RowsAt K (upd (upd H t (.tup (rowV r))) D (.lst (vs ++ [.ref t]))) (vs ++ [.ref t]) (R ++ [r]) ∧ (upd H t (.tup (rowV r))) D = some (.lst vs) := by
  have e : (upd H t (.tup (rowV r))) D = some (.lst vs) := by rw [upd_ne (ne_of_none eD nt)]; exact eD
  refine ⟨same_mut (sm.trans (same_new nt)) nD, upd_same, ?_, e⟩
  exact ((hR.same (same_new nt)).snoc (SqT.of upd_same)).updL e
def posF (l : List Nat) (i t : Nat) : Option V := if t ∈ l.take i then some (.int ((l.idxOf t : Nat) : Int)) else none
theorem posF_all (l : List Nat) {t : Nat} (h : t ∈ l) : posF l l.length t = some (.int ((l.idxOf t : Nat) : Int)) := by
  unfold posF
  rw [List.take_length, if_pos h]
theorem idxOf_new {l : List Nat} {i x : Nat} (e : l[i]? = some x) (h : x ∉ l.take i) : l.idxOf x = i := by
  have hi := lt_get e
  have e1 : l = l.take i ++ x :: l.drop (i + 1) := by
    conv => lhs; rw [← List.take_append_drop i l]
    rw [List.drop_eq_getElem_cons hi]
    have := List.getElem?_eq_getElem hi
    rw [e] at this
    rw [← Option.some.inj this]
  rw [e1, List.idxOf_append, if_neg h, List.idxOf_cons_self, List.length_take]
  omega
theorem idxOf_le {l : List Nat} {k y : Nat} (e2 : l[k]? = some y) : l.idxOf y ≤ k := by
  by_cases h : y ∈ l.take k
  · have e1 : l.idxOf y = (l.take k).idxOf y := by
      conv => lhs; rw [← List.take_append_drop k l]
      rw [List.idxOf_append, if_pos h]
    rw [e1]
    have := List.idxOf_lt_length_of_mem h
    rw [List.length_take] at this
    omega
  · rw [idxOf_new e2 h]; exact Nat.le_refl _
theorem posF_new {l : List Nat} {i x : Nat} (e : l[i]? = some x) (h : x ∉ l.take i) (t : Nat) : (if t = x then some (V.int (i : Int)) else posF l i t) = posF l (i + 1) t := by
  have hx := idxOf_new e h
  unfold posF
  rw [List.take_add_one, e]
  by_cases ht : t = x
  · subst ht
    rw [if_pos rfl, if_pos (List.mem_append_right _ (by simp)), hx]
  · rw [if_neg ht]
    by_cases h2 : t ∈ l.take i
    · rw [if_pos h2, if_pos (List.mem_append_left _ h2)]
    · rw [if_neg h2, if_neg (fun z => (List.mem_append.mp z).elim h2 fun z => ht (by simpa using z))]
theorem posF_old {l : List Nat} {i x : Nat} (e : l[i]? = some x) (h : x ∈ l.take i) (t : Nat) : posF l i t = posF l (i + 1) t := by
  unfold posF
  rw [List.take_add_one, e]
  by_cases ht : t = x
  · subst ht
    rw [if_pos h, if_pos (List.mem_append_left _ h)]
  · by_cases h2 : t ∈ l.take i
    · rw [if_pos h2, if_pos (List.mem_append_left _ h2)]
    · rw [if_neg h2, if_neg (fun z => (List.mem_append.mp z).elim h2 fun z => ht (by simpa using z))]
theorem nd_fresh {l : List Nat} (hn : l.Nodup) {i x : Nat} (e : l[i]? = some x) : x ∉ l.take i := fun h => by
  obtain ⟨k, hk⟩ := List.getElem?_of_mem h
  have hl := lt_get hk
  rw [List.length_take] at hl
  rw [List.getElem?_take_of_lt (by omega)] at hk
  obtain ⟨h1, e1⟩ := List.getElem?_eq_some_iff.mp e
  obtain ⟨h2, e2⟩ := List.getElem?_eq_some_iff.mp hk
  have := (List.getElem_inj hn).mp (e1.trans e2.symm)
  omega
theorem pos_get {H : Hp} {d : Addr} {B : Nat} {l : List Nat} {t : Nat} (h : DictN H d B (posF l l.length)) (ht : t ∈ l) : DGet H d (.int (t : Int)) (some (.int ((l.idxOf t : Nat) : Int))) := by
  obtain ⟨kvs, e, _, hF⟩ := h
  refine dget_n e ?_
  rw [hF, posF_all l ht]
/-- the first place of a name in the classes stands for its class -/
theorem block_rep {R : List W36.Row} {b : List Nat} (h : BlockOk R b) {x : Nat} (hx : x < R.length) : b.idxOf (at0 b x) = rep R x := by
  obtain ⟨hl, hb⟩ := h
  have hm : at0 b x ∈ b := List.mem_of_getElem? (at0_get (by rw [hl]; exact hx))
  have hi := List.idxOf_lt_length_of_mem hm
  have hv : at0 b (b.idxOf (at0 b x)) = at0 b x := by
    show b.getD _ 0 = _
    rw [List.getD_eq_getElem?_getD, get_idxOf hm]; rfl
  refine (rep_of_least hx ((hb _ x (by omega) hx).mp hv) fun k hk he => ?_).symm
  have e := (hb k x (by omega) hx).mpr he
  have hkl : k < b.length := by omega
  have e2 := at0_get hkl
  rw [e] at e2
  have e3 := idxOf_le e2
  omega
end
section
variable {P : Program} {w : World} {K : PySem.W.Frag} {mg : Str → Option Value} {base : Heap}
def sp_least_rows (K : PySem.W.Frag) : Sp := fun vs H Q _ => ∃ (a : Addr) (R : List W36.Row) (start : Nat), vs = [.ref a, .int (start : Int)] ∧ RowsL K H a R ∧ Valid R ∧ start < R.length ∧ R.length ≤ 60 ∧
  ∀ H' p, Same H H' → H p = none → RowsT K H' p (least R start) → Q (.ref p) H'
theorem ok_least_rows (T : Txt K mg) : FnOk P w K mg base CX0 3 T.a_least_rows T.d_least_rows ["rows", "start"] (sp_least_rows K) := by
  refine T.F_least_rows.ok sc_least_rows (fun vs H Q E h => ?_) (fun cdv A outer s H vs Q E hr h => ?_)
  · obtain ⟨a, R, start, rfl, _⟩ := h
    rfl
  · obtain ⟨a, R, start, rfl, hR, hv, hst, h60, q⟩ := h
    refine ⟨_, (pss_cons (ps_set (i := 2) sc_least_rows.nd rfl (Or.inl rfl) (pe_call (ok_order_of T) (hr.mono (by decide)) (by rfl) T.g_order_of T.F_order_of.kp T.b_order_of .nil pass0 (pa_cons (pv 0) (pa_cons (pv 1) pa_nil))))
      (pss_cons (ps_set (i := 3) sc_least_rows.nd rfl (Or.inr rfl) pe_dnewK)
      (pss_cons (ps_for PassesOwn.never rfl (pi_enum (by rfl) T.n_enumerate (pa_cons (pv 2) pa_nil)) (pg_tup rfl (pgs_cons (pg_name (i := 4) sc_least_rows.nd rfl (Or.inl rfl)) (pgs_cons (pg_name (i := 5) sc_least_rows.nd rfl (Or.inl rfl)) pgs_nil)))
      (pss_one (ps_dput (hu_of hr) (pv 3) (pv 5) (pv 4) rfl)))
      (pss_cons (ps_setLc (i := 6) (own := [("old", 5)]) rfl sc_least_rows.nd rfl rfl (sw_true rfl rfl rfl (by decide +kernel)) (pi_list (pv 2)) (blkOk_by (N := N_least_rows) (sc := defScope s_least_rows) (by decide +kernel)) (fun _ _ _ _ _ => (pg_name (i := 5) sc_least_rows.nd rfl (Or.inl rfl))) (fun _ _ _ _ _ => pts_nil) (fun _ _ _ _ _ => (pe_tup (pa_cons (pe_dget (hu_of hr) (pv 3) (pe_ix (ixt (K := K) rfl) (pe_ix (ixl (K := K) rfl) (pv 0) (pv 5) (fun _ _ => rfl)) pe_int (fun _ _ => rfl)) (fun _ _ => rfl)) (pa_cons (pe_dget (hu_of hr) (pv 3) (pe_ix (ixt (K := K) rfl) (pe_ix (ixl (K := K) rfl) (pv 0) (pv 5) (fun _ _ => rfl)) pe_int (fun _ _ => rfl)) (fun _ _ => rfl)) (pa_cons (pe_ix (ixt (K := K) rfl) (pe_ix (ixl (K := K) rfl) (pv 0) (pv 5) (fun _ _ => rfl)) pe_int (fun _ _ => rfl)) pa_nil))))))
      (pss_cons (ps_set (i := 7) sc_least_rows.nd rfl (Or.inr rfl) (pe_call (ok_blocks_of T) (hr.mono (by decide)) (by rfl) T.g_blocks_of T.F_blocks_of.kp T.b_blocks_of .nil pass0 (pa_cons (pv 6) pa_nil)))
      (pss_cons (ps_set (i := 8) sc_least_rows.nd rfl (Or.inr rfl) pe_dnewK)
      (pss_cons (ps_for PassesOwn.never rfl (pi_enum (by rfl) T.n_enumerate (pa_cons (pv 7) pa_nil)) (pg_tup rfl (pgs_cons (pg_name (i := 4) sc_least_rows.nd rfl (Or.inl rfl)) (pgs_cons (pg_name (i := 9) sc_least_rows.nd rfl (Or.inl rfl)) pgs_nil)))
      (pss_one (ps_expr (pe_dsetd (pv 8) (pv 9) (pv 4) ⟨rfl, by rfl, by rfl, by rfl⟩))))
      (pss_cons (ps_set (i := 10) sc_least_rows.nd rfl (Or.inr rfl) (pe_lc (own := [("row", 12)]) rfl sc_least_rows.nd (pi_list (pv 6)) (blkOk_by (N := N_least_rows) (sc := defScope s_least_rows) (by decide +kernel)) (fun _ _ _ _ _ => (pg_name (i := 12) sc_least_rows.nd rfl (Or.inl rfl))) (fun _ _ _ _ _ => pts_nil) (fun _ _ _ _ _ => (pe_tup (pa_cons (pe_dget (hu_of hr) (pv 8) (pe_ix (ixl (K := K) rfl) (pv 7) (pe_ix (ixt (K := K) rfl) (pv 12) pe_int (fun _ _ => rfl)) (fun _ _ => rfl)) (fun _ _ => rfl)) (pa_cons (pe_dget (hu_of hr) (pv 8) (pe_ix (ixl (K := K) rfl) (pv 7) (pe_ix (ixt (K := K) rfl) (pv 12) pe_int (fun _ _ => rfl)) (fun _ _ => rfl)) (fun _ _ => rfl)) (pa_cons (pe_ix (ixt (K := K) rfl) (pv 12) pe_int (fun _ _ => rfl)) pa_nil)))))))
      (pss_cons (ps_set (i := 2) sc_least_rows.nd rfl (Or.inl rfl) (pe_call (ok_order_of T) (hr.mono (by decide)) (by rfl) T.g_order_of T.F_order_of.kp T.b_order_of .nil pass0 (pa_cons (pv 10) (pa_cons (pe_dget (hu_of hr) (pv 8) (pe_ix ix_list (pv 7) pe_int (fun _ _ => rfl)) (fun _ _ => rfl)) pa_nil))))
      (pss_cons (ps_set (i := 11) sc_least_rows.nd rfl (Or.inr rfl) pe_dnewK)
      (pss_cons (ps_for PassesOwn.never rfl (pi_enum (by rfl) T.n_enumerate (pa_cons (pv 2) pa_nil)) (pg_tup rfl (pgs_cons (pg_name (i := 4) sc_least_rows.nd rfl (Or.inl rfl)) (pgs_cons (pg_name (i := 5) sc_least_rows.nd rfl (Or.inl rfl)) pgs_nil)))
      (pss_one (ps_dput (hu_of hr) (pv 11) (pv 5) (pv 4) rfl)))
      (pss_one (ps_ret (pe_callTy call_tuple_of (by rfl) T.n_tuple (by decide +kernel) (pa_cons (pe_lc (own := [("old", 5)]) rfl sc_least_rows.nd (pi_list (pv 2)) (blkOk_by (N := N_least_rows) (sc := defScope s_least_rows) (by decide +kernel)) (fun _ _ _ _ _ => (pg_name (i := 5) sc_least_rows.nd rfl (Or.inl rfl))) (fun _ _ _ _ _ => pts_nil) (fun _ _ _ _ _ => (pe_tup (pa_cons (pe_dget (hu_of hr) (pv 11) (pe_ix (ixt (K := K) rfl) (pe_ix (ixl (K := K) rfl) (pv 10) (pv 5) (fun _ _ => rfl)) pe_int (fun _ _ => rfl)) (fun _ _ => rfl)) (pa_cons (pe_dget (hu_of hr) (pv 11) (pe_ix (ixt (K := K) rfl) (pe_ix (ixl (K := K) rfl) (pv 10) (pv 5) (fun _ _ => rfl)) pe_int (fun _ _ => rfl)) (fun _ _ => rfl)) (pa_cons (pe_ix (ixt (K := K) rfl) (pe_ix (ixl (K := K) rfl) (pv 10) (pv 5) (fun _ _ => rfl)) pe_int (fun _ _ => rfl)) pa_nil)))))) pa_nil))))))))))))))), ?_⟩
    -- order = order_of(rows, start)
    refine ⟨_, rfl, _, rfl, a, R, start, rfl, hR, hv, hst, h60, fun H1 op s1 nop eO => ?_⟩
    have So := order_ok hv hst
    have c1 : ∀ q ∈ order R start, ∀ d, step R q d ∈ order R start := fun q hq d => order_step hv hst hq d
    have v1 : Valid (renum R (order R start)) := renum_valid hv c1
    have l1 : 0 < (renum R (order R start)).length := by rw [renum_len]; exact lt_get So.head
    have hol := So.len
    have hfin : least R start = renum (merge (renum R (order R start))) (order (merge (renum R (order R start))) (rep (renum R (order R start)) 0)) := rfl
    have hlt := So.lt
    have hnd := So.nd
    clear So
    generalize eord : order R start = ord at *
    -- place = {}
    intro dp ndp
    have s2 := s1.trans (same_new (o := .dK []) ndp)
    have ndpH : H dp = none := s1.free ndp
    have nod : op ≠ dp := ne_of_none eO ndp
    have eO2 : (upd H1 dp (.dK [])) op = some (.lst (nums ord)) := by rw [upd_ne nod]; exact eO
    refine ⟨_, rfl, op, nums ord, rfl, SqL.of eO2, for_it (walk_enum (xs := nums ord)) (fun i σ H' => ∃ z4 z5, σ = [some (.ref a), some (.int (start : Int)), some (.ref op), some (.ref dp), z4, z5, none, none, none, none, none, none, none] ∧ Same H H' ∧ H' op = some (.lst (nums ord)) ∧ DictN H' dp i (posF ord i))
      ⟨none, none, rfl, s2, eO2, [], upd_same, Nat.le_refl _, fun t => ?_⟩ (fun i σ H' hi hP => ?_) (fun i x σ H' H'' hi hP hy => ?_) (fun σ H2 hP => ?_)⟩
    · unfold posF; rw [List.take_zero, if_neg (by simp)]; rfl
    · obtain ⟨_, _, _, _, e, _⟩ := hP
      exact SqL.of e
    · obtain ⟨z4, z5, rfl, sm, eo, hd⟩ := hP
      obtain ⟨t, x1, x2, rfl, nt, rfl, ex1, ex2⟩ := hy
      cases ex1
      obtain ⟨x, ex, rfl⟩ := nums_of ex2
      have hil := lt_get ex
      have st := same_new (o := .tup [.int (i : Int), .int (x : Int)]) nt
      obtain ⟨kvs, ek, hkl, hkF⟩ := hd.same st
      refine ⟨t, _, rfl, SqT.of upd_same, rfl, _, _, rfl, _, _, rfl, rfl, ?_⟩
      refine ⟨_, rfl, _, rfl, _, rfl, dp, _, rfl, DPut.k (k := Sum.inl (x : Int)) ek (szs (by omega)), ?_⟩
      refine ⟨_, _, rfl, same_mut (sm.trans st) ndpH, ?_, ?_⟩
      · rw [upd_ne nod]; exact st op _ eo
      · exact dictN_congr (DictN.put hkl hkF x (.int (i : Int))) fun t => posF_new ex (nd_fresh hnd ex) t
    obtain ⟨z4, z5, rfl, sm2, eO2', hd2⟩ := hP
    rw [nums_len] at hd2
    have nopH : H op = none := nop
    -- kept
    refine ⟨_, rfl, op, rfl, ⟨_, SqL.of eO2'⟩, fun kp nkp => ?_⟩
    have nkpH : H kp = none := sm2.free nkp
    refine lc_list (K := K) (a := op) (xs := nums ord) (fun i H' => Same H2 H' ∧ ∃ vs, H' kp = some (.lst vs) ∧ RowsAt K H' vs ((renum R ord).take i)) ⟨same_new nkp, [], upd_same, by rw [List.take_zero]; exact RowsAt.nil⟩ (fun i H' _ p => SqL.of (p.1 op _ eO2')) (fun i x H' hi p => ?_) (fun H3 p => ?_)
    · obtain ⟨sm, vs, eD, hA⟩ := p
      obtain ⟨x, ex, rfl⟩ := nums_of hi
      have hxo := List.mem_of_getElem? ex
      obtain ⟨r, er⟩ := get_lt (hlt x hxo)
      have hR' := hR.same (sm2.trans sm)
      obtain ⟨ts, hL, hAt⟩ := hR'
      obtain ⟨t, et, htr⟩ := hAt.get er
      have hd' := hd2.same sm
      have m0 : r.1 ∈ ord := by have := c1 x hxo 0; rw [step_get er, if_pos rfl] at this; exact this
      have m1 : r.2.1 ∈ ord := by have := c1 x hxo 1; rw [step_get er, if_neg (by decide)] at this; exact this
      refine ⟨rfl, ?_⟩
      refine ⟨_, rfl, _, rfl, _, rfl, a, ts, _, _, rfl, rfl, hL, et, t, _, 0, _, rfl, rfl, htr, rowV0 r, dp, _, rfl, pos_get hd' m0, ?_⟩
      refine ⟨_, rfl, _, rfl, _, rfl, a, ts, _, _, rfl, rfl, hL, et, t, _, 1, _, rfl, rfl, htr, rowV1 r, dp, _, rfl, pos_get hd' m1, ?_⟩
      refine ⟨_, rfl, _, rfl, a, ts, _, _, rfl, rfl, hL, et, t, _, 2, _, rfl, rfl, htr, rowV2 r, ?_⟩
      refine ⟨by show 3 ≤ sizeLine; decide, fun nt hnt => ?_⟩
      obtain ⟨g1, g2, g3, g4⟩ := grow_rows (r := (ord.idxOf r.1, ord.idxOf r.2.1, r.2.2)) sm nkp eD hA hnt
      have hil : i < (renum R ord).length := by rw [renum_len]; exact lt_get ex
      have eren := renum_get (R := R) ex
      rw [step_get er, step_get er, ins_get er, if_pos rfl, if_neg (by decide)] at eren
      refine ⟨vs, g4, szs ?_, g1, _, g2, ?_⟩
      · rw [hA.1, List.length_take]; rw [renum_len] at hil ⊢; omega
      · rw [List.take_add_one, eren]; exact g3
    obtain ⟨s3, vs3, eK3, hA3⟩ := p
    have hke : (renum R ord).take ord.length = renum R ord := List.take_of_length_le (by rw [renum_len]; exact Nat.le_refl _)
    rw [nums_len, hke] at hA3
    have hKl : (renum R ord).length ≤ 60 := by rw [renum_len]; omega
    have sm3 := sm2.trans s3
    clear hke
    generalize renum R ord = KR at *
    -- block = blocks_of(kept)
    refine ⟨_, rfl, kp, KR, rfl, ⟨vs3, SqL.of eK3, hA3⟩, v1, hKl, fun H4 bp b s4 nbp eB hB => ?_⟩
    have sm4 := sm3.trans s4
    have eK4 := s4 kp _ eK3
    have hA4 := hA3.same s4
    -- member = {}
    intro dm ndm
    have s5 := same_new (o := .dK []) ndm
    have ndmH : H dm = none := sm4.free ndm
    have nbm : bp ≠ dm := ne_of_none eB ndm
    refine ⟨_, rfl, bp, nums b, rfl, SqL.of (s5 bp _ eB), for_it (walk_enum (xs := nums b)) (fun i σ H' => ∃ z4 z9, σ = [some (.ref a), some (.int (start : Int)), some (.ref op), some (.ref dp), z4, z5, some (.ref kp), some (.ref bp), some (.ref dm), z9, none, none, none] ∧ Same H H' ∧ H' bp = some (.lst (nums b)) ∧ H' kp = some (.lst vs3) ∧ RowsAt K H' vs3 KR ∧ DictN H' dm i (posF b i))
      ⟨z4, none, rfl, sm4.trans s5, s5 bp _ eB, s5 kp _ eK4, hA4.same s5, [], upd_same, Nat.le_refl _, fun t => ?_⟩ (fun i σ H' hi hP => ?_) (fun i x σ H' H'' hi hP hy => ?_) (fun σ H5 hP => ?_)⟩
    · unfold posF; rw [List.take_zero, if_neg (by simp)]; rfl
    · obtain ⟨_, _, _, _, e, _⟩ := hP
      exact SqL.of e
    · obtain ⟨z4, z9, rfl, sm, eb, ek5, hA5, hd⟩ := hP
      obtain ⟨t, x1, x2, rfl, nt, rfl, ex1, ex2⟩ := hy
      cases ex1
      obtain ⟨x, ex, rfl⟩ := nums_of ex2
      have hil := lt_get ex
      have hbl := hB.1
      have st := same_new (o := .tup [.int (i : Int), .int (x : Int)]) nt
      obtain ⟨kvs, ek, hkl, hkF⟩ := hd.same st
      refine ⟨t, _, rfl, SqT.of upd_same, rfl, _, _, rfl, _, _, rfl, rfl, ?_⟩
      refine ⟨_, rfl, dm, rfl, .inl ⟨kvs, .inl ek⟩, _, rfl, _, rfl, kvs, Sum.inl (x : Int), ek, rfl, szs (by omega), fun v hv2 => ?_, fun hv2 => ?_⟩
      · have hm : x ∈ b.take i := by
          apply Classical.byContradiction
          intro z
          rw [hkF] at hv2
          unfold posF at hv2
          rw [if_neg z] at hv2
          cases hv2
        exact ⟨_, _, rfl, sm.trans st, st bp _ eb, st kp _ ek5, hA5.same st, (dictN_congr ⟨kvs, ek, hkl, hkF⟩ (posF_old ex hm)).le (by omega)⟩
      · have hm : x ∉ b.take i := by
          intro z
          rw [hkF] at hv2
          unfold posF at hv2
          rw [if_pos z] at hv2
          cases hv2
        refine ⟨_, _, rfl, same_mut (sm.trans st) ndmH, ?_, ?_, ?_, dictN_congr (DictN.put hkl hkF x (.int (i : Int))) fun t => posF_new ex hm t⟩
        · rw [upd_ne nbm]; exact st bp _ eb
        · rw [upd_ne (ne_of (st kp _ ek5) ek fun z => nomatch z)]; exact st kp _ ek5
        · exact ⟨hA5.1, fun i r hr => let ⟨t, a, b⟩ := (hA5.same st).2 i r hr; ⟨t, a, sqt_upd b ek (fun _ z => nomatch z) (fun _ _ z => nomatch z)⟩⟩
    obtain ⟨z4', z9, rfl, sm5, eB5, eK5, hA5, hd5⟩ := hP
    rw [nums_len] at hd5
    have hbl := hB.1
    have hmem : ∀ {H' : Hp}, Same H5 H' → ∀ x, x < KR.length → DGet H' dm (.int ((at0 b x : Nat) : Int)) (some (.int ((rep KR x : Nat) : Int))) := fun sm x hx => by
      have := pos_get (hd5.same sm) (t := at0 b x) (List.mem_of_getElem? (at0_get (by rw [hbl]; exact hx)))
      rw [block_rep hB hx] at this
      exact this
    -- small
    refine ⟨_, rfl, kp, rfl, ⟨_, SqL.of eK5⟩, fun sp nsp => ?_⟩
    refine lc_list (K := K) (a := kp) (xs := vs3) (fun i H' => Same H5 H' ∧ ∃ vs, H' sp = some (.lst vs) ∧ RowsAt K H' vs ((merge KR).take i)) ⟨same_new nsp, [], upd_same, by rw [List.take_zero]; exact RowsAt.nil⟩ (fun i H' _ p => SqL.of (p.1 kp _ eK5)) (fun i x H' hi p => ?_) (fun H6 p => ?_)
    · obtain ⟨sm, vs, eD, hA⟩ := p
      obtain ⟨r, t, er, rfl, htr⟩ := (hA5.same sm).of hi
      have hil := lt_get er
      have h0 : r.1 < KR.length := by have := step_lt v1 hil 0; rw [step_get er, if_pos rfl] at this; exact this
      have h1 : r.2.1 < KR.length := by have := step_lt v1 hil 1; rw [step_get er, if_neg (by decide)] at this; exact this
      have eB' := sm bp _ eB5
      refine ⟨rfl, ?_⟩
      refine ⟨_, rfl, _, rfl, _, rfl, t, _, 0, _, rfl, rfl, htr, rowV0 r, bp, _, _, _, rfl, rfl, SqL.of eB', nums_at (at0_get (by rw [hbl]; exact h0)), dm, _, rfl, hmem sm _ h0, ?_⟩
      refine ⟨_, rfl, _, rfl, _, rfl, t, _, 1, _, rfl, rfl, htr, rowV1 r, bp, _, _, _, rfl, rfl, SqL.of eB', nums_at (at0_get (by rw [hbl]; exact h1)), dm, _, rfl, hmem sm _ h1, ?_⟩
      refine ⟨_, rfl, t, _, 2, _, rfl, rfl, htr, rowV2 r, ?_⟩
      refine ⟨by show 3 ≤ sizeLine; decide, fun nt hnt => ?_⟩
      obtain ⟨g1, g2, g3, g4⟩ := grow_rows (r := (rep KR r.1, rep KR r.2.1, r.2.2)) sm nsp eD hA hnt
      have eren := merge_get hil
      rw [step_get er, step_get er, ins_get er, if_pos rfl, if_neg (by decide)] at eren
      refine ⟨vs, g4, szs ?_, g1, _, g2, ?_⟩
      · rw [hA.1, List.length_take]; rw [merge_len]; omega
      · rw [List.take_add_one, eren]; exact g3
    obtain ⟨s6, vs6, eS6, hA6⟩ := p
    have hke : (merge KR).take vs3.length = merge KR := List.take_of_length_le (by rw [merge_len, hA5.1]; exact Nat.le_refl _)
    rw [hke] at hA6
    have v2 := merge_valid v1
    have r1 : rep KR 0 < (merge KR).length := by rw [merge_len]; exact (rep_spec KR l1).1
    have So2 := order_ok v2 r1
    have c2 : ∀ q ∈ order (merge KR) (rep KR 0), ∀ d, step (merge KR) q d ∈ order (merge KR) (rep KR 0) := fun q hq d => order_step v2 r1 hq d
    have hml : (merge KR).length ≤ 60 := by rw [merge_len]; exact hKl
    -- order = order_of(small, member[block[0]])
    refine ⟨_, rfl, _, rfl, _, rfl, bp, _, 0, _, rfl, rfl, SqL.of (s6 bp _ eB5), nums_at (i := 0) (at0_get (by rw [hbl]; exact l1)), dm, _, rfl, hmem s6 0 l1, sp, merge KR, rep KR 0, rfl, ⟨vs6, SqL.of eS6, hA6⟩, v2, r1, hml, fun H7 op2 s7 nop2 eO7 => ?_⟩
    have hol2 := So2.len
    have hlt2 := So2.lt
    have hnd2 := So2.nd
    clear So2 hke
    rw [show least R start = _ from hfin] at q
    have sm7 := (sm5.trans s6).trans s7
    have eS7 := s7 sp _ eS6
    have hA7 := hA6.same s7
    generalize merge KR = MR at *
    generalize order MR (rep KR 0) = ord2 at *
    -- number = {}
    intro dn ndn
    have s8 := same_new (o := .dK []) ndn
    have ndnH : H dn = none := sm7.free ndn
    have nod2 : op2 ≠ dn := ne_of_none eO7 ndn
    have nsd2 : sp ≠ dn := ne_of_none eS7 ndn
    refine ⟨_, rfl, op2, nums ord2, rfl, SqL.of (s8 op2 _ eO7), for_it (walk_enum (xs := nums ord2)) (fun i σ H' => ∃ z4 z5, σ = [some (.ref a), some (.int (start : Int)), some (.ref op2), some (.ref dp), z4, z5, some (.ref kp), some (.ref bp), some (.ref dm), z9, some (.ref sp), some (.ref dn), none] ∧ Same H H' ∧ H' op2 = some (.lst (nums ord2)) ∧ H' sp = some (.lst vs6) ∧ RowsAt K H' vs6 MR ∧ DictN H' dn i (posF ord2 i))
      ⟨z4', z5, rfl, sm7.trans s8, s8 op2 _ eO7, s8 sp _ eS7, hA7.same s8, [], upd_same, Nat.le_refl _, fun t => ?_⟩ (fun i σ H' hi hP => ?_) (fun i x σ H' H'' hi hP hy => ?_) (fun σ H8 hP => ?_)⟩
    · unfold posF; rw [List.take_zero, if_neg (by simp)]; rfl
    · obtain ⟨_, _, _, _, e, _⟩ := hP
      exact SqL.of e
    · obtain ⟨z4, z5, rfl, sm, eo, es, hA, hd⟩ := hP
      obtain ⟨t, x1, x2, rfl, nt, rfl, ex1, ex2⟩ := hy
      cases ex1
      obtain ⟨x, ex, rfl⟩ := nums_of ex2
      have hil := lt_get ex
      have st := same_new (o := .tup [.int (i : Int), .int (x : Int)]) nt
      obtain ⟨kvs, ek, hkl, hkF⟩ := hd.same st
      refine ⟨t, _, rfl, SqT.of upd_same, rfl, _, _, rfl, _, _, rfl, rfl, ?_⟩
      refine ⟨_, rfl, _, rfl, _, rfl, dn, _, rfl, DPut.k (k := Sum.inl (x : Int)) ek (szs (by omega)), ?_⟩
      refine ⟨_, _, rfl, same_mut (sm.trans st) ndnH, ?_, ?_, ?_, ?_⟩
      · rw [upd_ne nod2]; exact st op2 _ eo
      · rw [upd_ne nsd2]; exact st sp _ es
      · exact ⟨hA.1, fun i r hr => let ⟨t, a, b⟩ := (hA.same st).2 i r hr; ⟨t, a, sqt_upd b ek (fun _ z => nomatch z) (fun _ _ z => nomatch z)⟩⟩
      · exact dictN_congr (DictN.put hkl hkF x (.int (i : Int))) fun t => posF_new ex (nd_fresh hnd2 ex) t
    obtain ⟨z4'', z5'', rfl, sm8, eO8, eS8, hA8, hd8⟩ := hP
    rw [nums_len] at hd8
    -- return tuple([..])
    refine ⟨_, rfl, op2, rfl, ⟨_, SqL.of eO8⟩, fun fp nfp => ?_⟩
    refine lc_list (K := K) (a := op2) (xs := nums ord2) (fun i H' => Same H8 H' ∧ ∃ vs, H' fp = some (.lst vs) ∧ RowsAt K H' vs ((renum MR ord2).take i)) ⟨same_new nfp, [], upd_same, by rw [List.take_zero]; exact RowsAt.nil⟩ (fun i H' _ p => SqL.of (p.1 op2 _ eO8)) (fun i x H' hi p => ?_) (fun H9 p => ?_)
    · obtain ⟨sm, vs, eD, hA⟩ := p
      obtain ⟨x, ex, rfl⟩ := nums_of hi
      have hxo := List.mem_of_getElem? ex
      obtain ⟨r, er⟩ := get_lt (hlt2 x hxo)
      have hL := SqL.of (K := K) (sm sp _ eS8)
      obtain ⟨t, et, htr⟩ := (hA8.same sm).get er
      have hd' := hd8.same sm
      have m0 : r.1 ∈ ord2 := by have := c2 x hxo 0; rw [step_get er, if_pos rfl] at this; exact this
      have m1 : r.2.1 ∈ ord2 := by have := c2 x hxo 1; rw [step_get er, if_neg (by decide)] at this; exact this
      refine ⟨rfl, ?_⟩
      refine ⟨_, rfl, _, rfl, _, rfl, sp, _, _, _, rfl, rfl, hL, et, t, _, 0, _, rfl, rfl, htr, rowV0 r, dn, _, rfl, pos_get hd' m0, ?_⟩
      refine ⟨_, rfl, _, rfl, _, rfl, sp, _, _, _, rfl, rfl, hL, et, t, _, 1, _, rfl, rfl, htr, rowV1 r, dn, _, rfl, pos_get hd' m1, ?_⟩
      refine ⟨_, rfl, _, rfl, sp, _, _, _, rfl, rfl, hL, et, t, _, 2, _, rfl, rfl, htr, rowV2 r, ?_⟩
      refine ⟨by show 3 ≤ sizeLine; decide, fun nt hnt => ?_⟩
      obtain ⟨g1, g2, g3, g4⟩ := grow_rows (r := (ord2.idxOf r.1, ord2.idxOf r.2.1, r.2.2)) sm nfp eD hA hnt
      have hil : i < (renum MR ord2).length := by rw [renum_len]; exact lt_get ex
      have eren := renum_get (R := MR) ex
      rw [step_get er, step_get er, ins_get er, if_pos rfl, if_neg (by decide)] at eren
      refine ⟨vs, g4, szs ?_, g1, _, g2, ?_⟩
      · rw [hA.1, List.length_take]; rw [renum_len] at hil ⊢; omega
      · rw [List.take_add_one, eren]; exact g3
    obtain ⟨s9, vs9, eF9, hA9⟩ := p
    have hke : (renum MR ord2).take ord2.length = renum MR ord2 := List.take_of_length_le (by rw [renum_len]; exact Nat.le_refl _)
    rw [nums_len, hke] at hA9
    have sm9 := sm8.trans s9
    refine ⟨fp, vs9, rfl, .inl ⟨SqL.of eF9, fun rp nrp => ?_⟩⟩
    exact q _ rp (sm9.trans (same_new nrp)) (sm9.free nrp) ⟨vs9, SqT.of upd_same, hA9.same (same_new nrp)⟩
def sp_told_rows (K : PySem.W.Frag) : Sp := fun vs H Q _ => ∃ (a : Addr) (R : List W36.Row), vs = [.ref a, .int 0] ∧ RowsL K H a R ∧ Valid R ∧ 0 < R.length ∧ R.length ≤ 30 ∧
  ∀ H' p, Same H H' → H p = none → RowsT K H' p (least (wide R) 0) → Q (.ref p) H'
theorem ok_told_rows (T : Txt K mg) : FnOk P w K mg base CX0 4 T.a_told_rows T.d_told_rows ["rows", "start"] (sp_told_rows K) := by
  refine T.F_told_rows.ok sc_told_rows (fun vs H Q E h => ?_) (fun cdv A outer s H vs Q E hr h => ?_)
  · obtain ⟨a, R, rfl, _⟩ := h
    rfl
  · obtain ⟨a, R, rfl, hR, hv, h0, h30, q⟩ := h
    obtain ⟨ts, hL, hA⟩ := id hR
    refine ⟨_, (pss_cons (ps_set (i := 2) sc_told_rows.nd rfl (Or.inl rfl) (pe_callB call_len_seq (by rfl) T.n_len (by decide +kernel) (pa_cons (pv 0) pa_nil)))
      (pss_cons (ps_set (i := 3) sc_told_rows.nd rfl (Or.inl rfl) (pe_lst pa_nil))
      (pss_cons (ps_for PassesOwn.never rfl (pi_tup (pe_tup (pa_cons pe_int (pa_cons pe_int pa_nil)))) (pg_name (i := 4) sc_told_rows.nd rfl (Or.inl rfl))
      (pss_one (ps_for PassesOwn.never rfl (pi_list (pv 0)) (pg_name (i := 5) sc_told_rows.nd rfl (Or.inl rfl))
        (pss_one (ps_expr (pe_bm PySem.F.plainAttrs_list PySem.F.slot_list_append PySem.F.type_list_append mt_append (pv 3) (pa_cons (pe_tup (pa_cons (pe_op op_addN (pe_ix ix_tup (pv 5) pe_int (fun _ _ => rfl)) (pe_op op_mulN (pv 2) (pv 4))) (pa_cons (pe_op op_addN (pe_ix ix_tup (pv 5) pe_int (fun _ _ => rfl)) (pe_op op_mulN (pv 2) (pe_ix ix_tup (pe_ix ix_list (pv 0) (pe_ix ix_tup (pv 5) pe_int (fun _ _ => rfl)) (fun _ _ => rfl)) pe_int (fun _ _ => rfl)))) (pa_cons (pv 4) pa_nil)))) pa_nil)))))))
      (pss_one (ps_ret (pe_call (ok_least_rows T) (hr.mono (by decide)) (by rfl) T.g_least_rows T.F_least_rows.kp T.b_least_rows .nil pass0 (pa_cons (pv 3) (pa_cons (pv 1) pa_nil)))))))), ?_⟩
    refine ⟨_, rfl, a, ts, rfl, .inl hL, ?_⟩
    rw [hA.1]
    refine ⟨by show 0 ≤ sizeLine; decide, fun wp nwp => ?_⟩
    refine ⟨by show 2 ≤ sizeLine; decide, fun tp ntp => ?_⟩
    have nwt : wp ≠ tp := ne_of_none (H := upd H wp (.lst [])) upd_same ntp
    refine ⟨tp, rfl, ⟨_, SqT.of upd_same⟩, for_tup (K := K) (a := tp) (xs := [.int 0, .int 1]) (fun j σ H1 => ∃ z4 z5, σ = [some (.ref a), some (.int 0), some (.int (R.length : Int)), some (.ref wp), z4, z5] ∧ Same H H1 ∧ H1 tp = some (.tup [.int 0, .int 1]) ∧ ∃ vs, H1 wp = some (.lst vs) ∧ RowsAt K H1 vs ((wide R).take (R.length * j)))
      ⟨none, none, rfl, (same_new nwp).trans (same_new ntp), upd_same, [], by rw [upd_ne nwt]; exact upd_same, by rw [Nat.mul_zero, List.take_zero]; exact RowsAt.nil⟩ (fun j σ H1 _ hP => ?_) (fun j y σ H1 ej hP => ?_) (fun σ H1 hP => ?_)⟩
    · obtain ⟨_, _, _, _, e, _⟩ := hP
      exact SqT.of e
    · obtain ⟨z4, z5, rfl, sm, et, vs, ew, hW⟩ := hP
      have hj : j = 0 ∨ j = 1 := by
        have := lt_get ej
        simp only [List.length_cons, List.length_nil] at this
        omega
      have ey : y = .int (j : Int) := by rcases hj with rfl | rfl <;> exact (Option.some.inj ej).symm
      subst ey
      refine ⟨_, rfl, a, rfl, ⟨_, sm.seq hL⟩, for_list (K := K) (a := a) (xs := ts) (fun i σ H2 => ∃ z5, σ = [some (.ref a), some (.int 0), some (.int (R.length : Int)), some (.ref wp), some (.int (j : Int)), z5] ∧ Same H H2 ∧ H2 tp = some (.tup [.int 0, .int 1]) ∧ ∃ vs, H2 wp = some (.lst vs) ∧ RowsAt K H2 vs ((wide R).take (R.length * j + i)))
        ⟨z5, rfl, sm, et, vs, ew, hW⟩ (fun i σ H2 _ hP => ?_) (fun i y σ H2 ei hP => ?_) (fun σ H2 hP => ?_)⟩
      · obtain ⟨_, _, sm, _⟩ := hP
        exact sm.seq hL
      · obtain ⟨z5, rfl, sm, et, vs, ew, hW⟩ := hP
        obtain ⟨r, t, er, rfl, htr⟩ := (hA.same sm).of ei
        have hil := lt_get er
        have h1 : r.2.1 < R.length := by have := step_lt hv hil 1; rw [step_get er, if_neg (by decide)] at this; exact this
        obtain ⟨r2, er2⟩ := get_lt h1
        obtain ⟨t2, et2, htr2⟩ := (hA.same sm).get er2
        refine ⟨_, rfl, .inl ⟨rfl, _, SqL.of ew⟩, ?_⟩
        have hR60 : R.length ≤ 4294967296 := by omega
        refine ⟨_, rfl, t, _, 0, _, rfl, rfl, htr, rowV0 r, _, rfl, _, rfl, _, _, rfl, rfl, hR60, _, _, rfl, rfl, ?_⟩
        refine ⟨_, rfl, t, _, 1, _, rfl, rfl, htr, rowV1 r, _, rfl, _, rfl, _, rfl, t, _, 1, _, rfl, rfl, htr, rowV1 r, a, ts, _, _, rfl, rfl, sm.seq hL, et2, t2, _, 2, _, rfl, rfl, htr2, rowV2 r2, _, _, rfl, rfl, hR60, _, _, rfl, rfl, ?_⟩
        refine ⟨_, rfl, by show 3 ≤ sizeLine; decide, fun nt hnt => ?_⟩
        obtain ⟨g1, g2, g3, g4⟩ := grow_rows (r := wrow R j r) sm nwp ew hW hnt
        have er3 : wrow R j r = (r.1 + R.length * j, r.2.1 + R.length * r2.2.2, j) := by
          unfold wrow
          rw [ins_get er2]
        rw [er3] at g1 g2 g3 g4
        have nwt2 : tp ≠ wp := ne_of et ew fun z => nomatch z
        have hwg : (wide R)[R.length * j + i]? = some (r.1 + R.length * j, r.2.1 + R.length * r2.2.2, j) := by
          rw [← er3, Nat.add_comm]; exact wide_get er (by omega)
        refine ⟨wp, vs, _, rfl, rfl, g4, szs ?_, _, rfl, g1, ?_, _, g2, ?_⟩
        · rw [hW.1, List.length_take]
          rw [wide_len]; omega
        · rw [upd_ne nwt2, upd_ne (ne_of_none et hnt)]; exact et
        · rw [← Nat.add_assoc, List.take_add_one, hwg]; exact g3
      · obtain ⟨z5, rfl, sm, et, vs, ew, hW⟩ := hP
        refine ⟨_, z5, rfl, sm, et, vs, ew, ?_⟩
        rw [hA.1] at hW
        rw [Nat.mul_add, Nat.mul_one]; exact hW
    · obtain ⟨z4, z5, rfl, sm, et, vs, ew, hW⟩ := hP
      have e2 : (wide R).take (R.length * 2) = wide R := List.take_of_length_le (by rw [wide_len]; omega)
      have hW2 : RowsAt K H1 vs (wide R) := by rw [← e2]; exact hW
      refine ⟨_, rfl, _, rfl, wp, wide R, 0, rfl, ⟨vs, SqL.of ew, hW2⟩, wide_valid hv, by rw [wide_len]; omega, by rw [wide_len]; omega, fun H2 p s2 np hp => ?_⟩
      exact q _ p (sm.trans s2) (sm.free np) hp
end
end W36
end

section
set_option linter.all false
set_option maxRecDepth 100000
set_option maxHeartbeats 8000000
/-! paired_rows. -/
namespace W36
open PySem PySem.Spec PyProof.Rows L2
theorem pairs_len {a b : Nat} {l : List (Nat × Nat)} (hn : l.Nodup) (hl : ∀ p ∈ l, p.1 < a ∧ p.2 < b) : l.length ≤ a * b := by
  have h := nodup_le (a * b) (l.map fun p => p.1 * b + p.2) (List.pairwise_map.mpr (List.Pairwise.imp_of_mem (fun {x y} hx hy hxy e => hxy (by
    obtain ⟨x1, x2⟩ := hl x hx
    obtain ⟨y1, y2⟩ := hl y hy
    have hb : 0 < b := by omega
    have e1 : x.1 = y.1 := by
      have h1 : (x.1 * b + x.2) / b = x.1 := by rw [Nat.mul_comm, Nat.mul_add_div hb, Nat.div_eq_of_lt x2, Nat.add_zero]
      have h2 : (y.1 * b + y.2) / b = y.1 := by rw [Nat.mul_comm, Nat.mul_add_div hb, Nat.div_eq_of_lt y2, Nat.add_zero]
      rw [← h1, ← h2, e]
    rw [e1] at e
    exact Prod.ext e1 (by omega))) hn)) (fun x hx => by
    obtain ⟨p, hp, rfl⟩ := List.mem_map.mp hx
    obtain ⟨h1, h2⟩ := hl p hp
    have : p.1 * b + b ≤ a * b := by
      have := Nat.mul_le_mul_right b h1
      rw [Nat.succ_mul] at this
      exact this
    omega)
  rw [List.length_map] at h
  exact h
/-- the pairs met so far, and the rows made so far -/
structure POrd (A B : List W36.Row) (ord : List (Nat × Nat)) (found : List W36.Row) : Prop where
  nd : ord.Nodup
  lt : ∀ p ∈ ord, p.1 < A.length ∧ p.2 < B.length
  head : ord[0]? = some (0, 0)
  le : found.length ≤ ord.length
  row : ∀ (i l r : Nat), i < found.length → ord[i]? = some (l, r) → ∃ z o, found[i]? = some (z, o, coRule (ins A l) (ins B r)) ∧ ord[z]? = some (step A l 0, step B r 0) ∧ ord[o]? = some (step A l 1, step B r 1)
theorem POrd.len {A B : List W36.Row} {ord : List (Nat × Nat)} {found : List W36.Row} (h : POrd A B ord found) : ord.length ≤ A.length * B.length := pairs_len h.nd h.lt
theorem POrd.grow {A B : List W36.Row} {ord : List (Nat × Nat)} {found : List W36.Row} (h : POrd A B ord found) {p : Nat × Nat} (hp : p ∉ ord) (h1 : p.1 < A.length) (h2 : p.2 < B.length) : POrd A B (ord ++ [p]) found := by
  have ap : ∀ {i : Nat} {x : Nat × Nat}, ord[i]? = some x → (ord ++ [p])[i]? = some x := fun e => by rw [List.getElem?_append_left (lt_get e)]; exact e
  refine ⟨List.nodup_append.mpr ⟨h.nd, by simp, fun a ha b hb e => hp (by rw [← List.mem_singleton.mp hb, ← e]; exact ha)⟩, fun x hx => ?_, ap h.head, by rw [List.length_append]; have := h.le; omega, fun i l r hi e => ?_⟩
  · rcases List.mem_append.mp hx with hx | hx
    · exact h.lt x hx
    · rw [List.mem_singleton.mp hx]; exact ⟨h1, h2⟩
  · have hl := h.le
    rw [List.getElem?_append_left (by omega)] at e
    obtain ⟨z, o, a, b, c⟩ := h.row i l r hi e
    exact ⟨z, o, a, ap b, ap c⟩
theorem POrd.made {A B : List W36.Row} {ord : List (Nat × Nat)} {found : List W36.Row} (h : POrd A B ord found) {l r z o : Nat} (e : ord[found.length]? = some (l, r)) (h0 : ord[z]? = some (step A l 0, step B r 0)) (h1 : ord[o]? = some (step A l 1, step B r 1)) :
    POrd A B ord (found ++ [(z, o, coRule (ins A l) (ins B r))]) := by
  refine ⟨h.nd, h.lt, h.head, by rw [List.length_append]; exact lt_get e, fun i l' r' hi e' => ?_⟩
  by_cases hif : i < found.length
  · obtain ⟨z', o', a, b, c⟩ := h.row i l' r' hif e'
    exact ⟨z', o', by rw [List.getElem?_append_left hif]; exact a, b, c⟩
  · rw [List.length_append, List.length_singleton] at hi
    have : i = found.length := by omega
    subst this
    rw [e] at e'
    cases e'
    exact ⟨z, o, by rw [List.getElem?_append_right (Nat.le_refl _), Nat.sub_self]; rfl, h0, h1⟩
theorem POrd.ok {A B : List W36.Row} {ord : List (Nat × Nat)} {found : List W36.Row} (h : POrd A B ord found) (e : found.length = ord.length) : PairOk A B coRule ord found :=
  ⟨e, h.head, fun i l r hi => h.row i l r (by rw [e]; exact lt_get hi) hi⟩
theorem get_idxOfP {ord : List (Nat × Nat)} {q : Nat × Nat} (h : q ∈ ord) : ord[ord.idxOf q]? = some q := by
  have hl := List.idxOf_lt_length_of_mem h
  rw [List.getElem?_eq_getElem hl, List.getElem_idxOf hl]
def pairF (ord : List (Nat × Nat)) (l r : Nat) : Option V := if (l, r) ∈ ord then some (.int ((ord.idxOf (l, r) : Nat) : Int)) else none
section
variable {K : PySem.W.Frag}
def PairsAt (H : Hp) (vs : List V) (ord : List (Nat × Nat)) : Prop := vs.length = ord.length ∧ ∀ (i l r : Nat), ord[i]? = some (l, r) → ∃ t, vs[i]? = some (.ref t) ∧ H t = some (.tup [.int (l : Int), .int (r : Int)])
theorem PairsAt.same {H H' : Hp} {vs : List V} {ord : List (Nat × Nat)} (h : PairsAt H vs ord) (e : Same H H') : PairsAt H' vs ord := ⟨h.1, fun i l r x => let ⟨t, a, b⟩ := h.2 i l r x; ⟨t, a, e _ _ b⟩⟩
theorem PairsAt.upd {H : Hp} {D : Addr} {o o' : HO} {vs : List V} {ord : List (Nat × Nat)} (h : PairsAt H vs ord) (e : H D = some o) (hn : ∀ xs, o ≠ .tup xs) : PairsAt (L2.upd H D o') vs ord :=
  ⟨h.1, fun i l r x => let ⟨t, a, b⟩ := h.2 i l r x; ⟨t, a, by rw [upd_ne (ne_of b e fun z => hn _ z.symm)]; exact b⟩⟩
theorem PairsAt.snoc {H : Hp} {vs : List V} {ord : List (Nat × Nat)} {l r : Nat} {t : Addr} (h : PairsAt H vs ord) (ht : H t = some (.tup [.int (l : Int), .int (r : Int)])) : PairsAt H (vs ++ [.ref t]) (ord ++ [(l, r)]) := by
  refine ⟨by rw [List.length_append, List.length_append, h.1]; rfl, fun i l' r' e => ?_⟩
  by_cases hi : i < ord.length
  · rw [List.getElem?_append_left hi] at e
    obtain ⟨u, a, b⟩ := h.2 i l' r' e
    exact ⟨u, by rw [List.getElem?_append_left (by rw [h.1]; exact hi)]; exact a, b⟩
  · have hl := lt_get e
    rw [List.length_append, List.length_singleton] at hl
    have : i = ord.length := by omega
    subst this
    rw [List.getElem?_append_right (Nat.le_refl _), Nat.sub_self] at e
    cases e
    exact ⟨t, by rw [List.getElem?_append_right (by rw [h.1]; exact Nat.le_refl _), h.1, Nat.sub_self]; rfl, ht⟩
structure PS (K : PySem.W.Frag) (H0 H : Hp) (dp op fp : Addr) (A B : List W36.Row) (ord : List (Nat × Nat)) (found : List W36.Row) : Prop where
  same : Same H0 H
  dct : ∃ kvs, H dp = some (.dT kvs) ∧ kvs.length ≤ ord.length ∧ ∀ l r : Nat, valV kvs (key2 l r) = pairF ord l r
  odr : ∃ vs, H op = some (.lst vs) ∧ PairsAt H vs ord
  fnd : ∃ vs, H fp = some (.lst vs) ∧ RowsAt K H vs found
  ok : POrd A B ord found
  nof : op ≠ fp
  nd : H0 dp = none
  no : H0 op = none
  nf : H0 fp = none
section
variable {H0 H H' : Hp} {dp op fp : Addr} {A B : List W36.Row} {ord : List (Nat × Nat)} {found : List W36.Row}
theorem PS.ext (h : PS K H0 H dp op fp A B ord found) (e : Same H H') : PS K H0 H' dp op fp A B ord found :=
  ⟨h.same.trans e, let ⟨k, a, b, c⟩ := h.dct; ⟨k, e _ _ a, b, c⟩, let ⟨v, a, b⟩ := h.odr; ⟨v, e _ _ a, b.same e⟩, let ⟨v, a, b⟩ := h.fnd; ⟨v, e _ _ a, b.same e⟩, h.ok, h.nof, h.nd, h.no, h.nf⟩
theorem RowsAt.updD {H : Hp} {D : Addr} {o o' : HO} {vs : List V} {R : List W36.Row} (h : RowsAt K H vs R) (e : H D = some o) (h1 : ∀ ys, o ≠ .tup ys) (h2 : ∀ f ys, o ≠ .frz f (.tup ys)) : RowsAt K (upd H D o') vs R :=
  ⟨h.1, fun i r hr => let ⟨t, a, b⟩ := h.2 i r hr; ⟨t, a, sqt_upd b e h1 h2⟩⟩
/-- another list, not of these -/
theorem PS.other {D : Addr} {xs : List V} {o : HO} (h : PS K H0 H dp op fp A B ord found) (hD : H D = some (.lst xs)) (n0 : H0 D = none) (n1 : D ≠ op) (n2 : D ≠ fp) : PS K H0 (upd H D o) dp op fp A B ord found :=
  ⟨same_mut h.same n0, let ⟨k, a, b, c⟩ := h.dct; ⟨k, by rw [upd_ne (ne_of a hD fun z => nomatch z)]; exact a, b, c⟩, let ⟨v, a, b⟩ := h.odr; ⟨v, by rw [upd_ne n1.symm]; exact a, b.upd hD fun _ z => nomatch z⟩,
    let ⟨v, a, b⟩ := h.fnd; ⟨v, by rw [upd_ne n2.symm]; exact a, b.updL hD⟩, h.ok, h.nof, h.nd, h.no, h.nf⟩
end
end
section
variable {P : Program} {w : World} {K : PySem.W.Frag} {mg : Str → Option Value} {base : Heap}
def sp_paired_rows (K : PySem.W.Frag) : Sp := fun vs H Q _ => ∃ (a b c : Addr) (A B : List W36.Row), vs = [.ref a, .ref b, .ref c] ∧ RowsT K H a A ∧ RowsT K H b B ∧ SqT K H c [.int 0, .int 0, .int 1, .int 0] ∧ Valid A ∧ Valid B ∧ 0 < A.length ∧ 0 < B.length ∧ A.length * B.length ≤ 60 ∧
  ∀ H' p ord Pr, Same H H' → H p = none → PairOk A B coRule ord Pr → Pr.length ≤ A.length * B.length → Valid Pr → RowsT K H' p (least Pr 0) → Q (.ref p) H'
theorem co_at {a b : Nat} (ha : a ≤ 1) (hb : b ≤ 1) : atI ([.int 0, .int 0, .int 1, .int 0] : List V) ((2 * a + b : Nat) : Int) = some (.int ((coRule a b : Nat) : Int)) := by
  have h1 : a = 0 ∨ a = 1 := by omega
  have h2 : b = 0 ∨ b = 1 := by omega
  rcases h1 with rfl | rfl <;> rcases h2 with rfl | rfl <;> rfl
theorem ok_paired_rows (T : Txt K mg) : FnOk P w K mg base CX0 4 T.a_paired_rows T.d_paired_rows ["one", "other", "rule"] (sp_paired_rows K) := by
  refine T.F_paired_rows.ok sc_paired_rows (fun vs H Q E h => ?_) (fun cdv A0 outer s H vs Q E hr h => ?_)
  · obtain ⟨a, b, c, A, B, rfl, _⟩ := h
    rfl
  · obtain ⟨a, b, c, A, B, rfl, hA, hB, hc, vA, vB, lA, lB, h60, q⟩ := h
    obtain ⟨as, hTa, hAa⟩ := id hA
    obtain ⟨bs, hTb, hAb⟩ := id hB
    refine ⟨_, (pss_cons (ps_set (i := 3) sc_paired_rows.nd rfl (Or.inl rfl) (pe_dispT (hu_of hr) (pe_tup (pa_cons pe_int (pa_cons pe_int pa_nil))) pe_int))
      (pss_cons (ps_set (i := 4) sc_paired_rows.nd rfl (Or.inl rfl) (pe_lst (pa_cons (pe_tup (pa_cons pe_int (pa_cons pe_int pa_nil))) pa_nil)))
      (pss_cons (ps_set (i := 5) sc_paired_rows.nd rfl (Or.inl rfl) (pe_lst pa_nil))
      (pss_cons (ps_while PassesOwn.never (pt_cmpR op_lt (pe_callB call_len_seq (by rfl) T.n_len (by decide +kernel) (pa_cons (pv 5) pa_nil)) (pe_callB call_len_seq (by rfl) T.n_len (by decide +kernel) (pa_cons (pv 4) pa_nil)) (nomark _))
      (pss_cons (ps_asg (pe_ix ix_list (pv 4) (pe_callB call_len_seq (by rfl) T.n_len (by decide +kernel) (pa_cons (pv 5) pa_nil)) (fun _ _ => rfl)) (pg_tup rfl (pgs_cons (pg_name (i := 6) sc_paired_rows.nd rfl (Or.inl rfl)) (pgs_cons (pg_name (i := 7) sc_paired_rows.nd rfl (Or.inl rfl)) pgs_nil))))
        (pss_cons (ps_set (i := 8) sc_paired_rows.nd rfl (Or.inl rfl) (pe_lst pa_nil))
        (pss_cons (ps_for PassesOwn.never rfl (pi_tup (pe_tup (pa_cons pe_int (pa_cons pe_int pa_nil)))) (pg_name (i := 9) sc_paired_rows.nd rfl (Or.inl rfl))
        (pss_cons (ps_set (i := 10) sc_paired_rows.nd rfl (Or.inl rfl) (pe_tup (pa_cons (pe_ix ix_tup (pe_ix ix_tup (pv 0) (pv 6) (fun _ _ => rfl)) (pv 9) (fun _ _ => rfl)) (pa_cons (pe_ix ix_tup (pe_ix ix_tup (pv 1) (pv 7) (fun _ _ => rfl)) (pv 9) (fun _ _ => rfl)) pa_nil))))
          (pss_cons (ps_if (pt_cmp (pc_dnotin (hu_of hr) (pv 10) (pv 3)))
          (pss_cons (ps_dput (hu_of hr) (pv 3) (pv 10) (pe_callB call_len_seq (by rfl) T.n_len (by decide +kernel) (pa_cons (pv 4) pa_nil)) rfl)
            (pss_one (ps_expr (pe_bm PySem.F.plainAttrs_list PySem.F.slot_list_append PySem.F.type_list_append mt_append (pv 4) (pa_cons (pv 10) pa_nil)))))
          pss_nil)
          (pss_one (ps_expr (pe_bm PySem.F.plainAttrs_list PySem.F.slot_list_append PySem.F.type_list_append mt_append (pv 8) (pa_cons (pe_dget (hu_of hr) (pv 3) (pv 10) (fun _ _ => rfl)) pa_nil)))))))
        (pss_one (ps_expr (pe_bm PySem.F.plainAttrs_list PySem.F.slot_list_append PySem.F.type_list_append mt_append (pv 5) (pa_cons (pe_tup (pa_cons (pe_ix ix_list (pv 8) pe_int (fun _ _ => rfl)) (pa_cons (pe_ix ix_list (pv 8) pe_int (fun _ _ => rfl)) (pa_cons (pe_ix ix_tup (pv 2) (pe_op op_addN (pe_op op_mulN pe_int (pe_ix ix_tup (pe_ix ix_tup (pv 0) (pv 6) (fun _ _ => rfl)) pe_int (fun _ _ => rfl))) (pe_ix ix_tup (pe_ix ix_tup (pv 1) (pv 7) (fun _ _ => rfl)) pe_int (fun _ _ => rfl))) (fun _ _ => rfl)) pa_nil)))) pa_nil))))))))
      (pss_one (ps_ret (pe_call (ok_least_rows T) (hr.mono (by decide)) (by rfl) T.g_least_rows T.F_least_rows.kp T.b_least_rows .nil pass0 (pa_cons (pv 5) (pa_cons pe_int pa_nil))))))))), ?_⟩
    -- names = {(0, 0): 0}
    intro dp ndp
    refine ⟨by show 2 ≤ sizeLine; decide, fun k0 nk0 => ?_⟩
    have n1 : dp ≠ k0 := ne_of_none (H := upd H dp (.dT [])) upd_same nk0
    refine ⟨by rw [upd_ne n1, upd_same], k0, key2 0 0, rfl, upd_same, ?_⟩
    have sA : Same H (upd (upd (upd H dp (.dT [])) k0 (.tup [.int 0, .int 0])) dp (.dT [(key2 0 0, .int 0)])) := same_mut ((same_new ndp).trans (same_new nk0)) ndp
    -- order = [(0, 0)]
    refine ⟨by show 2 ≤ sizeLine; decide, fun k1 nk1 => ⟨by show 1 ≤ sizeLine; decide, fun op nop => ?_⟩⟩
    have sB := sA.trans (same_new (o := .tup [.int 0, .int 0]) nk1)
    have n2 : dp ≠ k1 := ne_of_none (H := upd (upd (upd H dp (.dT [])) k0 (.tup [.int 0, .int 0])) dp (.dT [(key2 0 0, .int 0)])) upd_same nk1
    have n3 : k1 ≠ op := ne_of_none (H := upd (upd (upd (upd H dp (.dT [])) k0 (.tup [.int 0, .int 0])) dp (.dT [(key2 0 0, .int 0)])) k1 (.tup [.int 0, .int 0])) upd_same nop
    have eD4 : (upd (upd (upd (upd H dp (.dT [])) k0 (.tup [.int 0, .int 0])) dp (.dT [(key2 0 0, .int 0)])) k1 (.tup [.int 0, .int 0])) dp = some (.dT [(key2 0 0, .int 0)]) := by rw [upd_ne n2, upd_same]
    have n4 : dp ≠ op := ne_of_none eD4 nop
    have nopH : H op = none := sB.free nop
    have eD5 : (upd (upd (upd (upd (upd H dp (.dT [])) k0 (.tup [.int 0, .int 0])) dp (.dT [(key2 0 0, .int 0)])) k1 (.tup [.int 0, .int 0])) op (.lst [.ref k1])) dp = some (.dT [(key2 0 0, .int 0)]) := by rw [upd_ne n4]; exact eD4
    have eK5 : (upd (upd (upd (upd (upd H dp (.dT [])) k0 (.tup [.int 0, .int 0])) dp (.dT [(key2 0 0, .int 0)])) k1 (.tup [.int 0, .int 0])) op (.lst [.ref k1])) k1 = some (.tup [.int 0, .int 0]) := by rw [upd_ne n3, upd_same]
    have eO5 : (upd (upd (upd (upd (upd H dp (.dT [])) k0 (.tup [.int 0, .int 0])) dp (.dT [(key2 0 0, .int 0)])) k1 (.tup [.int 0, .int 0])) op (.lst [.ref k1])) op = some (.lst [.ref k1]) := upd_same
    have sC := sB.trans (same_new (o := .lst [.ref k1]) nop)
    generalize (upd (upd (upd (upd (upd H dp (.dT [])) k0 (.tup [.int 0, .int 0])) dp (.dT [(key2 0 0, .int 0)])) k1 (.tup [.int 0, .int 0])) op (.lst [.ref k1])) = H5 at *
    -- found = []
    refine ⟨by show 0 ≤ sizeLine; decide, fun fp nfp => ?_⟩
    have s6 := same_new (o := .lst []) nfp
    have S0 : PS K H (upd H5 fp (.lst [])) dp op fp A B [(0, 0)] [] := by
      refine ⟨sC.trans s6, ⟨_, s6 _ _ eD5, Nat.le_refl _, fun l r => ?_⟩, ⟨_, s6 _ _ eO5, rfl, fun i l r e => ?_⟩, ⟨[], upd_same, RowsAt.nil⟩, ⟨by simp, fun p hp => ?_, rfl, Nat.zero_le _, fun i l r hi => absurd hi (Nat.not_lt_zero _)⟩, ne_of_none eO5 nfp, ndp, nopH, sC.free nfp⟩
      · unfold pairF
        by_cases h : (l, r) = (0, 0)
        · cases h
          rw [valV_pos rfl, if_pos (List.mem_singleton.mpr rfl)]; rfl
        · rw [valV_neg (fun e => h (by obtain ⟨h1, h2⟩ := key2_inj.mp e; rw [← h1, ← h2])), if_neg (fun z => h (List.mem_singleton.mp z))]; rfl
      · have hi : i = 0 := by have := lt_get e; simpa using this
        subst hi
        cases e
        exact ⟨k1, rfl, s6 _ _ eK5⟩
      · rw [List.mem_singleton.mp hp]; exact ⟨lA, lB⟩
    -- while len(found) < len(order)
    refine ⟨fun m σ H' => ∃ ord found z6 z7 z8 z9 z10, m = A.length * B.length - found.length ∧ σ = [some (.ref a), some (.ref b), some (.ref c), some (.ref dp), some (.ref op), some (.ref fp), z6, z7, z8, z9, z10] ∧ PS K H H' dp op fp A B ord found,
      ⟨_, [(0, 0)], [], none, none, none, none, none, rfl, rfl, S0⟩, fun m σ H6 hW => ?_⟩
    obtain ⟨ord, found, z6, z7, z8, z9, z10, em, rfl, S⟩ := hW
    obtain ⟨vo, eo, hvo⟩ := id S.odr
    obtain ⟨vf, ef, hvf⟩ := id S.fnd
    have hol := S.ok.len
    have hfl := S.ok.le
    refine ⟨_, rfl, fp, vf, rfl, .inl (SqL.of ef), _, rfl, op, vo, rfl, .inl (SqL.of eo), _, _, rfl, rfl, _, rfl, ite2 (fun cc => ?_) (fun cc => ?_)⟩
    · have hlt : found.length < ord.length := by
        have := of_decide_eq_true cc
        rw [hvf.1, hvo.1] at this
        omega
      obtain ⟨⟨l, r⟩, elr⟩ := get_lt hlt
      obtain ⟨t, et, htt⟩ := hvo.2 _ l r elr
      obtain ⟨hl, hr2⟩ := S.ok.lt _ (List.mem_of_getElem? elr)
      refine ⟨_, fun σ' H' hN => hN, ?_⟩
      -- left, right = order[len(found)]
      refine ⟨_, rfl, _, rfl, fp, vf, rfl, .inl (SqL.of ef), op, vo, _, _, rfl, rfl, SqL.of eo, atI_nat (by rw [hvf.1]; exact et), t, _, rfl, SqT.of htt, rfl, _, _, rfl, _, _, rfl, rfl, ?_⟩
      -- targets = []
      refine ⟨by show 0 ≤ sizeLine; decide, fun gp ngp => ?_⟩
      have ngO : gp ≠ op := fun z => by rw [z, eo] at ngp; cases ngp
      have ngF : gp ≠ fp := fun z => by rw [z, ef] at ngp; cases ngp
      have ngH : H gp = none := S.same.free ngp
      have S1 := S.ext (same_new (o := .lst []) ngp)
      have hl0 : l < A.length := hl
      have hr0 : r < B.length := hr2
      obtain ⟨ra, era⟩ := get_lt hl0
      obtain ⟨rb, erb⟩ := get_lt hr0
      obtain ⟨ta, eta, htra⟩ := hAa.get era
      obtain ⟨tb, etb, htrb⟩ := hAb.get erb
      -- for digit in (0, 1)
      refine ⟨by show 2 ≤ sizeLine; decide, fun tp ntp => ?_⟩
      have ngt : gp ≠ tp := ne_of_none (H := upd H6 gp (.lst [])) upd_same ntp
      refine ⟨tp, rfl, ⟨_, SqT.of upd_same⟩, for_tup (K := K) (a := tp) (xs := [.int 0, .int 1]) (fun j σ H7 => ∃ ord z9 z10 tl, σ = [some (.ref a), some (.ref b), some (.ref c), some (.ref dp), some (.ref op), some (.ref fp), some (.int (l : Int)), some (.int (r : Int)), some (.ref gp), z9, z10] ∧ PS K H H7 dp op fp A B ord found ∧ ord[found.length]? = some (l, r) ∧
        H7 tp = some (.tup [.int 0, .int 1]) ∧ H7 gp = some (.lst (nums tl)) ∧ tl.length = j ∧ ∀ i, i < j → ∃ x, tl[i]? = some x ∧ ord[x]? = some (step A l i, step B r i))
        ⟨ord, z9, z10, [], rfl, S1.ext (same_new ntp), elr, upd_same, by rw [upd_ne ngt]; exact upd_same, rfl, fun i hi => absurd hi (Nat.not_lt_zero _)⟩ (fun j σ H7 _ hX => ?_) (fun j y σ H7 ej hX => ?_) (fun σ H7 hX => ?_)⟩
      · obtain ⟨_, _, _, _, _, _, _, e, _⟩ := hX
        exact SqT.of e
      · obtain ⟨ord, z9, z10, tl, rfl, S, elr, etp, egp, hll, htl⟩ := hX
        have hj : j = 0 ∨ j = 1 := by
          have := lt_get ej
          simp only [List.length_cons, List.length_nil] at this
          omega
        have ey : y = .int (j : Int) := by rcases hj with rfl | rfl <;> exact (Option.some.inj ej).symm
        subst ey
        -- pair
        refine ⟨_, rfl, _, rfl, a, as, _, _, rfl, rfl, Same.sqt S.same hTa, eta, _, rfl, ta, _, _, _, rfl, rfl, Same.sqt S.same htra, row_at (by omega), ?_⟩
        refine ⟨_, rfl, _, rfl, b, bs, _, _, rfl, rfl, Same.sqt S.same hTb, etb, _, rfl, tb, _, _, _, rfl, rfl, Same.sqt S.same htrb, row_at (by omega), ?_⟩
        rw [← step_get era j, ← step_get erb j]
        refine ⟨by show 2 ≤ sizeLine; decide, fun kp nkp => ?_⟩
        have hsa := step_lt vA hl0 j
        have hsb := step_lt vB hr0 j
        generalize ex : step A l j = x at *
        generalize ey : step B r j = y at *
        have sk := same_new (o := .tup [.int (x : Int), .int (y : Int)]) nkp
        have S2 := S.ext sk
        have ekp : (upd H7 kp (.tup [.int (x : Int), .int (y : Int)])) kp = some (.tup ((key2 x y).map kV)) := upd_same
        have ekp2 : (upd H7 kp (.tup [.int (x : Int), .int (y : Int)])) kp = some (.tup [.int (x : Int), .int (y : Int)]) := upd_same
        have etp2 := sk tp _ etp
        have egp2 := sk gp _ egp
        generalize upd H7 kp (.tup [.int (x : Int), .int (y : Int)]) = H8 at *
        obtain ⟨kvs, ek, hkl, hkF⟩ := id S2.dct
        have hol := S2.ok.len
        obtain ⟨vo, eo, hvo⟩ := id S2.odr
        obtain ⟨vf, ef, hvf⟩ := id S2.fnd
        -- the targets grow by the place of the pair
        have fin : ∀ (H9 : Hp) (ord2 : List (Nat × Nat)) (e : Nat), PS K H H9 dp op fp A B ord2 found → ord2[found.length]? = some (l, r) → H9 tp = some (.tup [.int 0, .int 1]) → H9 gp = some (.lst (nums tl)) → (∀ i, i < j → ∃ x, tl[i]? = some x ∧ ord2[x]? = some (step A l i, step B r i)) → ord2[e]? = some (step A l j, step B r j) →
            ∃ ord' z9 z10 tl', [some (V.ref a), some (.ref b), some (.ref c), some (.ref dp), some (.ref op), some (.ref fp), some (.int (l : Int)), some (.int (r : Int)), some (.ref gp), some (.int (j : Int)), some (.ref kp)] = [some (V.ref a), some (.ref b), some (.ref c), some (.ref dp), some (.ref op), some (.ref fp), some (.int (l : Int)), some (.int (r : Int)), some (.ref gp), z9, z10] ∧ PS K H (upd H9 gp (.lst (nums tl ++ [.int (e : Int)]))) dp op fp A B ord' found ∧ ord'[found.length]? = some (l, r) ∧
              (upd H9 gp (.lst (nums tl ++ [.int (e : Int)]))) tp = some (.tup [.int 0, .int 1]) ∧ (upd H9 gp (.lst (nums tl ++ [.int (e : Int)]))) gp = some (.lst (nums tl')) ∧ tl'.length = j + 1 ∧ ∀ i, i < j + 1 → ∃ x, tl'[i]? = some x ∧ ord'[x]? = some (step A l i, step B r i) := fun H9 ord2 e S9 e1 e2 e3 e4 e5 => by
          refine ⟨ord2, _, _, tl ++ [e], rfl, S9.other e3 ngH ngO ngF, e1, ?_, by rw [upd_same, nums_app], by rw [List.length_append, hll]; rfl, fun i hi => ?_⟩
          · rw [upd_ne (ne_of e2 e3 fun z => nomatch z)]; exact e2
          · by_cases hij : i < j
            · obtain ⟨x, h1, h2⟩ := e4 i hij
              exact ⟨x, by rw [List.getElem?_append_left (by omega)]; exact h1, h2⟩
            · have : i = j := by omega
              subst this
              exact ⟨e, by rw [List.getElem?_append_right (by omega), hll, Nat.sub_self]; rfl, e5⟩
        have gpz : (nums tl).length < sizeLine := szs (by rw [nums_len, hll]; omega)
        refine ⟨_, rfl, _, rfl, dp, _, rfl, DGet.t ek ekp, _, rfl, ?_⟩
        rw [hkF]
        by_cases hm : (x, y) ∈ ord
        · have e : pairF ord x y = some (.int ((ord.idxOf (x, y) : Nat) : Int)) := if_pos hm
          have hg : DGet H8 dp (.ref kp) (some (.int ((ord.idxOf (x, y) : Nat) : Int))) := by
            have := DGet.t ek ekp
            rw [hkF, e] at this; exact this
          rw [e]
          exact ⟨_, rfl, .inl ⟨rfl, _, SqL.of egp2⟩, _, rfl, _, rfl, dp, _, rfl, hg, gp, _, _, rfl, rfl, egp2, gpz, fin H8 ord (ord.idxOf (x, y)) S2 elr etp2 egp2 htl (by rw [ex, ey]; exact get_idxOfP hm)⟩
        · have e : pairF ord x y = none := if_neg hm
          rw [e]
          have ndo : op ≠ dp := ne_of eo ek fun z => nomatch z
          have ndf : fp ≠ dp := ne_of ef ek fun z => nomatch z
          have ndg : gp ≠ dp := ne_of egp2 ek fun z => nomatch z
          have ndt : tp ≠ dp := ne_of etp2 ek fun z => nomatch z
          have ndk : kp ≠ dp := ne_of ekp2 ek fun z => nomatch z
          -- names[pair] = len(order); order.append(pair)
          refine ⟨_, rfl, op, vo, rfl, .inl (SqL.of eo), _, rfl, _, rfl, dp, _, rfl, DPut.t ek ekp (szs (by omega)), ?_⟩
          have eo9 : (upd H8 dp (.dT (putK kvs (key2 x y) (.int (vo.length : Nat))))) op = some (.lst vo) := by rw [upd_ne ndo]; exact eo
          refine ⟨_, rfl, .inl ⟨rfl, _, SqL.of eo9⟩, _, rfl, op, _, _, rfl, rfl, eo9, szs (by rw [hvo.1]; omega), ?_⟩
          have nto : tp ≠ op := ne_of etp2 eo fun z => nomatch z
          have nko : kp ≠ op := ne_of ekp2 eo fun z => nomatch z
          have ekd9 : (upd H8 dp (.dT (putK kvs (key2 x y) (.int (vo.length : Nat))))) dp = some (.dT (putK kvs (key2 x y) (.int (vo.length : Nat)))) := upd_same
          have nso : dp ≠ op := ndo.symm
          have ekF : ∀ l r : Nat, valV (putK kvs (key2 x y) (.int ((vo.length : Nat) : Int))) (key2 l r) = pairF (ord ++ [(x, y)]) l r := fun l r => by
            rw [valV_put, hkF, hvo.1]
            unfold pairF
            by_cases h : key2 l r = key2 x y
            · obtain ⟨rfl, rfl⟩ := key2_inj.mp h
              rw [if_pos rfl, if_pos (List.mem_append_right _ (by simp)), List.idxOf_append, if_neg hm, List.idxOf_cons_self, Nat.zero_add]
            · have hne : (l, r) ≠ (x, y) := fun z => h (by cases z; rfl)
              rw [if_neg h]
              by_cases h2 : (l, r) ∈ ord
              · rw [if_pos h2, if_pos (List.mem_append_left _ h2), List.idxOf_append, if_pos h2]
              · rw [if_neg h2, if_neg (fun z => (List.mem_append.mp z).elim h2 fun z => hne (by simpa using z))]
          have S3 : PS K H (upd (upd H8 dp (.dT (putK kvs (key2 x y) (.int (vo.length : Nat))))) op (.lst (vo ++ [.ref kp]))) dp op fp A B (ord ++ [(x, y)]) found := by
            refine ⟨same_mut (same_mut S2.same S2.nd) S2.no, ⟨_, by rw [upd_ne nso]; exact ekd9, ?_, ekF⟩, ⟨_, upd_same, ?_⟩, ⟨vf, by rw [upd_ne S2.nof.symm, upd_ne ndf]; exact ef, ?_⟩, S2.ok.grow hm hsa hsb, S2.nof, S2.nd, S2.no, S2.nf⟩
            · have := length_putK kvs (key2 x y) (.int ((vo.length : Nat) : Int))
              rw [List.length_append, List.length_singleton]; omega
            · refine PairsAt.snoc ((hvo.upd ek fun _ z => nomatch z).upd eo9 fun _ z => nomatch z) ?_
              rw [upd_ne nko, upd_ne ndk]; exact ekp2
            · exact (hvf.updD ek (fun _ z => nomatch z) (fun _ _ z => nomatch z)).updD eo9 (fun _ z => nomatch z) (fun _ _ z => nomatch z)
          have etp3 : (upd (upd H8 dp (.dT (putK kvs (key2 x y) (.int (vo.length : Nat))))) op (.lst (vo ++ [.ref kp]))) tp = some (.tup [.int 0, .int 1]) := by rw [upd_ne nto, upd_ne ndt]; exact etp2
          have egp3 : (upd (upd H8 dp (.dT (putK kvs (key2 x y) (.int (vo.length : Nat))))) op (.lst (vo ++ [.ref kp]))) gp = some (.lst (nums tl)) := by rw [upd_ne ngO, upd_ne ndg]; exact egp2
          have ek3 : (upd (upd H8 dp (.dT (putK kvs (key2 x y) (.int (vo.length : Nat))))) op (.lst (vo ++ [.ref kp]))) dp = some (.dT (putK kvs (key2 x y) (.int (vo.length : Nat)))) := by rw [upd_ne nso]; exact ekd9
          have ekp3 : (upd (upd H8 dp (.dT (putK kvs (key2 x y) (.int (vo.length : Nat))))) op (.lst (vo ++ [.ref kp]))) kp = some (.tup ((key2 x y).map kV)) := by rw [upd_ne nko, upd_ne ndk]; exact ekp
          generalize (upd (upd H8 dp (.dT (putK kvs (key2 x y) (.int (vo.length : Nat))))) op (.lst (vo ++ [.ref kp]))) = H10 at *
          have hg : DGet H10 dp (.ref kp) (some (.int (vo.length : Nat))) := by
            have := DGet.t ek3 ekp3
            rw [valV_put, if_pos rfl] at this; exact this
          have ap : ∀ {i : Nat} {p : Nat × Nat}, ord[i]? = some p → (ord ++ [(x, y)])[i]? = some p := fun e => by rw [List.getElem?_append_left (lt_get e)]; exact e
          exact ⟨_, rfl, .inl ⟨rfl, _, SqL.of egp3⟩, _, rfl, _, rfl, dp, _, rfl, hg, gp, _, _, rfl, rfl, egp3, gpz, fin H10 (ord ++ [(x, y)]) vo.length S3 (ap elr) etp3 egp3 (fun i hi => let ⟨z, h1, h2⟩ := htl i hi; ⟨z, h1, ap h2⟩) (by
            rw [ex, ey, hvo.1, List.getElem?_append_right (Nat.le_refl _), Nat.sub_self]; rfl)⟩
      · obtain ⟨ord, z9, z10, tl, rfl, S, elr, etp, egp, hll, htl⟩ := hX
        obtain ⟨z, ez, ez2⟩ := htl 0 (by show 0 < 2; decide)
        obtain ⟨o, eo1, eo2⟩ := htl 1 (by show 1 < 2; decide)
        obtain ⟨vf, ef, hvf⟩ := id S.fnd
        have hol := S.ok.len
        have hlt := lt_get elr
        have hia : ins A l = ra.2.2 := ins_get era
        have hib : ins B r = rb.2.2 := ins_get erb
        have hia1 := ins_le vA l
        have hib1 := ins_le vB r
        rw [hia] at hia1
        rw [hib] at hib1
        refine ⟨_, rfl, .inl ⟨rfl, _, SqL.of ef⟩, ?_⟩
        refine ⟨_, rfl, gp, _, 0, _, rfl, rfl, SqL.of egp, nums_at (i := 0) ez, ?_⟩
        refine ⟨_, rfl, gp, _, 1, _, rfl, rfl, SqL.of egp, nums_at (i := 1) eo1, ?_⟩
        refine ⟨_, rfl, _, rfl, _, rfl, a, as, _, _, rfl, rfl, Same.sqt S.same hTa, eta, ta, _, 2, _, rfl, rfl, Same.sqt S.same htra, rowV2 ra, 2, _, rfl, rfl, by decide, ?_⟩
        refine ⟨_, rfl, _, rfl, b, bs, _, _, rfl, rfl, Same.sqt S.same hTb, etb, tb, _, 2, _, rfl, rfl, Same.sqt S.same htrb, rowV2 rb, _, _, rfl, rfl, c, _, _, _, rfl, rfl, Same.sqt S.same hc, co_at hia1 hib1, ?_⟩
        refine ⟨by show 3 ≤ sizeLine; decide, fun nt hnt => ?_⟩
        have s9 := same_new (o := .tup (rowV (z, o, coRule (ins A l) (ins B r)))) hnt
        rw [hia, hib] at s9
        have S9 := S.ext s9
        obtain ⟨g1, g2, g3, g4⟩ := grow_rows (r := (z, o, coRule ra.2.2 rb.2.2)) S.same S.nf ef hvf hnt
        refine ⟨fp, vf, _, rfl, rfl, g4, szs (by rw [hvf.1]; omega), _, ?_, ord, found ++ [(z, o, coRule ra.2.2 rb.2.2)], _, _, _, _, _, rfl, rfl, ?_⟩
        · rw [List.length_append, List.length_singleton]; omega
        · have hrow := S.ok.made elr ez2 eo2
          rw [hia, hib] at hrow
          obtain ⟨k1, k2, k3, k4⟩ := S9.dct
          obtain ⟨v1, v2, v3⟩ := S9.odr
          refine ⟨g1, ⟨k1, ?_, k3, k4⟩, ⟨v1, ?_, v3.upd g4 fun _ z => nomatch z⟩, ⟨_, g2, g3⟩, hrow, S.nof, S.nd, S.no, S.nf⟩
          · rw [upd_ne (ne_of k2 g4 fun z => nomatch z)]; exact k2
          · rw [upd_ne S.nof]; exact v2
    · have hge : found.length = ord.length := by
        have hx : ¬ found.length < ord.length := fun z => cc (decide_eq_true (by rw [hvf.1, hvo.1]; omega))
        omega
      have hok := S.ok.ok hge
      have hv := hok.valid (fun a b => by unfold coRule; split <;> decide)
      refine ⟨_, rfl, fp, found, 0, rfl, ⟨vf, SqL.of ef, hvf⟩, hv, by rw [hge]; exact lt_get S.ok.head, by omega, fun H7 p s7 np hp => ?_⟩
      exact q H7 p ord found (S.same.trans s7) (S.same.free np) hok (by omega) hv hp
end
end W36
end

section
set_option linter.all false
set_option maxRecDepth 100000
set_option maxHeartbeats 4000000
/-! Sizes and its methods; sizes_of_rows. -/
namespace W36
open PySem PySem.Spec PyProof.Rows L2
section
variable {P : Program} {w : World} {K : PySem.W.Frag} {mg : Str → Option Value} {base : Heap}
def sp_is_integer : Sp := fun vs H Q _ => ∃ i : Int, vs = [.int i] ∧ Q (.bl true) H
theorem ok_is_integer (T : Txt K mg) : FnOk P w K mg base CX0 1 T.a_is_integer T.d_is_integer ["number"] sp_is_integer := by
  refine T.F_is_integer.ok sc_is_integer (fun vs H Q E h => ?_) (fun cdv A outer s H vs Q E hr h => ?_)
  · obtain ⟨i, rfl, _⟩ := h
    rfl
  · obtain ⟨i, rfl, q⟩ := h
    refine ⟨_, (pss_one (ps_ret (pe_and (pe_callB call_isi (by rfl) T.n_isinstance (by decide +kernel) (pa_cons (pv 0) (pa_cons (pe_bltn (v := .ty "int") (by rfl) T.n_int (by decide +kernel) rfl) pa_nil))) (pe_one (pe_not (pe_callB call_isi (by rfl) T.n_isinstance (by decide +kernel) (pa_cons (pv 0) (pa_cons (pe_bltn (v := .ty "bool") (by rfl) T.n_bool (by decide +kernel) rfl) pa_nil)))))))), ?_⟩
    refine ⟨_, rfl, _, _, _, _, true, rfl, .ty "int", .base (.int i), kit_ty (by decide +kernel), true, rfl, ?_⟩
    refine ⟨_, rfl, _, _, _, _, false, rfl, .ty "bool", .base (.int i), kit_ty (by decide +kernel), false, rfl, q⟩
def sp_is_size : Sp := fun vs H Q _ => ∃ k : Nat, vs = [.int (k : Int)] ∧ 1 ≤ k ∧ k ≤ 10 ^ 30 ∧ Q (.bl true) H
theorem ok_is_size (T : Txt K mg) : FnOk P w K mg base CX0 2 T.a_is_size T.d_is_size ["size"] sp_is_size := by
  refine T.F_is_size.ok sc_is_size (fun vs H Q E h => ?_) (fun cdv A outer s H vs Q E hr h => ?_)
  · obtain ⟨i, rfl, _⟩ := h
    rfl
  · obtain ⟨k, rfl, h1, h2, q⟩ := h
    refine ⟨_, (pss_one (ps_ret (pe_and (pe_call (ok_is_integer T) (hr.mono (by decide)) (by rfl) T.g_is_integer T.F_is_integer.kp T.b_is_integer .nil pass0 (pa_cons (pv 0) pa_nil)) (pe_one (pe_chain op_le op_le pe_int (pv 0) (pe_glob (v := .int (10 ^ 30)) (by rfl) T.g_MOST ⟨_, rfl⟩)))))), ?_⟩
    refine ⟨_, rfl, _, rfl, true, rfl, ?_⟩
    refine ⟨_, rfl, _, _, rfl, rfl, _, rfl, ite2 (fun c => ?_) (fun c => ?_)⟩
    · refine ⟨_, _, rfl, rfl, ?_⟩
      have e : V.bl (decide ((k : Int) ≤ 10 ^ 30)) = .bl true := by rw [decide_eq_true (show (k : Int) ≤ 10 ^ 30 by omega)]
      show Q (V.bl (decide ((k : Int) ≤ 10 ^ 30))) H
      rw [e]; exact q
    · exact absurd (decide_eq_true (by omega)) c
def sp_need_size : Sp := fun vs H Q _ => ∃ k : Nat, vs = [.int (k : Int)] ∧ 1 ≤ k ∧ k ≤ 10 ^ 30 ∧ Q .non H
theorem ok_need_size (T : Txt K mg) : FnOk P w K mg base CX0 3 T.a_need_size T.d_need_size ["value"] sp_need_size := by
  refine T.F_need_size.ok sc_need_size (fun vs H Q E h => ?_) (fun cdv A outer s H vs Q E hr h => ?_)
  · obtain ⟨i, rfl, _⟩ := h
    rfl
  · obtain ⟨k, rfl, h1, h2, q⟩ := h
    refine ⟨_, (pss_one (ps_if (pt_not (pt_val (pe_call (ok_is_size T) (hr.mono (by decide)) (by rfl) T.g_is_size T.F_is_size.kp T.b_is_size .nil pass0 (pa_cons (pv 0) pa_nil))))
      (pss_one ps_never)
      pss_nil)), ?_⟩
    refine ⟨_, rfl, k, rfl, h1, h2, true, rfl, ?_⟩
    exact q
def Obj1 (C : Addr) (H : Hp) (o p : Addr) : Prop := ∃ dx, H o = some (.ins C dx [("digit_rows", .ref p)])
def sp_init (K : PySem.W.Frag) (C : Addr) : Sp := fun vs H Q _ => ∃ (o p dx : Addr) (D : List W36.Row), vs = [.ref o, .ref p] ∧ H o = some (.ins C dx []) ∧ RowsT K H p D ∧ D.length ≤ 60 ∧ Q .non (upd H o (.ins C dx [("digit_rows", .ref p)]))
theorem ok_init (T : Txt K mg) : FnOk P w K mg base CX0 1 T.a_init T.d_init ["self", "digit_rows"] (sp_init K T.C) := by
  refine T.F_init.ok sc_init (fun vs H Q E h => ?_) (fun cdv A outer s H vs Q E hr h => ?_)
  · obtain ⟨o, p, dx, D, rfl, _⟩ := h
    rfl
  · obtain ⟨o, p, dx, D, rfl, ho, hR, h60, q⟩ := h
    obtain ⟨ts, hT, hA⟩ := hR
    refine ⟨_, (pss_cons (ps_if (pt_cmpR op_gt (pe_callB call_len_seq (by rfl) T.n_len (by decide +kernel) (pa_cons (pv 1) pa_nil)) (pe_glob (v := .int (400)) (by rfl) T.g_MOST_ROWS ⟨_, rfl⟩) (nomark _))
      (pss_one ps_never)
      pss_nil)
      (pss_one (ps_fld (pv 0) (pv 1) rfl))), ?_⟩
    refine ⟨_, rfl, p, ts, rfl, .inr hT, _, _, rfl, rfl, _, rfl, ite2 (fun c => ?_) (fun c => ?_)⟩
    · have := of_decide_eq_true c
      rw [hA.1] at this
      omega
    · refine ⟨_, rfl, _, rfl, o, T.C, dx, [], rfl, ho, T.cl, T.nA, by decide, ?_⟩
      exact q
/-- what the methods take: the object, its rows and what they tell -/
def At (K : PySem.W.Frag) (C : Addr) (H : Hp) (o : Addr) (D : List W36.Row) (Mb : Nat → Nat) : Prop := ∃ p dx, H o = some (.ins C dx [("digit_rows", .ref p)]) ∧ RowsT K H p D ∧ Tells D Mb ∧ D.length ≤ 30
def sp_m_least (K : PySem.W.Frag) (C : Addr) : Sp := fun vs H Q _ => ∃ (o : Addr) (D : List W36.Row) (Mb : Nat → Nat), vs = [.ref o] ∧ At K C H o D Mb ∧ ∀ H' r, Same H H' → NextSpec Mb 1 r → (∀ t, r = some t → (bits t).length ≤ 1 + D.length) → Q (optV r) H'
theorem ok_m_least (T : Txt K mg) : FnOk P w K mg base CX0 5 T.a_m_least T.d_m_least ["self"] (sp_m_least K T.C) := by
  refine T.F_m_least.ok sc_m_least (fun vs H Q E h => ?_) (fun cdv A outer s H vs Q E hr h => ?_)
  · obtain ⟨o, D, Mb, rfl, _⟩ := h
    rfl
  · obtain ⟨o, D, Mb, rfl, ⟨p, dx, ho, hR, hT, h30⟩, q⟩ := h
    refine ⟨_, (pss_one (ps_ret (pe_call (ok_next_number T) (hr.mono (by decide)) (by rfl) T.g_next_number T.F_next_number.kp T.b_next_number .nil pass0 (pa_cons (pe_fld (pv 0) rfl) (pa_cons pe_int pa_nil))))), ?_⟩
    refine ⟨_, rfl, o, T.C, dx, _, _, rfl, ho, T.cl, T.nA, rfl, p, D, Mb, 1, rfl, hR, hT, by omega, by decide, fun H' r sm hn hb => q H' r sm hn fun t ht => ?_⟩
    have := hb t ht
    rw [bits_one] at this
    exact this
def sp_m_greatest (K : PySem.W.Frag) (C : Addr) : Sp := fun vs H Q _ => ∃ (o : Addr) (D : List W36.Row) (Mb : Nat → Nat), vs = [.ref o] ∧ At K C H o D Mb ∧ ∀ H' r, Same H H' → (Endless Mb → r = none) → (¬ Endless Mb → GreatSpec Mb r) → Q (optV r) H'
theorem ok_m_greatest (T : Txt K mg) : FnOk P w K mg base CX0 5 T.a_m_greatest T.d_m_greatest ["self"] (sp_m_greatest K T.C) := by
  refine T.F_m_greatest.ok sc_m_greatest (fun vs H Q E h => ?_) (fun cdv A outer s H vs Q E hr h => ?_)
  · obtain ⟨o, D, Mb, rfl, _⟩ := h
    rfl
  · obtain ⟨o, D, Mb, rfl, ⟨p, dx, ho, hR, hT, h30⟩, q⟩ := h
    refine ⟨_, (pss_one (ps_ret (pe_ifExp (pt_val (pe_call (ok_has_endless T) (hr.mono (by decide)) (by rfl) T.g_has_endless T.F_has_endless.kp T.b_has_endless .nil pass0 (pa_cons (pe_fld (pv 0) rfl) pa_nil))) pe_non (pe_call (ok_greatest_number T) (hr.mono (by decide)) (by rfl) T.g_greatest_number T.F_greatest_number.kp T.b_greatest_number .nil pass0 (pa_cons (pe_fld (pv 0) rfl) pa_nil))))), ?_⟩
    refine ⟨_, rfl, o, T.C, dx, _, _, rfl, ho, T.cl, T.nA, rfl, p, D, Mb, rfl, hR, hT, by omega, fun H1 b s1 hb => ?_⟩
    refine ⟨_, rfl, ite2 (fun c => ?_) (fun c => ?_)⟩
    · exact q H1 none s1 (fun _ => rfl) fun z => absurd (hb.mp c) z
    · have hE : ¬ Endless Mb := fun z => c (hb.mpr z)
      refine ⟨_, rfl, o, T.C, dx, _, _, rfl, s1 _ _ ho, T.cl, T.nA, rfl, p, D, Mb, rfl, hR.same s1, hT, by omega, hE, fun H2 r s2 hr => q H2 r (s1.trans s2) (fun z => absurd z hE) fun _ => hr⟩
def sp_m_next_from (K : PySem.W.Frag) (C : Addr) : Sp := fun vs H Q _ => ∃ (o : Addr) (D : List W36.Row) (Mb : Nat → Nat) (k : Nat), vs = [.ref o, .int (k : Int)] ∧ At K C H o D Mb ∧ 1 ≤ k ∧ k ≤ 10 ^ 30 ∧ ∀ H' r, Same H H' → NextSpec Mb k r → (∀ t, r = some t → (bits t).length ≤ (bits k).length + D.length) → Q (optV r) H'
theorem ok_m_next_from (T : Txt K mg) : FnOk P w K mg base CX0 5 T.a_m_next_from T.d_m_next_from ["self", "k"] (sp_m_next_from K T.C) := by
  refine T.F_m_next_from.ok sc_m_next_from (fun vs H Q E h => ?_) (fun cdv A outer s H vs Q E hr h => ?_)
  · obtain ⟨o, D, Mb, k, rfl, _⟩ := h
    rfl
  · obtain ⟨o, D, Mb, k, rfl, ⟨p, dx, ho, hR, hT, h30⟩, k1, k2, q⟩ := h
    refine ⟨_, (pss_cons (ps_expr (pe_call (ok_need_size T) (hr.mono (by decide)) (by rfl) T.g_need_size T.F_need_size.kp T.b_need_size .nil pass0 (pa_cons (pv 1) pa_nil)))
      (pss_one (ps_ret (pe_call (ok_next_number T) (hr.mono (by decide)) (by rfl) T.g_next_number T.F_next_number.kp T.b_next_number .nil pass0 (pa_cons (pe_fld (pv 0) rfl) (pa_cons (pv 1) pa_nil)))))), ?_⟩
    refine ⟨_, rfl, k, rfl, k1, k2, ?_⟩
    exact ⟨_, rfl, o, T.C, dx, _, _, rfl, ho, T.cl, T.nA, rfl, _, rfl, p, D, Mb, k, rfl, hR, hT, by omega, Nat.lt_of_le_of_lt k2 (by decide +kernel), fun H' r sm hn hb => q H' r sm hn hb⟩
def sp_m_last_upto (K : PySem.W.Frag) (C : Addr) : Sp := fun vs H Q _ => ∃ (o : Addr) (D : List W36.Row) (Mb : Nat → Nat) (k : Nat), vs = [.ref o, .int (k : Int)] ∧ At K C H o D Mb ∧ 1 ≤ k ∧ k ≤ 10 ^ 30 ∧ ∀ H' r, Same H H' → LastSpec Mb k r → Q (optV r) H'
theorem ok_m_last_upto (T : Txt K mg) : FnOk P w K mg base CX0 4 T.a_m_last_upto T.d_m_last_upto ["self", "k"] (sp_m_last_upto K T.C) := by
  refine T.F_m_last_upto.ok sc_m_last_upto (fun vs H Q E h => ?_) (fun cdv A outer s H vs Q E hr h => ?_)
  · obtain ⟨o, D, Mb, k, rfl, _⟩ := h
    rfl
  · obtain ⟨o, D, Mb, k, rfl, ⟨p, dx, ho, hR, hT, h30⟩, k1, k2, q⟩ := h
    refine ⟨_, (pss_cons (ps_expr (pe_call (ok_need_size T) (hr.mono (by decide)) (by rfl) T.g_need_size T.F_need_size.kp T.b_need_size .nil pass0 (pa_cons (pv 1) pa_nil)))
      (pss_one (ps_ret (pe_call (ok_last_number T) (hr.mono (by decide)) (by rfl) T.g_last_number T.F_last_number.kp T.b_last_number .nil pass0 (pa_cons (pe_fld (pv 0) rfl) (pa_cons (pv 1) pa_nil)))))), ?_⟩
    refine ⟨_, rfl, k, rfl, k1, k2, ?_⟩
    exact ⟨_, rfl, o, T.C, dx, _, _, rfl, ho, T.cl, T.nA, rfl, _, rfl, p, D, Mb, k, rfl, hR, hT, by omega, Nat.lt_of_le_of_lt k2 (by decide +kernel), fun H' r sm hn => q H' r sm hn⟩
def onV : Option Nat → Nat
  | none => 1
  | some t => t + 1
def sp_m_from_on (K : PySem.W.Frag) (C : Addr) : Sp := fun vs H Q _ => ∃ (o : Addr) (D : List W36.Row) (Mb : Nat → Nat), vs = [.ref o] ∧ At K C H o D Mb ∧ ∀ H' r, Same H H' → (Endless (co Mb) → r = none) → (¬ Endless (co Mb) → ∃ g, GreatSpec (co Mb) g ∧ r = some (onV g)) → Q (optV r) H'
theorem all_valid : Valid allRows := ⟨fun i r h => by
    have := lt_get h
    match i, r, h with
    | 0, _, rfl => decide
    | 1, _, rfl => decide, fun i r h => by
    have := lt_get h
    match i, r, h with
    | 0, _, rfl => decide
    | 1, _, rfl => decide, fun i r h => by
    have := lt_get h
    match i, r, h with
    | 0, _, rfl => decide
    | 1, _, rfl => decide⟩
theorem ok_m_from_on (T : Txt K mg) : FnOk P w K mg base CX0 5 T.a_m_from_on T.d_m_from_on ["self"] (sp_m_from_on K T.C) := by
  refine T.F_m_from_on.ok sc_m_from_on (fun vs H Q E h => ?_) (fun cdv A outer s H vs Q E hr h => ?_)
  · obtain ⟨o, D, Mb, rfl, _⟩ := h
    rfl
  · obtain ⟨o, D, Mb, rfl, ⟨p, dx, ho, hR, hT, h30⟩, q⟩ := h
    refine ⟨_, (pss_cons (ps_set (i := 1) sc_m_from_on.nd rfl (Or.inl rfl) (pe_call (ok_paired_rows T) (hr.mono (by decide)) (by rfl) T.g_paired_rows T.F_paired_rows.kp T.b_paired_rows .nil pass0 (pa_cons (pe_glob (v := .ref T.a_ALL) (by rfl) T.g_ALL_ROWS rfl) (pa_cons (pe_fld (pv 0) rfl) (pa_cons (pe_tup (pa_cons pe_int (pa_cons pe_int (pa_cons pe_int (pa_cons pe_int pa_nil))))) pa_nil)))))
      (pss_cons (ps_if (pt_val (pe_call (ok_has_endless T) (hr.mono (by decide)) (by rfl) T.g_has_endless T.F_has_endless.kp T.b_has_endless .nil pass0 (pa_cons (pv 1) pa_nil)))
      (pss_one (ps_ret pe_non))
      pss_nil)
      (pss_cons (ps_set (i := 2) sc_m_from_on.nd rfl (Or.inl rfl) (pe_call (ok_greatest_number T) (hr.mono (by decide)) (by rfl) T.g_greatest_number T.F_greatest_number.kp T.b_greatest_number .nil pass0 (pa_cons (pv 1) pa_nil)))
      (pss_one (ps_ret (pe_ifExp (pt_cmpR op_isN (pv 2) pe_non (nomark _)) pe_int (pe_op op_addN (pv 2) pe_int))))))), ?_⟩
    refine ⟨_, rfl, o, T.C, dx, _, _, rfl, ho, T.cl, T.nA, rfl, by show 4 ≤ sizeLine; decide, fun rp nrp => ?_⟩
    have s1 := same_new (o := .tup [.int 0, .int 0, .int 1, .int 0]) nrp
    refine ⟨T.a_ALL, p, rp, allRows, D, rfl, T.ok_ALL _, hR.same s1, SqT.of upd_same, all_valid, hT.valid, by decide, hT.pos, by show 2 * D.length ≤ 60; omega, fun H1 cp ord Pr s2 ncp hok hpl hpv hcR => ?_⟩
    have hco : Tells (least Pr 0) (co Mb) := (co_tells hT hok).least
    have hle : (least Pr 0).length ≤ 60 := by
      have := (least_ok hpv (co_tells hT hok).pos).le
      have e2 : allRows.length * D.length = 2 * D.length := rfl
      omega
    have sA := s1.trans s2
    refine ⟨_, rfl, cp, _, _, rfl, hcR, hco, hle, fun H2 b s3 hb => ?_⟩
    refine ⟨_, rfl, ite2 (fun c => ?_) (fun c => ?_)⟩
    · exact q H2 none (sA.trans s3) (fun _ => rfl) fun z => absurd (hb.mp c) z
    · have hE : ¬ Endless (co Mb) := fun z => c (hb.mpr z)
      refine ⟨_, rfl, cp, _, _, rfl, hcR.same s3, hco, hle, hE, fun H3 r s4 hg => ?_⟩
      cases r with
      | none => exact ⟨_, rfl, rfl, _, rfl, q H3 (some 1) ((sA.trans s3).trans s4) (fun z => absurd z hE) fun _ => ⟨none, hg, rfl⟩⟩
      | some t => exact ⟨_, rfl, rfl, _, rfl, _, rfl, t, 1, rfl, rfl, q H3 (some (t + 1)) ((sA.trans s3).trans s4) (fun z => absurd z hE) fun _ => ⟨some t, hg, rfl⟩⟩
theorem eqv_rowsT (R S : List W36.Row) : PyData.eqv (.tuple (R.map rowD)) (.tuple (S.map rowD)) = decide (R = S) := eqv_rows R S
def sp_m_is_none (K : PySem.W.Frag) (C : Addr) : Sp := fun vs H Q _ => ∃ (o : Addr) (D : List W36.Row) (Mb : Nat → Nat), vs = [.ref o] ∧ At K C H o D Mb ∧ Q (.bl (decide (D = [(0, 0, 0)]))) H
theorem ok_m_is_none (T : Txt K mg) : FnOk P w K mg base CX0 1 T.a_m_is_none T.d_m_is_none ["self"] (sp_m_is_none K T.C) := by
  refine T.F_m_is_none.ok sc_m_is_none (fun vs H Q E h => ?_) (fun cdv A outer s H vs Q E hr h => ?_)
  · obtain ⟨o, D, Mb, rfl, _⟩ := h
    rfl
  · obtain ⟨o, D, Mb, rfl, ⟨p, dx, ho, hR, hT, h30⟩, q⟩ := h
    refine ⟨_, (pss_one (ps_ret (pe_cmpR (op_eqD hr.units) (pe_fld (pv 0) rfl) (pe_glob (v := .ref T.a_NO) (by rfl) T.g_NO_ROWS rfl) (nomark _)))), ?_⟩
    refine ⟨_, rfl, o, T.C, dx, _, _, rfl, ho, T.cl, T.nA, rfl, _, _, dp_rows hR, dp_rows (T.ok_NO H), rows_shaped _, rows_shaped _, ?_⟩
    rw [eqv_rowsT]; exact q
def sp_m_is_all (K : PySem.W.Frag) (C : Addr) : Sp := fun vs H Q _ => ∃ (o : Addr) (D : List W36.Row) (Mb : Nat → Nat), vs = [.ref o] ∧ At K C H o D Mb ∧ Q (.bl (decide (D = allRows))) H
theorem ok_m_is_all (T : Txt K mg) : FnOk P w K mg base CX0 1 T.a_m_is_all T.d_m_is_all ["self"] (sp_m_is_all K T.C) := by
  refine T.F_m_is_all.ok sc_m_is_all (fun vs H Q E h => ?_) (fun cdv A outer s H vs Q E hr h => ?_)
  · obtain ⟨o, D, Mb, rfl, _⟩ := h
    rfl
  · obtain ⟨o, D, Mb, rfl, ⟨p, dx, ho, hR, hT, h30⟩, q⟩ := h
    refine ⟨_, (pss_one (ps_ret (pe_cmpR (op_eqD hr.units) (pe_fld (pv 0) rfl) (pe_glob (v := .ref T.a_ALL) (by rfl) T.g_ALL_ROWS rfl) (nomark _)))), ?_⟩
    refine ⟨_, rfl, o, T.C, dx, _, _, rfl, ho, T.cl, T.nA, rfl, _, _, dp_rows hR, dp_rows (T.ok_ALL H), rows_shaped _, rows_shaped _, ?_⟩
    rw [eqv_rowsT]; exact q
def sp_m_is_endless (K : PySem.W.Frag) (C : Addr) : Sp := fun vs H Q _ => ∃ (o : Addr) (D : List W36.Row) (Mb : Nat → Nat), vs = [.ref o] ∧ At K C H o D Mb ∧ ∀ H' b, Same H H' → (b = true ↔ Endless Mb) → Q (.bl b) H'
theorem ok_m_is_endless (T : Txt K mg) : FnOk P w K mg base CX0 3 T.a_m_is_endless T.d_m_is_endless ["self"] (sp_m_is_endless K T.C) := by
  refine T.F_m_is_endless.ok sc_m_is_endless (fun vs H Q E h => ?_) (fun cdv A outer s H vs Q E hr h => ?_)
  · obtain ⟨o, D, Mb, rfl, _⟩ := h
    rfl
  · obtain ⟨o, D, Mb, rfl, ⟨p, dx, ho, hR, hT, h30⟩, q⟩ := h
    refine ⟨_, (pss_one (ps_ret (pe_call (ok_has_endless T) (hr.mono (by decide)) (by rfl) T.g_has_endless T.F_has_endless.kp T.b_has_endless .nil pass0 (pa_cons (pe_fld (pv 0) rfl) pa_nil)))), ?_⟩
    exact ⟨_, rfl, o, T.C, dx, _, _, rfl, ho, T.cl, T.nA, rfl, p, D, Mb, rfl, hR, hT, by omega, q⟩
def sp_is_told_row : Sp := fun vs H Q _ => ∃ (t : Addr) (r : W36.Row) (m : Nat), vs = [.ref t, .int (m : Int)] ∧ H t = some (.tup (rowV r)) ∧ r.1 < m ∧ r.2.1 < m ∧ r.2.2 ≤ 1 ∧ ∀ H', Same H H' → Q (.bl true) H'
theorem ok_is_told_row (T : Txt K mg) : FnOk P w K mg base CX0 2 T.a_is_told_row T.d_is_told_row ["row", "many"] sp_is_told_row := by
  refine T.F_is_told_row.ok sc_is_told_row (fun vs H Q E h => ?_) (fun cdv A outer s H vs Q E hr h => ?_)
  · obtain ⟨t, r, m, rfl, _⟩ := h
    rfl
  · obtain ⟨t, r, m, rfl, ht, h1, h2, h3, q⟩ := h
    refine ⟨_, (pss_cons (ps_if (PW.pt (pw_or (pt_not (pt_val (pe_callB call_isiT (by rfl) T.n_isinstance (by decide +kernel) (pa_cons (pv 0) (pa_cons (pe_tup (pa_cons (pe_bltn (v := .ty "list") (by rfl) T.n_list (by decide +kernel) rfl) (pa_cons (pe_bltn (v := .ty "tuple") (by rfl) T.n_tuple (by decide +kernel) rfl) pa_nil))) pa_nil))))) (pw_or (pt_cmpR op_ne (pe_callB call_len_seq (by rfl) T.n_len (by decide +kernel) (pa_cons (pv 0) pa_nil)) pe_int (nomark _)) (pw_or1 (pt_not (pt_val (pe_callB (cr_all rfl) (by rfl) T.n_all (by decide +kernel) (pa_cons (pe_lc (own := [("part", 2)]) rfl sc_is_told_row.nd (pi_tup (pv 0)) (blkOk_by (N := N_is_told_row) (sc := defScope s_is_told_row) (by decide +kernel)) (fun _ _ _ _ _ => (pg_name (i := 2) sc_is_told_row.nd rfl (Or.inl rfl))) (fun _ _ _ _ _ => pts_nil) (fun _ _ _ _ _ => (pe_call (ok_is_integer T) (hr.mono (by decide)) (by rfl) T.g_is_integer T.F_is_integer.kp T.b_is_integer .nil pass0 (pa_cons (pv 2) pa_nil)))) pa_nil))))))))
      (pss_one (ps_ret pe_bl))
      pss_nil)
      (pss_one (ps_ret (pe_and (pe_chain op_le op_lt pe_int (pe_ix ix_tup (pv 0) pe_int (fun _ _ => rfl)) (pv 1)) (pe_and (pe_chain op_le op_lt pe_int (pe_ix ix_tup (pv 0) pe_int (fun _ _ => rfl)) (pv 1)) (pe_one (pe_chain op_le op_le pe_int (pe_ix ix_tup (pv 0) pe_int (fun _ _ => rfl)) pe_int))))))), ?_⟩
    refine ⟨_, rfl, by show 2 ≤ sizeLine; decide, fun tp ntp => ?_⟩
    have ntt : t ≠ tp := ne_of_none ht ntp
    have s1 := same_new (o := .tup [.ty "list", .ty "tuple"]) ntp
    refine ⟨_, tp, _, _, _, true, rfl, upd_same, .cons (.ty "list") (.cons (.ty "tuple") .nil), .base (.tup (s1 _ _ ht)), kitAny_cons (b := false) (kit_ty (by decide +kernel)) (fun _ => kitAny_cons (b := true) (kit_ty (by decide +kernel)) (fun z => nomatch z) (fun _ => rfl)) (fun z => nomatch z), true, rfl, ?_⟩
    have ht1 := s1 _ _ ht
    refine ⟨_, rfl, t, rowV r, rfl, .inr (SqT.of ht1), rfl, _, rfl, ?_⟩
    -- all([..])
    refine ⟨_, rfl, t, rfl, ⟨_, SqT.of ht1⟩, fun lp nlp => ?_⟩
    refine lc_tup (K := K) (a := t) (xs := rowV r) (fun i H' => Same H H' ∧ H' t = some (.tup (rowV r)) ∧ H' lp = some (.lst (List.replicate i (.bl true)))) ⟨s1.trans (same_new nlp), same_new nlp _ _ ht1, upd_same⟩ (fun i H' _ p => SqT.of p.2.1) (fun i x H' hi p => ?_) (fun H2 p => ?_)
    · obtain ⟨sm, et, el⟩ := p
      have hx : ∃ j : Int, x = .int j := by
        have hl := lt_get hi
        have : i = 0 ∨ i = 1 ∨ i = 2 := by
          have : (rowV r).length = 3 := rfl
          omega
        rcases this with rfl | rfl | rfl <;> exact ⟨_, (Option.some.inj hi).symm⟩
      obtain ⟨j, rfl⟩ := hx
      have hl := lt_get hi
      have h3' : (rowV r).length = 3 := rfl
      refine ⟨rfl, ?_⟩
      refine ⟨_, rfl, j, rfl, _, el, szs (by rw [List.length_replicate]; omega), ?_⟩
      refine ⟨same_mut sm (s1.free nlp), by rw [upd_ne (ne_of et el fun z => nomatch z)]; exact et, by rw [upd_same, List.replicate_succ']⟩
    · obtain ⟨sm, et, el⟩ := p
      refine ⟨lp, List.replicate 3 true, rfl, SqL.of el, true, rfl, ?_⟩
      have et' := SqT.of (K := K) et
      refine ⟨_, rfl, t, _, 0, _, rfl, rfl, et', rowV0 r, _, _, rfl, rfl, _, rfl, ite2 (fun c => ?_) (fun c => absurd (decide_eq_true (by omega)) c)⟩
      refine ⟨_, rfl, _, _, rfl, rfl, _, rfl, ite2 (fun c => ?_) (fun c => absurd (decide_eq_true (by omega)) c)⟩
      refine ⟨_, rfl, t, _, 1, _, rfl, rfl, et', rowV1 r, _, _, rfl, rfl, _, rfl, ite2 (fun c => ?_) (fun c => absurd (decide_eq_true (by omega)) c)⟩
      refine ⟨_, rfl, _, _, rfl, rfl, _, rfl, ite2 (fun c => ?_) (fun c => absurd (decide_eq_true (by omega)) c)⟩
      refine ⟨_, rfl, t, _, 2, _, rfl, rfl, et', rowV2 r, _, _, rfl, rfl, _, rfl, ite2 (fun c => ?_) (fun c => absurd (decide_eq_true (by omega)) c)⟩
      refine ⟨_, _, rfl, rfl, ?_⟩
      have e : V.bl (decide ((r.2.2 : Int) ≤ 1)) = .bl true := by rw [decide_eq_true (show (r.2.2 : Int) ≤ 1 by omega)]
      show Q (V.bl (decide ((r.2.2 : Int) ≤ 1))) H2
      rw [e]; exact q H2 sm
/-- a list of rows that were laid as tuples -/
def Laid (H : Hp) (a : Addr) (R : List W36.Row) : Prop := ∃ vs, H a = some (.lst vs) ∧ vs.length = R.length ∧ ∀ (i : Nat) (r : W36.Row), R[i]? = some r → ∃ t, vs[i]? = some (.ref t) ∧ H t = some (.tup (rowV r))
theorem Laid.rows {H : Hp} {a : Addr} {R : List W36.Row} (h : Laid H a R) : RowsL K H a R := let ⟨vs, e, l, f⟩ := h; ⟨vs, SqL.of e, l, fun i r hr => let ⟨t, a, b⟩ := f i r hr; ⟨t, a, SqT.of b⟩⟩
theorem Laid.same {H H' : Hp} {a : Addr} {R : List W36.Row} (h : Laid H a R) (s : Same H H') : Laid H' a R := let ⟨vs, e, l, f⟩ := h; ⟨vs, s _ _ e, l, fun i r hr => let ⟨t, a, b⟩ := f i r hr; ⟨t, a, s _ _ b⟩⟩
def sp_sizes_of_rows (K : PySem.W.Frag) (C : Addr) : Sp := fun vs H Q _ => ∃ (a : Addr) (R : List W36.Row), vs = [.ref a] ∧ Laid H a R ∧ Valid R ∧ 0 < R.length ∧ R.length ≤ 15 ∧
  ∀ H' o p dx, Same H H' → H' o = some (.ins C dx [("digit_rows", .ref p)]) → RowsT K H' p (least (wide R) 0) → Q (.ref o) H'
theorem ok_sizes_of_rows (T : Txt K mg) : FnOk P w K mg base CX0 5 T.a_sizes_of_rows T.d_sizes_of_rows ["rows"] (sp_sizes_of_rows K T.C) := by
  refine T.F_sizes_of_rows.ok sc_sizes_of_rows (fun vs H Q E h => ?_) (fun cdv A outer s H vs Q E hr h => ?_)
  · obtain ⟨a, R, rfl, _⟩ := h
    rfl
  · obtain ⟨a, R, rfl, hL, hv, h0, h15, q⟩ := h
    obtain ⟨vs, el, hl, hf⟩ := id hL
    refine ⟨_, (pss_cons (ps_set (i := 1) sc_sizes_of_rows.nd rfl (Or.inl rfl) (pe_callB call_len_seq (by rfl) T.n_len (by decide +kernel) (pa_cons (pv 0) pa_nil)))
      (pss_cons (ps_if (pt_cmpR op_gt (pv 1) (pe_glob (v := .int (64)) (by rfl) T.g_MOST_TOLD ⟨_, rfl⟩) (nomark _))
      (pss_one ps_never)
      pss_nil)
      (pss_cons (ps_if (pt_cmpR op_eq (pv 1) pe_int (nomark _))
      (pss_one ps_never)
      pss_nil)
      (pss_cons (ps_for PassesOwn.never rfl (pi_enum (by rfl) T.n_enumerate (pa_cons (pv 0) pa_nil)) (pg_tup rfl (pgs_cons (pg_name (i := 2) sc_sizes_of_rows.nd rfl (Or.inl rfl)) (pgs_cons (pg_name (i := 3) sc_sizes_of_rows.nd rfl (Or.inl rfl)) pgs_nil)))
      (pss_one (ps_if (pt_not (pt_val (pe_call (ok_is_told_row T) (hr.mono (by decide)) (by rfl) T.g_is_told_row T.F_is_told_row.kp T.b_is_told_row .nil pass0 (pa_cons (pv 3) (pa_cons (pv 1) pa_nil)))))
        (pss_one ps_never)
        pss_nil)))
      (pss_one (ps_ret (pe_make T.M_Sizes (ok_init T) (hr.mono (by decide)) (by rfl) T.g_Sizes T.b_init .nil pass0 (pa_cons (pe_call (ok_told_rows T) (hr.mono (by decide)) (by rfl) T.g_told_rows T.F_told_rows.kp T.b_told_rows .nil pass0 (pa_cons (pv 0) (pa_cons pe_int pa_nil))) pa_nil)))))))), ?_⟩
    refine ⟨_, rfl, a, vs, rfl, .inl (SqL.of el), ?_⟩
    rw [hl]
    refine ⟨_, rfl, _, _, rfl, rfl, _, rfl, ite2 (fun c => ?_) (fun c => ?_)⟩
    · have := of_decide_eq_true c
      omega
    refine ⟨_, rfl, rfl, _, rfl, ite2 (fun c => ?_) (fun c => ?_)⟩
    · have e := of_decide_eq_true c
      have e2 : (R.length : Int) = 0 := by injection e
      omega
    refine ⟨_, rfl, a, vs, rfl, SqL.of el, for_it (walk_enum (xs := vs)) (fun i σ H' => ∃ z2 z3, σ = [some (.ref a), some (.int (R.length : Int)), z2, z3] ∧ Same H H') ⟨_, _, rfl, Same.refl _⟩ (fun i σ H' hi hP => ?_) (fun i x σ H' H'' hi hP hy => ?_) (fun σ H' hP => ?_)⟩
    · obtain ⟨_, _, _, sm⟩ := hP
      exact sm.seq (SqL.of el)
    · obtain ⟨z2, z3, rfl, sm⟩ := hP
      obtain ⟨t, x1, x2, rfl, nt, rfl, ex1, ex2⟩ := hy
      cases ex1
      rw [hl] at hi
      obtain ⟨r, er⟩ := get_lt hi
      obtain ⟨u, eu, hu⟩ := hf i r er
      have ex3 : vs[i]? = some x2 := ex2
      rw [eu] at ex3
      cases ex3
      have st := same_new (o := .tup [.int (i : Int), .ref u]) nt
      refine ⟨t, _, rfl, SqT.of upd_same, rfl, _, _, rfl, _, _, rfl, rfl, ?_⟩
      have g0 := step_lt hv hi 0
      have g1 := step_lt hv hi 1
      have g2 := ins_le hv i
      rw [step_get er, if_pos rfl] at g0
      rw [step_get er, if_neg (by decide)] at g1
      rw [ins_get er] at g2
      refine ⟨_, rfl, _, rfl, u, r, R.length, rfl, (sm.trans st) _ _ hu, g0, g1, g2, fun H3 s3 => ⟨true, rfl, ?_⟩⟩
      exact ⟨_, _, rfl, (sm.trans st).trans s3⟩
    · obtain ⟨z2, z3, rfl, sm⟩ := hP
      refine ⟨_, rfl, a, R, rfl, (hL.same sm).rows, hv, h0, by omega, fun H2 p s2 np hp => ?_⟩
      intro o dx no nd nn
      have s3 := same_new (o := .own o) nd
      have no2 : (upd H2 dx (.own o)) o = none := by rw [upd_ne nn.symm]; exact no
      have s4 := s3.trans (same_new (o := .ins T.C dx []) no2)
      have wl : (least (wide R) 0).length ≤ 60 := by
        have := (least_ok (wide_valid hv) (start := 0) (by rw [wide_len]; omega)).le
        rw [wide_len] at this
        omega
      refine ⟨o, p, dx, _, rfl, upd_same, hp.same s4, wl, rfl, ?_⟩
      rw [upd_upd]
      have s5 := s3.trans (same_new (o := .ins T.C dx [("digit_rows", .ref p)]) no2)
      exact q _ o p dx ((sm.trans s2).trans s5) upd_same (hp.same s5)
end
end W36
end

section
set_option linter.all false
set_option maxRecDepth 100000
set_option maxHeartbeats 4000000
/-! The law's own helpers that do not draw. -/
namespace W36
open PySem PySem.Spec PyProof.Rows L2
section
variable {X : Cx}
theorem op_shrNN : OpR X (binaryOp .RShift) (fun x y H Q => ∃ n k : Nat, x = .int (n : Int) ∧ y = .int (k : Int) ∧ Q (.int ((n / 2 ^ k : Nat) : Int)) H) := by
  intro pins s σ H x y v u Q I rx ry h
  obtain ⟨n, k, rfl, rfl, q⟩ := h
  have e : ((n / 2 ^ k : Nat) : Int) = (n : Int) / 2 ^ k := by rw [Int.natCast_ediv, Int.natCast_pow]; rfl
  rw [e] at q
  exact op_shrN pins s σ H _ _ v u Q I rx ry ⟨_, _, rfl, rfl, q⟩
theorem op_oneShlN : OpR X (binaryOp .LShift) (fun x y H Q => ∃ k : Nat, x = .int 1 ∧ y = .int (k : Int) ∧ k ≤ 134217727 ∧ Q (.int ((2 ^ k : Nat) : Int)) H) := by
  intro pins s σ H x y v u Q I rx ry h
  obtain ⟨k, rfl, rfl, c, q⟩ := h
  have e : ((2 ^ k : Nat) : Int) = 2 ^ k := by rw [Int.natCast_pow]; rfl
  rw [e] at q
  exact op_oneShl pins s σ H _ _ v u Q I rx ry ⟨_, rfl, rfl, c, q⟩
theorem op_modNN : OpR X (binaryOp .Mod) (fun x y H Q => ∃ n m : Nat, x = .int (n : Int) ∧ y = .int (m : Int) ∧ 1 ≤ m ∧ Q (.int ((n % m : Nat) : Int)) H) := by
  intro pins s σ H x y v u Q I rx ry h
  obtain ⟨n, m, rfl, rfl, c, q⟩ := h
  rw [Int.natCast_emod] at q
  exact op_mod pins s σ H _ _ v u Q I rx ry ⟨_, _, rfl, rfl, by omega, q⟩
theorem op_mulNR : OpR X (binaryOp .Mult) (fun x y H Q => ∃ n m : Nat, x = .int (n : Int) ∧ y = .int (m : Int) ∧ m ≤ 4294967296 ∧ Q (.int ((n * m : Nat) : Int)) H) := by
  intro pins s σ H x y v u Q I rx ry h
  obtain ⟨n, m, rfl, rfl, c, q⟩ := h
  rw [Int.natCast_mul] at q
  exact op_mul pins s σ H _ _ v u Q I rx ry ⟨_, _, rfl, rfl, show CMul (n : Int) (m : Int) from Or.inr ⟨by omega, by omega⟩, q⟩
end
theorem intBits_bits (k : Nat) : Builtin.Int.intBits (k : Int) = (bits k).length := by
  unfold Builtin.Int.intBits
  by_cases h : k = 0
  · subst h; rw [bits_zero]; rfl
  · rw [if_neg (by simp [h])]
    have h1 : (bits k).length ≤ k.log2 + 1 := len_le_iff.mpr Nat.lt_log2_self
    have h2 : k.log2 < (bits k).length := len_lt_iff.mpr (Nat.log2_self_le h)
    show k.log2 + 1 = _
    omega
theorem bits_get : ∀ (i k : Nat), i < (bits k).length → (bits k)[i]? = some (k / 2 ^ i % 2)
  | 0, k, h => by
    have hk : k ≠ 0 := fun e => by rw [e, bits_zero] at h; exact absurd h (Nat.lt_irrefl _)
    rw [bits_pos hk, Nat.pow_zero, Nat.div_one]; rfl
  | i + 1, k, h => by
    have hk : k ≠ 0 := fun e => by rw [e, bits_zero] at h; exact absurd h (Nat.not_lt_zero _)
    rw [bits_pos hk] at h ⊢
    rw [List.getElem?_cons_succ, bits_get i (k / 2) (by simpa using h), Nat.pow_succ, Nat.mul_comm (2 ^ i) 2, ← Nat.div_div_eq_div_mul]
theorem bits_len_le {k L : Nat} (h : k < 2 ^ L) : (bits k).length ≤ L := len_le_iff.mpr h
section
variable {P : Program} {w : World} {K : PySem.W.Frag} {mg : Str → Option Value} {base : Heap}
def sp_l_is_truth : Sp := fun vs H Q _ => ∃ b : Bool, vs = [.bl b, .bl b] ∧ Q (.bl true) H
theorem ok_l_is_truth (T : Txt K mg) : FnOk P w K mg base CX0 1 T.a_l_is_truth T.d_l_is_truth ["_law_value", "_law_due"] sp_l_is_truth := by
  refine T.F_l_is_truth.ok sc_l_is_truth (fun vs H Q E h => ?_) (fun cdv A outer s H vs Q E hr h => ?_)
  · obtain ⟨b, rfl, _⟩ := h
    rfl
  · obtain ⟨b, rfl, q⟩ := h
    refine ⟨_, (pss_one (ps_ret (pe_and (pe_callB call_isi (by rfl) T.n_isinstance (by decide +kernel) (pa_cons (pv 0) (pa_cons (pe_bltn (v := .ty "bool") (by rfl) T.n_bool (by decide +kernel) rfl) pa_nil))) (pe_one (pe_cmpR op_eq (pv 0) (pv 1) (nomark _)))))), ?_⟩
    refine ⟨_, rfl, _, _, _, _, true, rfl, .ty "bool", .base (.bl b), kit_ty (by decide +kernel), true, rfl, ?_⟩
    refine ⟨_, rfl, _, rfl, rfl, ?_⟩
    rw [decide_eq_true rfl]
    exact q
def sp_l_is_int : Sp := fun vs H Q _ => ∃ i : Int, vs = [.int i] ∧ Q (.bl true) H
theorem ok_l_is_int (T : Txt K mg) : FnOk P w K mg base CX0 1 T.a_l_is_int T.d_l_is_int ["_law_value"] sp_l_is_int := by
  refine T.F_l_is_int.ok sc_l_is_int (fun vs H Q E h => ?_) (fun cdv A outer s H vs Q E hr h => ?_)
  · obtain ⟨i, rfl, _⟩ := h
    rfl
  · obtain ⟨i, rfl, q⟩ := h
    refine ⟨_, (pss_one (ps_ret (pe_and (pe_callB call_isi (by rfl) T.n_isinstance (by decide +kernel) (pa_cons (pv 0) (pa_cons (pe_bltn (v := .ty "int") (by rfl) T.n_int (by decide +kernel) rfl) pa_nil))) (pe_one (pe_not (pe_callB call_isi (by rfl) T.n_isinstance (by decide +kernel) (pa_cons (pv 0) (pa_cons (pe_bltn (v := .ty "bool") (by rfl) T.n_bool (by decide +kernel) rfl) pa_nil)))))))), ?_⟩
    refine ⟨_, rfl, _, _, _, _, true, rfl, .ty "int", .base (.int i), kit_ty (by decide +kernel), true, rfl, ?_⟩
    refine ⟨_, rfl, _, _, _, _, false, rfl, .ty "bool", .base (.int i), kit_ty (by decide +kernel), false, rfl, q⟩
def sp_l_led (K : PySem.W.Frag) : Sp := fun vs H Q _ => ∃ (a : Addr) (R : List W36.Row) (N : Nat), vs = [.ref a, .int 0, .int (N : Int)] ∧ RowsL K H a R ∧ Valid R ∧ 0 < R.length ∧ N < big ∧ ∀ H', Same H H' → Q (.int ((ins R (run R 0 (bits N)) : Nat) : Int)) H'
theorem ok_l_led (T : Txt K mg) : FnOk P w K mg base CX0 1 T.a_l_led T.d_l_led ["_law_rows", "_law_start", "_law_number"] (sp_l_led K) := by
  refine T.F_l_led.ok sc_l_led (fun vs H Q E h => ?_) (fun cdv A outer s H vs Q E hr h => ?_)
  · obtain ⟨a, R, N, rfl, _⟩ := h
    rfl
  · obtain ⟨a, R, N, rfl, hR, hv, h0, hN, q⟩ := h
    refine ⟨_, (pss_cons (ps_set (i := 3) sc_l_led.nd rfl (Or.inl rfl) (pv 1))
      (pss_cons (ps_for PassesOwn.never rfl (pi_range1 (by rfl) T.n_range (pa_cons (pe_bits (pv 2)) pa_nil)) (pg_name (i := 4) sc_l_led.nd rfl (Or.inl rfl))
      (pss_one (ps_set (i := 3) sc_l_led.nd rfl (Or.inl rfl) (pe_ix ix_tup (pe_ix ix_list (pv 0) (pv 3) (fun _ _ => rfl)) (pe_op op_odd (pe_op op_shrNN (pv 2) (pv 4)) pe_int) (fun _ _ => rfl)))))
      (pss_one (ps_ret (pe_ix ix_tup (pe_ix ix_list (pv 0) (pv 3) (fun _ _ => rfl)) pe_int (fun _ _ => rfl)))))), ?_⟩
    have hbl : (bits N).length ≤ 250 := bits_len_le hN
    refine ⟨_, rfl, _, rfl, _, rfl, ?_⟩
    rw [intBits_bits]
    refine ⟨_, rfl, by omega, by omega, ?_⟩
    rw [Int.toNat_natCast]
    refine for_range (lo := 0) (n := (bits N).length) (fun i σ H' => ∃ z4, σ = [some (.ref a), some (.int 0), some (.int (N : Int)), some (.int ((run R 0 ((bits N).take i) : Nat) : Int)), z4] ∧ Same H H') ⟨none, rfl, Same.refl H⟩ (fun i σ H' hi hP => ?_) (fun σ H' hP => ?_)
    · obtain ⟨z4, rfl, sm⟩ := hP
      rw [Int.zero_add]
      obtain ⟨ts, hL, hA⟩ := hR.same sm
      have hq := run_lt hv ((bits N).take i) h0
      obtain ⟨r, er⟩ := get_lt hq
      obtain ⟨t, et, htr⟩ := hA.get er
      have hb := bits_get i N hi
      refine ⟨_, rfl, _, rfl, a, ts, _, _, rfl, rfl, hL, et, _, rfl, _, rfl, N, i, rfl, rfl, _, rfl, rfl, t, _, _, _, rfl, rfl, htr, row_at (by omega), ?_⟩
      refine ⟨some (.int (i : Int)), ?_, sm⟩
      rw [List.take_add_one, hb]
      show _ = [_, _, _, some (V.int ((run R 0 ((bits N).take i ++ [N / 2 ^ i % 2]) : Nat) : Int)), _]
      rw [run_snoc, step_get er]; rfl
    · obtain ⟨z4, rfl, sm⟩ := hP
      rw [List.take_length]
      obtain ⟨ts, hL, hA⟩ := hR.same sm
      have hq := run_lt hv (bits N) h0
      obtain ⟨r, er⟩ := get_lt hq
      obtain ⟨t, et, htr⟩ := hA.get er
      refine ⟨_, rfl, _, rfl, a, ts, _, _, rfl, rfl, hL, et, t, _, 2, _, rfl, rfl, htr, rowV2 r, ?_⟩
      have := q H' sm
      rw [ins_get er] at this
      exact this
def sp_l_members (K : PySem.W.Frag) : Sp := fun vs H Q _ => ∃ (a : Addr) (R : List W36.Row) (N : Nat), vs = [.ref a, .int 0, .int (N : Int)] ∧ RowsL K H a R ∧ Valid R ∧ 0 < R.length ∧ R.length ≤ 60 ∧ N < big ∧ ∀ H', Same H H' → Q (.int ((cq R 0 N : Nat) : Int)) H'
theorem ok_l_members (T : Txt K mg) : FnOk P w K mg base CX0 1 T.a_l_members T.d_l_members ["_law_rows", "_law_start", "_law_number"] (sp_l_members K) := by
  refine T.F_l_members.ok sc_l_members (fun vs H Q E h => ?_) (fun cdv A outer s H vs Q E hr h => ?_)
  · obtain ⟨a, R, N, rfl, _⟩ := h
    rfl
  · obtain ⟨a, R, N, rfl, hR, hv, h0, h60, hN, q⟩ := h
    obtain ⟨ts, hL, hA⟩ := id hR
    refine ⟨_, (pss_cons (ps_if (pt_cmpR op_lt (pv 2) pe_int (nomark _))
      (pss_one (ps_ret pe_int))
      pss_nil)
      (pss_cons (ps_asg (pe_tup (pa_cons (pe_lc (own := [("_law_row", 11)]) rfl sc_l_members.nd (pi_list (pv 0)) (blkOk_by (N := N_l_members) (sc := defScope s_l_members) (by decide +kernel)) (fun _ _ _ _ _ => (pg_name (i := 11) sc_l_members.nd rfl (Or.inl rfl))) (fun _ _ _ _ _ => pts_nil) (fun _ _ _ _ _ => pe_int)) (pa_cons (pe_lc (own := [("_law_row", 11)]) rfl sc_l_members.nd (pi_list (pv 0)) (blkOk_by (N := N_l_members) (sc := defScope s_l_members) (by decide +kernel)) (fun _ _ _ _ _ => (pg_name (i := 11) sc_l_members.nd rfl (Or.inl rfl))) (fun _ _ _ _ _ => pts_nil) (fun _ _ _ _ _ => pe_int)) pa_nil))) (pg_tup rfl (pgs_cons (pg_name (i := 3) sc_l_members.nd rfl (Or.inr rfl)) (pgs_cons (pg_name (i := 4) sc_l_members.nd rfl (Or.inr rfl)) pgs_nil))))
      (pss_cons (ps_set (i := 5) sc_l_members.nd rfl (Or.inr rfl) (pe_lc (own := [("_law_row", 11)]) rfl sc_l_members.nd (pi_list (pv 0)) (blkOk_by (N := N_l_members) (sc := defScope s_l_members) (by decide +kernel)) (fun _ _ _ _ _ => (pg_name (i := 11) sc_l_members.nd rfl (Or.inl rfl))) (fun _ _ _ _ _ => pts_nil) (fun _ _ _ _ _ => (pe_ix (ixt (K := K) rfl) (pe_ix (ixl (K := K) rfl) (pv 0) (pe_ix (ixt (K := K) rfl) (pv 11) pe_int (fun _ _ => rfl)) (fun _ _ => rfl)) pe_int (fun _ _ => rfl)))))
      (pss_cons (ps_for PassesOwn.never rfl (pi_range3 (by rfl) T.n_range (pa_cons (pe_op op_subN (pe_bits (pv 2)) pe_int) (pa_cons (pe_un un_neg pe_int) (pa_cons (pe_un un_neg pe_int) pa_nil)))) (pg_name (i := 6) sc_l_members.nd rfl (Or.inl rfl))
      (pss_cons (ps_asg (pe_tup (pa_cons (pe_op op_shrNN (pv 2) (pv 6)) (pa_cons (pv 3) pa_nil))) (pg_tup rfl (pgs_cons (pg_name (i := 7) sc_l_members.nd rfl (Or.inr rfl)) (pgs_cons (pg_name (i := 8) sc_l_members.nd rfl (Or.inr rfl)) pgs_nil))))
        (pss_cons (ps_if (pt_cmpR op_eq (pe_op op_odd (pv 7) pe_int) pe_int (nomark _))
        (pss_one (ps_set (i := 8) sc_l_members.nd rfl (Or.inr rfl) (pv 4)))
        pss_nil)
        (pss_cons (ps_setLc (i := 9) (own := [("_law_at", 12), ("_law_row", 11)]) rfl sc_l_members.nd rfl rfl (sw_true rfl rfl rfl (by decide +kernel)) (pi_enum (by rfl) T.n_enumerate (pa_cons (pv 0) pa_nil)) (blkOk_by (N := N_l_members) (sc := defScope s_l_members) (by decide +kernel)) (fun _ _ _ _ _ => (pg_tupK (K := K) (n := 2) rfl rfl (pgs_cons (pg_name (i := 12) sc_l_members.nd rfl (Or.inl rfl)) (pgs_cons (pg_name (i := 11) sc_l_members.nd rfl (Or.inl rfl)) pgs_nil)))) (fun _ _ _ _ _ => pts_nil) (fun _ _ _ _ _ => (pe_op op_addN (pe_op op_addN (pe_ix (ixl (K := K) rfl) (pv 5) (pv 12) (fun _ _ => rfl)) (pe_ix (ixl (K := K) rfl) (pv 4) (pe_ix (ixt (K := K) rfl) (pv 11) pe_int (fun _ _ => rfl)) (fun _ _ => rfl))) (pe_ix (ixl (K := K) rfl) (pv 8) (pe_ix (ixt (K := K) rfl) (pv 11) pe_int (fun _ _ => rfl)) (fun _ _ => rfl)))))
        (pss_cons (ps_setLc (i := 10) (own := [("_law_at", 12), ("_law_row", 11)]) rfl sc_l_members.nd rfl rfl (sw_true rfl rfl rfl (by decide +kernel)) (pi_enum (by rfl) T.n_enumerate (pa_cons (pv 0) pa_nil)) (blkOk_by (N := N_l_members) (sc := defScope s_l_members) (by decide +kernel)) (fun _ _ _ _ _ => (pg_tupK (K := K) (n := 2) rfl rfl (pgs_cons (pg_name (i := 12) sc_l_members.nd rfl (Or.inl rfl)) (pgs_cons (pg_name (i := 11) sc_l_members.nd rfl (Or.inl rfl)) pgs_nil)))) (fun _ _ _ _ _ => pts_nil) (fun _ _ _ _ _ => (pe_op op_addN (pe_op op_addN (pe_op op_mulN (pe_ix (ixl (K := K) rfl) (pv 5) (pv 12) (fun _ _ => rfl)) (pe_callTy call_int1 (by rfl) T.n_int (by decide +kernel) (pa_cons (pe_cmpR op_gt (pv 7) pe_int (nomark _)) pa_nil))) (pe_ix (ixl (K := K) rfl) (pv 8) (pe_ix (ixt (K := K) rfl) (pv 11) pe_int (fun _ _ => rfl)) (fun _ _ => rfl))) (pe_ix (ixl (K := K) rfl) (pv 3) (pe_ix (ixt (K := K) rfl) (pv 11) pe_int (fun _ _ => rfl)) (fun _ _ => rfl)))))
        (pss_one (ps_asg (pe_tup (pa_cons (pv 9) (pa_cons (pv 10) pa_nil))) (pg_tup rfl (pgs_cons (pg_name (i := 4) sc_l_members.nd rfl (Or.inr rfl)) (pgs_cons (pg_name (i := 3) sc_l_members.nd rfl (Or.inr rfl)) pgs_nil))))))))))
      (pss_one (ps_ret (pe_ix ix_list (pv 4) (pv 1) (fun _ _ => rfl)))))))), ?_⟩
    have hbl : (bits N).length ≤ 250 := bits_len_le hN
    refine ⟨_, rfl, _, _, rfl, rfl, _, rfl, ite2 (fun c => ?_) (fun c => ?_)⟩
    · have hz : N = 0 := by
        have := of_decide_eq_true c
        omega
      subst hz
      exact q H (Same.refl H)
    have hN1 : 1 ≤ N := by
      apply Classical.byContradiction
      intro z
      exact c (decide_eq_true (by omega))
    -- less, upto = ([0 ..], [0 ..])
    refine ⟨_, rfl, a, rfl, ⟨_, hL⟩, fun lp nlp => ?_⟩
    refine lc_list (K := K) (a := a) (xs := ts) (fun i H' => Same H H' ∧ H' lp = some (.lst (nums ((tab R fun _ => 0).take i)))) ⟨same_new nlp, by rw [List.take_zero]; exact upd_same⟩ (fun i H' _ p => p.1.seq hL) (fun i x H' hi p => ?_) (fun H1 p => ?_)
    · obtain ⟨sm, eD⟩ := p
      obtain ⟨r, t, er, rfl, ht⟩ := hA.of hi
      have hil := lt_get er
      refine ⟨rfl, _, eD, szs (by rw [nums_len, List.length_take, tab_len]; omega), same_mut sm nlp, ?_⟩
      rw [upd_same, tab_take _ _ hil, nums_app]; rfl
    obtain ⟨s1, eL⟩ := p
    rw [hA.1, tab_all] at eL
    refine ⟨_, rfl, a, rfl, ⟨_, s1.seq hL⟩, fun up nup => ?_⟩
    refine lc_list (K := K) (a := a) (xs := ts) (fun i H' => Same H1 H' ∧ H' up = some (.lst (nums ((tab R fun _ => 0).take i)))) ⟨same_new nup, by rw [List.take_zero]; exact upd_same⟩ (fun i H' _ p => (s1.trans p.1).seq hL) (fun i x H' hi p => ?_) (fun H2 p => ?_)
    · obtain ⟨sm, eD⟩ := p
      obtain ⟨r, t, er, rfl, ht⟩ := hA.of hi
      have hil := lt_get er
      refine ⟨rfl, _, eD, szs (by rw [nums_len, List.length_take, tab_len]; omega), same_mut sm nup, ?_⟩
      rw [upd_same, tab_take _ _ hil, nums_app]; rfl
    obtain ⟨s2, eU⟩ := p
    rw [hA.1, tab_all] at eU
    refine ⟨by show 2 ≤ sizeLine; decide, fun tp ntp => ?_⟩
    refine ⟨tp, _, rfl, SqT.of upd_same, rfl, _, _, rfl, _, _, rfl, rfl, ?_⟩
    have s3 := same_new (o := .tup [.ref lp, .ref up]) ntp
    have S3 := (s1.trans s2).trans s3
    have eL3 := s3 _ _ (s2 _ _ eL)
    have eU3 := s3 _ _ eU
    generalize upd H2 tp (.tup [.ref lp, .ref up]) = H3 at *
    -- ones
    refine ⟨_, rfl, a, rfl, ⟨_, S3.seq hL⟩, fun op nop => ?_⟩
    refine lc_list (K := K) (a := a) (xs := ts) (fun i H' => Same H3 H' ∧ H' op = some (.lst (nums ((tab R fun q => ins R (step R q 1)).take i)))) ⟨same_new nop, by rw [List.take_zero]; exact upd_same⟩ (fun i H' _ p => (S3.trans p.1).seq hL) (fun i x H' hi p => ?_) (fun H4 p => ?_)
    · obtain ⟨sm, eD⟩ := p
      have hA' := hA.same (S3.trans sm)
      obtain ⟨r, t, er, rfl, ht⟩ := hA'.of hi
      have hil := lt_get er
      have h1 := step_lt hv hil 1
      rw [step_get er, if_neg (by decide)] at h1
      obtain ⟨r2, er2⟩ := get_lt h1
      obtain ⟨t2, et2, htr2⟩ := hA'.get er2
      refine ⟨rfl, ?_⟩
      refine ⟨_, rfl, _, rfl, t, _, 1, _, rfl, rfl, ht, rowV1 r, a, ts, _, _, rfl, rfl, (S3.trans sm).seq hL, et2, t2, _, 2, _, rfl, rfl, htr2, rowV2 r2, ?_⟩
      refine ⟨_, eD, szs (by rw [nums_len, List.length_take, tab_len]; omega), same_mut sm nop, ?_⟩
      rw [upd_same, tab_take _ _ hil, nums_app, step_get er, if_neg (by decide), ins_get er2]
    obtain ⟨s4, eP⟩ := p
    rw [hA.1, tab_all] at eP
    have S4 := S3.trans s4
    have eL4 := s4 _ _ eL3
    have eU4 := s4 _ _ eU3
    -- for place in range(bits - 1, -1, -1)
    refine ⟨_, rfl, _, rfl, ?_⟩
    rw [intBits_bits]
    have hb1 : 1 ≤ (bits N).length := by
      have : bits N ≠ [] := fun e => by
        have h := val_bits N
        rw [e] at h
        have : N = 0 := h.symm
        omega
      exact List.length_pos_iff.mpr this
    generalize eB : (bits N).length = B at *
    have hNB : N < 2 ^ B := len_le_iff.mp (by omega)
    have hNb2 : 2 ^ (B - 1) ≤ N := len_lt_iff.mp (by omega)
    have ee1 : (((B - 1 : Nat) : Int) - (-1)).toNat = B := by omega
    refine ⟨B, 1, rfl, rfl, hb1, 1, rfl, 1, rfl, ((B - 1 : Nat) : Int), -1, -1, B, rfl, (by have z := RgC.neg (i := ((B - 1 : Nat) : Int)) (j := -1) (by omega) (by omega) (by omega) (by omega); rw [ee1] at z; exact z), ?_⟩
    refine for_rangeC (lo := ((B - 1 : Nat) : Int)) (c := -1) (n := B) (fun i σ H' => ∃ lp up z6 z7 z8 z9 z10, σ = [some (.ref a), some (.int 0), some (.int (N : Int)), some (.ref lp), some (.ref up), some (.ref op), z6, z7, z8, z9, z10, none, none] ∧ Same H H' ∧ H' op = some (.lst (nums (tab R fun q => ins R (step R q 1)))) ∧
      H' lp = some (.lst (nums (tab R fun q => cq R q (N / 2 ^ (B - i) - 1)))) ∧ H' up = some (.lst (nums (tab R fun q => cq R q (N / 2 ^ (B - i))))))
      ⟨lp, up, none, none, none, none, none, rfl, S4, eP, ?_, ?_⟩ (fun i σ H' hi hP => ?_) (fun σ H' hP => ?_)
    · rw [Nat.sub_zero, Nat.div_eq_of_lt hNB]; exact eL4
    · rw [Nat.sub_zero, Nat.div_eq_of_lt hNB]; exact eU4
    · obtain ⟨lp, up, z6, z7, z8, z9, z10, rfl, sm, eP, eL, eU⟩ := hP
      have hplace : ((B - 1 : Nat) : Int) + (i : Int) * -1 = ((B - 1 - i : Nat) : Int) := by omega
      rw [hplace]
      have hr1 : B - i = (B - 1 - i) + 1 := by omega
      have hr2 : B - (i + 1) = B - 1 - i := by omega
      rw [hr2]
      rw [hr1] at eL eU
      have hdd : N / 2 ^ ((B - 1 - i) + 1) = N / 2 ^ (B - 1 - i) / 2 := by rw [Nat.pow_succ, Nat.div_div_eq_div_mul]
      rw [hdd] at eL eU
      have hr3 : 1 ≤ N / 2 ^ (B - 1 - i) := by
        have hp : 0 < 2 ^ (B - 1 - i) := Nat.pos_of_ne_zero (by simp)
        have hle : 2 ^ (B - 1 - i) ≤ 2 ^ (B - 1) := pow_le (by omega)
        exact (Nat.le_div_iff_mul_le hp).mpr (by omega)
      generalize eplace : B - 1 - i = place at *
      -- rest, middle = (number >> place, less)
      refine ⟨_, rfl, _, rfl, N, place, rfl, rfl, _, rfl, by show 2 ≤ sizeLine; decide, fun tp ntp => ?_⟩
      refine ⟨tp, _, rfl, SqT.of upd_same, rfl, _, _, rfl, _, _, rfl, rfl, ?_⟩
      have st := same_new (o := .tup [.int ((N / 2 ^ place : Nat) : Int), .ref lp]) ntp
      have sm5 := sm.trans st
      have eP5 := st _ _ eP
      have eL5 := st _ _ eL
      have eU5 := st _ _ eU
      generalize upd H' tp (.tup [.int ((N / 2 ^ place : Nat) : Int), .ref lp]) = H5 at *
      generalize erest : N / 2 ^ place = rest at *
      have hrb : rest = 2 * (rest / 2) + rest % 2 := by omega
      have hrb1 : rest % 2 ≤ 1 := by omega
      refine ⟨_, rfl, rest, rfl, rfl, rfl, _, rfl, ?_⟩
      rw [show decide (V.int ((rest % 2 : Nat) : Int) = V.int 1) = (rest % 2 == 1) from dec_int (rest % 2) 1]
      refine ite2 (fun hc => ?_) (fun hc => ?_)
      · have hc1 : rest % 2 = 1 := by simpa using hc
        refine ⟨_, rfl, ?_⟩
        have hM : H5 up = some (.lst (nums (tab R fun q => cq R q (if rest % 2 = 1 then rest / 2 else rest / 2 - 1)))) := by rw [if_pos hc1]; exact eU5
        -- after
        refine ⟨_, rfl, a, ts, rfl, sm5.seq hL, fun ap nap => ?_⟩
        refine lc_it (walk_enum (xs := ts)) (fun i H' => Same H5 H' ∧ H' ap = some (.lst (nums ((tab R fun q => cq R q rest).take i)))) ⟨same_new nap, by rw [List.take_zero]; exact upd_same⟩ (fun i H' _ p => (sm5.trans p.1).seq hL) (fun i x H' H'' hi p hy => ?_) (fun H6 p => ?_)
        · obtain ⟨s6, eD⟩ := p
          obtain ⟨t, x1, x2, rfl, nt, rfl, ex1, ex2⟩ := hy
          cases ex1
          have st := same_new (o := .tup [.int (i : Int), x2]) nt
          obtain ⟨r, tr, er, rfl, htr⟩ := (hA.same (sm5.trans (s6.trans st))).of ex2
          have hil := lt_get er
          have g0 := step_lt hv hil 0
          have g1 := step_lt hv hil 1
          have s7 := s6.trans st
          have e0 : step R i 0 = r.1 := by rw [step_get er, if_pos rfl]
          have e1 : step R i 1 = r.2.1 := by rw [step_get er, if_neg (by decide)]
          rw [e0] at g0
          rw [e1] at g1
          refine ⟨t, _, rfl, SqT.of upd_same, rfl, _, _, rfl, _, _, rfl, rfl, rfl, ?_⟩
          refine ⟨_, rfl, _, rfl, op, _, _, _, rfl, rfl, SqL.of (s7 _ _ eP5), nums_at (tab_get _ _ hil), _, rfl, _, rfl, tr, _, 0, _, rfl, rfl, htr, rowV0 r, up, _, _, _, rfl, rfl, SqL.of (s7 _ _ eU5), nums_at (tab_get _ _ g0), _, _, rfl, rfl, ?_⟩
          refine ⟨_, rfl, _, rfl, tr, _, 1, _, rfl, rfl, htr, rowV1 r, _, _, _, _, rfl, rfl, SqL.of (s7 _ _ hM), nums_at (tab_get _ _ g1), _, _, rfl, rfl, ?_⟩
          refine ⟨_, st _ _ eD, szs (by rw [nums_len, List.length_take, tab_len]; omega), same_mut s7 nap, ?_⟩
          rw [upd_same, tab_take _ _ hil, nums_app, cq_after R i hrb hrb1 hr3, e0, e1]
        obtain ⟨s6, eA⟩ := p
        rw [hA.1, tab_all] at eA
        have sm6 := sm5.trans s6
        -- below
        refine ⟨_, rfl, a, ts, rfl, sm6.seq hL, fun bp nbp => ?_⟩
        refine lc_it (walk_enum (xs := ts)) (fun i H' => Same H6 H' ∧ H' bp = some (.lst (nums ((tab R fun q => cq R q (rest - 1)).take i)))) ⟨same_new nbp, by rw [List.take_zero]; exact upd_same⟩ (fun i H' _ p => (sm6.trans p.1).seq hL) (fun i x H' H'' hi p hy => ?_) (fun H7 p => ?_)
        · obtain ⟨s8, eD⟩ := p
          obtain ⟨t, x1, x2, rfl, nt, rfl, ex1, ex2⟩ := hy
          cases ex1
          have st := same_new (o := .tup [.int (i : Int), x2]) nt
          obtain ⟨r, tr, er, rfl, htr⟩ := (hA.same (sm6.trans (s8.trans st))).of ex2
          have hil := lt_get er
          have g0 := step_lt hv hil 0
          have g1 := step_lt hv hil 1
          have s9 := s8.trans st
          have s7 := s6.trans s9
          have e0 : step R i 0 = r.1 := by rw [step_get er, if_pos rfl]
          have e1 : step R i 1 = r.2.1 := by rw [step_get er, if_neg (by decide)]
          rw [e0] at g0
          rw [e1] at g1
          have hi1 := ins_le hv (step R i 1)
          refine ⟨t, _, rfl, SqT.of upd_same, rfl, _, _, rfl, _, _, rfl, rfl, rfl, ?_⟩
          refine ⟨_, rfl, _, rfl, op, _, _, _, rfl, rfl, SqL.of (s7 _ _ eP5), nums_at (tab_get _ _ hil), _, rfl, _, _, rfl, rfl, .inr ⟨_, rfl, _, (if 1 < rest then 1 else 0), rfl, ?_, by omega, ?_⟩⟩
          · by_cases h : 1 < rest
            · rw [if_pos h, if_pos (decide_eq_true (by omega))]; rfl
            · rw [if_neg h, if_neg (fun z => h (by have := of_decide_eq_true z; omega))]; rfl
          refine ⟨_, rfl, _, rfl, tr, _, 0, _, rfl, rfl, htr, rowV0 r, _, _, _, _, rfl, rfl, SqL.of (s7 _ _ hM), nums_at (tab_get _ _ g0), _, _, rfl, rfl, ?_⟩
          refine ⟨_, rfl, _, rfl, tr, _, 1, _, rfl, rfl, htr, rowV1 r, lp, _, _, _, rfl, rfl, SqL.of (s7 _ _ eL5), nums_at (tab_get _ _ g1), _, _, rfl, rfl, ?_⟩
          refine ⟨_, st _ _ eD, szs (by rw [nums_len, List.length_take, tab_len]; omega), same_mut s9 nbp, ?_⟩
          rw [upd_same, tab_take _ _ hil, nums_app, cq_below R i hrb hrb1 hr3, e0, e1]
        obtain ⟨s8, eB7⟩ := p
        rw [hA.1, tab_all] at eB7
        refine ⟨_, rfl, _, rfl, by show 2 ≤ sizeLine; decide, fun tp2 ntp2 => ?_⟩
        refine ⟨tp2, _, rfl, SqT.of upd_same, rfl, _, _, rfl, _, _, rfl, rfl, ?_⟩
        have sf := same_new (o := .tup [.ref ap, .ref bp]) ntp2
        refine ⟨bp, ap, _, _, _, _, _, rfl, (sm6.trans s8).trans sf, sf _ _ (s8 _ _ (s6 _ _ eP5)), sf _ _ eB7, sf _ _ (s8 _ _ eA)⟩
      · have hc1 : ¬ rest % 2 = 1 := by simpa using hc
        have hM : H5 lp = some (.lst (nums (tab R fun q => cq R q (if rest % 2 = 1 then rest / 2 else rest / 2 - 1)))) := by rw [if_neg hc1]; exact eL5
        -- after
        refine ⟨_, rfl, a, ts, rfl, sm5.seq hL, fun ap nap => ?_⟩
        refine lc_it (walk_enum (xs := ts)) (fun i H' => Same H5 H' ∧ H' ap = some (.lst (nums ((tab R fun q => cq R q rest).take i)))) ⟨same_new nap, by rw [List.take_zero]; exact upd_same⟩ (fun i H' _ p => (sm5.trans p.1).seq hL) (fun i x H' H'' hi p hy => ?_) (fun H6 p => ?_)
        · obtain ⟨s6, eD⟩ := p
          obtain ⟨t, x1, x2, rfl, nt, rfl, ex1, ex2⟩ := hy
          cases ex1
          have st := same_new (o := .tup [.int (i : Int), x2]) nt
          obtain ⟨r, tr, er, rfl, htr⟩ := (hA.same (sm5.trans (s6.trans st))).of ex2
          have hil := lt_get er
          have g0 := step_lt hv hil 0
          have g1 := step_lt hv hil 1
          have s7 := s6.trans st
          have e0 : step R i 0 = r.1 := by rw [step_get er, if_pos rfl]
          have e1 : step R i 1 = r.2.1 := by rw [step_get er, if_neg (by decide)]
          rw [e0] at g0
          rw [e1] at g1
          refine ⟨t, _, rfl, SqT.of upd_same, rfl, _, _, rfl, _, _, rfl, rfl, rfl, ?_⟩
          refine ⟨_, rfl, _, rfl, op, _, _, _, rfl, rfl, SqL.of (s7 _ _ eP5), nums_at (tab_get _ _ hil), _, rfl, _, rfl, tr, _, 0, _, rfl, rfl, htr, rowV0 r, up, _, _, _, rfl, rfl, SqL.of (s7 _ _ eU5), nums_at (tab_get _ _ g0), _, _, rfl, rfl, ?_⟩
          refine ⟨_, rfl, _, rfl, tr, _, 1, _, rfl, rfl, htr, rowV1 r, _, _, _, _, rfl, rfl, SqL.of (s7 _ _ hM), nums_at (tab_get _ _ g1), _, _, rfl, rfl, ?_⟩
          refine ⟨_, st _ _ eD, szs (by rw [nums_len, List.length_take, tab_len]; omega), same_mut s7 nap, ?_⟩
          rw [upd_same, tab_take _ _ hil, nums_app, cq_after R i hrb hrb1 hr3, e0, e1]
        obtain ⟨s6, eA⟩ := p
        rw [hA.1, tab_all] at eA
        have sm6 := sm5.trans s6
        -- below
        refine ⟨_, rfl, a, ts, rfl, sm6.seq hL, fun bp nbp => ?_⟩
        refine lc_it (walk_enum (xs := ts)) (fun i H' => Same H6 H' ∧ H' bp = some (.lst (nums ((tab R fun q => cq R q (rest - 1)).take i)))) ⟨same_new nbp, by rw [List.take_zero]; exact upd_same⟩ (fun i H' _ p => (sm6.trans p.1).seq hL) (fun i x H' H'' hi p hy => ?_) (fun H7 p => ?_)
        · obtain ⟨s8, eD⟩ := p
          obtain ⟨t, x1, x2, rfl, nt, rfl, ex1, ex2⟩ := hy
          cases ex1
          have st := same_new (o := .tup [.int (i : Int), x2]) nt
          obtain ⟨r, tr, er, rfl, htr⟩ := (hA.same (sm6.trans (s8.trans st))).of ex2
          have hil := lt_get er
          have g0 := step_lt hv hil 0
          have g1 := step_lt hv hil 1
          have s9 := s8.trans st
          have s7 := s6.trans s9
          have e0 : step R i 0 = r.1 := by rw [step_get er, if_pos rfl]
          have e1 : step R i 1 = r.2.1 := by rw [step_get er, if_neg (by decide)]
          rw [e0] at g0
          rw [e1] at g1
          have hi1 := ins_le hv (step R i 1)
          refine ⟨t, _, rfl, SqT.of upd_same, rfl, _, _, rfl, _, _, rfl, rfl, rfl, ?_⟩
          refine ⟨_, rfl, _, rfl, op, _, _, _, rfl, rfl, SqL.of (s7 _ _ eP5), nums_at (tab_get _ _ hil), _, rfl, _, _, rfl, rfl, .inr ⟨_, rfl, _, (if 1 < rest then 1 else 0), rfl, ?_, by omega, ?_⟩⟩
          · by_cases h : 1 < rest
            · rw [if_pos h, if_pos (decide_eq_true (by omega))]; rfl
            · rw [if_neg h, if_neg (fun z => h (by have := of_decide_eq_true z; omega))]; rfl
          refine ⟨_, rfl, _, rfl, tr, _, 0, _, rfl, rfl, htr, rowV0 r, _, _, _, _, rfl, rfl, SqL.of (s7 _ _ hM), nums_at (tab_get _ _ g0), _, _, rfl, rfl, ?_⟩
          refine ⟨_, rfl, _, rfl, tr, _, 1, _, rfl, rfl, htr, rowV1 r, lp, _, _, _, rfl, rfl, SqL.of (s7 _ _ eL5), nums_at (tab_get _ _ g1), _, _, rfl, rfl, ?_⟩
          refine ⟨_, st _ _ eD, szs (by rw [nums_len, List.length_take, tab_len]; omega), same_mut s9 nbp, ?_⟩
          rw [upd_same, tab_take _ _ hil, nums_app, cq_below R i hrb hrb1 hr3, e0, e1]
        obtain ⟨s8, eB7⟩ := p
        rw [hA.1, tab_all] at eB7
        refine ⟨_, rfl, _, rfl, by show 2 ≤ sizeLine; decide, fun tp2 ntp2 => ?_⟩
        refine ⟨tp2, _, rfl, SqT.of upd_same, rfl, _, _, rfl, _, _, rfl, rfl, ?_⟩
        have sf := same_new (o := .tup [.ref ap, .ref bp]) ntp2
        refine ⟨bp, ap, _, _, _, _, _, rfl, (sm6.trans s8).trans sf, sf _ _ (s8 _ _ (s6 _ _ eP5)), sf _ _ eB7, sf _ _ (s8 _ _ eA)⟩
    · obtain ⟨lp, up, z6, z7, z8, z9, z10, rfl, sm, eP, eL, eU⟩ := hP
      rw [Nat.sub_self, Nat.pow_zero, Nat.div_one] at eU
      exact ⟨_, rfl, _, rfl, up, _, 0, _, rfl, rfl, SqL.of eU, nums_at (i := 0) (tab_get _ _ h0), q H' sm⟩
end
end W36
end

section
set_option linter.all false
set_option maxRecDepth 100000
set_option maxHeartbeats 4000000
/-! The pen. -/
namespace W36
open PySem PySem.Spec PyProof.Rows L2
theorem dget_s {H : Hp} {d : Addr} {kvs : List (Key × V)} {z : Str} {v : V} (h : H d = some (.dK kvs)) (e : valV kvs (Sum.inr z : Key) = some v) : DGet H d (.str z) (some v) := by
  rw [← e]; exact DGet.k (k := Sum.inr z) h
theorem dput_s {H : Hp} {d : Addr} {kvs : List (Key × V)} {z : Str} {v : V} (h : H d = some (.dK kvs)) (hl : kvs.length ≤ 10) : DPut H d (.str z) v (upd H d (.dK (putK kvs (Sum.inr z) v))) :=
  DPut.k (k := Sum.inr z) h (szs (by omega))
def Keep (p : Addr) (H H' : Hp) : Prop := ∀ b o, b ≠ p → H b = some o → H' b = some o
theorem Keep.refl (p : Addr) (H : Hp) : Keep p H H := fun _ _ _ h => h
theorem Keep.of {p : Addr} {H H' : Hp} (h : Same H H') : Keep p H H' := fun b o _ e => h b o e
theorem Keep.trans {p : Addr} {H H1 H2 : Hp} (a : Keep p H H1) (b : Keep p H1 H2) : Keep p H H2 := fun c o n h => b c o n (a c o n h)
theorem Keep.upd {p : Addr} {H H' : Hp} {o : HO} (a : Keep p H H') : Keep p H (L2.upd H' p o) := fun c x n h => by rw [upd_ne n]; exact a c x n h
theorem Keep.free {p x : Addr} {H H' : Hp} (a : Keep p H H') (n : x ≠ p) (h : H' x = none) : H x = none := by
  cases e : H x with
  | none => rfl
  | some o => rw [a x o n e] at h; cases h
def Pen (H : Hp) (p ca : Addr) (n : Nat) : Prop := ∃ (kvs : List (Key × V)) (cells : List Int) (spot : Nat) (left : Int), H p = some (.dK kvs) ∧ kvs.length ≤ 3 ∧ valV kvs (Sum.inr "cells") = some (.ref ca) ∧ H ca = some (.lst (cells.map V.int)) ∧
  valV kvs (Sum.inr "at") = some (.int (spot : Int)) ∧ spot ≤ n ∧ valV kvs (Sum.inr "left") = some (.int left)
theorem Pen.le {H : Hp} {p ca : Addr} {n m : Nat} (h : Pen H p ca n) (e : n ≤ m) : Pen H p ca m := by
  obtain ⟨kvs, cells, spot, left, a, b, c, d, e2, f, g⟩ := h
  exact ⟨kvs, cells, spot, left, a, b, c, d, e2, Nat.le_trans f e, g⟩
theorem Pen.same {H H' : Hp} {p ca : Addr} {n : Nat} (h : Pen H p ca n) (s : Same H H') : Pen H' p ca n := by
  obtain ⟨kvs, cells, spot, left, a, b, c, d, e2, f, g⟩ := h
  exact ⟨kvs, cells, spot, left, s _ _ a, b, c, s _ _ d, e2, f, g⟩
/-- a list elsewhere is written -/
theorem Pen.other {H : Hp} {p ca D : Addr} {n : Nat} {o : HO} (h : Pen H p ca n) (n1 : D ≠ p) (n2 : D ≠ ca) : Pen (upd H D o) p ca n := by
  obtain ⟨kvs, cells, spot, left, a, b, c, d, e2, f, g⟩ := h
  exact ⟨kvs, cells, spot, left, by rw [upd_ne n1.symm]; exact a, b, c, by rw [upd_ne n2.symm]; exact d, e2, f, g⟩
theorem Pen.dict {H : Hp} {p ca : Addr} {n : Nat} (h : Pen H p ca n) : ∃ kvs, H p = some (.dK kvs) := let ⟨kvs, _, _, _, a, _⟩ := h; ⟨kvs, a⟩
theorem Pen.cells {H : Hp} {p ca : Addr} {n : Nat} (h : Pen H p ca n) : ∃ xs, H ca = some (.lst xs) := let ⟨_, cells, _, _, _, _, _, a, _⟩ := h; ⟨_, a⟩
theorem Pen.ne {H : Hp} {p ca D : Addr} {n : Nat} (h : Pen H p ca n) (nD : H D = none) : D ≠ p ∧ D ≠ ca := by
  obtain ⟨_, a⟩ := h.dict
  obtain ⟨_, b⟩ := h.cells
  exact ⟨fun z => (by rw [z, a] at nD; cases nD), fun z => (by rw [z, b] at nD; cases nD)⟩
theorem ints_dp {K : PySem.W.Frag} {H : Hp} : ∀ l : List Int, DpAll K H (l.map V.int) (l.map PyData.int)
  | [] => .nil
  | x :: l => .cons (.int x) (ints_dp l)
theorem ints_can : ∀ l : List Int, PyData.canLayAll0 (l.map PyData.int) = true
  | [] => rfl
  | x :: l => by
    show (PyData.canLay0 (.int x) && PyData.canLayAll0 (l.map PyData.int)) = true
    rw [ints_can l]; rfl
theorem ints_depth : ∀ l : List Int, PyData.depthAll (l.map PyData.int) ≤ 1
  | [] => by show 0 ≤ 1; decide
  | x :: l => by
    have := ints_depth l
    show max 0 (PyData.depthAll (l.map PyData.int)) ≤ 1
    omega
theorem ints_shaped (l : List Int) : SeqAt.shaped (.list (l.map PyData.int)) = true := by
  unfold SeqAt.shaped
  rw [Bool.and_eq_true, decide_eq_true_eq]
  refine ⟨ints_can l, ?_⟩
  have := ints_depth l
  show PyData.depthAll (l.map PyData.int) + 1 ≤ 64
  omega
theorem ints_empty (l : List Int) : PyData.eqv (.list (l.map PyData.int)) (.list (([] : List Int).map PyData.int)) = decide (l = []) := by
  cases l with
  | nil => rfl
  | cons x l => rfl
theorem cut_ints (l : List Int) (k : Int) : ∃ m : List Int, cutV (l.map V.int) none (some k) = m.map V.int := by
  refine ⟨(l.drop (HT.sIx (l.map V.int).length 0 none)).take (HT.sIx (l.map V.int).length (l.map V.int).length (some k) - HT.sIx (l.map V.int).length 0 none), ?_⟩
  unfold cutV
  rw [List.map_take, List.map_drop]
section
variable {P : Program} {w : World} {K : PySem.W.Frag} {mg : Str → Option Value} {base : Heap}
def sp_l_pen (K : PySem.W.Frag) : Sp := fun vs H Q _ => ∃ (a : Addr) (ns : List Int), vs = [.ref a] ∧ SqL K H a (ns.map V.int) ∧ ∀ H' p ca, Same H H' → H p = none → Pen H' p ca 0 → Q (.ref p) H'
theorem ok_l_pen (T : Txt K mg) : FnOk P w K mg base CX0 1 T.a_l_pen T.d_l_pen ["_law_script"] (sp_l_pen K) := by
  refine T.F_l_pen.ok sc_l_pen (fun vs H Q E h => ?_) (fun cdv A outer s H vs Q E hr h => ?_)
  · obtain ⟨a, ns, rfl, _⟩ := h
    rfl
  · obtain ⟨a, ns, rfl, hL, q⟩ := h
    refine ⟨_, (pss_one (ps_ret (pe_disp (pps_cons pe_str (pe_callTy call_list_of (by rfl) T.n_list (by decide +kernel) (pa_cons (pe_slice sl_list (pv 0) po_none (po_some pe_int)) pa_nil)) (pps_cons pe_str pe_int (pps_cons pe_str pe_int pps_nil))) (by rfl) (by rfl) (fun z => by cases z) (by decide)))), ?_⟩
    intro p np
    have s0 := same_new (o := .dK []) np
    refine ⟨_, rfl, _, rfl, a, _, rfl, s0.seq hL, fun sp nsp => ?_⟩
    refine ⟨sp, _, rfl, .inl (SqL.of upd_same), fun cp ncp => ?_⟩
    have n1 : p ≠ sp := ne_of_none (H := upd H p (.dK [])) upd_same nsp
    have e1 : (upd (upd H p (.dK [])) sp (.lst (cutV (ns.map V.int) none (some 63)))) p = some (.dK []) := by rw [upd_ne n1]; exact upd_same
    have n2 : p ≠ cp := ne_of_none e1 ncp
    obtain ⟨m, em⟩ := cut_ints ns 63
    have e2 : (upd (upd (upd H p (.dK [])) sp (.lst (cutV (ns.map V.int) none (some 63)))) cp (.lst (cutV (ns.map V.int) none (some 63)))) p = some (.dK []) := by rw [upd_ne n2]; exact e1
    refine ⟨e2, [(Sum.inr "cells", .ref cp), (Sum.inr "at", .int 0), (Sum.inr "left", .int 0)], rfl, by show 3 ≤ 15; decide, ?_⟩
    refine q _ p cp (same_mut ((s0.trans (same_new nsp)).trans (same_new ncp)) np) np ?_
    exact ⟨_, m, 0, 0, upd_same, by show 3 ≤ 3; decide, by rfl, by rw [upd_ne n2.symm, upd_same, em], by rfl, Nat.le_refl _, by rfl⟩
def sp_l_draw : Sp := fun vs H Q _ => ∃ (p ca : Addr) (m n : Nat), vs = [.ref p, .int (m : Int)] ∧ Pen H p ca n ∧ n ≤ 1000000 ∧ 1 ≤ m ∧ m ≤ 1000000 ∧ ∀ H' (x : Nat), Keep p H H' → Pen H' p ca (n + 1) → x < m → Q (.int (x : Int)) H'
theorem ok_l_draw (T : Txt K mg) : FnOk P w K mg base CX0 1 T.a_l_draw T.d_l_draw ["_law_pen_here", "_law_many"] sp_l_draw := by
  refine T.F_l_draw.ok sc_l_draw (fun vs H Q E h => ?_) (fun cdv A outer s H vs Q E hr h => ?_)
  · obtain ⟨p, ca, m, n, rfl, _⟩ := h
    rfl
  · obtain ⟨p, ca, m, n, rfl, hP, hn, m1, m2, q⟩ := h
    obtain ⟨kvs, cells, spot, left, ep, hkl, hc, ec, hs, hsn, hl⟩ := hP
    refine ⟨_, (pss_cons (ps_if (pt_cmpR op_ge (pe_dget (hu_of hr) (pv 0) pe_str (fun _ _ => rfl)) (pv 1) (nomark _))
      (pss_cons (ps_set (i := 2) sc_l_draw.nd rfl (Or.inl rfl) (pe_op op_mod (pe_callTy call_int1 (by rfl) T.n_int (by decide +kernel) (pa_cons (pe_dget (hu_of hr) (pv 0) pe_str (fun _ _ => rfl)) pa_nil)) (pv 1)))
        (pss_cons (ps_dput (hu_of hr) (pv 0) pe_str (pe_op op_fdiv (pe_dget (hu_of hr) (pv 0) pe_str (fun _ _ => rfl)) (pv 1)) rfl)
        (pss_one (ps_ret (pv 2)))))
      pss_nil)
      (pss_cons (ps_set (i := 3) sc_l_draw.nd rfl (Or.inl rfl) (pe_dget (hu_of hr) (pv 0) pe_str (fun _ _ => rfl)))
      (pss_cons (ps_dput (hu_of hr) (pv 0) pe_str (pe_op op_add (pv 3) pe_int) rfl)
      (pss_cons (ps_if (pt_cmpR (op_eqD hr.units) (pe_dget (hu_of hr) (pv 0) pe_str (fun _ _ => rfl)) (pe_lst pa_nil) (nomark _))
      (pss_one (ps_ret (pe_op op_mod (pe_callTy call_int1 (by rfl) T.n_int (by decide +kernel) (pa_cons (pe_op op_add (pe_op op_mul pe_int (pv 3)) pe_int) pa_nil)) (pv 1))))
      pss_nil)
      (pss_cons (ps_set (i := 4) sc_l_draw.nd rfl (Or.inl rfl) (pe_ix ix_list (pe_dget (hu_of hr) (pv 0) pe_str (fun _ _ => rfl)) (pe_op op_mod (pe_callTy call_int1 (by rfl) T.n_int (by decide +kernel) (pa_cons (pv 3) pa_nil)) (pe_callB call_len_seq (by rfl) T.n_len (by decide +kernel) (pa_cons (pe_dget (hu_of hr) (pv 0) pe_str (fun _ _ => rfl)) pa_nil))) (fun _ _ => rfl)))
      (pss_cons (ps_if (PW.pt (pw_and (pt_cmpR op_lt (pv 3) (pe_callB call_len_seq (by rfl) T.n_len (by decide +kernel) (pa_cons (pe_dget (hu_of hr) (pv 0) pe_str (fun _ _ => rfl)) pa_nil)) (nomark _)) (pw_and1 (pt_cmpR op_ge (pv 4) (pe_op op_pow pe_int pe_int) (nomark _)))))
      (pss_cons (ps_dput (hu_of hr) (pv 0) pe_str (pe_op op_fdiv (pe_op op_sub (pv 4) (pe_op op_pow pe_int pe_int)) (pv 1)) rfl)
        (pss_one (ps_ret (pe_op op_mod (pe_callTy call_int1 (by rfl) T.n_int (by decide +kernel) (pa_cons (pe_op op_sub (pv 4) (pe_op op_pow pe_int pe_int)) pa_nil)) (pv 1)))))
      pss_nil)
      (pss_cons (ps_set (i := 5) sc_l_draw.nd rfl (Or.inl rfl) (pe_op op_add (pe_op op_add (pe_op op_mul (pe_op op_add (pe_op op_mod (pe_callTy call_int1 (by rfl) T.n_int (by decide +kernel) (pa_cons (pv 4) pa_nil)) pe_int) pe_int) (pe_op op_add (pe_op op_mul pe_int (pv 3)) pe_int)) (pe_op op_mul (pe_op op_mul pe_int (pv 3)) (pv 3))) pe_int))
      (pss_cons (ps_set (i := 5) sc_l_draw.nd rfl (Or.inl rfl) (pe_op op_mod (pe_callTy call_int1 (by rfl) T.n_int (by decide +kernel) (pa_cons (pv 5) pa_nil)) pe_int))
      (pss_cons (ps_set (i := 5) sc_l_draw.nd rfl (Or.inl rfl) (pe_op op_mod (pe_callTy call_int1 (by rfl) T.n_int (by decide +kernel) (pa_cons (pe_op op_mul (pv 5) (pe_op op_add (pv 5) pe_int)) pa_nil)) pe_int))
      (pss_cons (ps_set (i := 5) sc_l_draw.nd rfl (Or.inl rfl) (pe_op op_mod (pe_callTy call_int1 (by rfl) T.n_int (by decide +kernel) (pa_cons (pe_op op_mul (pv 5) (pv 5)) pa_nil)) pe_int))
      (pss_one (ps_ret (pe_op op_mod (pe_callTy call_int1 (by rfl) T.n_int (by decide +kernel) (pa_cons (pe_op op_fdiv (pv 5) pe_int) pa_nil)) (pv 1)))))))))))))), ?_⟩
    have m0 : (0 : Int) < (m : Int) := by omega
    have hdiv : CDiv 0 (m : Int) := ⟨m0, by omega⟩
    have npc : ca ≠ p := ne_of ec ep fun z => nomatch z
    have out : ∀ (z : Int) (H' : Hp), Keep p H H' → Pen H' p ca (n + 1) → Q (.int (z % (m : Int))) H' := fun z H' k1 k2 => by
      have h1 := Int.emod_nonneg z (show (m : Int) ≠ 0 by omega)
      have h2 := Int.emod_lt_of_pos z m0
      have := q H' (z % (m : Int)).toNat k1 k2 (by omega)
      rw [Int.toNat_of_nonneg h1] at this
      exact this
    refine ⟨_, rfl, p, _, rfl, dget_s ep hl, _, rfl, _, _, rfl, rfl, _, rfl, ite2 (fun c => ?_) (fun c => ?_)⟩
    · refine ⟨_, rfl, p, _, rfl, dget_s ep hl, .inl ⟨_, rfl, _, rfl, _, _, rfl, rfl, m0, ?_⟩⟩
      refine ⟨_, rfl, p, _, rfl, dget_s ep hl, _, rfl, _, _, rfl, rfl, ⟨m0, by omega⟩, _, rfl, p, _, rfl, dput_s ep (by omega), ?_⟩
      refine ⟨_, rfl, out left _ (Keep.refl p H).upd ?_⟩
      exact ⟨_, cells, spot, _, upd_same, by rw [putK_len_old hl]; exact hkl, by rw [valV_put, if_neg (by decide)]; exact hc, by rw [upd_ne npc]; exact ec, by rw [valV_put, if_neg (by decide)]; exact hs, by omega, by rw [valV_put, if_pos rfl]⟩
    -- spot; pen['at'] = spot + 1
    refine ⟨_, rfl, p, _, rfl, dget_s ep hs, ?_⟩
    refine ⟨_, rfl, _, _, rfl, rfl, _, rfl, p, _, rfl, dput_s ep (by omega), ?_⟩
    have ep1 : (upd H p (.dK (putK kvs (Sum.inr "at") (.int ((spot : Int) + 1))))) p = some (.dK (putK kvs (Sum.inr "at") (.int ((spot : Int) + 1)))) := upd_same
    have ec1 : (upd H p (.dK (putK kvs (Sum.inr "at") (.int ((spot : Int) + 1))))) ca = some (.lst (cells.map V.int)) := by rw [upd_ne npc]; exact ec
    have hc1 : valV (putK kvs (Sum.inr "at") (.int ((spot : Int) + 1))) (Sum.inr "cells") = some (.ref ca) := by rw [valV_put, if_neg (by decide)]; exact hc
    have hl1 : valV (putK kvs (Sum.inr "at") (.int ((spot : Int) + 1))) (Sum.inr "left") = some (.int left) := by rw [valV_put, if_neg (by decide)]; exact hl
    have hs1 : valV (putK kvs (Sum.inr "at") (.int ((spot : Int) + 1))) (Sum.inr "at") = some (.int (((spot + 1 : Nat) : Int))) := by rw [valV_put, if_pos rfl]; rfl
    have hkl1 : (putK kvs (Sum.inr "at") (.int ((spot : Int) + 1))).length ≤ 3 := by rw [putK_len_old hs]; exact hkl
    have k1 : Keep p H (upd H p (.dK (putK kvs (Sum.inr "at") (.int ((spot : Int) + 1))))) := (Keep.refl p H).upd
    generalize putK kvs (Sum.inr "at") (.int ((spot : Int) + 1)) = kvs1 at *
    -- if pen['cells'] == []
    refine ⟨_, rfl, p, _, rfl, dget_s ep1 hc1, by show 0 ≤ sizeLine; decide, fun xp nxp => ?_⟩
    have s2 := same_new (o := .lst []) nxp
    have ep2 := s2 _ _ ep1
    have ec2 := s2 _ _ ec1
    have k2 := k1.trans (Keep.of (p := p) s2)
    have hP2 : Pen (upd (upd H p (.dK kvs1)) xp (.lst [])) p ca (n + 1) := ⟨kvs1, cells, spot + 1, left, ep2, hkl1, hc1, ec2, hs1, by omega, hl1⟩
    refine ⟨.list (cells.map PyData.int), .list (([] : List Int).map PyData.int), .lst (SqL.of ec2) (ints_dp cells), .lst (SqL.of upd_same) .nil, ints_shaped _, ints_shaped [], _, rfl, ?_⟩
    rw [ints_empty]
    generalize (upd (upd H p (.dK kvs1)) xp (.lst [])) = H2 at *
    refine ite2 (fun c2 => ?_) (fun c2 => ?_)
    · exact ⟨_, rfl, _, _, rfl, rfl, Or.inl ⟨by decide, by decide⟩, _, _, rfl, rfl, .inl ⟨_, rfl, _, rfl, _, _, rfl, rfl, m0, out _ _ k2 hP2⟩⟩
    have hne : 0 < cells.length := List.length_pos_iff.mpr fun e => c2 (decide_eq_true e)
    have hsm : spot % cells.length < cells.length := Nat.mod_lt _ hne
    obtain ⟨cell, ecell⟩ := get_lt hsm
    -- cell
    refine ⟨_, rfl, p, _, rfl, dget_s ep2 hc1, _, rfl, .inl ⟨_, rfl, _, rfl, p, _, rfl, dget_s ep2 hc1, ca, _, rfl, .inl (SqL.of ec2), _, _, rfl, rfl, ?_, ca, _, _, .int cell, rfl, rfl, SqL.of ec2, ?_, ?_⟩⟩
    · rw [List.length_map]; omega
    · rw [List.length_map, ← Int.natCast_emod]
      exact atI_nat (by rw [List.getElem?_map, ecell]; rfl)
    have hpow : CPow 10 18 := ⟨by decide, by decide, by decide⟩
    refine ⟨_, rfl, _, rfl, p, _, rfl, dget_s ep2 hc1, ca, _, rfl, .inl (SqL.of ec2), _, _, rfl, rfl, _, rfl, ite2 (fun c3 => ?_) (fun c3 => ?_)⟩
    · refine ⟨_, rfl, _, _, rfl, rfl, hpow, _, _, rfl, rfl, _, rfl, ite2 (fun c4 => ?_) (fun c4 => ?_)⟩
      · refine ⟨_, rfl, _, _, rfl, rfl, hpow, _, _, rfl, rfl, _, rfl, _, _, rfl, rfl, ⟨m0, by omega⟩, _, rfl, p, _, rfl, dput_s ep2 (by omega), ?_⟩
        refine ⟨_, rfl, _, _, rfl, rfl, hpow, _, _, rfl, rfl, .inl ⟨_, rfl, _, rfl, _, _, rfl, rfl, m0, out _ _ k2.upd ?_⟩⟩
        exact ⟨_, cells, spot + 1, _, upd_same, by rw [putK_len_old hl1]; exact hkl1, by rw [valV_put, if_neg (by decide)]; exact hc1, by rw [upd_ne npc]; exact ec2, by rw [valV_put, if_neg (by decide)]; exact hs1, by omega, by rw [valV_put, if_pos rfl]⟩
      · have b0 := Int.emod_nonneg cell (show (2147483629 : Int) ≠ 0 by decide)
        have b1 := Int.emod_lt_of_pos cell (show (0 : Int) < 2147483629 by decide)
        refine ⟨_, rfl, .inl ⟨_, rfl, _, _, rfl, rfl, show (0 : Int) < 2147483629 by decide, _, _, rfl, rfl, ?_⟩⟩
        refine ⟨_, rfl, _, _, rfl, rfl, Or.inl ⟨by decide, by decide⟩, _, _, rfl, rfl, _, _, rfl, rfl, Or.inl ⟨by omega, by omega⟩, ?_⟩
        refine ⟨_, rfl, _, _, rfl, rfl, Or.inl ⟨by decide, by decide⟩, _, rfl, _, _, rfl, rfl, Or.inr ⟨by omega, by omega⟩, _, _, rfl, rfl, _, _, rfl, rfl, ?_⟩
        refine ⟨_, rfl, .inl ⟨_, rfl, _, _, rfl, rfl, show (0 : Int) < 2147483647 by decide, ?_⟩⟩
        have d0 := Int.emod_nonneg ((cell % 2147483629 + 1) * (97 * (spot : Int) + 40693) + 69623 * (spot : Int) * (spot : Int) + 11) (show (2147483647 : Int) ≠ 0 by decide)
        have d1 := Int.emod_lt_of_pos ((cell % 2147483629 + 1) * (97 * (spot : Int) + 40693) + 69623 * (spot : Int) * (spot : Int) + 11) (show (0 : Int) < 2147483647 by decide)
        generalize ((cell % 2147483629 + 1) * (97 * (spot : Int) + 40693) + 69623 * (spot : Int) * (spot : Int) + 11) % 2147483647 = x1 at *
        refine ⟨_, rfl, _, rfl, _, _, rfl, rfl, _, _, rfl, rfl, Or.inl ⟨by omega, by omega⟩, .inl ⟨_, rfl, _, _, rfl, rfl, show (0 : Int) < 2147483587 by decide, ?_⟩⟩
        have f0 := Int.emod_nonneg (x1 * (x1 + 16811)) (show (2147483587 : Int) ≠ 0 by decide)
        have f1 := Int.emod_lt_of_pos (x1 * (x1 + 16811)) (show (0 : Int) < 2147483587 by decide)
        generalize x1 * (x1 + 16811) % 2147483587 = x2 at *
        refine ⟨_, rfl, _, rfl, _, _, rfl, rfl, Or.inl ⟨by omega, by omega⟩, .inl ⟨_, rfl, _, _, rfl, rfl, show (0 : Int) < 2147483563 by decide, ?_⟩⟩
        refine ⟨_, rfl, _, _, rfl, rfl, ⟨by decide, by decide⟩, .inl ⟨_, rfl, _, rfl, _, _, rfl, rfl, m0, out _ _ k2 hP2⟩⟩
    · have b0 := Int.emod_nonneg cell (show (2147483629 : Int) ≠ 0 by decide)
      have b1 := Int.emod_lt_of_pos cell (show (0 : Int) < 2147483629 by decide)
      refine ⟨_, rfl, .inl ⟨_, rfl, _, _, rfl, rfl, show (0 : Int) < 2147483629 by decide, _, _, rfl, rfl, ?_⟩⟩
      refine ⟨_, rfl, _, _, rfl, rfl, Or.inl ⟨by decide, by decide⟩, _, _, rfl, rfl, _, _, rfl, rfl, Or.inl ⟨by omega, by omega⟩, ?_⟩
      refine ⟨_, rfl, _, _, rfl, rfl, Or.inl ⟨by decide, by decide⟩, _, rfl, _, _, rfl, rfl, Or.inr ⟨by omega, by omega⟩, _, _, rfl, rfl, _, _, rfl, rfl, ?_⟩
      refine ⟨_, rfl, .inl ⟨_, rfl, _, _, rfl, rfl, show (0 : Int) < 2147483647 by decide, ?_⟩⟩
      have d0 := Int.emod_nonneg ((cell % 2147483629 + 1) * (97 * (spot : Int) + 40693) + 69623 * (spot : Int) * (spot : Int) + 11) (show (2147483647 : Int) ≠ 0 by decide)
      have d1 := Int.emod_lt_of_pos ((cell % 2147483629 + 1) * (97 * (spot : Int) + 40693) + 69623 * (spot : Int) * (spot : Int) + 11) (show (0 : Int) < 2147483647 by decide)
      generalize ((cell % 2147483629 + 1) * (97 * (spot : Int) + 40693) + 69623 * (spot : Int) * (spot : Int) + 11) % 2147483647 = x1 at *
      refine ⟨_, rfl, _, rfl, _, _, rfl, rfl, _, _, rfl, rfl, Or.inl ⟨by omega, by omega⟩, .inl ⟨_, rfl, _, _, rfl, rfl, show (0 : Int) < 2147483587 by decide, ?_⟩⟩
      have f0 := Int.emod_nonneg (x1 * (x1 + 16811)) (show (2147483587 : Int) ≠ 0 by decide)
      have f1 := Int.emod_lt_of_pos (x1 * (x1 + 16811)) (show (0 : Int) < 2147483587 by decide)
      generalize x1 * (x1 + 16811) % 2147483587 = x2 at *
      refine ⟨_, rfl, _, rfl, _, _, rfl, rfl, Or.inl ⟨by omega, by omega⟩, .inl ⟨_, rfl, _, _, rfl, rfl, show (0 : Int) < 2147483563 by decide, ?_⟩⟩
      refine ⟨_, rfl, _, _, rfl, rfl, ⟨by decide, by decide⟩, .inl ⟨_, rfl, _, rfl, _, _, rfl, rfl, m0, out _ _ k2 hP2⟩⟩
end
end W36
end

section
set_option linter.all false
set_option maxRecDepth 100000
set_option maxHeartbeats 4000000
/-! Drawn rows and sizes. -/
namespace W36
open PySem PySem.Spec PyProof.Rows L2
def LaidAt (H : Hp) (vs : List V) (R : List W36.Row) : Prop := vs.length = R.length ∧ ∀ (i : Nat) (r : W36.Row), R[i]? = some r → ∃ t, vs[i]? = some (.ref t) ∧ H t = some (.tup (rowV r))
theorem LaidAt.nil {H : Hp} : LaidAt H [] [] := ⟨rfl, fun i r h => by simp at h⟩
theorem LaidAt.keep {p : Addr} {H H' : Hp} {vs : List V} {R : List W36.Row} {kvs : List (Key × V)} (h : LaidAt H vs R) (k : Keep p H H') (e : H p = some (.dK kvs)) : LaidAt H' vs R :=
  ⟨h.1, fun i r hr => let ⟨t, a, b⟩ := h.2 i r hr; ⟨t, a, k t _ (ne_of b e fun z => nomatch z) b⟩⟩
theorem LaidAt.same {H H' : Hp} {vs : List V} {R : List W36.Row} (h : LaidAt H vs R) (k : Same H H') : LaidAt H' vs R :=
  ⟨h.1, fun i r hr => let ⟨t, a, b⟩ := h.2 i r hr; ⟨t, a, k t _ b⟩⟩
theorem LaidAt.updL {H : Hp} {D : Addr} {xs : List V} {o : HO} {vs : List V} {R : List W36.Row} (h : LaidAt H vs R) (e : H D = some (.lst xs)) : LaidAt (upd H D o) vs R :=
  ⟨h.1, fun i r hr => let ⟨t, a, b⟩ := h.2 i r hr; ⟨t, a, by rw [upd_ne (ne_of b e fun z => nomatch z)]; exact b⟩⟩
theorem LaidAt.snoc {H : Hp} {vs : List V} {R : List W36.Row} {r : W36.Row} {t : Addr} (h : LaidAt H vs R) (ht : H t = some (.tup (rowV r))) : LaidAt H (vs ++ [.ref t]) (R ++ [r]) := by
  refine ⟨by rw [List.length_append, List.length_append, h.1]; rfl, fun i s hs => ?_⟩
  by_cases hi : i < R.length
  · rw [List.getElem?_append_left hi] at hs
    obtain ⟨u, a, b⟩ := h.2 i s hs
    exact ⟨u, by rw [List.getElem?_append_left (by rw [h.1]; exact hi)]; exact a, b⟩
  · have hl := lt_get hs
    rw [List.length_append, List.length_singleton] at hl
    have e : i = R.length := by omega
    subst e
    rw [List.getElem?_append_right (Nat.le_refl _), Nat.sub_self] at hs
    cases hs
    exact ⟨t, by rw [List.getElem?_append_right (by rw [h.1]; exact Nat.le_refl _), h.1, Nat.sub_self]; rfl, ht⟩
def RowsIn (m : Nat) (R : List W36.Row) : Prop := ∀ r ∈ R, r.1 < m ∧ r.2.1 < m ∧ r.2.2 ≤ 1
theorem RowsIn.nil {m : Nat} : RowsIn m [] := fun _ h => by cases h
theorem RowsIn.snoc {m : Nat} {R : List W36.Row} {r : W36.Row} (h : RowsIn m R) (h1 : r.1 < m) (h2 : r.2.1 < m) (h3 : r.2.2 ≤ 1) : RowsIn m (R ++ [r]) := fun s hs => (List.mem_append.mp hs).elim (h s) fun z => by rw [List.mem_singleton.mp z]; exact ⟨h1, h2, h3⟩
theorem RowsIn.valid {m : Nat} {R : List W36.Row} (h : RowsIn m R) (e : R.length = m) : Valid R :=
  ⟨fun q r hr => by rw [e]; exact (h r (List.mem_of_getElem? hr)).1, fun q r hr => by rw [e]; exact (h r (List.mem_of_getElem? hr)).2.1, fun q r hr => (h r (List.mem_of_getElem? hr)).2.2⟩
/-- the list at D grows by a row that was laid at t -/
structure Grow (p ca : Addr) (H0 H : Hp) (D : Addr) (m n : Nat) (R : List W36.Row) (vs : List V) : Prop where
  keep : Keep p H0 H
  pen : Pen H p ca n
  at_ : H D = some (.lst vs)
  laid : LaidAt H vs R
  rin : RowsIn m R
theorem Grow.ext {p ca : Addr} {H0 H H' : Hp} {D : Addr} {m n n' : Nat} {R : List W36.Row} {vs : List V} (g : Grow p ca H0 H D m n R vs) (k : Keep p H H') (P : Pen H' p ca n') (nD : D ≠ p) : Grow p ca H0 H' D m n' R vs := by
  obtain ⟨kvs, e⟩ := g.pen.dict
  exact ⟨g.keep.trans k, P, k D _ nD g.at_, g.laid.keep k e, g.rin⟩
theorem Grow.more {p ca : Addr} {H0 H : Hp} {D : Addr} {m n : Nat} {R : List W36.Row} {vs : List V} (g : Grow p ca H0 H D m n R vs) {t : Addr} {r : W36.Row} (nt : H t = none) (n0 : H0 D = none) (n1 : D ≠ p) (n2 : D ≠ ca) (h1 : r.1 < m) (h2 : r.2.1 < m) (h3 : r.2.2 ≤ 1) :
    Grow p ca H0 (upd (upd H t (.tup (rowV r))) D (.lst (vs ++ [.ref t]))) D m n (R ++ [r]) (vs ++ [.ref t]) ∧ (upd H t (.tup (rowV r))) D = some (.lst vs) := by
  have s := same_new (o := .tup (rowV r)) nt
  have eD := s D _ g.at_
  refine ⟨⟨?_, (g.pen.same s).other n1 n2, upd_same, ((g.laid.same s).snoc upd_same).updL eD, g.rin.snoc h1 h2 h3⟩, eD⟩
  intro b o nb e
  have hb : b ≠ D := fun z => by rw [z, n0] at e; cases e
  rw [upd_ne hb]
  exact s _ _ (g.keep b o nb e)
section
variable {P : Program} {w : World} {K : PySem.W.Frag} {mg : Str → Option Value} {base : Heap}
theorem min_nat (i j : Nat) : (if (j : Int) < (i : Int) then (j : Int) else (i : Int)) = ((if j < i then j else i : Nat) : Int) := by
  by_cases h : j < i
  · rw [if_pos h, if_pos (by omega)]
  · rw [if_neg h, if_neg (by omega)]
def sp_l_rule : Sp := fun vs H Q _ => ∃ (p ca : Addr) (n : Nat), vs = [.ref p, .int 6] ∧ Pen H p ca n ∧ n ≤ 100000 ∧ ∀ H' a R, Keep p H H' → H a = none → a ≠ p → Laid H' a R → Valid R → 0 < R.length → R.length ≤ 6 → Pen H' p ca (n + 50) → Q (.ref a) H'
theorem ok_l_rule (T : Txt K mg) : FnOk P w K mg base CX0 2 T.a_l_rule T.d_l_rule ["_law_pen_here", "_law_most"] sp_l_rule := by
  refine T.F_l_rule.ok sc_l_rule (fun vs H Q E h => ?_) (fun cdv A outer s H vs Q E hr h => ?_)
  · obtain ⟨p, ca, n, rfl, _⟩ := h
    rfl
  · obtain ⟨p, ca, n, rfl, hP, hn, q⟩ := h
    refine ⟨_, (pss_cons (ps_asg (pe_tup (pa_cons (pe_op op_addN pe_int (pe_call (ok_l_draw T) (hr.mono (by decide)) (by rfl) T.g_l_draw T.F_l_draw.kp T.b_l_draw .nil pass0 (pa_cons (pv 0) (pa_cons (pv 1) pa_nil)))) (pa_cons (pe_call (ok_l_draw T) (hr.mono (by decide)) (by rfl) T.g_l_draw T.F_l_draw.kp T.b_l_draw .nil pass0 (pa_cons (pv 0) (pa_cons pe_int pa_nil))) pa_nil))) (pg_tup rfl (pgs_cons (pg_name (i := 2) sc_l_rule.nd rfl (Or.inr rfl)) (pgs_cons (pg_name (i := 3) sc_l_rule.nd rfl (Or.inl rfl)) pgs_nil))))
      (pss_cons (ps_if (pt_cmpR op_gt (pv 3) pe_int (nomark _))
      (pss_one (ps_ret (pe_lc (own := [("_law_at", 5)]) rfl sc_l_rule.nd (pi_range1 (by rfl) T.n_range (pa_cons (pv 2) pa_nil)) (blkOk_by (N := N_l_rule) (sc := defScope s_l_rule) (by decide +kernel)) (fun _ _ _ _ _ => (pg_name (i := 5) sc_l_rule.nd rfl (Or.inl rfl))) (fun _ _ _ _ _ => pts_nil) (fun _ _ _ _ _ => (pe_tup (pa_cons (pe_call (ok_l_draw T) (hr.mono (by decide)) (by rfl) T.g_l_draw T.F_l_draw.kp T.b_l_draw .nil pass0 (pa_cons (pv 0) (pa_cons (pv 2) pa_nil))) (pa_cons (pe_call (ok_l_draw T) (hr.mono (by decide)) (by rfl) T.g_l_draw T.F_l_draw.kp T.b_l_draw .nil pass0 (pa_cons (pv 0) (pa_cons (pv 2) pa_nil))) (pa_cons (pe_call (ok_l_draw T) (hr.mono (by decide)) (by rfl) T.g_l_draw T.F_l_draw.kp T.b_l_draw .nil pass0 (pa_cons (pv 0) (pa_cons pe_int pa_nil))) pa_nil))))))))
      pss_nil)
      (pss_cons (ps_set (i := 4) sc_l_rule.nd rfl (Or.inl rfl) (pe_lst pa_nil))
      (pss_cons (ps_for PassesOwn.never rfl (pi_range1 (by rfl) T.n_range (pa_cons (pe_op op_subN (pv 2) pe_int) pa_nil)) (pg_name (i := 5) sc_l_rule.nd rfl (Or.inl rfl))
      (pss_cons (ps_par (i := 6) (j := 7) rfl sc_l_rule.nd rfl rfl (by decide) rfl rfl (pa_cons (pe_op op_addN (pe_op op_addN (pv 5) pe_int) (pe_call (ok_l_draw T) (hr.mono (by decide)) (by rfl) T.g_l_draw T.F_l_draw.kp T.b_l_draw .nil pass0 (pa_cons (pv 0) (pa_cons pe_int pa_nil)))) (pa_cons (pe_op op_addN (pe_op op_addN (pv 5) pe_int) (pe_call (ok_l_draw T) (hr.mono (by decide)) (by rfl) T.g_l_draw T.F_l_draw.kp T.b_l_draw .nil pass0 (pa_cons (pv 0) (pa_cons pe_int pa_nil)))) pa_nil)) (by rfl))
        (pss_one (ps_expr (pe_bm PySem.F.plainAttrs_list PySem.F.slot_list_append PySem.F.type_list_append mt_append (pv 4) (pa_cons (pe_tup (pa_cons (pe_callB (call_min2 rfl) (by rfl) T.n_min (by decide +kernel) (pa_cons (pe_op op_subN (pv 2) pe_int) (pa_cons (pv 6) pa_nil))) (pa_cons (pe_callB (call_min2 rfl) (by rfl) T.n_min (by decide +kernel) (pa_cons (pe_op op_subN (pv 2) pe_int) (pa_cons (pv 7) pa_nil))) (pa_cons (pe_call (ok_l_draw T) (hr.mono (by decide)) (by rfl) T.g_l_draw T.F_l_draw.kp T.b_l_draw .nil pass0 (pa_cons (pv 0) (pa_cons pe_int pa_nil))) pa_nil)))) pa_nil))))))
      (pss_one (ps_ret (pe_op op_cat (pv 4) (pe_lst (pa_cons (pe_tup (pa_cons (pe_op op_subN (pv 2) pe_int) (pa_cons (pe_op op_subN (pv 2) pe_int) (pa_cons (pv 3) pa_nil)))) pa_nil))))))))), ?_⟩
    -- many, way
    refine ⟨_, rfl, _, rfl, p, ca, 6, n, rfl, hP, by omega, by decide, by decide, fun H1 x k1 P1 hx => ?_⟩
    refine ⟨1, x, rfl, rfl, _, rfl, p, ca, 4, n + 1, rfl, P1, by omega, by decide, by decide, fun H2 way k2 P2 hw => ?_⟩
    refine ⟨by show 2 ≤ sizeLine; decide, fun tp ntp => ?_⟩
    refine ⟨tp, _, rfl, SqT.of upd_same, rfl, _, _, rfl, _, _, rfl, rfl, ?_⟩
    have P3 := P2.same (same_new (o := .tup [.int ((1 + x : Nat) : Int), .int (way : Int)]) ntp)
    have k3 := (k1.trans k2).trans (Keep.of (p := p) (same_new (o := .tup [.int ((1 + x : Nat) : Int), .int (way : Int)]) ntp))
    generalize upd H2 tp (.tup [.int ((1 + x : Nat) : Int), .int (way : Int)]) = H3 at *
    generalize em : 1 + x = many at *
    have hm1 : 1 ≤ many := by omega
    have hm6 : many ≤ 6 := by omega
    refine ⟨_, rfl, _, _, rfl, rfl, _, rfl, ite2 (fun c => ?_) (fun c => ?_)⟩
    · -- [(draw, draw, draw) for at in range(many)]
      refine ⟨_, rfl, ((many : Nat) : Int), rfl, by omega, by omega, fun D nD => ?_⟩
      obtain ⟨nDp, nDc⟩ := P3.ne nD
      refine lc_range (lo := 0) (n := many) (fun i H' => ∃ vs R, R.length = i ∧ Grow p ca H3 H' D many (n + 2 + 3 * i) R vs) ⟨[], [], rfl, Keep.of (same_new nD), (P3.same (same_new nD)).le (by omega), upd_same, LaidAt.nil, RowsIn.nil⟩ (fun i H' hi p => ?_) (fun H' p => ?_)
      · obtain ⟨vs, R, hl, g⟩ := p
        refine ⟨rfl, ?_⟩
        refine ⟨_, rfl, _, rfl, _, ca, many, n + 2 + 3 * i, rfl, g.pen, by omega, hm1, by omega, fun H4 x1 k4 P4 h1 => ?_⟩
        refine ⟨_, rfl, _, rfl, _, ca, many, _, rfl, P4, by omega, hm1, by omega, fun H5 x2 k5 P5 h2 => ?_⟩
        refine ⟨_, rfl, _, ca, 2, _, rfl, P5, by omega, by decide, by decide, fun H6 x3 k6 P6 h3 => ?_⟩
        refine ⟨by show 3 ≤ sizeLine; decide, fun t nt => ?_⟩
        obtain ⟨g2, eD⟩ := (g.ext ((k4.trans k5).trans k6) P6 nDp).more (r := (x1, x2, x3)) nt nD nDp nDc h1 h2 (by show x3 ≤ 1; omega)
        exact ⟨vs, eD, szs (by rw [g.laid.1]; omega), _, _, by rw [List.length_append, hl]; rfl, { g2 with pen := g2.pen.le (by omega) }⟩
      · obtain ⟨vs, R, hl, g⟩ := p
        exact q H' D R (k3.trans g.keep) (k3.free nDp nD) nDp ⟨vs, g.at_, g.laid⟩ (g.rin.valid hl) (by omega) (by omega) (g.pen.le (by omega))
    -- rows = []
    refine ⟨by show 0 ≤ sizeLine; decide, fun D nD => ?_⟩
    obtain ⟨nDp, nDc⟩ := P3.ne nD
    have hmin : ∀ j, (if j < many - 1 then j else many - 1) < many := fun j => by split <;> omega
    have hw1 : way ≤ 1 := by
      apply Classical.byContradiction
      intro z
      exact c (decide_eq_true (by omega))
    refine ⟨_, rfl, many, 1, rfl, rfl, hm1, ((many - 1 : Nat) : Int), rfl, by omega, by omega, for_range (lo := 0) (n := many - 1) (fun i σ H' => ∃ z5 z6 z7 vs R, σ = [some (.ref p), some (.int 6), some (.int (many : Int)), some (.int (way : Int)), some (.ref D), z5, z6, z7] ∧ R.length = i ∧ Grow p ca H3 H' D many (n + 2 + 3 * i) R vs)
      ⟨none, none, none, [], [], rfl, rfl, Keep.of (same_new nD), (P3.same (same_new nD)).le (by omega), upd_same, LaidAt.nil, RowsIn.nil⟩ (fun i σ H' hi hX => ?_) (fun σ H' hX => ?_)⟩
    · obtain ⟨z5, z6, z7, vs, R, rfl, hl, g⟩ := hX
      rw [Int.zero_add]
      refine ⟨_, rfl, i, 1, rfl, rfl, _, rfl, p, ca, 2, n + 2 + 3 * i, rfl, g.pen, by omega, by decide, by decide, fun H4 x1 k4 P4 h1 => ⟨i + 1, x1, rfl, rfl, ?_⟩⟩
      refine ⟨_, rfl, i, 1, rfl, rfl, _, rfl, p, ca, 2, _, rfl, P4, by omega, by decide, by decide, fun H5 x2 k5 P5 h2 => ⟨i + 1, x2, rfl, rfl, ?_⟩⟩
      have g5 := g.ext (k4.trans k5) P5 nDp
      refine ⟨_, _, rfl, ?_⟩
      refine ⟨_, rfl, .inl ⟨rfl, _, SqL.of g5.at_⟩, ?_⟩
      refine ⟨_, rfl, many, 1, rfl, rfl, hm1, _, rfl, _, _, rfl, ?_⟩
      refine ⟨_, rfl, many, 1, rfl, rfl, hm1, _, rfl, _, _, rfl, ?_⟩
      rw [min_nat, min_nat]
      refine ⟨_, rfl, p, ca, 2, _, rfl, P5, by omega, by decide, by decide, fun H6 x3 k6 P6 h3 => ?_⟩
      refine ⟨by show 3 ≤ sizeLine; decide, fun t nt => ?_⟩
      obtain ⟨g2, eD⟩ := (g5.ext k6 P6 nDp).more (r := ((if i + 1 + x1 < many - 1 then i + 1 + x1 else many - 1), (if i + 1 + x2 < many - 1 then i + 1 + x2 else many - 1), x3)) nt nD nDp nDc (hmin _) (hmin _) (by show x3 ≤ 1; omega)
      refine ⟨D, vs, _, rfl, rfl, eD, szs (by rw [g.laid.1]; omega), _, _, _, _, _, rfl, by rw [List.length_append, hl]; rfl, { g2 with pen := g2.pen.le (by omega) }⟩
    · obtain ⟨z5, z6, z7, vs, R, rfl, hl, g⟩ := hX
      refine ⟨_, rfl, ?_⟩
      refine ⟨_, rfl, many, 1, rfl, rfl, hm1, _, rfl, many, 1, rfl, rfl, hm1, _, rfl, by show 3 ≤ sizeLine; decide, fun t nt => ?_⟩
      have s5 := same_new (o := .tup (rowV (many - 1, many - 1, way))) nt
      refine ⟨by show 1 ≤ sizeLine; decide, fun l1 nl1 => ?_⟩
      have s6 := s5.trans (same_new (o := .lst [.ref t]) nl1)
      have eT : (upd (upd H' t (.tup (rowV (many - 1, many - 1, way)))) l1 (.lst [.ref t])) t = some (.tup (rowV (many - 1, many - 1, way))) := same_new nl1 _ _ upd_same
      refine ⟨D, l1, vs, [.ref t], rfl, rfl, s6 _ _ g.at_, upd_same, szl (by rw [g.laid.1, hl]; show many - 1 + 1 ≤ 100000; omega), fun a na => ?_⟩
      have s7 := s6.trans (same_new (o := .lst (vs ++ [.ref t])) na)
      have kk := (k3.trans g.keep).trans (Keep.of (p := p) s7)
      have nap := g.pen.dict
      have P9 := g.pen.same s7
      have nap2 : a ≠ p := fun z => by
        obtain ⟨kvs, e⟩ := g.pen.dict
        have := s6 _ _ e
        rw [z] at na
        have h9 := this.symm.trans na
        cases h9
      have hal := (g.laid.same s6).snoc eT
      refine q _ a (R ++ [(many - 1, many - 1, way)]) kk (((k3.trans g.keep).trans (Keep.of (p := p) s6)).free nap2 na) nap2 ⟨_, upd_same, hal.same (same_new na)⟩ ((g.rin.snoc (by show many - 1 < many; omega) (by show many - 1 < many; omega) hw1).valid ?_) ?_ ?_ (P9.le (by omega))
      · rw [List.length_append, List.length_singleton, hl]; omega
      · rw [List.length_append, List.length_singleton]; omega
      · rw [List.length_append, List.length_singleton, hl]; omega
theorem Pen.len {H : Hp} {p ca : Addr} {n : Nat} (h : Pen H p ca n) : True := True.intro
def sp_l_big : Sp := fun vs H Q _ => ∃ (p ca : Addr) (n : Nat), vs = [.ref p, .int (10 ^ 30)] ∧ Pen H p ca n ∧ n ≤ 100000 ∧ ∀ H' (x : Nat), Keep p H H' → Pen H' p ca (n + 7) → x < 10 ^ 30 → Q (.int (x : Int)) H'
theorem ok_l_big (T : Txt K mg) : FnOk P w K mg base CX0 2 T.a_l_big T.d_l_big ["_law_pen_here", "_law_many"] sp_l_big := by
  refine T.F_l_big.ok sc_l_big (fun vs H Q E h => ?_) (fun cdv A outer s H vs Q E hr h => ?_)
  · obtain ⟨p, ca, n, rfl, _⟩ := h
    rfl
  · obtain ⟨p, ca, n, rfl, hP, hn, q⟩ := h
    refine ⟨_, (pss_cons (ps_set (i := 2) sc_l_big.nd rfl (Or.inl rfl) pe_int)
      (pss_cons (ps_for PassesOwn.never rfl (pi_range1 (by rfl) T.n_range (pa_cons (pe_op op_addN (pe_op op_fdiv (pe_callB call_len_str (by rfl) T.n_len (by decide +kernel) (pa_cons (pe_callTy call_str_int (by rfl) T.n_str (by decide +kernel) (pa_cons (pv 1) pa_nil)) pa_nil)) pe_int) pe_int) pa_nil)) (pg_name (i := 3) sc_l_big.nd rfl (Or.inl rfl))
      (pss_one (ps_set (i := 2) sc_l_big.nd rfl (Or.inl rfl) (pe_op op_addN (pe_op op_mulNR (pv 2) (pe_op op_pow pe_int pe_int)) (pe_call (ok_l_draw T) (hr.mono (by decide)) (by rfl) T.g_l_draw T.F_l_draw.kp T.b_l_draw .nil pass0 (pa_cons (pv 0) (pa_cons (pe_op op_pow pe_int pe_int) pa_nil)))))))
      (pss_one (ps_ret (pe_op op_modNN (pe_callTy call_int1 (by rfl) T.n_int (by decide +kernel) (pa_cons (pv 2) pa_nil)) (pv 1)))))), ?_⟩
    have hp6 : CPow 10 6 := ⟨by decide, by decide, by decide⟩
    have hlen : ((toString (10 ^ 30 : Int) : Str)).length = 31 := by decide +kernel
    refine ⟨_, rfl, _, rfl, by decide +kernel, _, rfl, by rw [hlen]; decide, ?_⟩
    rw [hlen]
    refine ⟨_, _, rfl, rfl, ⟨by decide, by decide⟩, 5, 2, by decide, rfl, 7, rfl, by decide, by decide, for_range (lo := 0) (n := 7) (fun i σ H' => ∃ (x : Nat) (z3 : Option V), σ = [some (.ref p), some (.int (10 ^ 30)), some (.int (x : Int)), z3] ∧ Keep p H H' ∧ Pen H' p ca (n + i)) ⟨0, none, rfl, Keep.refl p H, hP⟩ (fun i σ H' hi hX => ?_) (fun σ H' hX => ?_)⟩
    · obtain ⟨x, z3, rfl, k, P1⟩ := hX
      refine ⟨_, rfl, _, _, rfl, rfl, hp6, x, 1000000, rfl, rfl, by decide, _, rfl, _, _, rfl, rfl, hp6, p, ca, 1000000, n + i, rfl, P1, by omega, by decide, by decide, fun H1 y k1 P2 hy => ?_⟩
      exact ⟨_, y, rfl, rfl, _, _, rfl, k.trans k1, P2⟩
    · obtain ⟨x, z3, rfl, k, P1⟩ := hX
      exact ⟨_, rfl, .inl ⟨_, rfl, _, rfl, x, 10 ^ 30, rfl, rfl, by decide, q H' (x % 10 ^ 30) k P1 (Nat.mod_lt _ (by decide))⟩⟩
def sp_l_size : Sp := fun vs H Q _ => ∃ (p ca : Addr) (n : Nat), vs = [.ref p] ∧ Pen H p ca n ∧ n ≤ 10000 ∧ ∀ H' (x : Nat), Keep p H H' → Pen H' p ca (n + 10) → 1 ≤ x → x ≤ 10 ^ 30 → Q (.int (x : Int)) H'
theorem ok_l_size (T : Txt K mg) : FnOk P w K mg base CX0 3 T.a_l_size T.d_l_size ["_law_pen_here"] sp_l_size := by
  refine T.F_l_size.ok sc_l_size (fun vs H Q E h => ?_) (fun cdv A outer s H vs Q E hr h => ?_)
  · obtain ⟨p, ca, n, rfl, _⟩ := h
    rfl
  · obtain ⟨p, ca, n, rfl, hP, hn, q⟩ := h
    refine ⟨_, (pss_cons (ps_par (i := 1) (j := 2) rfl sc_l_size.nd rfl rfl (by decide) rfl rfl (pa_cons (pe_call (ok_l_draw T) (hr.mono (by decide)) (by rfl) T.g_l_draw T.F_l_draw.kp T.b_l_draw .nil pass0 (pa_cons (pv 0) (pa_cons pe_int pa_nil))) (pa_cons (pe_call (ok_l_draw T) (hr.mono (by decide)) (by rfl) T.g_l_draw T.F_l_draw.kp T.b_l_draw .nil pass0 (pa_cons (pv 0) (pa_cons pe_int pa_nil))) pa_nil)) (by rfl))
      (pss_cons (ps_if (pt_cmpR op_eq (pv 1) pe_int (nomark _))
      (pss_one (ps_ret (pe_op op_addN pe_int (pe_call (ok_l_draw T) (hr.mono (by decide)) (by rfl) T.g_l_draw T.F_l_draw.kp T.b_l_draw .nil pass0 (pa_cons (pv 0) (pa_cons pe_int pa_nil))))))
      pss_nil)
      (pss_cons (ps_if (pt_cmpR op_eq (pv 1) pe_int (nomark _))
      (pss_one (ps_ret (pe_op op_subN (pe_op op_pow pe_int pe_int) (pv 2))))
      pss_nil)
      (pss_cons (ps_if (pt_cmpR op_lt (pv 1) pe_int (nomark _))
      (pss_one (ps_ret (pe_callB (call_max2 rfl) (by rfl) T.n_max (by decide +kernel) (pa_cons pe_int (pa_cons (pe_op op_addN (pe_op op_subN (pe_op op_oneShlN pe_int (pe_op op_addN pe_int (pe_call (ok_l_draw T) (hr.mono (by decide)) (by rfl) T.g_l_draw T.F_l_draw.kp T.b_l_draw .nil pass0 (pa_cons (pv 0) (pa_cons pe_int pa_nil))))) pe_int) (pv 2)) pa_nil)))))
      pss_nil)
      (pss_one (ps_ret (pe_op op_addN pe_int (pe_call (ok_l_big T) (hr.mono (by decide)) (by rfl) T.g_l_big T.F_l_big.kp T.b_l_big .nil pass0 (pa_cons (pv 0) (pa_cons (pe_op op_pow pe_int pe_int) pa_nil)))))))))), ?_⟩
    have hp30 : CPow 10 30 := ⟨by decide, by decide, by decide⟩
    refine ⟨_, rfl, p, ca, 6, n, rfl, hP, by omega, by decide, by decide, fun H1 way k1 P1 hw => ?_⟩
    refine ⟨_, rfl, p, ca, 5, _, rfl, P1, by omega, by decide, by decide, fun H2 near k2 P2 hne => ⟨_, _, rfl, ?_⟩⟩
    have k := k1.trans k2
    refine ⟨_, rfl, rfl, _, rfl, ite2 (fun c => ?_) (fun c => ?_)⟩
    · refine ⟨_, rfl, p, ca, 12, _, rfl, P2, by omega, by decide, by decide, fun H3 x k3 P3 hx => ⟨1, x, rfl, rfl, ?_⟩⟩
      exact q H3 (1 + x) (k.trans k3) (P3.le (by omega)) (by omega) (Nat.le_trans (show 1 + x ≤ 12 by omega) (by decide))
    refine ⟨_, rfl, rfl, _, rfl, ite2 (fun c => ?_) (fun c => ?_)⟩
    · refine ⟨_, _, rfl, rfl, hp30, _, rfl, 10 ^ 30, near, rfl, rfl, Nat.le_trans (show near ≤ 5 by omega) (by decide), ?_⟩
      exact q H2 (10 ^ 30 - near) k (P2.le (by omega)) (by omega) (Nat.sub_le _ _)
    refine ⟨_, rfl, _, _, rfl, rfl, _, rfl, ite2 (fun c => ?_) (fun c => ?_)⟩
    · refine ⟨_, rfl, p, ca, 98, _, rfl, P2, by omega, by decide, by decide, fun H3 x k3 P3 hx => ⟨1, x, rfl, rfl, 1 + x, rfl, rfl, by omega, 2 ^ (1 + x), 2, rfl, rfl, ?_, _, rfl, _, near, rfl, rfl, _, _, rfl, ?_⟩⟩
      · have : 2 ^ 1 ≤ 2 ^ (1 + x) := pow_le (by omega)
        exact this
      · have h1 : 2 ^ (1 + x) ≤ 2 ^ 98 := pow_le (by omega)
        have h2 : (2 : Nat) ^ 98 + 5 ≤ 10 ^ 30 := by decide
        have e : (if ((2 ^ (1 + x) - 2 + near : Nat) : Int) > 1 then ((2 ^ (1 + x) - 2 + near : Nat) : Int) else 1) = ((if 2 ^ (1 + x) - 2 + near > 1 then 2 ^ (1 + x) - 2 + near else 1 : Nat) : Int) := by
          by_cases h : 2 ^ (1 + x) - 2 + near > 1
          · rw [if_pos h, if_pos (by omega)]
          · rw [if_neg h, if_neg (by omega)]; rfl
        have := q H3 (if 2 ^ (1 + x) - 2 + near > 1 then 2 ^ (1 + x) - 2 + near else 1) (k.trans k3) (P3.le (by omega)) (by split <;> omega) (by split <;> omega)
        rw [← e] at this
        exact this
    · refine ⟨_, rfl, _, _, rfl, rfl, hp30, p, ca, _, rfl, P2, by omega, fun H3 x k3 P3 hx => ⟨1, x, rfl, rfl, ?_⟩⟩
      exact q H3 (1 + x) (k.trans k3) (P3.le (by omega)) (by omega) (by omega)
end
end W36
end

section
set_option linter.all false
set_option maxRecDepth 100000
set_option maxHeartbeats 8000000
/-! What the law asks of the ends and of single numbers. -/
namespace W36
open PySem PySem.Spec PyProof.Rows L2
section
variable {Mb : Nat → Nat}
theorem next_none_cnt (h1 : ∀ k, Mb k ≤ 1) {k m : Nat} (h : NextSpec Mb k none) (hk : 1 ≤ k) (hm : k - 1 ≤ m) : cntM Mb m = cntM Mb (k - 1) :=
  ((cnt_same hm h1).mpr fun j a _ => h j (by omega)).symm
theorem next_some_cnt (h1 : ∀ k, Mb k ≤ 1) {k t : Nat} (h : NextSpec Mb k (some t)) (hk : 1 ≤ k) : cntM Mb (t - 1) = cntM Mb (k - 1) := by
  obtain ⟨a, _, c⟩ := h
  exact ((cnt_same (by omega) h1).mpr fun j x y => c j (by omega) (by omega)).symm
theorem last_none_cnt (h1 : ∀ k, Mb k ≤ 1) (h0 : Mb 0 = 0) {k : Nat} (h : LastSpec Mb k none) : cntM Mb k = 0 := (cnt_zero h1 h0).mpr h
theorem last_some_cnt (h1 : ∀ k, Mb k ≤ 1) {k t : Nat} (h : LastSpec Mb k (some t)) : cntM Mb t = cntM Mb k := by
  obtain ⟨a, _, c⟩ := h
  exact (cnt_same a h1).mpr fun j x y => c j x y
theorem pos_of_memb (h0 : Mb 0 = 0) {t : Nat} (h : Mb t = 1) : 1 ≤ t := by
  apply Classical.byContradiction
  intro z
  have : t = 0 := by omega
  rw [this, h0] at h
  cases h
end
/-- a continuation that is reached by two roads -/
theorem cont_join {S : Hp → Prop} {C : Hp → Prop} {G : Prop} (main : (∀ H', S H' → C H') → G) (key : ∀ H', S H' → C H') : G := main key
theorem cont_joinN {S : Nat → Hp → Prop} {C : Nat → Hp → Prop} {G : Prop} (main : (∀ k H', S k H' → C k H') → G) (key : ∀ k H', S k H' → C k H') : G := main key
theorem cont_joinB {C : Bool → Prop} {G : Prop} (b : Bool) (main : (∀ x, x = b → C x) → G) (key : C b) : G := main fun x e => e ▸ key
section
variable {P : Program} {w : World} {K : PySem.W.Frag} {mg : Str → Option Value} {base : Heap}
def sp_l_next_right (K : PySem.W.Frag) : Sp := fun vs H Q _ => ∃ (a : Addr) (R : List W36.Row) (r : Option Nat) (k : Nat), vs = [.ref a, optV r, .int (k : Int)] ∧ RowsL K H a R ∧ Valid R ∧ 0 < R.length ∧ R.length ≤ 15 ∧ 1 ≤ k ∧ k ≤ 10 ^ 30 ∧ NextSpec (memb R) k r ∧ (∀ t, r = some t → t < big) ∧ ∀ H', Same H H' → Q (.bl true) H'
theorem ok_l_next_right (T : Txt K mg) : FnOk P w K mg base CX0 2 T.a_l_next_right T.d_l_next_right ["_law_rows", "_law_told", "_law_k"] (sp_l_next_right K) := by
  refine T.F_l_next_right.ok sc_l_next_right (fun vs H Q E h => ?_) (fun cdv A outer s H vs Q E hr h => ?_)
  · obtain ⟨a, R, r, k, rfl, _⟩ := h
    rfl
  · obtain ⟨a, R, r, k, rfl, hR, hv, h0, h15, k1, k2, hN, hbig, q⟩ := h
    obtain ⟨ts, hL, hA⟩ := id hR
    have hm := memb_le hv
    have kb : k < big := Nat.lt_of_le_of_lt k2 (by decide +kernel)
    have kb1 : k < 2 ^ 100 := Nat.lt_of_le_of_lt k2 (by decide +kernel)
    refine ⟨_, (pss_cons (ps_set (i := 3) sc_l_next_right.nd rfl (Or.inl rfl) (pe_call (ok_l_members T) (hr.mono (by decide)) (by rfl) T.g_l_members T.F_l_members.kp T.b_l_members .nil pass0 (pa_cons (pv 0) (pa_cons pe_int (pa_cons (pe_op op_subN (pv 2) pe_int) pa_nil)))))
      (pss_cons (ps_if (pt_cmpR op_isN (pv 1) pe_non (nomark _))
      (pss_one (ps_ret (pe_cmpR op_eq (pe_call (ok_l_members T) (hr.mono (by decide)) (by rfl) T.g_l_members T.F_l_members.kp T.b_l_members .nil pass0 (pa_cons (pv 0) (pa_cons pe_int (pa_cons (pe_op op_oneShlN pe_int (pe_op op_addN (pe_bits (pv 2)) (pe_callB call_len_seq (by rfl) T.n_len (by decide +kernel) (pa_cons (pv 0) pa_nil)))) pa_nil)))) (pv 3) (nomark _))))
      pss_nil)
      (pss_cons (ps_if (PW.pt (pw_or (pt_not (pt_val (pe_call (ok_l_is_int T) (hr.mono (by decide)) (by rfl) T.g_l_is_int T.F_l_is_int.kp T.b_l_is_int .nil pass0 (pa_cons (pv 1) pa_nil)))) (pw_or (pt_cmpR op_lt (pv 1) (pv 2) (nomark _)) (pw_or1 (pt_cmpR op_ne (pe_call (ok_l_led T) (hr.mono (by decide)) (by rfl) T.g_l_led T.F_l_led.kp T.b_l_led .nil pass0 (pa_cons (pv 0) (pa_cons pe_int (pa_cons (pv 1) pa_nil)))) pe_int (nomark _))))))
      (pss_one (ps_ret pe_bl))
      pss_nil)
      (pss_one (ps_ret (pe_cmpR op_eq (pe_call (ok_l_members T) (hr.mono (by decide)) (by rfl) T.g_l_members T.F_l_members.kp T.b_l_members .nil pass0 (pa_cons (pv 0) (pa_cons pe_int (pa_cons (pe_op op_subN (pv 1) pe_int) pa_nil)))) (pv 3) (nomark _))))))), ?_⟩
    refine ⟨_, rfl, _, rfl, k, 1, rfl, rfl, k1, a, R, k - 1, rfl, hR, hv, h0, by omega, by omega, fun H1 s1 => ?_⟩
    rw [cq_cnt]
    cases r with
    | none =>
      refine ⟨_, rfl, rfl, _, rfl, ite2 (fun c => ?_) (fun c => absurd (decide_eq_true rfl) c)⟩
      refine ⟨_, rfl, _, rfl, _, rfl, ?_⟩
      rw [intBits_bits]
      refine ⟨_, rfl, a, ts, rfl, .inl (s1.seq hL), ?_⟩
      rw [hA.1]
      have hbl : (bits k).length ≤ 100 := bits_len_le kb1
      refine ⟨_, _, rfl, rfl, _, rfl, rfl, by omega, a, R, 2 ^ ((bits k).length + R.length), rfl, hR.same s1, hv, h0, by omega, Nat.lt_of_le_of_lt (pow_le (show (bits k).length + R.length ≤ 249 by omega)) (by decide +kernel), fun H2 s2 => ?_⟩
      rw [cq_cnt]
      have hk2 : k < 2 ^ ((bits k).length + R.length) := Nat.lt_of_lt_of_le (len_le_iff.mp (Nat.le_refl (bits k).length)) (pow_le (by omega))
      rw [next_none_cnt (m := 2 ^ ((bits k).length + R.length)) hm hN k1 (by omega)]
      refine ⟨_, rfl, rfl, ?_⟩
      rw [decide_eq_true rfl]
      exact q H2 (s1.trans s2)
    | some t =>
      have ht := hbig t rfl
      obtain ⟨e1, e2, e3⟩ := id hN
      have t1 : 1 ≤ t := by omega
      refine ⟨_, rfl, rfl, _, rfl, ite2 (fun c => ?_) (fun c => ?_)⟩
      · have := of_decide_eq_true c
        cases this
      refine ⟨_, rfl, _, rfl, true, rfl, ?_⟩
      refine ⟨_, rfl, _, rfl, _, _, rfl, rfl, _, rfl, ite2 (fun c => ?_) (fun c => ?_)⟩
      · have := of_decide_eq_true c
        omega
      refine ⟨_, rfl, _, rfl, a, R, t, rfl, hR.same s1, hv, h0, ht, fun H2 s2 => ⟨rfl, _, rfl, ?_⟩⟩
      rw [← memb_pos R (show t ≠ 0 by omega), e2]
      refine ⟨_, rfl, _, rfl, t, 1, rfl, rfl, t1, a, R, t - 1, rfl, hR.same (s1.trans s2), hv, h0, by omega, by omega, fun H3 s3 => ?_⟩
      rw [cq_cnt, next_some_cnt hm hN k1]
      refine ⟨_, rfl, rfl, ?_⟩
      rw [decide_eq_true rfl]
      exact q H3 ((s1.trans s2).trans s3)
def sp_l_last_right (K : PySem.W.Frag) : Sp := fun vs H Q _ => ∃ (a : Addr) (R : List W36.Row) (r : Option Nat) (k : Nat), vs = [.ref a, optV r, .int (k : Int)] ∧ RowsL K H a R ∧ Valid R ∧ 0 < R.length ∧ R.length ≤ 15 ∧ k < big ∧ LastSpec (memb R) k r ∧ ∀ H', Same H H' → Q (.bl true) H'
theorem ok_l_last_right (T : Txt K mg) : FnOk P w K mg base CX0 2 T.a_l_last_right T.d_l_last_right ["_law_rows", "_law_told", "_law_k"] (sp_l_last_right K) := by
  refine T.F_l_last_right.ok sc_l_last_right (fun vs H Q E h => ?_) (fun cdv A outer s H vs Q E hr h => ?_)
  · obtain ⟨a, R, r, k, rfl, _⟩ := h
    rfl
  · obtain ⟨a, R, r, k, rfl, hR, hv, h0, h15, kb, hN, q⟩ := h
    have hm := memb_le hv
    refine ⟨_, (pss_cons (ps_if (pt_cmpR op_isN (pv 1) pe_non (nomark _))
      (pss_one (ps_ret (pe_cmpR op_eq (pe_call (ok_l_members T) (hr.mono (by decide)) (by rfl) T.g_l_members T.F_l_members.kp T.b_l_members .nil pass0 (pa_cons (pv 0) (pa_cons pe_int (pa_cons (pv 2) pa_nil)))) pe_int (nomark _))))
      pss_nil)
      (pss_cons (ps_if (PW.pt (pw_or (pt_not (pt_val (pe_call (ok_l_is_int T) (hr.mono (by decide)) (by rfl) T.g_l_is_int T.F_l_is_int.kp T.b_l_is_int .nil pass0 (pa_cons (pv 1) pa_nil)))) (pw_or (pt_cmpR op_lt (pv 1) pe_int (nomark _)) (pw_or (pt_cmpR op_gt (pv 1) (pv 2) (nomark _)) (pw_or1 (pt_cmpR op_ne (pe_call (ok_l_led T) (hr.mono (by decide)) (by rfl) T.g_l_led T.F_l_led.kp T.b_l_led .nil pass0 (pa_cons (pv 0) (pa_cons pe_int (pa_cons (pv 1) pa_nil)))) pe_int (nomark _)))))))
      (pss_one (ps_ret pe_bl))
      pss_nil)
      (pss_one (ps_ret (pe_cmpR op_eq (pe_call (ok_l_members T) (hr.mono (by decide)) (by rfl) T.g_l_members T.F_l_members.kp T.b_l_members .nil pass0 (pa_cons (pv 0) (pa_cons pe_int (pa_cons (pv 1) pa_nil)))) (pe_call (ok_l_members T) (hr.mono (by decide)) (by rfl) T.g_l_members T.F_l_members.kp T.b_l_members .nil pass0 (pa_cons (pv 0) (pa_cons pe_int (pa_cons (pv 2) pa_nil)))) (nomark _)))))), ?_⟩
    cases r with
    | none =>
      refine ⟨_, rfl, rfl, _, rfl, ite2 (fun c => ?_) (fun c => absurd (decide_eq_true rfl) c)⟩
      refine ⟨_, rfl, _, rfl, a, R, k, rfl, hR, hv, h0, by omega, kb, fun H1 s1 => ?_⟩
      rw [cq_cnt, last_none_cnt hm rfl hN]
      exact ⟨rfl, q H1 s1⟩
    | some t =>
      obtain ⟨e1, e2, e3⟩ := id hN
      have t1 : 1 ≤ t := pos_of_memb rfl e2
      refine ⟨_, rfl, rfl, _, rfl, ite2 (fun c => ?_) (fun c => ?_)⟩
      · have := of_decide_eq_true c
        cases this
      refine ⟨_, rfl, _, rfl, true, rfl, ?_⟩
      refine ⟨_, rfl, _, _, rfl, rfl, _, rfl, ite2 (fun c => ?_) (fun c => ?_)⟩
      · have := of_decide_eq_true c
        omega
      refine ⟨_, rfl, _, rfl, _, _, rfl, rfl, _, rfl, ite2 (fun c => ?_) (fun c => ?_)⟩
      · have := of_decide_eq_true c
        omega
      refine ⟨_, rfl, _, rfl, a, R, t, rfl, hR, hv, h0, by omega, fun H1 s1 => ⟨rfl, _, rfl, ?_⟩⟩
      rw [← memb_pos R (show t ≠ 0 by omega), e2]
      refine ⟨_, rfl, _, rfl, a, R, t, rfl, hR.same s1, hv, h0, by omega, by omega, fun H2 s2 => ?_⟩
      refine ⟨_, rfl, _, rfl, a, R, k, rfl, hR.same (s1.trans s2), hv, h0, by omega, kb, fun H3 s3 => ?_⟩
      rw [cq_cnt, cq_cnt, last_some_cnt hm hN]
      refine ⟨rfl, ?_⟩
      rw [decide_eq_true rfl]
      exact q H3 ((s1.trans s2).trans s3)
end
end W36
end

section
set_option linter.all false
set_option maxRecDepth 100000
set_option maxHeartbeats 8000000
/-! The ends. -/
namespace W36
open PySem PySem.Spec PyProof.Rows L2
theorem few_many {n : Nat} (h : 0 < n) : 2 ^ n ≤ 2 ^ (2 * n) - 1 := by
  have e : 2 ^ (2 * n) = 2 ^ n * 2 ^ n := by rw [← Nat.pow_add]; congr 1; omega
  have h2 : 2 ≤ 2 ^ n := by
    have : 2 ^ 1 ≤ 2 ^ n := pow_le h
    exact this
  have : 2 * 2 ^ n ≤ 2 ^ n * 2 ^ n := Nat.mul_le_mul_right _ h2
  omega
section
variable {R : List W36.Row}
theorem all_cnt (v : Valid R) (h0 : 0 < R.length) : (∀ k, k ≠ 0 → memb R k = 1) ↔ cntM (memb R) (2 ^ (2 * R.length) - 1) = 2 ^ (2 * R.length) - 1 := by
  have h := none_cnt (co_reads v h0) (co_le (Mb := memb R)) rfl
  have hc := cnt_co (memb_le v) (2 ^ (2 * R.length) - 1)
  constructor
  · intro hk
    have : ∀ k, co (memb R) k ≠ 1 := fun k => by
      unfold co
      by_cases hz : k = 0
      · rw [if_pos hz]; decide
      · rw [if_neg hz, hk k hz]; decide
    have := h.mp this
    omega
  · intro e k hk
    have := h.mpr (by omega) k
    unfold co at this
    rw [if_neg hk] at this
    have h1 := memb_le v k
    omega
theorem endless_dec (v : Valid R) (h0 : 0 < R.length) {b : Bool} (hb : b = true ↔ Endless (memb R)) :
    decide (((cntM (memb R) (2 ^ (2 * R.length) - 1) : Nat) : Int) > ((cntM (memb R) (2 ^ R.length - 1) : Nat) : Int)) = b := by
  rw [Bool.eq_iff_iff, hb, decide_eq_true_eq, endless_cnt (memb_reads v h0) (memb_le v)]
  omega
theorem great_dec (v : Valid R) (h0 : 0 < R.length) {g : Option Nat} (h1 : Endless (memb R) → g = none) (h2 : ¬ Endless (memb R) → GreatSpec (memb R) g) :
    decide (optV g = .non) = (decide (((cntM (memb R) (2 ^ (2 * R.length) - 1) : Nat) : Int) > ((cntM (memb R) (2 ^ R.length - 1) : Nat) : Int)) || decide (V.int ((cntM (memb R) (2 ^ (2 * R.length) - 1) : Nat) : Int) = V.int 0)) := by
  have he := endless_cnt (memb_reads v h0) (memb_le v)
  have hn := none_cnt (memb_reads v h0) (memb_le v) rfl
  have hz : decide (V.int ((cntM (memb R) (2 ^ (2 * R.length) - 1) : Nat) : Int) = V.int 0) = (cntM (memb R) (2 ^ (2 * R.length) - 1) == 0) := W36.dec_int _ 0
  rw [hz]
  by_cases hE : Endless (memb R)
  · rw [h1 hE, decide_eq_true (show ((cntM (memb R) (2 ^ (2 * R.length) - 1) : Nat) : Int) > ((cntM (memb R) (2 ^ R.length - 1) : Nat) : Int) by have := he.mp hE; omega)]
    rfl
  · have hg := h2 hE
    have h9 : ¬ cntM (memb R) (2 ^ R.length - 1) < cntM (memb R) (2 ^ (2 * R.length) - 1) := fun z => hE (he.mpr z)
    rw [decide_eq_false (show ¬ ((cntM (memb R) (2 ^ (2 * R.length) - 1) : Nat) : Int) > ((cntM (memb R) (2 ^ R.length - 1) : Nat) : Int) by omega), Bool.false_or]
    cases g with
    | none => rw [hn.mp hg]; rfl
    | some t =>
      have : cntM (memb R) (2 ^ (2 * R.length) - 1) ≠ 0 := fun z => hn.mpr z t hg.1
      rw [beq_eq_false_iff_ne.mpr this]
      exact decide_eq_false fun z => by cases z
theorem on_dec (v : Valid R) (h0 : 0 < R.length) {r : Option Nat} (h1 : Endless (co (memb R)) → r = none) (h2 : ¬ Endless (co (memb R)) → ∃ g, GreatSpec (co (memb R)) g ∧ r = some (onV g)) :
    decide (optV r = .non) = decide (((2 ^ (2 * R.length) - 1 - cntM (memb R) (2 ^ (2 * R.length) - 1) : Nat) : Int) > ((2 ^ R.length - 1 - cntM (memb R) (2 ^ R.length - 1) : Nat) : Int)) := by
  have he := endless_cnt (co_reads v h0) (co_le (Mb := memb R))
  have c1 := cnt_co (memb_le v) (2 ^ (2 * R.length) - 1)
  have c2 := cnt_co (memb_le v) (2 ^ R.length - 1)
  rw [Bool.eq_iff_iff, decide_eq_true_eq, decide_eq_true_eq]
  by_cases hE : Endless (co (memb R))
  · rw [h1 hE]
    have := he.mp hE
    exact ⟨fun _ => by omega, fun _ => rfl⟩
  · obtain ⟨g, _, rfl⟩ := h2 hE
    have : ¬ cntM (co (memb R)) (2 ^ R.length - 1) < cntM (co (memb R)) (2 ^ (2 * R.length) - 1) := fun z => hE (he.mpr z)
    exact ⟨fun z => (by cases z), fun z => by omega⟩
theorem on_ok (v : Valid R) (h0 : 0 < R.length) (hE : ¬ Endless (co (memb R))) {g : Option Nat} (hg : GreatSpec (co (memb R)) g) :
    1 ≤ onV g ∧ onV g ≤ 2 ^ (2 * R.length) - 1 ∧ cntM (memb R) (onV g - 1) ≤ cntM (memb R) (2 ^ (2 * R.length) - 1) ∧ cntM (memb R) (2 ^ (2 * R.length) - 1) - cntM (memb R) (onV g - 1) = 2 ^ (2 * R.length) - 1 - onV g + 1 ∧ (1 < onV g → memb R (onV g - 1) = 0) := by
  have hfm := few_many h0
  have hp : 1 ≤ 2 ^ R.length := Nat.pos_of_ne_zero (by simp)
  have c1 := cnt_co (memb_le v) (2 ^ (2 * R.length) - 1)
  cases g with
  | none =>
    have hz : cntM (co (memb R)) (2 ^ (2 * R.length) - 1) = 0 := (cnt_zero (co_le (Mb := memb R)) rfl).mpr fun j _ => hg j
    refine ⟨Nat.le_refl _, by show 1 ≤ _; omega, Nat.zero_le _, ?_, fun h => absurd h (Nat.lt_irrefl _)⟩
    show cntM (memb R) (2 ^ (2 * R.length) - 1) - 0 = 2 ^ (2 * R.length) - 1 - 1 + 1
    omega
  | some s =>
    obtain ⟨g1, g2⟩ := hg
    have hs := great_small (co_reads v h0) hE g1
    have hle : s ≤ 2 ^ (2 * R.length) - 1 := by omega
    have hc := (cnt_same hle (co_le (Mb := memb R))).mpr fun j a _ => g2 j a
    have c2 := cnt_co (memb_le v) s
    have hm := cnt_mono (Mb := memb R) hle
    have hs0 : s ≠ 0 := fun e => by rw [e] at g1; cases g1
    refine ⟨by show 1 ≤ s + 1; omega, by show s + 1 ≤ _; omega, hm, ?_, fun _ => ?_⟩
    · show cntM (memb R) (2 ^ (2 * R.length) - 1) - cntM (memb R) s = 2 ^ (2 * R.length) - 1 - (s + 1) + 1
      omega
    · show memb R s = 0
      unfold co at g1
      rw [if_neg hs0] at g1
      omega
theorem great_last (v : Valid R) (h0 : 0 < R.length) (hE : ¬ Endless (memb R)) {t : Nat} (hg : GreatSpec (memb R) (some t)) : LastSpec (memb R) (2 ^ (2 * R.length) - 1) (some t) := by
  obtain ⟨g1, g2⟩ := hg
  have hs := great_small (memb_reads v h0) hE g1
  have hfm := few_many h0
  exact ⟨by omega, g1, fun j a _ => g2 j a⟩
end
theorem orV_join {c d : Bool} {Q : VK} {tb : TE} {σ : L2.St} {H : Hp} (hb : ∀ Q : VK, Q (.bl d) H → tb σ H Q) (h : Q (.bl (c || d)) H) : if c = true then Q (.bl true) H else tb σ H Q := by
  cases c with
  | true => rw [if_pos rfl]; exact h
  | false => rw [if_neg (by decide)]; exact hb Q h
section
variable {P : Program} {w : World} {K : PySem.W.Frag} {mg : Str → Option Value} {base : Heap}
theorem At.same {C : Addr} {H H' : Hp} {o : Addr} {D : List W36.Row} {Mb : Nat → Nat} (h : At K C H o D Mb) (s : Same H H') : At K C H' o D Mb := by
  obtain ⟨p, dx, a, b, c⟩ := h
  exact ⟨p, dx, s _ _ a, b.same s, c⟩
def sp_l_ends_right (K : PySem.W.Frag) (C : Addr) : Sp := fun vs H Q _ => ∃ (a o : Addr) (R : List W36.Row), vs = [.ref a, .ref o] ∧ RowsL K H a R ∧ Valid R ∧ 0 < R.length ∧ R.length ≤ 15 ∧ At K C H o (least (wide R) 0) (memb R) ∧ ∀ H', Same H H' → Q (.bl true) H'
theorem ok_l_ends_right (T : Txt K mg) : FnOk P w K mg base CX0 6 T.a_l_ends_right T.d_l_ends_right ["_law_rows", "_law_found"] (sp_l_ends_right K T.C) := by
  refine T.F_l_ends_right.ok sc_l_ends_right (fun vs H Q E h => ?_) (fun cdv A outer s H vs Q E hr h => ?_)
  · obtain ⟨a, o, R, rfl, _⟩ := h
    rfl
  · obtain ⟨a, o, R, rfl, hR, hv, h0, h15, hAt, q⟩ := h
    obtain ⟨ts, hL, hA⟩ := id hR
    obtain ⟨p, dx, ho, hDR, hT, h30⟩ := id hAt
    have LO : LeastOk (wide R) 0 (least (wide R) 0) := least_ok (wide_valid hv) (by rw [wide_len]; omega)
    have hm := memb_le hv
    have hfm := few_many h0
    have mb : 2 ^ (2 * R.length) ≤ 2 ^ 30 := pow_le (by omega)
    have m30 : (2 : Nat) ^ 30 < big := by decide +kernel
    have hp1 : 1 ≤ 2 ^ R.length := Nat.pos_of_ne_zero (by simp)
    have x1 : decide (V.int ((cntM (memb R) (2 ^ (2 * R.length) - 1) : Nat) : Int) = V.int 0) = decide (least (wide R) 0 = [(0, 0, 0)]) := by
      rw [show decide (V.int ((cntM (memb R) (2 ^ (2 * R.length) - 1) : Nat) : Int) = V.int 0) = (cntM (memb R) (2 ^ (2 * R.length) - 1) == 0) from W36.dec_int _ 0, Bool.eq_iff_iff, decide_eq_true_eq, beq_iff_eq, least_none hT LO, none_cnt (memb_reads hv h0) hm rfl]
    have x2 : decide (V.int ((cntM (memb R) (2 ^ (2 * R.length) - 1) : Nat) : Int) = V.int ((2 ^ (2 * R.length) - 1 : Nat) : Int)) = decide (least (wide R) 0 = allRows) := by
      rw [show decide (V.int ((cntM (memb R) (2 ^ (2 * R.length) - 1) : Nat) : Int) = V.int ((2 ^ (2 * R.length) - 1 : Nat) : Int)) = (cntM (memb R) (2 ^ (2 * R.length) - 1) == 2 ^ (2 * R.length) - 1) from W36.dec_int _ _, Bool.eq_iff_iff, decide_eq_true_eq, beq_iff_eq, least_all hT LO, all_cnt hv h0]
    have x3 := fun {b : Bool} (hb : b = true ↔ Endless (memb R)) => endless_dec hv h0 hb
    have x4 := fun {g : Option Nat} (h1 : Endless (memb R) → g = none) (h2 : ¬ Endless (memb R) → GreatSpec (memb R) g) => great_dec hv h0 h1 h2
    have x5 := fun {r : Option Nat} (h1 : Endless (co (memb R)) → r = none) (h2 : ¬ Endless (co (memb R)) → ∃ g, GreatSpec (co (memb R)) g ∧ r = some (onV g)) => on_dec hv h0 h1 h2
    have x6 := fun (hE : ¬ Endless (co (memb R))) {g : Option Nat} (hg : GreatSpec (co (memb R)) g) => on_ok hv h0 hE hg
    have x7 := fun (hE : ¬ Endless (memb R)) {t : Nat} (hg : GreatSpec (memb R) (some t)) => great_last hv h0 hE hg
    have ch : cntM (memb R) (2 ^ (2 * R.length) - 1) ≤ 2 ^ (2 * R.length) - 1 := by have := cnt_co hm (2 ^ (2 * R.length) - 1); omega
    have cl : cntM (memb R) (2 ^ R.length - 1) ≤ 2 ^ R.length - 1 := by have := cnt_co hm (2 ^ R.length - 1); omega
    refine ⟨_, (pss_cons (ps_par (i := 2) (j := 3) rfl sc_l_ends_right.nd rfl rfl (by decide) rfl rfl (pa_cons (pe_op op_subN (pe_op op_oneShlN pe_int (pe_callB call_len_seq (by rfl) T.n_len (by decide +kernel) (pa_cons (pv 0) pa_nil))) pe_int) (pa_cons (pe_op op_subN (pe_op op_oneShlN pe_int (pe_op op_mulN pe_int (pe_callB call_len_seq (by rfl) T.n_len (by decide +kernel) (pa_cons (pv 0) pa_nil)))) pe_int) pa_nil)) (by rfl))
      (pss_cons (ps_par (i := 4) (j := 5) rfl sc_l_ends_right.nd rfl rfl (by decide) rfl rfl (pa_cons (pe_call (ok_l_members T) (hr.mono (by decide)) (by rfl) T.g_l_members T.F_l_members.kp T.b_l_members .nil pass0 (pa_cons (pv 0) (pa_cons pe_int (pa_cons (pv 2) pa_nil)))) (pa_cons (pe_call (ok_l_members T) (hr.mono (by decide)) (by rfl) T.g_l_members T.F_l_members.kp T.b_l_members .nil pass0 (pa_cons (pv 0) (pa_cons pe_int (pa_cons (pv 3) pa_nil)))) pa_nil)) (by rfl))
      (pss_cons (ps_par (i := 6) (j := 7) rfl sc_l_ends_right.nd rfl rfl (by decide) rfl rfl (pa_cons (pe_meth0 (pv 1) T.cl T.t_greatest (ok_m_greatest T) (hr.mono (by decide)) T.b_m_greatest .nil pass0) (pa_cons (pe_meth0 (pv 1) T.cl T.t_from_on (ok_m_from_on T) (hr.mono (by decide)) T.b_m_from_on .nil pass0) pa_nil)) (by rfl))
      (pss_cons (ps_if (PW.pt (pw_or (pt_not (pt_val (pe_call (ok_l_is_truth T) (hr.mono (by decide)) (by rfl) T.g_l_is_truth T.F_l_is_truth.kp T.b_l_is_truth .nil pass0 (pa_cons (pe_meth0 (pv 1) T.cl T.t_is_none (ok_m_is_none T) (hr.mono (by decide)) T.b_m_is_none .nil pass0) (pa_cons (pe_cmpR op_eq (pv 5) pe_int (nomark _)) pa_nil))))) (pw_or1 (pt_not (pt_val (pe_call (ok_l_is_truth T) (hr.mono (by decide)) (by rfl) T.g_l_is_truth T.F_l_is_truth.kp T.b_l_is_truth .nil pass0 (pa_cons (pe_meth0 (pv 1) T.cl T.t_is_all (ok_m_is_all T) (hr.mono (by decide)) T.b_m_is_all .nil pass0) (pa_cons (pe_cmpR op_eq (pv 5) (pv 3) (nomark _)) pa_nil))))))))
      (pss_one (ps_ret pe_bl))
      pss_nil)
      (pss_cons (ps_if (pt_not (pt_val (pe_call (ok_l_is_truth T) (hr.mono (by decide)) (by rfl) T.g_l_is_truth T.F_l_is_truth.kp T.b_l_is_truth .nil pass0 (pa_cons (pe_meth0 (pv 1) T.cl T.t_is_endless (ok_m_is_endless T) (hr.mono (by decide)) T.b_m_is_endless .nil pass0) (pa_cons (pe_cmpR op_gt (pv 5) (pv 4) (nomark _)) pa_nil)))))
      (pss_one (ps_ret pe_bl))
      pss_nil)
      (pss_cons (ps_if (pt_cmpR op_ne (pe_cmpR op_isN (pv 6) pe_non (nomark _)) (pe_or (pe_cmpR op_gt (pv 5) (pv 4) (nomark _)) (pe_one (pe_cmpR op_eq (pv 5) pe_int (nomark _)))) (nomark _))
      (pss_one (ps_ret pe_bl))
      pss_nil)
      (pss_cons (ps_if (pt_cmpR op_ne (pe_cmpR op_isN (pv 7) pe_non (nomark _)) (pe_cmpR op_gt (pe_op op_subN (pv 3) (pv 5)) (pe_op op_subN (pv 2) (pv 4)) (nomark _)) (nomark _))
      (pss_one (ps_ret pe_bl))
      pss_nil)
      (pss_cons (ps_if (pt_cmpR op_notN (pv 6) pe_non (nomark _))
      (pss_one (ps_if (PW.pt (pw_or (pt_not (pt_val (pe_call (ok_l_last_right T) (hr.mono (by decide)) (by rfl) T.g_l_last_right T.F_l_last_right.kp T.b_l_last_right .nil pass0 (pa_cons (pv 0) (pa_cons (pv 6) (pa_cons (pv 3) pa_nil)))))) (pw_or1 (pt_not (pt_val (pe_call (ok_l_is_int T) (hr.mono (by decide)) (by rfl) T.g_l_is_int T.F_l_is_int.kp T.b_l_is_int .nil pass0 (pa_cons (pv 6) pa_nil)))))))
        (pss_one (ps_ret pe_bl))
        pss_nil))
      pss_nil)
      (pss_cons (ps_if (pt_cmpR op_isN (pv 7) pe_non (nomark _))
      (pss_one (ps_ret pe_bl))
      pss_nil)
      (pss_cons (ps_if (PW.pt (pw_or (pt_not (pt_val (pe_call (ok_l_is_int T) (hr.mono (by decide)) (by rfl) T.g_l_is_int T.F_l_is_int.kp T.b_l_is_int .nil pass0 (pa_cons (pv 7) pa_nil)))) (pw_or (pt_cmpR op_lt (pv 7) pe_int (nomark _)) (pw_or1 (PW.pt (pw_and (pt_cmpR op_gt (pv 7) pe_int (nomark _)) (pw_and1 (pt_cmpR op_eq (pe_call (ok_l_led T) (hr.mono (by decide)) (by rfl) T.g_l_led T.F_l_led.kp T.b_l_led .nil pass0 (pa_cons (pv 0) (pa_cons pe_int (pa_cons (pe_op op_subN (pv 7) pe_int) pa_nil)))) pe_int (nomark _)))))))))
      (pss_one (ps_ret pe_bl))
      pss_nil)
      (pss_one (ps_ret (pe_cmpR op_eq (pe_op op_subN (pv 5) (pe_call (ok_l_members T) (hr.mono (by decide)) (by rfl) T.g_l_members T.F_l_members.kp T.b_l_members .nil pass0 (pa_cons (pv 0) (pa_cons pe_int (pa_cons (pe_op op_subN (pv 7) pe_int) pa_nil))))) (pe_op op_addN (pe_op op_subN (pv 3) (pv 7)) pe_int) (nomark _)))))))))))))), ?_⟩
    -- few, many
    refine ⟨_, rfl, a, ts, rfl, .inl hL, ?_⟩
    rw [hA.1]
    refine ⟨_, rfl, rfl, by omega, _, 1, rfl, rfl, hp1, ?_⟩
    refine ⟨_, rfl, a, ts, rfl, .inl hL, ?_⟩
    rw [hA.1]
    refine ⟨2, _, rfl, rfl, by decide, _, rfl, rfl, by omega, _, 1, rfl, rfl, by omega, _, _, rfl, ?_⟩
    -- low, high
    refine ⟨_, rfl, _, rfl, a, R, _, rfl, hR, hv, h0, by omega, by omega, fun H1 s1 => ?_⟩
    rw [cq_cnt]
    refine ⟨_, rfl, _, rfl, a, R, _, rfl, hR.same s1, hv, h0, by omega, by omega, fun H2 s2 => ?_⟩
    rw [cq_cnt]
    refine ⟨_, _, rfl, ?_⟩
    have S2 := s1.trans s2
    have emany : 2 ^ (2 * R.length) - 1 < big := by omega
    generalize cntM (memb R) (2 ^ (2 * R.length) - 1) = high at *
    generalize cntM (memb R) (2 ^ R.length - 1) = low at *
    generalize 2 ^ (2 * R.length) - 1 = many at *
    generalize 2 ^ R.length - 1 = few at *
    -- greatest, on
    refine ⟨_, rfl, o, dx, _, rfl, S2 _ _ ho, rfl, o, _, _, rfl, hAt.same S2, fun H3 g s3 hg1 hg2 => ?_⟩
    have S3 := S2.trans s3
    refine ⟨_, rfl, o, dx, _, rfl, S3 _ _ ho, rfl, o, _, _, rfl, hAt.same S3, fun H4 r s4 hr1 hr2 => ⟨_, _, rfl, ?_⟩⟩
    have S4 := S3.trans s4
    -- is_none, is_all
    refine ⟨_, rfl, o, dx, _, rfl, S4 _ _ ho, rfl, o, _, _, rfl, hAt.same S4, _, rfl, rfl, decide (least (wide R) 0 = [(0, 0, 0)]), by rw [x1]; rfl, true, rfl, ?_⟩
    refine ⟨_, rfl, o, dx, _, rfl, S4 _ _ ho, rfl, o, _, _, rfl, hAt.same S4, _, rfl, _, rfl, rfl, decide (least (wide R) 0 = allRows), by rw [x2]; rfl, true, rfl, ?_⟩
    -- is_endless
    refine ⟨_, rfl, o, dx, _, rfl, S4 _ _ ho, rfl, o, _, _, rfl, hAt.same S4, fun H5 b s5 hb => ?_⟩
    have S5 := S4.trans s5
    refine ⟨_, rfl, _, rfl, _, _, rfl, rfl, b, (by show ([V.bl b, V.bl (decide ((high : Int) > (low : Int)))] : List V) = _; rw [x3 hb]), true, rfl, ?_⟩
    -- (greatest is None) != (..)
    refine ⟨_, rfl, rfl, _, rfl, _, rfl, _, _, rfl, rfl, _, rfl, ?_⟩
    refine orV_join (d := decide (V.int (high : Int) = V.int 0)) (fun Q' h' => ⟨_, rfl, rfl, h'⟩) ?_
    rw [← x4 hg1 hg2]
    refine ⟨rfl, _, rfl, ?_⟩
    rw [decide_eq_true rfl]
    -- (on is None) != (..)
    refine ⟨_, rfl, rfl, _, rfl, _, rfl, _, _, rfl, rfl, ch, _, rfl, _, rfl, _, _, rfl, rfl, cl, _, _, rfl, rfl, rfl, _, rfl, ?_⟩
    have x5' : decide (V.bl (decide (optV r = .non)) = V.bl (decide (((many - high : Nat) : Int) > ((few - low : Nat) : Int)))) = true := by rw [x5 hr1 hr2]; exact decide_eq_true rfl
    refine ite2 (fun c => absurd c (by
      show ¬ (!decide (V.bl (decide (optV r = .non)) = V.bl (decide (((many - high : Nat) : Int) > ((few - low : Nat) : Int))))) = true
      rw [x5']; decide)) (fun _ => ?_)
    -- if greatest is not None
    apply cont_join (S := fun H' => Same H5 H')
    · intro key
      by_cases hgn : g = none
      · have e : decide (optV g = .non) = true := by rw [hgn]; exact decide_eq_true rfl
        refine ⟨_, rfl, rfl, _, rfl, ite2 (fun c => absurd c (by show ¬ (!decide (optV g = .non)) = true; rw [e]; decide)) (fun _ => key H5 (Same.refl H5))⟩
      · obtain ⟨t, ht⟩ : ∃ t, g = some t := by
          cases g with
          | none => exact absurd rfl hgn
          | some t => exact ⟨t, rfl⟩
        have hE : ¬ Endless (memb R) := fun z => hgn (hg1 z)
        have hgr := hg2 hE
        rw [ht] at hgr
        have hla := x7 hE hgr
        rw [← ht] at hla
        have e : decide (optV g = .non) = false := by rw [ht]; exact decide_eq_false (fun z => by cases z)
        refine ⟨_, rfl, rfl, _, rfl, ite2 (fun _ => ?_) (fun c => absurd (by show (!decide (optV g = .non)) = true; rw [e]; rfl) c)⟩
        exact ⟨_, rfl, _, rfl, _, rfl, a, R, g, many, rfl, hR.same S5, hv, h0, h15, emany, hla, fun H6 s6 => ⟨true, rfl, _, rfl, (t : Int), by rw [ht]; rfl, true, rfl, key H6 s6⟩⟩
    intro H6 s6
    have S6 := S5.trans s6
    cases r with
    | none =>
      exact ⟨_, rfl, rfl, _, rfl, ite2 (fun _ => q H6 S6) (fun c => absurd (decide_eq_true rfl) c)⟩
    | some t =>
      have hE : ¬ Endless (co (memb R)) := fun z => by have := hr1 z; cases this
      obtain ⟨gg, hgg, et⟩ := hr2 hE
      obtain ⟨y1, y2, y3, y4, y5⟩ := x6 hE hgg
      cases et
      generalize onV gg = t at *
      refine ⟨_, rfl, rfl, _, rfl, ite2 (fun c => by have := of_decide_eq_true c; cases this) (fun _ => ?_)⟩
      refine ⟨_, rfl, (t : Int), rfl, true, rfl, ?_⟩
      refine ⟨_, rfl, _, _, rfl, rfl, _, rfl, ite2 (fun c => by have := of_decide_eq_true c; omega) (fun _ => ?_)⟩
      apply cont_join (S := fun H' => Same H6 H')
      · intro key
        refine ⟨_, rfl, _, _, rfl, rfl, _, rfl, ite2 (fun c => ?_) (fun c => ?_)⟩
        rotate_left
        · have h9 := key H6 (Same.refl H6)
          exact h9
        have ht1 : 1 < t := by have := of_decide_eq_true c; omega
        refine ⟨_, rfl, _, rfl, t, 1, rfl, rfl, y1, a, R, t - 1, rfl, hR.same S6, hv, h0, by omega, fun H7 s7 => ⟨rfl, _, rfl, ?_⟩⟩
        rw [← memb_pos R (show t - 1 ≠ 0 by omega), y5 ht1]
        exact key H7 s7
      intro H7 s7
      have S7 := S6.trans s7
      refine ⟨_, rfl, _, rfl, _, rfl, t, 1, rfl, rfl, y1, a, R, t - 1, rfl, hR.same S7, hv, h0, by omega, by omega, fun H8 s8 => ?_⟩
      rw [cq_cnt]
      refine ⟨_, _, rfl, rfl, y3, _, rfl, _, rfl, _, _, rfl, rfl, y2, _, 1, rfl, rfl, rfl, ?_⟩
      rw [y4, decide_eq_true rfl]
      exact q H8 (S7.trans s8)
end
end W36
end

section
set_option linter.all false
set_option maxRecDepth 100000
set_option maxHeartbeats 8000000
/-! The law. -/
namespace W36
open PySem PySem.Spec PyProof.Rows L2
section
variable {P : Program} {w : World} {K : PySem.W.Frag} {mg : Str → Option Value} {base : Heap}
theorem SqT.keep {p a : Addr} {H H' : Hp} {xs : List V} {kvs : List (Key × V)} (h : SqT K H a xs) (k : Keep p H H') (e : H p = some (.dK kvs)) : SqT K H' a xs := by
  rcases h with (h | ⟨o, h⟩) | h
  · exact .inl (.inl (k a _ (ne_of h e fun z => nomatch z) h))
  · exact .inl (.inr ⟨o, k a _ (ne_of h e fun z => nomatch z) h⟩)
  · exact .inr h
theorem RowsT.keep {p a : Addr} {H H' : Hp} {R : List W36.Row} {kvs : List (Key × V)} (h : RowsT K H a R) (k : Keep p H H') (e : H p = some (.dK kvs)) : RowsT K H' a R := by
  obtain ⟨vs, a1, a2⟩ := h
  exact ⟨vs, SqT.keep a1 k e, a2.1, fun i r hr => let ⟨t, b, c⟩ := a2.2 i r hr; ⟨t, b, SqT.keep c k e⟩⟩
theorem At.keep {C p o : Addr} {H H' : Hp} {D : List W36.Row} {Mb : Nat → Nat} {kvs : List (Key × V)} (h : At K C H o D Mb) (k : Keep p H H') (e : H p = some (.dK kvs)) : At K C H' o D Mb := by
  obtain ⟨q, dx, a, b, c⟩ := h
  exact ⟨q, dx, k o _ (ne_of a e fun z => nomatch z) a, RowsT.keep b k e, c⟩
theorem Laid.keep {p a : Addr} {H H' : Hp} {R : List W36.Row} {kvs : List (Key × V)} (h : Laid H a R) (k : Keep p H H') (e : H p = some (.dK kvs)) : Laid H' a R := by
  obtain ⟨vs, a1, a2, a3⟩ := h
  exact ⟨vs, k a _ (ne_of a1 e fun z => nomatch z) a1, a2, fun i r hr => let ⟨t, b, c⟩ := a3 i r hr; ⟨t, b, k t _ (ne_of c e fun z => nomatch z) c⟩⟩
theorem last_self {Mb : Nat → Nat} {t : Nat} {l : Option Nat} (h : LastSpec Mb t l) (ht : Mb t = 1) : l = some t := by
  cases l with
  | none => exact absurd ht (h t (Nat.le_refl t))
  | some s =>
    obtain ⟨a, b, c⟩ := h
    by_cases hs : s = t
    · rw [hs]
    · exact absurd ht (c t (by omega) (Nat.le_refl t))
/-- what stands between two turns of the law -/
structure Mid (K : PySem.W.Frag) (C p ca ra o : Addr) (R : List W36.Row) (n : Nat) (H : Hp) : Prop where
  pen : Pen H p ca n
  laid : Laid H ra R
  at_ : At K C H o (least (wide R) 0) (memb R)
theorem Mid.same {C p ca ra o : Addr} {R : List W36.Row} {n : Nat} {H H' : Hp} (m : Mid K C p ca ra o R n H) (s : Same H H') : Mid K C p ca ra o R n H' := ⟨m.pen.same s, m.laid.same s, m.at_.same s⟩
theorem Mid.keep {C p ca ra o : Addr} {R : List W36.Row} {n n' : Nat} {H H' : Hp} (m : Mid K C p ca ra o R n H) (k : Keep p H H') (P : Pen H' p ca n') : Mid K C p ca ra o R n' H' := by
  obtain ⟨kvs, e⟩ := m.pen.dict
  exact ⟨P, m.laid.keep k e, m.at_.keep k e⟩
theorem Mid.le {C p ca ra o : Addr} {R : List W36.Row} {n n' : Nat} {H : Hp} (m : Mid K C p ca ra o R n H) (h : n ≤ n') : Mid K C p ca ra o R n' H := ⟨m.pen.le h, m.laid, m.at_⟩
def sp_law (K : PySem.W.Frag) : Sp := fun vs H Q _ => ∃ (a : Addr) (ns : List Int), vs = [.ref a] ∧ SqL K H a (ns.map V.int) ∧ ∀ H', Q (.bl true) H'
theorem ok_law (T : Txt K mg) : FnOk P w K mg base CX0 7 T.a_law T.d_law ["_law_script"] (sp_law K) := by
  refine T.F_law.ok sc_law (fun vs H Q E h => ?_) (fun cdv A outer s H vs Q E hr h => ?_)
  · obtain ⟨a, ns, rfl, _⟩ := h
    rfl
  · obtain ⟨a, ns, rfl, hL, q⟩ := h
    refine ⟨_, (pss_cons (ps_set (i := 1) sc_law.nd rfl (Or.inl rfl) (pe_call (ok_l_pen T) (hr.mono (by decide)) (by rfl) T.g_l_pen T.F_l_pen.kp T.b_l_pen .nil pass0 (pa_cons (pv 0) pa_nil)))
      (pss_cons (ps_set (i := 2) sc_law.nd rfl (Or.inl rfl) (pe_call (ok_l_rule T) (hr.mono (by decide)) (by rfl) T.g_l_rule T.F_l_rule.kp T.b_l_rule .nil pass0 (pa_cons (pv 1) (pa_cons pe_int pa_nil))))
      (pss_cons (ps_set (i := 3) sc_law.nd rfl (Or.inl rfl) (pe_call (ok_sizes_of_rows T) (hr.mono (by decide)) (by rfl) T.g_sizes_of_rows T.F_sizes_of_rows.kp T.b_sizes_of_rows .nil pass0 (pa_cons (pv 2) pa_nil)))
      (pss_cons (ps_if (PW.pt (pw_or (pt_not (pt_val (pe_callB call_isi (by rfl) T.n_isinstance (by decide +kernel) (pa_cons (pv 3) (pa_cons (pe_glob (v := .ref T.C) (by rfl) T.g_Sizes rfl) pa_nil))))) (pw_or1 (pt_not (pt_val (pe_call (ok_l_ends_right T) (hr.mono (by decide)) (by rfl) T.g_l_ends_right T.F_l_ends_right.kp T.b_l_ends_right .nil pass0 (pa_cons (pv 2) (pa_cons (pv 3) pa_nil))))))))
      (pss_one (ps_ret pe_bl))
      pss_nil)
      (pss_cons (ps_if (pt_not (pt_val (pe_call (ok_l_next_right T) (hr.mono (by decide)) (by rfl) T.g_l_next_right T.F_l_next_right.kp T.b_l_next_right .nil pass0 (pa_cons (pv 2) (pa_cons (pe_meth0 (pv 3) T.cl T.t_least (ok_m_least T) (hr.mono (by decide)) T.b_m_least .nil pass0) (pa_cons pe_int pa_nil))))))
      (pss_one (ps_ret pe_bl))
      pss_nil)
      (pss_cons (ps_for PassesOwn.never rfl (pi_range1 (by rfl) T.n_range (pa_cons pe_int pa_nil)) (pg_name (i := 4) sc_law.nd rfl (Or.inl rfl))
      (pss_cons (ps_set (i := 5) sc_law.nd rfl (Or.inl rfl) (pe_op op_addN pe_int (pe_call (ok_l_draw T) (hr.mono (by decide)) (by rfl) T.g_l_draw T.F_l_draw.kp T.b_l_draw .nil pass0 (pa_cons (pv 1) (pa_cons pe_int pa_nil)))))
        (pss_cons (ps_if (pt_cmpR op_eq (pe_call (ok_l_draw T) (hr.mono (by decide)) (by rfl) T.g_l_draw T.F_l_draw.kp T.b_l_draw .nil pass0 (pa_cons (pv 1) (pa_cons pe_int pa_nil))) pe_int (nomark _))
        (pss_one (ps_set (i := 5) sc_law.nd rfl (Or.inl rfl) (pe_call (ok_l_size T) (hr.mono (by decide)) (by rfl) T.g_l_size T.F_l_size.kp T.b_l_size .nil pass0 (pa_cons (pv 1) pa_nil))))
        pss_nil)
        (pss_cons (ps_par (i := 6) (j := 7) rfl sc_law.nd rfl rfl (by decide) rfl rfl (pa_cons (pe_meth (pv 3) T.cl T.t_next_from (ok_m_next_from T) (hr.mono (by decide)) T.b_m_next_from .nil pass0 (pa_cons (pv 5) pa_nil)) (pa_cons (pe_meth (pv 3) T.cl T.t_last_upto (ok_m_last_upto T) (hr.mono (by decide)) T.b_m_last_upto .nil pass0 (pa_cons (pv 5) pa_nil)) pa_nil)) (by rfl))
        (pss_cons (ps_if (PW.pt (pw_or (pt_not (pt_val (pe_call (ok_l_next_right T) (hr.mono (by decide)) (by rfl) T.g_l_next_right T.F_l_next_right.kp T.b_l_next_right .nil pass0 (pa_cons (pv 2) (pa_cons (pv 6) (pa_cons (pv 5) pa_nil)))))) (pw_or1 (pt_not (pt_val (pe_call (ok_l_last_right T) (hr.mono (by decide)) (by rfl) T.g_l_last_right T.F_l_last_right.kp T.b_l_last_right .nil pass0 (pa_cons (pv 2) (pa_cons (pv 7) (pa_cons (pv 5) pa_nil)))))))))
        (pss_one (ps_ret pe_bl))
        pss_nil)
        (pss_one (ps_if (PW.pt (pw_and (pt_cmpR op_notN (pv 6) pe_non (nomark _)) (pw_and1 (pt_cmpR op_lt (pv 6) (pe_op op_pow pe_int pe_int) (nomark _)))))
        (pss_one (ps_if (PW.pt (pw_or (pt_cmpR op_ne (pe_meth (pv 3) T.cl T.t_last_upto (ok_m_last_upto T) (hr.mono (by decide)) T.b_m_last_upto .nil pass0 (pa_cons (pv 6) pa_nil)) (pv 6) (nomark _)) (pw_or1 (pt_not (pt_val (pe_call (ok_l_next_right T) (hr.mono (by decide)) (by rfl) T.g_l_next_right T.F_l_next_right.kp T.b_l_next_right .nil pass0 (pa_cons (pv 2) (pa_cons (pe_meth (pv 3) T.cl T.t_next_from (ok_m_next_from T) (hr.mono (by decide)) T.b_m_next_from .nil pass0 (pa_cons (pe_op op_addN (pv 6) pe_int) pa_nil)) (pa_cons (pe_op op_addN (pv 6) pe_int) pa_nil)))))))))
          (pss_one (ps_ret pe_bl))
          pss_nil))
        pss_nil)))))))
      (pss_one (ps_ret (pe_cmpR (op_eqD hr.units) (pe_fld (pv 3) rfl) (pe_fld (pe_call (ok_sizes_of_rows T) (hr.mono (by decide)) (by rfl) T.g_sizes_of_rows T.F_sizes_of_rows.kp T.b_sizes_of_rows .nil pass0 (pa_cons (pv 2) pa_nil)) rfl) (nomark _)))))))))), ?_⟩
    have hp30 : CPow 10 30 := ⟨by decide, by decide, by decide⟩
    refine ⟨_, rfl, a, ns, rfl, hL, fun H1 p ca s1 np P1 => ?_⟩
    refine ⟨_, rfl, p, ca, 0, rfl, P1, by decide, fun H2 ra R k2 nra nrap LR hv h0 h6 P2 => ?_⟩
    refine ⟨_, rfl, ra, R, rfl, LR, hv, h0, by omega, fun H3 o dp dx s3 ho hD => ?_⟩
    have hlen : (least (wide R) 0).length ≤ 12 := by
      have := (least_ok (wide_valid hv) (start := 0) (by rw [wide_len]; omega)).le
      rw [wide_len] at this
      omega
    have M3 : Mid K T.C p ca ra o R 50 H3 := ⟨(P2.same s3).le (by omega), LR.same s3, dp, dx, ho, hD, (wide_tells hv h0).least, by omega⟩
    have big1 : ∀ {k t : Nat}, k ≤ 10 ^ 30 → (bits t).length ≤ (bits k).length + (least (wide R) 0).length → t < big := fun {k t} hk h => by
      have h1 : (bits k).length ≤ 100 := bits_len_le (Nat.lt_of_le_of_lt hk (by decide +kernel))
      have h2 : t < 2 ^ 112 := len_le_iff.mp (by omega)
      exact Nat.lt_trans h2 (by decide +kernel)
    -- isinstance, ends_right
    refine ⟨_, rfl, _, _, .ref T.C, .ref T.C, true, rfl, .own T.C, .base (.ins ho T.cl T.i_ha T.i_hn T.i_htk T.i_hm), by simp [PySem.W.kitOne], true, rfl, ?_⟩
    refine ⟨_, rfl, _, rfl, ra, o, R, rfl, M3.laid.rows, hv, h0, by omega, M3.at_, fun H4 s4 => ⟨true, rfl, ?_⟩⟩
    have M4 := M3.same s4
    -- least
    refine ⟨_, rfl, _, rfl, o, dx, _, rfl, s4 _ _ ho, rfl, o, _, _, rfl, M4.at_, fun H5 r s5 hn hb => ⟨ra, R, r, 1, rfl, (M4.same s5).laid.rows, hv, h0, by omega, by decide, by decide, hn, fun t ht => big1 (k := 1) (by decide) (by rw [bits_one]; exact hb t ht), fun H6 s6 => ⟨true, rfl, ?_⟩⟩⟩
    have M6 := (M4.same s5).same s6
    -- three turns
    refine ⟨3, rfl, by decide, by decide, for_range (lo := 0) (n := 3) (fun i σ H' => ∃ z4 z5 z6 z7, σ = [some (.ref a), some (.ref p), some (.ref ra), some (.ref o), z4, z5, z6, z7] ∧ Mid K T.C p ca ra o R (50 + 20 * i) H') ⟨none, none, none, none, rfl, M6⟩ (fun i σ H7 hi hX => ?_) (fun σ H7 hX => ?_)⟩
    · obtain ⟨z4, z5, z6, z7, rfl, M7⟩ := hX
      refine ⟨_, rfl, p, ca, 80, _, rfl, M7.pen, by omega, by decide, by decide, fun H8 x k8 P8 hx => ⟨1, x, rfl, rfl, ?_⟩⟩
      have M8 := M7.keep k8 P8
      apply cont_joinN (S := fun k H' => 1 ≤ k ∧ k ≤ 10 ^ 30 ∧ Mid K T.C p ca ra o R (50 + 20 * (i + 1)) H')
      · intro key
        refine ⟨_, rfl, p, ca, 3, _, rfl, M8.pen, by omega, by decide, by decide, fun H9 y k9 P9 hy => ⟨rfl, _, rfl, ite2 (fun _ => ?_) (fun _ => ?_)⟩⟩
        · exact ⟨_, rfl, p, ca, _, rfl, P9, by omega, fun H10 x' k10 P10 h1 h2 => key x' H10 ⟨h1, h2, ((M8.keep k9 P9).keep k10 P10).le (by omega)⟩⟩
        · exact key (1 + x) H9 ⟨by omega, Nat.le_trans (show 1 + x ≤ 80 by omega) (by decide), (M8.keep k9 P9).le (by omega)⟩
      rintro k H9 ⟨kk1, kk2, M9⟩
      have kb : k < big := Nat.lt_of_le_of_lt kk2 (by decide +kernel)
      obtain ⟨dp9, dx9, ho9, _⟩ := id M9.at_
      refine ⟨_, rfl, o, dx9, _, rfl, ho9, rfl, _, rfl, o, _, _, k, rfl, M9.at_, kk1, kk2, fun H10 r s10 hn hb => ?_⟩
      have M10 := M9.same s10
      refine ⟨_, rfl, o, dx9, _, rfl, s10 _ _ ho9, rfl, _, rfl, o, _, _, k, rfl, M10.at_, kk1, kk2, fun H11 l s11 hl => ⟨_, _, rfl, ?_⟩⟩
      have M11 := M10.same s11
      refine ⟨_, rfl, _, rfl, _, rfl, ra, R, r, k, rfl, M11.laid.rows, hv, h0, by omega, kk1, kk2, hn, fun t ht => big1 kk2 (hb t ht), fun H12 s12 => ⟨true, rfl, ?_⟩⟩
      have M12 := M11.same s12
      refine ⟨_, rfl, _, rfl, _, rfl, ra, R, l, k, rfl, M12.laid.rows, hv, h0, by omega, kb, hl, fun H13 s13 => ⟨true, rfl, ?_⟩⟩
      have M13 := M12.same s13
      have ho13 := s13 _ _ (s12 _ _ (s11 _ _ (s10 _ _ ho9)))
      cases r with
      | none => exact ⟨_, rfl, rfl, _, rfl, ite2 (fun c => absurd c (by show ¬ (!decide (V.non = V.non)) = true; rw [decide_eq_true rfl]; decide)) (fun _ => ⟨_, _, _, _, rfl, M13⟩)⟩
      | some t =>
        refine ⟨_, rfl, rfl, _, rfl, ite2 (fun _ => ?_) (fun c => ⟨_, _, _, _, rfl, M13⟩)⟩
        obtain ⟨d, hd⟩ : ∃ d, d = decide ((t : Int) < 10 ^ (30 : Int).toNat) := ⟨_, rfl⟩
        refine ⟨_, rfl, _, _, rfl, rfl, hp30, (t : Int), 10 ^ (30 : Int).toNat, rfl, rfl, d, congrArg V.bl hd.symm, ?_⟩
        refine ite2 (fun c2 => ?_) (fun _ => ⟨_, _, _, _, rfl, M13⟩)
        have ht30 : t < 10 ^ 30 := by
          have h9 : (t : Int) < 10 ^ (30 : Int).toNat := of_decide_eq_true (hd.symm.trans c2)
          have h10 : (10 : Int) ^ (30 : Int).toNat = ((10 ^ 30 : Nat) : Int) := by decide +kernel
          rw [h10] at h9
          exact Int.ofNat_lt.mp h9
        obtain ⟨n1, n2, n3⟩ := id hn
        refine ⟨_, rfl, o, dx9, _, rfl, ho13, rfl, _, rfl, o, _, _, t, rfl, M13.at_, by omega, by omega, fun H14 l2 s14 hl2 => ?_⟩
        obtain rfl := last_self hl2 n2
        have M14 := M13.same s14
        refine ⟨_, rfl, rfl, _, rfl, ite2 (fun c => absurd c (by show ¬ (!decide (V.int (t : Int) = V.int (t : Int))) = true; rw [decide_eq_true rfl]; decide)) (fun _ => ?_)⟩
        refine ⟨_, rfl, _, rfl, o, dx9, _, rfl, s14 _ _ ho13, rfl, _, rfl, t, 1, rfl, rfl, o, _, _, t + 1, rfl, M14.at_, by omega, by omega, fun H15 r2 s15 hn2 hb2 => ?_⟩
        have M15 := M14.same s15
        refine ⟨_, rfl, t, 1, rfl, rfl, ra, R, r2, t + 1, rfl, M15.laid.rows, hv, h0, by omega, by omega, by omega, hn2, fun t2 ht2 => big1 (k := t + 1) (by omega) (hb2 t2 ht2), fun H16 s16 => ⟨true, rfl, ?_⟩⟩
        exact ⟨_, _, _, _, rfl, M15.same s16⟩
    · obtain ⟨z4, z5, z6, z7, rfl, M7⟩ := hX
      obtain ⟨dp7, dx7, ho7, hD7, _⟩ := id M7.at_
      refine ⟨_, rfl, o, T.C, dx7, _, _, rfl, ho7, T.cl, T.nA, rfl, _, rfl, ra, R, rfl, M7.laid, hv, h0, by omega, fun H8 o2 p2 dx2 s8 ho2 hD2 => ?_⟩
      refine ⟨o2, T.C, dx2, _, _, rfl, ho2, T.cl, T.nA, rfl, _, _, dp_rows (hD7.same s8), dp_rows hD2, rows_shaped _, rows_shaped _, ?_⟩
      rw [eqv_rowsT, decide_eq_true rfl]
      exact q H8
end
end W36
end

section
set_option linter.all false
set_option maxRecDepth 100000
set_option maxHeartbeats 8000000
/-! The text from what the top has left; the law's end. -/
namespace W36
open PySem PySem.Spec PyProof.Rows L2
theorem sqt_const {K : PySem.W.Frag} {H : Hp} {t : Addr} {od : Option Addr} {its : Array Value} {n : Nat} {sl : Array (Option Value)} {xs : List V} (l : K.lookup t = some ⟨.type "tuple", od, .seq its n, sl⟩) (hz : its.size ≤ sizeLine) (v : Vals xs its.toList) : SqT K H t xs := .inr ⟨_, _, _, l, rfl, rfl, hz, v⟩
theorem row_const {K : PySem.W.Frag} {H : Hp} {t : Addr} {od : Option Addr} {a b c : Nat} {x y z : Tok} {n : Nat} {sl : Array (Option Value)} (l : K.lookup t = some ⟨.type "tuple", od, .seq #[.int (a : Int) x, .int (b : Int) y, .int (c : Int) z] n, sl⟩) : SqT K H t (rowV (a, b, c)) :=
  sqt_const l (by show 3 ≤ sizeLine; decide) (.cons ⟨_, rfl⟩ (.cons ⟨_, rfl⟩ (.cons ⟨_, rfl⟩ .nil)))
theorem all_mk {P : Program} {w : World} {K : PySem.W.Frag} {mg : Str → Option Value} {h : Heap} {fa : Addr} (X : K.In h) (G : h.Ns mainGlobals mg) (hM : ∃ t, mg "MOST" = some (.int (10 ^ 30) t)) (hfa : mg ("law" : Str) = some (.ref fa)) {C : Addr}
    {tkR tkT w0 w1 w2 w3 w4 w5 w6 w7 w8 : Tok} {pA pA0 pA1 pN pN0 : Addr} {oo0 oo1 oo2 oo3 oo4 : Option Addr} {nn0 nn1 nn2 nn3 nn4 : Nat} {ss0 ss1 ss2 ss3 ss4 : Array (Option Value)}
    {f0 : Addr} {od0 an0 : Option Addr} {sl0 : Array (Option Value)} {oc0 kV0 dc0 pm0 cd0 ct0 : Value}
    {f1 : Addr} {od1 an1 : Option Addr} {sl1 : Array (Option Value)} {oc1 kV1 dc1 pm1 cd1 ct1 : Value}
    {f2 : Addr} {od2 an2 : Option Addr} {sl2 : Array (Option Value)} {oc2 kV2 dc2 pm2 cd2 ct2 : Value}
    {f3 : Addr} {od3 an3 : Option Addr} {sl3 : Array (Option Value)} {oc3 kV3 dc3 pm3 cd3 ct3 : Value}
    {f4 : Addr} {od4 an4 : Option Addr} {sl4 : Array (Option Value)} {oc4 kV4 dc4 pm4 cd4 ct4 : Value}
    {f5 : Addr} {od5 an5 : Option Addr} {sl5 : Array (Option Value)} {oc5 kV5 dc5 pm5 cd5 ct5 : Value}
    {f6 : Addr} {od6 an6 : Option Addr} {sl6 : Array (Option Value)} {oc6 kV6 dc6 pm6 cd6 ct6 : Value}
    {f7 : Addr} {od7 an7 : Option Addr} {sl7 : Array (Option Value)} {oc7 kV7 dc7 pm7 cd7 ct7 : Value}
    {f8 : Addr} {od8 an8 : Option Addr} {sl8 : Array (Option Value)} {oc8 kV8 dc8 pm8 cd8 ct8 : Value}
    {f9 : Addr} {od9 an9 : Option Addr} {sl9 : Array (Option Value)} {oc9 kV9 dc9 pm9 cd9 ct9 : Value}
    {f10 : Addr} {od10 an10 : Option Addr} {sl10 : Array (Option Value)} {oc10 kV10 dc10 pm10 cd10 ct10 : Value}
    {f11 : Addr} {od11 an11 : Option Addr} {sl11 : Array (Option Value)} {oc11 kV11 dc11 pm11 cd11 ct11 : Value}
    {f12 : Addr} {od12 an12 : Option Addr} {sl12 : Array (Option Value)} {oc12 kV12 dc12 pm12 cd12 ct12 : Value}
    {f13 : Addr} {od13 an13 : Option Addr} {sl13 : Array (Option Value)} {oc13 kV13 dc13 pm13 cd13 ct13 : Value}
    {f14 : Addr} {od14 an14 : Option Addr} {sl14 : Array (Option Value)} {oc14 kV14 dc14 pm14 cd14 ct14 : Value}
    {f15 : Addr} {od15 an15 : Option Addr} {sl15 : Array (Option Value)} {oc15 kV15 dc15 pm15 cd15 ct15 : Value}
    {f16 : Addr} {od16 an16 : Option Addr} {sl16 : Array (Option Value)} {oc16 kV16 dc16 pm16 cd16 ct16 : Value}
    {f17 : Addr} {od17 an17 : Option Addr} {sl17 : Array (Option Value)} {oc17 kV17 dc17 pm17 cd17 ct17 : Value}
    {f18 : Addr} {od18 an18 : Option Addr} {sl18 : Array (Option Value)} {oc18 kV18 dc18 pm18 cd18 ct18 : Value}
    {f19 : Addr} {od19 an19 : Option Addr} {sl19 : Array (Option Value)} {oc19 kV19 dc19 pm19 cd19 ct19 : Value}
    {f20 : Addr} {od20 an20 : Option Addr} {sl20 : Array (Option Value)} {oc20 kV20 dc20 pm20 cd20 ct20 : Value}
    {f21 : Addr} {od21 an21 : Option Addr} {sl21 : Array (Option Value)} {oc21 kV21 dc21 pm21 cd21 ct21 : Value}
    {f22 : Addr} {od22 an22 : Option Addr} {sl22 : Array (Option Value)} {oc22 kV22 dc22 pm22 cd22 ct22 : Value}
    {f23 : Addr} {od23 an23 : Option Addr} {sl23 : Array (Option Value)} {oc23 kV23 dc23 pm23 cd23 ct23 : Value}
    {f24 : Addr} {od24 an24 : Option Addr} {sl24 : Array (Option Value)} {oc24 kV24 dc24 pm24 cd24 ct24 : Value}
    {f25 : Addr} {od25 an25 : Option Addr} {sl25 : Array (Option Value)} {oc25 kV25 dc25 pm25 cd25 ct25 : Value}
    {f26 : Addr} {od26 an26 : Option Addr} {sl26 : Array (Option Value)} {oc26 kV26 dc26 pm26 cd26 ct26 : Value}
    {f27 : Addr} {od27 an27 : Option Addr} {sl27 : Array (Option Value)} {oc27 kV27 dc27 pm27 cd27 ct27 : Value}
    {f28 : Addr} {od28 an28 : Option Addr} {sl28 : Array (Option Value)} {oc28 kV28 dc28 pm28 cd28 ct28 : Value}
    {f29 : Addr} {od29 an29 : Option Addr} {sl29 : Array (Option Value)} {oc29 kV29 dc29 pm29 cd29 ct29 : Value}
    {f30 : Addr} {od30 an30 : Option Addr} {sl30 : Array (Option Value)} {oc30 kV30 dc30 pm30 cd30 ct30 : Value}
    {f31 : Addr} {od31 an31 : Option Addr} {sl31 : Array (Option Value)} {oc31 kV31 dc31 pm31 cd31 ct31 : Value}
    {f32 : Addr} {od32 an32 : Option Addr} {sl32 : Array (Option Value)} {oc32 kV32 dc32 pm32 cd32 ct32 : Value}
    {f33 : Addr} {od33 an33 : Option Addr} {sl33 : Array (Option Value)} {oc33 kV33 dc33 pm33 cd33 ct33 : Value}
    {f34 : Addr} {od34 an34 : Option Addr} {sl34 : Array (Option Value)} {oc34 kV34 dc34 pm34 cd34 ct34 : Value}
    {f35 : Addr} {od35 an35 : Option Addr} {sl35 : Array (Option Value)} {oc35 kV35 dc35 pm35 cd35 ct35 : Value}
    {f36 : Addr} {od36 an36 : Option Addr} {sl36 : Array (Option Value)} {oc36 kV36 dc36 pm36 cd36 ct36 : Value}
    {f37 : Addr} {od37 an37 : Option Addr} {sl37 : Array (Option Value)} {oc37 kV37 dc37 pm37 cd37 ct37 : Value}
    {f38 : Addr} {od38 an38 : Option Addr} {sl38 : Array (Option Value)} {oc38 kV38 dc38 pm38 cd38 ct38 : Value}
    {f39 : Addr} {od39 an39 : Option Addr} {sl39 : Array (Option Value)} {oc39 kV39 dc39 pm39 cd39 ct39 : Value}
    {f40 : Addr} {od40 an40 : Option Addr} {sl40 : Array (Option Value)} {oc40 kV40 dc40 pm40 cd40 ct40 : Value}
    {f41 : Addr} {od41 an41 : Option Addr} {sl41 : Array (Option Value)} {oc41 kV41 dc41 pm41 cd41 ct41 : Value}
    {f42 : Addr} {od42 an42 : Option Addr} {sl42 : Array (Option Value)} {oc42 kV42 dc42 pm42 cd42 ct42 : Value}
    {f43 : Addr} {od43 an43 : Option Addr} {sl43 : Array (Option Value)} {oc43 kV43 dc43 pm43 cd43 ct43 : Value}
    {f44 : Addr} {od44 an44 : Option Addr} {sl44 : Array (Option Value)} {oc44 kV44 dc44 pm44 cd44 ct44 : Value}
    (aC : PySem.W.nsIn K mainGlobals "Sizes" = some (some (.ref C)))
    (a0 : PySem.W.nsIn K mainGlobals "digits_of" = some (some (.ref f0)))
    (l0 : K.lookup f0 = some ⟨oc0, od0, .func (PySem.W.fnOf "digits_of" "digits_of" (defArgs s_digits_of) (defBody s_digits_of) (defScope s_digits_of) .none kV0 dc0 pm0 an0 cd0 ct0), sl0⟩)
    (c0 : PySem.W.codeIn K cd0 "digits_of" = true)
    (k0 : PySem.W.keepIn K (.ref f0) = true)
    (a1 : PySem.W.nsIn K mainGlobals "number_of" = some (some (.ref f1)))
    (l1 : K.lookup f1 = some ⟨oc1, od1, .func (PySem.W.fnOf "number_of" "number_of" (defArgs s_number_of) (defBody s_number_of) (defScope s_number_of) .none kV1 dc1 pm1 an1 cd1 ct1), sl1⟩)
    (c1 : PySem.W.codeIn K cd1 "number_of" = true)
    (k1 : PySem.W.keepIn K (.ref f1) = true)
    (a2 : PySem.W.nsIn K mainGlobals "order_of" = some (some (.ref f2)))
    (l2 : K.lookup f2 = some ⟨oc2, od2, .func (PySem.W.fnOf "order_of" "order_of" (defArgs s_order_of) (defBody s_order_of) (defScope s_order_of) .none kV2 dc2 pm2 an2 cd2 ct2), sl2⟩)
    (c2 : PySem.W.codeIn K cd2 "order_of" = true)
    (k2 : PySem.W.keepIn K (.ref f2) = true)
    (a3 : PySem.W.nsIn K mainGlobals "sources_of" = some (some (.ref f3)))
    (l3 : K.lookup f3 = some ⟨oc3, od3, .func (PySem.W.fnOf "sources_of" "sources_of" (defArgs s_sources_of) (defBody s_sources_of) (defScope s_sources_of) .none kV3 dc3 pm3 an3 cd3 ct3), sl3⟩)
    (c3 : PySem.W.codeIn K cd3 "sources_of" = true)
    (k3 : PySem.W.keepIn K (.ref f3) = true)
    (a4 : PySem.W.nsIn K mainGlobals "blocks_of" = some (some (.ref f4)))
    (l4 : K.lookup f4 = some ⟨oc4, od4, .func (PySem.W.fnOf "blocks_of" "blocks_of" (defArgs s_blocks_of) (defBody s_blocks_of) (defScope s_blocks_of) .none kV4 dc4 pm4 an4 cd4 ct4), sl4⟩)
    (c4 : PySem.W.codeIn K cd4 "blocks_of" = true)
    (k4 : PySem.W.keepIn K (.ref f4) = true)
    (a5 : PySem.W.nsIn K mainGlobals "least_rows" = some (some (.ref f5)))
    (l5 : K.lookup f5 = some ⟨oc5, od5, .func (PySem.W.fnOf "least_rows" "least_rows" (defArgs s_least_rows) (defBody s_least_rows) (defScope s_least_rows) .none kV5 dc5 pm5 an5 cd5 ct5), sl5⟩)
    (c5 : PySem.W.codeIn K cd5 "least_rows" = true)
    (k5 : PySem.W.keepIn K (.ref f5) = true)
    (a6 : PySem.W.nsIn K mainGlobals "told_rows" = some (some (.ref f6)))
    (l6 : K.lookup f6 = some ⟨oc6, od6, .func (PySem.W.fnOf "told_rows" "told_rows" (defArgs s_told_rows) (defBody s_told_rows) (defScope s_told_rows) .none kV6 dc6 pm6 an6 cd6 ct6), sl6⟩)
    (c6 : PySem.W.codeIn K cd6 "told_rows" = true)
    (k6 : PySem.W.keepIn K (.ref f6) = true)
    (a7 : PySem.W.nsIn K mainGlobals "paired_rows" = some (some (.ref f7)))
    (l7 : K.lookup f7 = some ⟨oc7, od7, .func (PySem.W.fnOf "paired_rows" "paired_rows" (defArgs s_paired_rows) (defBody s_paired_rows) (defScope s_paired_rows) .none kV7 dc7 pm7 an7 cd7 ct7), sl7⟩)
    (c7 : PySem.W.codeIn K cd7 "paired_rows" = true)
    (k7 : PySem.W.keepIn K (.ref f7) = true)
    (a8 : PySem.W.nsIn K mainGlobals "ahead_of" = some (some (.ref f8)))
    (l8 : K.lookup f8 = some ⟨oc8, od8, .func (PySem.W.fnOf "ahead_of" "ahead_of" (defArgs s_ahead_of) (defBody s_ahead_of) (defScope s_ahead_of) .none kV8 dc8 pm8 an8 cd8 ct8), sl8⟩)
    (c8 : PySem.W.codeIn K cd8 "ahead_of" = true)
    (k8 : PySem.W.keepIn K (.ref f8) = true)
    (a9 : PySem.W.nsIn K mainGlobals "before" = some (some (.ref f9)))
    (l9 : K.lookup f9 = some ⟨oc9, od9, .func (PySem.W.fnOf "before" "before" (defArgs s_before) (defBody s_before) (defScope s_before) .none kV9 dc9 pm9 an9 cd9 ct9), sl9⟩)
    (c9 : PySem.W.codeIn K cd9 "before" = true)
    (k9 : PySem.W.keepIn K (.ref f9) = true)
    (a10 : PySem.W.nsIn K mainGlobals "meets" = some (some (.ref f10)))
    (l10 : K.lookup f10 = some ⟨oc10, od10, .func (PySem.W.fnOf "meets" "meets" (defArgs s_meets) (defBody s_meets) (defScope s_meets) .none kV10 dc10 pm10 an10 cd10 ct10), sl10⟩)
    (c10 : PySem.W.codeIn K cd10 "meets" = true)
    (k10 : PySem.W.keepIn K (.ref f10) = true)
    (a11 : PySem.W.nsIn K mainGlobals "goals_of" = some (some (.ref f11)))
    (l11 : K.lookup f11 = some ⟨oc11, od11, .func (PySem.W.fnOf "goals_of" "goals_of" (defArgs s_goals_of) (defBody s_goals_of) (defScope s_goals_of) .none kV11 dc11 pm11 an11 cd11 ct11), sl11⟩)
    (c11 : PySem.W.codeIn K cd11 "goals_of" = true)
    (k11 : PySem.W.keepIn K (.ref f11) = true)
    (a12 : PySem.W.nsIn K mainGlobals "low_digits" = some (some (.ref f12)))
    (l12 : K.lookup f12 = some ⟨oc12, od12, .func (PySem.W.fnOf "low_digits" "low_digits" (defArgs s_low_digits) (defBody s_low_digits) (defScope s_low_digits) .none kV12 dc12 pm12 an12 cd12 ct12), sl12⟩)
    (c12 : PySem.W.codeIn K cd12 "low_digits" = true)
    (k12 : PySem.W.keepIn K (.ref f12) = true)
    (a13 : PySem.W.nsIn K mainGlobals "least_of_length" = some (some (.ref f13)))
    (l13 : K.lookup f13 = some ⟨oc13, od13, .func (PySem.W.fnOf "least_of_length" "least_of_length" (defArgs s_least_of_length) (defBody s_least_of_length) (defScope s_least_of_length) .none kV13 dc13 pm13 an13 cd13 ct13), sl13⟩)
    (c13 : PySem.W.codeIn K cd13 "least_of_length" = true)
    (k13 : PySem.W.keepIn K (.ref f13) = true)
    (a14 : PySem.W.nsIn K mainGlobals "next_number" = some (some (.ref f14)))
    (l14 : K.lookup f14 = some ⟨oc14, od14, .func (PySem.W.fnOf "next_number" "next_number" (defArgs s_next_number) (defBody s_next_number) (defScope s_next_number) .none kV14 dc14 pm14 an14 cd14 ct14), sl14⟩)
    (c14 : PySem.W.codeIn K cd14 "next_number" = true)
    (k14 : PySem.W.keepIn K (.ref f14) = true)
    (a15 : PySem.W.nsIn K mainGlobals "last_number" = some (some (.ref f15)))
    (l15 : K.lookup f15 = some ⟨oc15, od15, .func (PySem.W.fnOf "last_number" "last_number" (defArgs s_last_number) (defBody s_last_number) (defScope s_last_number) .none kV15 dc15 pm15 an15 cd15 ct15), sl15⟩)
    (c15 : PySem.W.codeIn K cd15 "last_number" = true)
    (k15 : PySem.W.keepIn K (.ref f15) = true)
    (a16 : PySem.W.nsIn K mainGlobals "has_endless" = some (some (.ref f16)))
    (l16 : K.lookup f16 = some ⟨oc16, od16, .func (PySem.W.fnOf "has_endless" "has_endless" (defArgs s_has_endless) (defBody s_has_endless) (defScope s_has_endless) .none kV16 dc16 pm16 an16 cd16 ct16), sl16⟩)
    (c16 : PySem.W.codeIn K cd16 "has_endless" = true)
    (k16 : PySem.W.keepIn K (.ref f16) = true)
    (a17 : PySem.W.nsIn K mainGlobals "greatest_number" = some (some (.ref f17)))
    (l17 : K.lookup f17 = some ⟨oc17, od17, .func (PySem.W.fnOf "greatest_number" "greatest_number" (defArgs s_greatest_number) (defBody s_greatest_number) (defScope s_greatest_number) .none kV17 dc17 pm17 an17 cd17 ct17), sl17⟩)
    (c17 : PySem.W.codeIn K cd17 "greatest_number" = true)
    (k17 : PySem.W.keepIn K (.ref f17) = true)
    (a18 : PySem.W.nsIn K mainGlobals "is_integer" = some (some (.ref f18)))
    (l18 : K.lookup f18 = some ⟨oc18, od18, .func (PySem.W.fnOf "is_integer" "is_integer" (defArgs s_is_integer) (defBody s_is_integer) (defScope s_is_integer) .none kV18 dc18 pm18 an18 cd18 ct18), sl18⟩)
    (c18 : PySem.W.codeIn K cd18 "is_integer" = true)
    (k18 : PySem.W.keepIn K (.ref f18) = true)
    (a19 : PySem.W.nsIn K mainGlobals "is_size" = some (some (.ref f19)))
    (l19 : K.lookup f19 = some ⟨oc19, od19, .func (PySem.W.fnOf "is_size" "is_size" (defArgs s_is_size) (defBody s_is_size) (defScope s_is_size) .none kV19 dc19 pm19 an19 cd19 ct19), sl19⟩)
    (c19 : PySem.W.codeIn K cd19 "is_size" = true)
    (k19 : PySem.W.keepIn K (.ref f19) = true)
    (a20 : PySem.W.nsIn K mainGlobals "need_size" = some (some (.ref f20)))
    (l20 : K.lookup f20 = some ⟨oc20, od20, .func (PySem.W.fnOf "need_size" "need_size" (defArgs s_need_size) (defBody s_need_size) (defScope s_need_size) .none kV20 dc20 pm20 an20 cd20 ct20), sl20⟩)
    (c20 : PySem.W.codeIn K cd20 "need_size" = true)
    (k20 : PySem.W.keepIn K (.ref f20) = true)
    (a21 : PySem.W.findIn K (.ref C) "__init__" = some (some (.ref f21)))
    (i21 : PySem.W.isFn K (.ref f21) = true)
    (l21 : K.lookup f21 = some ⟨oc21, od21, .func (PySem.W.fnOf "__init__" "Sizes.__init__" (defArgs s_init) (defBody s_init) (defScope s_init) .none kV21 dc21 pm21 an21 cd21 ct21), sl21⟩)
    (c21 : PySem.W.codeIn K cd21 "Sizes.__init__" = true)
    (k21 : PySem.W.keepIn K (.ref f21) = true)
    (a22 : PySem.W.findIn K (.ref C) "least" = some (some (.ref f22)))
    (i22 : PySem.W.isFn K (.ref f22) = true)
    (l22 : K.lookup f22 = some ⟨oc22, od22, .func (PySem.W.fnOf "least" "Sizes.least" (defArgs s_m_least) (defBody s_m_least) (defScope s_m_least) .none kV22 dc22 pm22 an22 cd22 ct22), sl22⟩)
    (c22 : PySem.W.codeIn K cd22 "Sizes.least" = true)
    (k22 : PySem.W.keepIn K (.ref f22) = true)
    (a23 : PySem.W.findIn K (.ref C) "greatest" = some (some (.ref f23)))
    (i23 : PySem.W.isFn K (.ref f23) = true)
    (l23 : K.lookup f23 = some ⟨oc23, od23, .func (PySem.W.fnOf "greatest" "Sizes.greatest" (defArgs s_m_greatest) (defBody s_m_greatest) (defScope s_m_greatest) .none kV23 dc23 pm23 an23 cd23 ct23), sl23⟩)
    (c23 : PySem.W.codeIn K cd23 "Sizes.greatest" = true)
    (k23 : PySem.W.keepIn K (.ref f23) = true)
    (a24 : PySem.W.findIn K (.ref C) "next_from" = some (some (.ref f24)))
    (i24 : PySem.W.isFn K (.ref f24) = true)
    (l24 : K.lookup f24 = some ⟨oc24, od24, .func (PySem.W.fnOf "next_from" "Sizes.next_from" (defArgs s_m_next_from) (defBody s_m_next_from) (defScope s_m_next_from) .none kV24 dc24 pm24 an24 cd24 ct24), sl24⟩)
    (c24 : PySem.W.codeIn K cd24 "Sizes.next_from" = true)
    (k24 : PySem.W.keepIn K (.ref f24) = true)
    (a25 : PySem.W.findIn K (.ref C) "last_upto" = some (some (.ref f25)))
    (i25 : PySem.W.isFn K (.ref f25) = true)
    (l25 : K.lookup f25 = some ⟨oc25, od25, .func (PySem.W.fnOf "last_upto" "Sizes.last_upto" (defArgs s_m_last_upto) (defBody s_m_last_upto) (defScope s_m_last_upto) .none kV25 dc25 pm25 an25 cd25 ct25), sl25⟩)
    (c25 : PySem.W.codeIn K cd25 "Sizes.last_upto" = true)
    (k25 : PySem.W.keepIn K (.ref f25) = true)
    (a26 : PySem.W.findIn K (.ref C) "from_on" = some (some (.ref f26)))
    (i26 : PySem.W.isFn K (.ref f26) = true)
    (l26 : K.lookup f26 = some ⟨oc26, od26, .func (PySem.W.fnOf "from_on" "Sizes.from_on" (defArgs s_m_from_on) (defBody s_m_from_on) (defScope s_m_from_on) .none kV26 dc26 pm26 an26 cd26 ct26), sl26⟩)
    (c26 : PySem.W.codeIn K cd26 "Sizes.from_on" = true)
    (k26 : PySem.W.keepIn K (.ref f26) = true)
    (a27 : PySem.W.findIn K (.ref C) "is_none" = some (some (.ref f27)))
    (i27 : PySem.W.isFn K (.ref f27) = true)
    (l27 : K.lookup f27 = some ⟨oc27, od27, .func (PySem.W.fnOf "is_none" "Sizes.is_none" (defArgs s_m_is_none) (defBody s_m_is_none) (defScope s_m_is_none) .none kV27 dc27 pm27 an27 cd27 ct27), sl27⟩)
    (c27 : PySem.W.codeIn K cd27 "Sizes.is_none" = true)
    (k27 : PySem.W.keepIn K (.ref f27) = true)
    (a28 : PySem.W.findIn K (.ref C) "is_all" = some (some (.ref f28)))
    (i28 : PySem.W.isFn K (.ref f28) = true)
    (l28 : K.lookup f28 = some ⟨oc28, od28, .func (PySem.W.fnOf "is_all" "Sizes.is_all" (defArgs s_m_is_all) (defBody s_m_is_all) (defScope s_m_is_all) .none kV28 dc28 pm28 an28 cd28 ct28), sl28⟩)
    (c28 : PySem.W.codeIn K cd28 "Sizes.is_all" = true)
    (k28 : PySem.W.keepIn K (.ref f28) = true)
    (a29 : PySem.W.findIn K (.ref C) "is_endless" = some (some (.ref f29)))
    (i29 : PySem.W.isFn K (.ref f29) = true)
    (l29 : K.lookup f29 = some ⟨oc29, od29, .func (PySem.W.fnOf "is_endless" "Sizes.is_endless" (defArgs s_m_is_endless) (defBody s_m_is_endless) (defScope s_m_is_endless) .none kV29 dc29 pm29 an29 cd29 ct29), sl29⟩)
    (c29 : PySem.W.codeIn K cd29 "Sizes.is_endless" = true)
    (k29 : PySem.W.keepIn K (.ref f29) = true)
    (a30 : PySem.W.nsIn K mainGlobals "is_told_row" = some (some (.ref f30)))
    (l30 : K.lookup f30 = some ⟨oc30, od30, .func (PySem.W.fnOf "is_told_row" "is_told_row" (defArgs s_is_told_row) (defBody s_is_told_row) (defScope s_is_told_row) .none kV30 dc30 pm30 an30 cd30 ct30), sl30⟩)
    (c30 : PySem.W.codeIn K cd30 "is_told_row" = true)
    (k30 : PySem.W.keepIn K (.ref f30) = true)
    (a31 : PySem.W.nsIn K mainGlobals "sizes_of_rows" = some (some (.ref f31)))
    (l31 : K.lookup f31 = some ⟨oc31, od31, .func (PySem.W.fnOf "sizes_of_rows" "sizes_of_rows" (defArgs s_sizes_of_rows) (defBody s_sizes_of_rows) (defScope s_sizes_of_rows) .none kV31 dc31 pm31 an31 cd31 ct31), sl31⟩)
    (c31 : PySem.W.codeIn K cd31 "sizes_of_rows" = true)
    (k31 : PySem.W.keepIn K (.ref f31) = true)
    (a32 : PySem.W.nsIn K mainGlobals "_law_draw" = some (some (.ref f32)))
    (l32 : K.lookup f32 = some ⟨oc32, od32, .func (PySem.W.fnOf "_law_draw" "_law_draw" (defArgs s_l_draw) (defBody s_l_draw) (defScope s_l_draw) .none kV32 dc32 pm32 an32 cd32 ct32), sl32⟩)
    (c32 : PySem.W.codeIn K cd32 "_law_draw" = true)
    (k32 : PySem.W.keepIn K (.ref f32) = true)
    (a33 : PySem.W.nsIn K mainGlobals "_law_rule" = some (some (.ref f33)))
    (l33 : K.lookup f33 = some ⟨oc33, od33, .func (PySem.W.fnOf "_law_rule" "_law_rule" (defArgs s_l_rule) (defBody s_l_rule) (defScope s_l_rule) .none kV33 dc33 pm33 an33 cd33 ct33), sl33⟩)
    (c33 : PySem.W.codeIn K cd33 "_law_rule" = true)
    (k33 : PySem.W.keepIn K (.ref f33) = true)
    (a34 : PySem.W.nsIn K mainGlobals "_law_led" = some (some (.ref f34)))
    (l34 : K.lookup f34 = some ⟨oc34, od34, .func (PySem.W.fnOf "_law_led" "_law_led" (defArgs s_l_led) (defBody s_l_led) (defScope s_l_led) .none kV34 dc34 pm34 an34 cd34 ct34), sl34⟩)
    (c34 : PySem.W.codeIn K cd34 "_law_led" = true)
    (k34 : PySem.W.keepIn K (.ref f34) = true)
    (a35 : PySem.W.nsIn K mainGlobals "_law_members" = some (some (.ref f35)))
    (l35 : K.lookup f35 = some ⟨oc35, od35, .func (PySem.W.fnOf "_law_members" "_law_members" (defArgs s_l_members) (defBody s_l_members) (defScope s_l_members) .none kV35 dc35 pm35 an35 cd35 ct35), sl35⟩)
    (c35 : PySem.W.codeIn K cd35 "_law_members" = true)
    (k35 : PySem.W.keepIn K (.ref f35) = true)
    (a36 : PySem.W.nsIn K mainGlobals "_law_is_truth" = some (some (.ref f36)))
    (l36 : K.lookup f36 = some ⟨oc36, od36, .func (PySem.W.fnOf "_law_is_truth" "_law_is_truth" (defArgs s_l_is_truth) (defBody s_l_is_truth) (defScope s_l_is_truth) .none kV36 dc36 pm36 an36 cd36 ct36), sl36⟩)
    (c36 : PySem.W.codeIn K cd36 "_law_is_truth" = true)
    (k36 : PySem.W.keepIn K (.ref f36) = true)
    (a37 : PySem.W.nsIn K mainGlobals "_law_is_int" = some (some (.ref f37)))
    (l37 : K.lookup f37 = some ⟨oc37, od37, .func (PySem.W.fnOf "_law_is_int" "_law_is_int" (defArgs s_l_is_int) (defBody s_l_is_int) (defScope s_l_is_int) .none kV37 dc37 pm37 an37 cd37 ct37), sl37⟩)
    (c37 : PySem.W.codeIn K cd37 "_law_is_int" = true)
    (k37 : PySem.W.keepIn K (.ref f37) = true)
    (a38 : PySem.W.nsIn K mainGlobals "_law_pen" = some (some (.ref f38)))
    (l38 : K.lookup f38 = some ⟨oc38, od38, .func (PySem.W.fnOf "_law_pen" "_law_pen" (defArgs s_l_pen) (defBody s_l_pen) (defScope s_l_pen) .none kV38 dc38 pm38 an38 cd38 ct38), sl38⟩)
    (c38 : PySem.W.codeIn K cd38 "_law_pen" = true)
    (k38 : PySem.W.keepIn K (.ref f38) = true)
    (a39 : PySem.W.nsIn K mainGlobals "_law_big" = some (some (.ref f39)))
    (l39 : K.lookup f39 = some ⟨oc39, od39, .func (PySem.W.fnOf "_law_big" "_law_big" (defArgs s_l_big) (defBody s_l_big) (defScope s_l_big) .none kV39 dc39 pm39 an39 cd39 ct39), sl39⟩)
    (c39 : PySem.W.codeIn K cd39 "_law_big" = true)
    (k39 : PySem.W.keepIn K (.ref f39) = true)
    (a40 : PySem.W.nsIn K mainGlobals "_law_size" = some (some (.ref f40)))
    (l40 : K.lookup f40 = some ⟨oc40, od40, .func (PySem.W.fnOf "_law_size" "_law_size" (defArgs s_l_size) (defBody s_l_size) (defScope s_l_size) .none kV40 dc40 pm40 an40 cd40 ct40), sl40⟩)
    (c40 : PySem.W.codeIn K cd40 "_law_size" = true)
    (k40 : PySem.W.keepIn K (.ref f40) = true)
    (a41 : PySem.W.nsIn K mainGlobals "_law_next_right" = some (some (.ref f41)))
    (l41 : K.lookup f41 = some ⟨oc41, od41, .func (PySem.W.fnOf "_law_next_right" "_law_next_right" (defArgs s_l_next_right) (defBody s_l_next_right) (defScope s_l_next_right) .none kV41 dc41 pm41 an41 cd41 ct41), sl41⟩)
    (c41 : PySem.W.codeIn K cd41 "_law_next_right" = true)
    (k41 : PySem.W.keepIn K (.ref f41) = true)
    (a42 : PySem.W.nsIn K mainGlobals "_law_last_right" = some (some (.ref f42)))
    (l42 : K.lookup f42 = some ⟨oc42, od42, .func (PySem.W.fnOf "_law_last_right" "_law_last_right" (defArgs s_l_last_right) (defBody s_l_last_right) (defScope s_l_last_right) .none kV42 dc42 pm42 an42 cd42 ct42), sl42⟩)
    (c42 : PySem.W.codeIn K cd42 "_law_last_right" = true)
    (k42 : PySem.W.keepIn K (.ref f42) = true)
    (a43 : PySem.W.nsIn K mainGlobals "_law_ends_right" = some (some (.ref f43)))
    (l43 : K.lookup f43 = some ⟨oc43, od43, .func (PySem.W.fnOf "_law_ends_right" "_law_ends_right" (defArgs s_l_ends_right) (defBody s_l_ends_right) (defScope s_l_ends_right) .none kV43 dc43 pm43 an43 cd43 ct43), sl43⟩)
    (c43 : PySem.W.codeIn K cd43 "_law_ends_right" = true)
    (k43 : PySem.W.keepIn K (.ref f43) = true)
    (a44 : PySem.W.nsIn K mainGlobals "law" = some (some (.ref f44)))
    (l44 : K.lookup f44 = some ⟨oc44, od44, .func (PySem.W.fnOf "law" "law" (defArgs s_law) (defBody s_law) (defScope s_law) .none kV44 dc44 pm44 an44 cd44 ct44), sl44⟩)
    (c44 : PySem.W.codeIn K cd44 "law" = true)
    (k44 : PySem.W.keepIn K (.ref f44) = true)
    (pg : PySem.W.plainGet K C Str.empty = true)
    (hd : PySem.W.hasDictIn K C = true)
    (po : PySem.W.plainOver K C = true)
    (sa : PySem.W.findIn K (.ref C) "__setattr__" = some (some (.builtin "object.__setattr__")))
    (mk : PySem.W.makesIn K C = true)
    (kc : PySem.W.keepIn K (.ref C) = true)
    (nA : PySem.W.findIn K (.ref C) "digit_rows" = some none)
    (iha : PySem.W.findIn K (.ref C) "__class__" = some (some (.builtin "object.__class__")))
    (ihn : PySem.W.specialIn K (.builtin "object.__class__") "__get__" = some (some (.builtin "getset_descriptor.__get__")))
    (iht : PySem.W.takesIn K (.builtin "object.__class__") = some true)
    (ihm : PySem.W.mroIn K C (.type "object") = some true)
    (aR : PySem.W.nsIn K mainGlobals "MOST_ROWS" = some (some (.int 400 tkR)))
    (aT : PySem.W.nsIn K mainGlobals "MOST_TOLD" = some (some (.int 64 tkT)))
    (aA : PySem.W.nsIn K mainGlobals "ALL_ROWS" = some (some (.ref pA)))
    (aN : PySem.W.nsIn K mainGlobals "NO_ROWS" = some (some (.ref pN)))
    (lA : K.lookup pA = some ⟨.type "tuple", oo0, .seq #[.ref pA0, .ref pA1] nn0, ss0⟩)
    (lA0 : K.lookup pA0 = some ⟨.type "tuple", oo1, .seq #[.int 0 w0, .int 1 w1, .int 0 w2] nn1, ss1⟩)
    (lA1 : K.lookup pA1 = some ⟨.type "tuple", oo2, .seq #[.int 1 w3, .int 1 w4, .int 1 w5] nn2, ss2⟩)
    (lN : K.lookup pN = some ⟨.type "tuple", oo3, .seq #[.ref pN0] nn3, ss3⟩)
    (lN0 : K.lookup pN0 = some ⟨.type "tuple", oo4, .seq #[.int 0 w6, .int 0 w7, .int 0 w8] nn4, ss4⟩)
    (z_len : PySem.W.nsIn K mainGlobals "len" = some none)
    (z_range : PySem.W.nsIn K mainGlobals "range" = some none)
    (z_enumerate : PySem.W.nsIn K mainGlobals "enumerate" = some none)
    (z_reversed : PySem.W.nsIn K mainGlobals "reversed" = some none)
    (z_list : PySem.W.nsIn K mainGlobals "list" = some none)
    (z_tuple : PySem.W.nsIn K mainGlobals "tuple" = some none)
    (z_sorted : PySem.W.nsIn K mainGlobals "sorted" = some none)
    (z_any : PySem.W.nsIn K mainGlobals "any" = some none)
    (z_all : PySem.W.nsIn K mainGlobals "all" = some none)
    (z_isinstance : PySem.W.nsIn K mainGlobals "isinstance" = some none)
    (z_int : PySem.W.nsIn K mainGlobals "int" = some none)
    (z_bool : PySem.W.nsIn K mainGlobals "bool" = some none)
    (z_str : PySem.W.nsIn K mainGlobals "str" = some none)
    (z_min : PySem.W.nsIn K mainGlobals "min" = some none)
    (z_max : PySem.W.nsIn K mainGlobals "max" = some none) :
    ∃ fd : FuncData, (∀ (s : Shared) (v : Value), BindsTo s fd ⟨[v], []⟩ [("_law_script", v)]) ∧ ∀ base : Heap, K.In base → base.Ns mainGlobals mg → FnOk P w K mg base CX0 7 fa fd ["_law_script"] (sp_law K) := by
  have e := hfa.symm.trans (PySem.W.mg_of X G a44)
  have e2 : f44 = fa := (Value.ref.inj (Option.some.inj e)).symm
  subst e2
  obtain ⟨tk, hM⟩ := hM
  have oA : ∀ H, RowsT K H pA [(0, 1, 0), (1, 1, 1)] := fun H => ⟨[.ref pA0, .ref pA1], sqt_const lA (by show 2 ≤ sizeLine; decide) (.cons rfl (.cons rfl .nil)), rfl, fun i r hr => by
    have hl := lt_get hr
    match i, r, hr with
    | 0, _, rfl => exact ⟨pA0, rfl, row_const lA0⟩
    | 1, _, rfl => exact ⟨pA1, rfl, row_const lA1⟩⟩
  have oN : ∀ H, RowsT K H pN [(0, 0, 0)] := fun H => ⟨[.ref pN0], sqt_const lN (by show 1 ≤ sizeLine; decide) (.cons rfl .nil), rfl, fun i r hr => by
    have hl := lt_get hr
    match i, r, hr with
    | 0, _, rfl => exact ⟨pN0, rfl, row_const lN0⟩⟩
  let T : Txt K mg := {
    C := C, cl := ⟨pg, hd, po, sa⟩, nA := nA, i_ha := iha, i_hn := ihn, i_htk := iht, i_hm := ihm, g_Sizes := PySem.W.mg_of X G aC, M_Sizes := ⟨mk, a21, i21, kc⟩, tk1 := tk, tk2 := tkR, tk3 := tkT, g_MOST := hM, g_MOST_ROWS := PySem.W.mg_of X G aR, g_MOST_TOLD := PySem.W.mg_of X G aT,
    a_ALL := pA, a_NO := pN, g_ALL_ROWS := PySem.W.mg_of X G aA, g_NO_ROWS := PySem.W.mg_of X G aN, ok_ALL := oA, ok_NO := oN,
    a_digits_of := f0, d_digits_of := _, F_digits_of := fun_mk (st := s_digits_of) l0 c0 k0, b_digits_of := (fun_mk (st := s_digits_of) l0 c0 k0).binds (ps := ["number"]) fun _ _ _ _ _ _ us hl => match us, hl with | [_], _ => rfl,
    g_digits_of := PySem.W.mg_of X G a0,
    a_number_of := f1, d_number_of := _, F_number_of := fun_mk (st := s_number_of) l1 c1 k1, b_number_of := (fun_mk (st := s_number_of) l1 c1 k1).binds (ps := ["digits"]) fun _ _ _ _ _ _ us hl => match us, hl with | [_], _ => rfl,
    g_number_of := PySem.W.mg_of X G a1,
    a_order_of := f2, d_order_of := _, F_order_of := fun_mk (st := s_order_of) l2 c2 k2, b_order_of := (fun_mk (st := s_order_of) l2 c2 k2).binds (ps := ["rows", "start"]) fun _ _ _ _ _ _ us hl => match us, hl with | [_, _], _ => rfl,
    g_order_of := PySem.W.mg_of X G a2,
    a_sources_of := f3, d_sources_of := _, F_sources_of := fun_mk (st := s_sources_of) l3 c3 k3, b_sources_of := (fun_mk (st := s_sources_of) l3 c3 k3).binds (ps := ["rows"]) fun _ _ _ _ _ _ us hl => match us, hl with | [_], _ => rfl,
    g_sources_of := PySem.W.mg_of X G a3,
    a_blocks_of := f4, d_blocks_of := _, F_blocks_of := fun_mk (st := s_blocks_of) l4 c4 k4, b_blocks_of := (fun_mk (st := s_blocks_of) l4 c4 k4).binds (ps := ["rows"]) fun _ _ _ _ _ _ us hl => match us, hl with | [_], _ => rfl,
    g_blocks_of := PySem.W.mg_of X G a4,
    a_least_rows := f5, d_least_rows := _, F_least_rows := fun_mk (st := s_least_rows) l5 c5 k5, b_least_rows := (fun_mk (st := s_least_rows) l5 c5 k5).binds (ps := ["rows", "start"]) fun _ _ _ _ _ _ us hl => match us, hl with | [_, _], _ => rfl,
    g_least_rows := PySem.W.mg_of X G a5,
    a_told_rows := f6, d_told_rows := _, F_told_rows := fun_mk (st := s_told_rows) l6 c6 k6, b_told_rows := (fun_mk (st := s_told_rows) l6 c6 k6).binds (ps := ["rows", "start"]) fun _ _ _ _ _ _ us hl => match us, hl with | [_, _], _ => rfl,
    g_told_rows := PySem.W.mg_of X G a6,
    a_paired_rows := f7, d_paired_rows := _, F_paired_rows := fun_mk (st := s_paired_rows) l7 c7 k7, b_paired_rows := (fun_mk (st := s_paired_rows) l7 c7 k7).binds (ps := ["one", "other", "rule"]) fun _ _ _ _ _ _ us hl => match us, hl with | [_, _, _], _ => rfl,
    g_paired_rows := PySem.W.mg_of X G a7,
    a_ahead_of := f8, d_ahead_of := _, F_ahead_of := fun_mk (st := s_ahead_of) l8 c8 k8, b_ahead_of := (fun_mk (st := s_ahead_of) l8 c8 k8).binds (ps := ["rows", "many"]) fun _ _ _ _ _ _ us hl => match us, hl with | [_, _], _ => rfl,
    g_ahead_of := PySem.W.mg_of X G a8,
    a_before := f9, d_before := _, F_before := fun_mk (st := s_before) l9 c9 k9, b_before := (fun_mk (st := s_before) l9 c9 k9).binds (ps := ["rows", "flags", "digit"]) fun _ _ _ _ _ _ us hl => match us, hl with | [_, _, _], _ => rfl,
    g_before := PySem.W.mg_of X G a9,
    a_meets := f10, d_meets := _, F_meets := fun_mk (st := s_meets) l10 c10 k10, b_meets := (fun_mk (st := s_meets) l10 c10 k10).binds (ps := ["classes", "flags"]) fun _ _ _ _ _ _ us hl => match us, hl with | [_, _], _ => rfl,
    g_meets := PySem.W.mg_of X G a10,
    a_goals_of := f11, d_goals_of := _, F_goals_of := fun_mk (st := s_goals_of) l11 c11 k11, b_goals_of := (fun_mk (st := s_goals_of) l11 c11 k11).binds (ps := ["rows", "digits"]) fun _ _ _ _ _ _ us hl => match us, hl with | [_, _], _ => rfl,
    g_goals_of := PySem.W.mg_of X G a11,
    a_low_digits := f12, d_low_digits := _, F_low_digits := fun_mk (st := s_low_digits) l12 c12 k12, b_low_digits := (fun_mk (st := s_low_digits) l12 c12 k12).binds (ps := ["rows", "ahead", "flags", "many", "first"]) fun _ _ _ _ _ _ us hl => match us, hl with | [_, _, _, _, _], _ => rfl,
    g_low_digits := PySem.W.mg_of X G a12,
    a_least_of_length := f13, d_least_of_length := _, F_least_of_length := fun_mk (st := s_least_of_length) l13 c13 k13, b_least_of_length := (fun_mk (st := s_least_of_length) l13 c13 k13).binds (ps := ["rows", "ahead", "length", "first"]) fun _ _ _ _ _ _ us hl => match us, hl with | [_, _, _, _], _ => rfl,
    g_least_of_length := PySem.W.mg_of X G a13,
    a_next_number := f14, d_next_number := _, F_next_number := fun_mk (st := s_next_number) l14 c14 k14, b_next_number := (fun_mk (st := s_next_number) l14 c14 k14).binds (ps := ["rows", "number"]) fun _ _ _ _ _ _ us hl => match us, hl with | [_, _], _ => rfl,
    g_next_number := PySem.W.mg_of X G a14,
    a_last_number := f15, d_last_number := _, F_last_number := fun_mk (st := s_last_number) l15 c15 k15, b_last_number := (fun_mk (st := s_last_number) l15 c15 k15).binds (ps := ["rows", "number"]) fun _ _ _ _ _ _ us hl => match us, hl with | [_, _], _ => rfl,
    g_last_number := PySem.W.mg_of X G a15,
    a_has_endless := f16, d_has_endless := _, F_has_endless := fun_mk (st := s_has_endless) l16 c16 k16, b_has_endless := (fun_mk (st := s_has_endless) l16 c16 k16).binds (ps := ["rows"]) fun _ _ _ _ _ _ us hl => match us, hl with | [_], _ => rfl,
    g_has_endless := PySem.W.mg_of X G a16,
    a_greatest_number := f17, d_greatest_number := _, F_greatest_number := fun_mk (st := s_greatest_number) l17 c17 k17, b_greatest_number := (fun_mk (st := s_greatest_number) l17 c17 k17).binds (ps := ["rows"]) fun _ _ _ _ _ _ us hl => match us, hl with | [_], _ => rfl,
    g_greatest_number := PySem.W.mg_of X G a17,
    a_is_integer := f18, d_is_integer := _, F_is_integer := fun_mk (st := s_is_integer) l18 c18 k18, b_is_integer := (fun_mk (st := s_is_integer) l18 c18 k18).binds (ps := ["number"]) fun _ _ _ _ _ _ us hl => match us, hl with | [_], _ => rfl,
    g_is_integer := PySem.W.mg_of X G a18,
    a_is_size := f19, d_is_size := _, F_is_size := fun_mk (st := s_is_size) l19 c19 k19, b_is_size := (fun_mk (st := s_is_size) l19 c19 k19).binds (ps := ["size"]) fun _ _ _ _ _ _ us hl => match us, hl with | [_], _ => rfl,
    g_is_size := PySem.W.mg_of X G a19,
    a_need_size := f20, d_need_size := _, F_need_size := fun_mk (st := s_need_size) l20 c20 k20, b_need_size := (fun_mk (st := s_need_size) l20 c20 k20).binds (ps := ["value"]) fun _ _ _ _ _ _ us hl => match us, hl with | [_], _ => rfl,
    g_need_size := PySem.W.mg_of X G a20,
    a_init := f21, d_init := _, F_init := fun_mk (st := s_init) l21 c21 k21, b_init := (fun_mk (st := s_init) l21 c21 k21).binds (ps := ["self", "digit_rows"]) fun _ _ _ _ _ _ us hl => match us, hl with | [_, _], _ => rfl,
    a_m_least := f22, d_m_least := _, F_m_least := fun_mk (st := s_m_least) l22 c22 k22, b_m_least := (fun_mk (st := s_m_least) l22 c22 k22).binds (ps := ["self"]) fun _ _ _ _ _ _ us hl => match us, hl with | [_], _ => rfl,
    t_least := ⟨a22, i22, k22⟩,
    a_m_greatest := f23, d_m_greatest := _, F_m_greatest := fun_mk (st := s_m_greatest) l23 c23 k23, b_m_greatest := (fun_mk (st := s_m_greatest) l23 c23 k23).binds (ps := ["self"]) fun _ _ _ _ _ _ us hl => match us, hl with | [_], _ => rfl,
    t_greatest := ⟨a23, i23, k23⟩,
    a_m_next_from := f24, d_m_next_from := _, F_m_next_from := fun_mk (st := s_m_next_from) l24 c24 k24, b_m_next_from := (fun_mk (st := s_m_next_from) l24 c24 k24).binds (ps := ["self", "k"]) fun _ _ _ _ _ _ us hl => match us, hl with | [_, _], _ => rfl,
    t_next_from := ⟨a24, i24, k24⟩,
    a_m_last_upto := f25, d_m_last_upto := _, F_m_last_upto := fun_mk (st := s_m_last_upto) l25 c25 k25, b_m_last_upto := (fun_mk (st := s_m_last_upto) l25 c25 k25).binds (ps := ["self", "k"]) fun _ _ _ _ _ _ us hl => match us, hl with | [_, _], _ => rfl,
    t_last_upto := ⟨a25, i25, k25⟩,
    a_m_from_on := f26, d_m_from_on := _, F_m_from_on := fun_mk (st := s_m_from_on) l26 c26 k26, b_m_from_on := (fun_mk (st := s_m_from_on) l26 c26 k26).binds (ps := ["self"]) fun _ _ _ _ _ _ us hl => match us, hl with | [_], _ => rfl,
    t_from_on := ⟨a26, i26, k26⟩,
    a_m_is_none := f27, d_m_is_none := _, F_m_is_none := fun_mk (st := s_m_is_none) l27 c27 k27, b_m_is_none := (fun_mk (st := s_m_is_none) l27 c27 k27).binds (ps := ["self"]) fun _ _ _ _ _ _ us hl => match us, hl with | [_], _ => rfl,
    t_is_none := ⟨a27, i27, k27⟩,
    a_m_is_all := f28, d_m_is_all := _, F_m_is_all := fun_mk (st := s_m_is_all) l28 c28 k28, b_m_is_all := (fun_mk (st := s_m_is_all) l28 c28 k28).binds (ps := ["self"]) fun _ _ _ _ _ _ us hl => match us, hl with | [_], _ => rfl,
    t_is_all := ⟨a28, i28, k28⟩,
    a_m_is_endless := f29, d_m_is_endless := _, F_m_is_endless := fun_mk (st := s_m_is_endless) l29 c29 k29, b_m_is_endless := (fun_mk (st := s_m_is_endless) l29 c29 k29).binds (ps := ["self"]) fun _ _ _ _ _ _ us hl => match us, hl with | [_], _ => rfl,
    t_is_endless := ⟨a29, i29, k29⟩,
    a_is_told_row := f30, d_is_told_row := _, F_is_told_row := fun_mk (st := s_is_told_row) l30 c30 k30, b_is_told_row := (fun_mk (st := s_is_told_row) l30 c30 k30).binds (ps := ["row", "many"]) fun _ _ _ _ _ _ us hl => match us, hl with | [_, _], _ => rfl,
    g_is_told_row := PySem.W.mg_of X G a30,
    a_sizes_of_rows := f31, d_sizes_of_rows := _, F_sizes_of_rows := fun_mk (st := s_sizes_of_rows) l31 c31 k31, b_sizes_of_rows := (fun_mk (st := s_sizes_of_rows) l31 c31 k31).binds (ps := ["rows"]) fun _ _ _ _ _ _ us hl => match us, hl with | [_], _ => rfl,
    g_sizes_of_rows := PySem.W.mg_of X G a31,
    a_l_draw := f32, d_l_draw := _, F_l_draw := fun_mk (st := s_l_draw) l32 c32 k32, b_l_draw := (fun_mk (st := s_l_draw) l32 c32 k32).binds (ps := ["_law_pen_here", "_law_many"]) fun _ _ _ _ _ _ us hl => match us, hl with | [_, _], _ => rfl,
    g_l_draw := PySem.W.mg_of X G a32,
    a_l_rule := f33, d_l_rule := _, F_l_rule := fun_mk (st := s_l_rule) l33 c33 k33, b_l_rule := (fun_mk (st := s_l_rule) l33 c33 k33).binds (ps := ["_law_pen_here", "_law_most"]) fun _ _ _ _ _ _ us hl => match us, hl with | [_, _], _ => rfl,
    g_l_rule := PySem.W.mg_of X G a33,
    a_l_led := f34, d_l_led := _, F_l_led := fun_mk (st := s_l_led) l34 c34 k34, b_l_led := (fun_mk (st := s_l_led) l34 c34 k34).binds (ps := ["_law_rows", "_law_start", "_law_number"]) fun _ _ _ _ _ _ us hl => match us, hl with | [_, _, _], _ => rfl,
    g_l_led := PySem.W.mg_of X G a34,
    a_l_members := f35, d_l_members := _, F_l_members := fun_mk (st := s_l_members) l35 c35 k35, b_l_members := (fun_mk (st := s_l_members) l35 c35 k35).binds (ps := ["_law_rows", "_law_start", "_law_number"]) fun _ _ _ _ _ _ us hl => match us, hl with | [_, _, _], _ => rfl,
    g_l_members := PySem.W.mg_of X G a35,
    a_l_is_truth := f36, d_l_is_truth := _, F_l_is_truth := fun_mk (st := s_l_is_truth) l36 c36 k36, b_l_is_truth := (fun_mk (st := s_l_is_truth) l36 c36 k36).binds (ps := ["_law_value", "_law_due"]) fun _ _ _ _ _ _ us hl => match us, hl with | [_, _], _ => rfl,
    g_l_is_truth := PySem.W.mg_of X G a36,
    a_l_is_int := f37, d_l_is_int := _, F_l_is_int := fun_mk (st := s_l_is_int) l37 c37 k37, b_l_is_int := (fun_mk (st := s_l_is_int) l37 c37 k37).binds (ps := ["_law_value"]) fun _ _ _ _ _ _ us hl => match us, hl with | [_], _ => rfl,
    g_l_is_int := PySem.W.mg_of X G a37,
    a_l_pen := f38, d_l_pen := _, F_l_pen := fun_mk (st := s_l_pen) l38 c38 k38, b_l_pen := (fun_mk (st := s_l_pen) l38 c38 k38).binds (ps := ["_law_script"]) fun _ _ _ _ _ _ us hl => match us, hl with | [_], _ => rfl,
    g_l_pen := PySem.W.mg_of X G a38,
    a_l_big := f39, d_l_big := _, F_l_big := fun_mk (st := s_l_big) l39 c39 k39, b_l_big := (fun_mk (st := s_l_big) l39 c39 k39).binds (ps := ["_law_pen_here", "_law_many"]) fun _ _ _ _ _ _ us hl => match us, hl with | [_, _], _ => rfl,
    g_l_big := PySem.W.mg_of X G a39,
    a_l_size := f40, d_l_size := _, F_l_size := fun_mk (st := s_l_size) l40 c40 k40, b_l_size := (fun_mk (st := s_l_size) l40 c40 k40).binds (ps := ["_law_pen_here"]) fun _ _ _ _ _ _ us hl => match us, hl with | [_], _ => rfl,
    g_l_size := PySem.W.mg_of X G a40,
    a_l_next_right := f41, d_l_next_right := _, F_l_next_right := fun_mk (st := s_l_next_right) l41 c41 k41, b_l_next_right := (fun_mk (st := s_l_next_right) l41 c41 k41).binds (ps := ["_law_rows", "_law_told", "_law_k"]) fun _ _ _ _ _ _ us hl => match us, hl with | [_, _, _], _ => rfl,
    g_l_next_right := PySem.W.mg_of X G a41,
    a_l_last_right := f42, d_l_last_right := _, F_l_last_right := fun_mk (st := s_l_last_right) l42 c42 k42, b_l_last_right := (fun_mk (st := s_l_last_right) l42 c42 k42).binds (ps := ["_law_rows", "_law_told", "_law_k"]) fun _ _ _ _ _ _ us hl => match us, hl with | [_, _, _], _ => rfl,
    g_l_last_right := PySem.W.mg_of X G a42,
    a_l_ends_right := f43, d_l_ends_right := _, F_l_ends_right := fun_mk (st := s_l_ends_right) l43 c43 k43, b_l_ends_right := (fun_mk (st := s_l_ends_right) l43 c43 k43).binds (ps := ["_law_rows", "_law_found"]) fun _ _ _ _ _ _ us hl => match us, hl with | [_, _], _ => rfl,
    g_l_ends_right := PySem.W.mg_of X G a43,
    a_law := f44, d_law := _, F_law := fun_mk (st := s_law) l44 c44 k44, b_law := (fun_mk (st := s_law) l44 c44 k44).binds (ps := ["_law_script"]) fun _ _ _ _ _ _ us hl => match us, hl with | [_], _ => rfl,
    g_law := PySem.W.mg_of X G a44,
    n_len := PySem.W.mg_none_of X G z_len, n_range := PySem.W.mg_none_of X G z_range, n_enumerate := PySem.W.mg_none_of X G z_enumerate, n_reversed := PySem.W.mg_none_of X G z_reversed, n_list := PySem.W.mg_none_of X G z_list, n_tuple := PySem.W.mg_none_of X G z_tuple, n_sorted := PySem.W.mg_none_of X G z_sorted, n_any := PySem.W.mg_none_of X G z_any, n_all := PySem.W.mg_none_of X G z_all, n_isinstance := PySem.W.mg_none_of X G z_isinstance, n_int := PySem.W.mg_none_of X G z_int, n_bool := PySem.W.mg_none_of X G z_bool, n_str := PySem.W.mg_none_of X G z_str, n_min := PySem.W.mg_none_of X G z_min, n_max := PySem.W.mg_none_of X G z_max }
  exact ⟨PySem.W.fnOf "law" "law" (defArgs s_law) (defBody s_law) (defScope s_law) .none kV44 dc44 pm44 an44 cd44 ct44, fun s v => .of_eq rfl, fun base _ _ => ok_law T⟩

theorem walk36 {q : Program} {loose : List Str} {XP : (Str → Option Value) → Heap → Prop} {YP : World → Heap → Prop} {d : DefRec} {K : Params → PySem.W.Frag} (hd : d.params.defaults = [])
    (hY : ∀ (w : World) (h : Heap), YP w h → (K w.params).In h)
    (F : ∀ (w : World) (mg : Str → Option Value) (fa : Addr) (h : Heap), (K w.params).In h → XP mg h → h.Ns mainGlobals mg → mg d.name = some (.ref fa) →
      ∃ fd : FuncData, (∀ (s : Shared) (u : Value), BindsTo s fd ⟨[u], []⟩ [("_law_script", u)]) ∧ ∀ base : Heap, (K w.params).In base → base.Ns mainGlobals mg → FnOk PySem.Challenge.rw_allwordlengths_k36_whole_sizes_beside_a.prog w (K w.params) mg base CX0 7 fa fd ["_law_script"] (sp_law (K w.params))) :
    PySem.W.WalkO q loose XP YP PySem.Challenge.rw_allwordlengths_k36_whole_sizes_beside_a.row.toRowW d [] (fun f vs => PySem.call f vs) := by
  refine Att.attach_callB (l := PySem.Challenge.rw_allwordlengths_k36_whole_sizes_beside_a) (n := 63) rfl hd fun w t u g b f ob p c dc a us ns Gr Y e1 e2 e3 e4 e5 e6 e7 _ e8 => ?_
  obtain ⟨fd, hb, hF⟩ := F w g f _ (hY w _ Y) Gr.X Gr.T.g e4
  refine law_call (sp := sp_law (K w.params)) (hY w _ Y) Gr.T.g Gr.T.b Gr.T.builtins Gr.T.nolimit e8 e5 e6 (Nat.le_trans e7 (by decide)) ⟨rfl, by decide, by decide⟩ hF hb (fun H _ hS => ⟨a, ns, rfl, hS, fun _ => rfl⟩) fun _ _ _ z => z
theorem most_of {q : Program} {mg : Str → Option Value} {h : Heap} (x : PySem.W.XL q [(Str.ofString "MOST", PySem.W.WData.int 1000000000000000000000000000000)] mg h) : ∃ t, mg "MOST" = some (.int (10 ^ 30) t) := by
  obtain ⟨v, a, b⟩ := x.2.val _ List.mem_cons_self
  cases b with
  | int i t => exact ⟨t, a⟩
end W36
end

section
open PySem PySem.W PyProof.Rows
set_option maxRecDepth 100000
set_option maxHeartbeats 0
open_top hd for PySem.Challenge.rw_allwordlengths_k36_whole_sizes_beside_a
end

open PySem PySem.W PyProof.Rows in
set_option maxRecDepth 100000 in
set_option maxHeartbeats 0 in
theorem PySem.Challenge.cw_allwordlengths_k36_whole_sizes_beside_a_holds : PySem.Challenge.rw_allwordlengths_k36_whole_sizes_beside_a.Holds := by
  refine hd ?_
  k_fill
  refine W36.walk36 rfl (fun w h Y => PySem.W.kIn_of Y) ?F
  case F =>
    intro w mg fa h KX xp G hmg
    refine' W36.all_mk KX G (W36.most_of xp) hmg ?aC ?a0 ?l0 ?c0 ?k0 ?a1 ?l1 ?c1 ?k1 ?a2 ?l2 ?c2 ?k2 ?a3 ?l3 ?c3 ?k3 ?a4 ?l4 ?c4 ?k4 ?a5 ?l5 ?c5 ?k5 ?a6 ?l6 ?c6 ?k6 ?a7 ?l7 ?c7 ?k7 ?a8 ?l8 ?c8 ?k8 ?a9 ?l9 ?c9 ?k9 ?a10 ?l10 ?c10 ?k10 ?a11 ?l11 ?c11 ?k11 ?a12 ?l12 ?c12 ?k12 ?a13 ?l13 ?c13 ?k13 ?a14 ?l14 ?c14 ?k14 ?a15 ?l15 ?c15 ?k15 ?a16 ?l16 ?c16 ?k16 ?a17 ?l17 ?c17 ?k17 ?a18 ?l18 ?c18 ?k18 ?a19 ?l19 ?c19 ?k19 ?a20 ?l20 ?c20 ?k20 ?a21 ?i21 ?l21 ?c21 ?k21 ?a22 ?i22 ?l22 ?c22 ?k22 ?a23 ?i23 ?l23 ?c23 ?k23 ?a24 ?i24 ?l24 ?c24 ?k24 ?a25 ?i25 ?l25 ?c25 ?k25 ?a26 ?i26 ?l26 ?c26 ?k26 ?a27 ?i27 ?l27 ?c27 ?k27 ?a28 ?i28 ?l28 ?c28 ?k28 ?a29 ?i29 ?l29 ?c29 ?k29 ?a30 ?l30 ?c30 ?k30 ?a31 ?l31 ?c31 ?k31 ?a32 ?l32 ?c32 ?k32 ?a33 ?l33 ?c33 ?k33 ?a34 ?l34 ?c34 ?k34 ?a35 ?l35 ?c35 ?k35 ?a36 ?l36 ?c36 ?k36 ?a37 ?l37 ?c37 ?k37 ?a38 ?l38 ?c38 ?k38 ?a39 ?l39 ?c39 ?k39 ?a40 ?l40 ?c40 ?k40 ?a41 ?l41 ?c41 ?k41 ?a42 ?l42 ?c42 ?k42 ?a43 ?l43 ?c43 ?k43 ?a44 ?l44 ?c44 ?k44 ?pg ?hd ?po ?sa ?mk ?kc ?nA ?iha ?ihn ?iht ?ihm ?aR ?aT ?aA ?aN ?lA ?lA0 ?lA1 ?lN ?lN0 ?z_len ?z_range ?z_enumerate ?z_reversed ?z_list ?z_tuple ?z_sorted ?z_any ?z_all ?z_isinstance ?z_int ?z_bool ?z_str ?z_min ?z_max
    (case aC => k_is)
    (case a0 => k_is)
    (case l0 => k_is)
    (case c0 => k_is)
    (case k0 => k_is)
    (case a1 => k_is)
    (case l1 => k_is)
    (case c1 => k_is)
    (case k1 => k_is)
    (case a2 => k_is)
    (case l2 => k_is)
    (case c2 => k_is)
    (case k2 => k_is)
    (case a3 => k_is)
    (case l3 => k_is)
    (case c3 => k_is)
    (case k3 => k_is)
    (case a4 => k_is)
    (case l4 => k_is)
    (case c4 => k_is)
    (case k4 => k_is)
    (case a5 => k_is)
    (case l5 => k_is)
    (case c5 => k_is)
    (case k5 => k_is)
    (case a6 => k_is)
    (case l6 => k_is)
    (case c6 => k_is)
    (case k6 => k_is)
    (case a7 => k_is)
    (case l7 => k_is)
    (case c7 => k_is)
    (case k7 => k_is)
    (case a8 => k_is)
    (case l8 => k_is)
    (case c8 => k_is)
    (case k8 => k_is)
    (case a9 => k_is)
    (case l9 => k_is)
    (case c9 => k_is)
    (case k9 => k_is)
    (case a10 => k_is)
    (case l10 => k_is)
    (case c10 => k_is)
    (case k10 => k_is)
    (case a11 => k_is)
    (case l11 => k_is)
    (case c11 => k_is)
    (case k11 => k_is)
    (case a12 => k_is)
    (case l12 => k_is)
    (case c12 => k_is)
    (case k12 => k_is)
    (case a13 => k_is)
    (case l13 => k_is)
    (case c13 => k_is)
    (case k13 => k_is)
    (case a14 => k_is)
    (case l14 => k_is)
    (case c14 => k_is)
    (case k14 => k_is)
    (case a15 => k_is)
    (case l15 => k_is)
    (case c15 => k_is)
    (case k15 => k_is)
    (case a16 => k_is)
    (case l16 => k_is)
    (case c16 => k_is)
    (case k16 => k_is)
    (case a17 => k_is)
    (case l17 => k_is)
    (case c17 => k_is)
    (case k17 => k_is)
    (case a18 => k_is)
    (case l18 => k_is)
    (case c18 => k_is)
    (case k18 => k_is)
    (case a19 => k_is)
    (case l19 => k_is)
    (case c19 => k_is)
    (case k19 => k_is)
    (case a20 => k_is)
    (case l20 => k_is)
    (case c20 => k_is)
    (case k20 => k_is)
    (case a21 => k_is)
    (case i21 => k_is)
    (case l21 => k_is)
    (case c21 => k_is)
    (case k21 => k_is)
    (case a22 => k_is)
    (case i22 => k_is)
    (case l22 => k_is)
    (case c22 => k_is)
    (case k22 => k_is)
    (case a23 => k_is)
    (case i23 => k_is)
    (case l23 => k_is)
    (case c23 => k_is)
    (case k23 => k_is)
    (case a24 => k_is)
    (case i24 => k_is)
    (case l24 => k_is)
    (case c24 => k_is)
    (case k24 => k_is)
    (case a25 => k_is)
    (case i25 => k_is)
    (case l25 => k_is)
    (case c25 => k_is)
    (case k25 => k_is)
    (case a26 => k_is)
    (case i26 => k_is)
    (case l26 => k_is)
    (case c26 => k_is)
    (case k26 => k_is)
    (case a27 => k_is)
    (case i27 => k_is)
    (case l27 => k_is)
    (case c27 => k_is)
    (case k27 => k_is)
    (case a28 => k_is)
    (case i28 => k_is)
    (case l28 => k_is)
    (case c28 => k_is)
    (case k28 => k_is)
    (case a29 => k_is)
    (case i29 => k_is)
    (case l29 => k_is)
    (case c29 => k_is)
    (case k29 => k_is)
    (case a30 => k_is)
    (case l30 => k_is)
    (case c30 => k_is)
    (case k30 => k_is)
    (case a31 => k_is)
    (case l31 => k_is)
    (case c31 => k_is)
    (case k31 => k_is)
    (case a32 => k_is)
    (case l32 => k_is)
    (case c32 => k_is)
    (case k32 => k_is)
    (case a33 => k_is)
    (case l33 => k_is)
    (case c33 => k_is)
    (case k33 => k_is)
    (case a34 => k_is)
    (case l34 => k_is)
    (case c34 => k_is)
    (case k34 => k_is)
    (case a35 => k_is)
    (case l35 => k_is)
    (case c35 => k_is)
    (case k35 => k_is)
    (case a36 => k_is)
    (case l36 => k_is)
    (case c36 => k_is)
    (case k36 => k_is)
    (case a37 => k_is)
    (case l37 => k_is)
    (case c37 => k_is)
    (case k37 => k_is)
    (case a38 => k_is)
    (case l38 => k_is)
    (case c38 => k_is)
    (case k38 => k_is)
    (case a39 => k_is)
    (case l39 => k_is)
    (case c39 => k_is)
    (case k39 => k_is)
    (case a40 => k_is)
    (case l40 => k_is)
    (case c40 => k_is)
    (case k40 => k_is)
    (case a41 => k_is)
    (case l41 => k_is)
    (case c41 => k_is)
    (case k41 => k_is)
    (case a42 => k_is)
    (case l42 => k_is)
    (case c42 => k_is)
    (case k42 => k_is)
    (case a43 => k_is)
    (case l43 => k_is)
    (case c43 => k_is)
    (case k43 => k_is)
    (case a44 => k_is)
    (case l44 => k_is)
    (case c44 => k_is)
    (case k44 => k_is)
    (case pg => k_is)
    (case hd => k_is)
    (case po => k_is)
    (case sa => k_is)
    (case mk => k_is)
    (case kc => k_is)
    (case nA => k_is)
    (case iha => k_is)
    (case ihn => k_is)
    (case iht => k_is)
    (case ihm => k_is)
    (case aR => k_is)
    (case aT => k_is)
    (case aA => k_is)
    (case aN => k_is)
    (case lA => k_is)
    (case lA0 => k_is)
    (case lA1 => k_is)
    (case lN => k_is)
    (case lN0 => k_is)
    (case z_len => k_is)
    (case z_range => k_is)
    (case z_enumerate => k_is)
    (case z_reversed => k_is)
    (case z_list => k_is)
    (case z_tuple => k_is)
    (case z_sorted => k_is)
    (case z_any => k_is)
    (case z_all => k_is)
    (case z_isinstance => k_is)
    (case z_int => k_is)
    (case z_bool => k_is)
    (case z_str => k_is)
    (case z_min => k_is)
    (case z_max => k_is)
