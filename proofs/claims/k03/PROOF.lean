import PyProof.Rows.All
import Wide.All
import OpenK.AllK
import Wide.FinOn
import KE.KTryMore
import KE.KExcHand
import HandS.ForExc
import HandS.Lambda
import KE.KExcIs
import HandS.ExcIs
import HandS.HotCalls
import KE.KExcSuper
import HandS.ExcInit
import PySem.Challenge.RW_wordshapes_k03_whole_boxes_put_and_taken
import KE.GoesEnum
import HandS.Iter
import HandS.Walk
import HandS.ForMost
import HandS.Zip
import HandS.TupAny
import HandS.Evl
import HandS.Deep
import HandS.Star
import HandS.RevRange
import HandS.Codes
import HandS.IsInst
import HandS.SortInts
import HandS.RaiseMore
import KE.KTupSum
import KE.OsSort
import HandS.Dict
import KE.KDictKeyed
import HandS.Property
import HandS.ClsMeth
import HandS.More
import HandS.SetFor
import HandS.ExcField
import HandS.Flt
import HandS.WordsExc
import PyProof.ReprLen
import HandS.HeadHook4
import HandS.HeadNt
import HandS.EndTab
import HandS.Head0
import HandS.Head1
import HandS.Head2
import KE.KStateDown
import HandS.HeadWalk
import HandS.EndBits
/-! Shapes: rows, boxes, what is a shape again; plain lists, no program. -/
namespace Wm
set_option linter.all false

def g (ns : List Nat) (i : Nat) : Nat := ns.getD i 0
theorem g_lt {ns : List Nat} {i : Nat} (h : i < ns.length) : g ns i = ns[i] := by
  unfold g; rw [List.getD_eq_getElem?_getD, List.getElem?_eq_getElem h]; rfl
theorem g_ge {ns : List Nat} {i : Nat} (h : ns.length ≤ i) : g ns i = 0 := by
  unfold g; rw [List.getD_eq_getElem?_getD, List.getElem?_eq_none h]; rfl
theorem g_some {ns : List Nat} {i x : Nat} (h : ns[i]? = some x) : g ns i = x := by
  unfold g; rw [List.getD_eq_getElem?_getD, h]; rfl
theorem some_g {ns : List Nat} {i : Nat} (h : i < ns.length) : ns[i]? = some (g ns i) := by
  rw [g_lt h, List.getElem?_eq_getElem h]

structure Shp (ns : List Nat) : Prop where
  dec : ∀ i, g ns (i + 1) ≤ g ns i
  pos : ∀ i, i < ns.length → 1 ≤ g ns i
theorem Shp.le {ns : List Nat} (h : Shp ns) {i j : Nat} (hij : i ≤ j) : g ns j ≤ g ns i := by
  induction hij with
  | refl => exact Nat.le_refl _
  | step _ ih => exact Nat.le_trans (h.dec _) ih
theorem Shp.nil : Shp [] := ⟨fun i => by rw [g_ge (Nat.zero_le _)]; exact Nat.zero_le _, fun i h => absurd h (Nat.not_lt_zero _)⟩
theorem Shp.lt_len {ns : List Nat} {i : Nat} (h : 0 < g ns i) : i < ns.length := by
  cases Nat.lt_or_ge i ns.length with
  | inl h => exact h
  | inr q => rw [g_ge q] at h; exact absurd h (Nat.lt_irrefl _)
/-- two lists of the same length with the same elements -/
theorem ext_g {a b : List Nat} (hl : a.length = b.length) (h : ∀ i, i < a.length → g a i = g b i) : a = b := by
  apply List.ext_getElem hl
  intro i h1 h2
  have := h i h1
  rw [g_lt h1, g_lt h2] at this
  exact this
theorem len_le_sum : ∀ {ns : List Nat}, (∀ x ∈ ns, 1 ≤ x) → ns.length ≤ ns.sum
  | [], _ => Nat.le_refl _
  | x :: r, h => by
    have h1 := h x List.mem_cons_self
    have h2 := len_le_sum (ns := r) fun y hy => h y (List.mem_cons_of_mem _ hy)
    rw [List.length_cons, List.sum_cons]; omega
theorem mem_le_sum : ∀ {ns : List Nat} {x : Nat}, x ∈ ns → x ≤ ns.sum
  | y :: r, x, h => by
    rw [List.sum_cons]
    rcases List.mem_cons.mp h with e | h
    · omega
    · have := mem_le_sum h; omega
theorem Shp.mem_pos {ns : List Nat} (h : Shp ns) : ∀ x ∈ ns, 1 ≤ x := fun x hx => by
  obtain ⟨i, hi, e⟩ := List.getElem_of_mem hx
  have := h.pos i hi
  rw [g_lt hi, e] at this
  exact this
theorem Shp.len_sum {ns : List Nat} (h : Shp ns) : ns.length ≤ ns.sum := len_le_sum h.mem_pos
theorem g_le_sum {ns : List Nat} (i : Nat) : g ns i ≤ ns.sum := by
  cases Nat.lt_or_ge i ns.length with
  | inl h => rw [g_lt h]; exact mem_le_sum (List.getElem_mem h)
  | inr h => rw [g_ge h]; exact Nat.zero_le _

/-! ### outer rows, corner rows -/
def isOuter (ns : List Nat) (i : Nat) : Bool := i == 0 || decide (g ns i < g ns (i - 1))
def isCorner (ns : List Nat) (i : Nat) : Bool := decide (g ns (i + 1) < g ns i)
def outers (ns : List Nat) : List Nat := (List.range (ns.length + 1)).filter (isOuter ns)
def corners (ns : List Nat) : List Nat := (List.range ns.length).filter (isCorner ns)
theorem outer_len {ns : List Nat} (h : Shp ns) : isOuter ns ns.length = true := by
  unfold isOuter
  cases hn : ns.length with
  | zero => rfl
  | succ n =>
    have := h.pos n (by omega)
    have e : g ns (n + 1) = 0 := g_ge (by omega)
    simp only [Nat.add_sub_cancel, e, Bool.or_eq_true]
    right; exact decide_eq_true (by omega)
theorem outers_eq {ns : List Nat} (h : Shp ns) : outers ns = (List.range ns.length).filter (isOuter ns) ++ [ns.length] := by
  unfold outers
  rw [List.range_succ, List.filter_append, List.filter_cons, if_pos (outer_len h)]; rfl
theorem outer_succ (ns : List Nat) (i : Nat) : isOuter ns (i + 1) = isCorner ns i := by
  unfold isOuter isCorner
  simp
theorem outers_cons (ns : List Nat) : outers ns = 0 :: (corners ns).map (· + 1) := by
  unfold outers corners
  rw [List.range_succ_eq_map, List.filter_cons, if_pos (by rfl), List.filter_map]
  have : (isOuter ns ∘ Nat.succ) = isCorner ns := funext fun i => outer_succ ns i
  rw [this]
theorem outers_len (ns : List Nat) : (outers ns).length = (corners ns).length + 1 := by
  rw [outers_cons, List.length_cons, List.length_map]
theorem mem_outers {ns : List Nat} {i : Nat} : i ∈ outers ns ↔ i ≤ ns.length ∧ isOuter ns i = true := by
  unfold outers; rw [List.mem_filter, List.mem_range]; exact ⟨fun ⟨a, b⟩ => ⟨by omega, b⟩, fun ⟨a, b⟩ => ⟨by omega, b⟩⟩
theorem mem_corners {ns : List Nat} {i : Nat} : i ∈ corners ns ↔ i < ns.length ∧ isCorner ns i = true := by
  unfold corners; rw [List.mem_filter, List.mem_range]
theorem corner_lt {ns : List Nat} {i : Nat} (h : isCorner ns i = true) : i < ns.length := by
  unfold isCorner at h
  exact Shp.lt_len (Nat.lt_of_le_of_lt (Nat.zero_le _) (of_decide_eq_true h))

/-! ### a box more, a box less -/
def more (ns : List Nat) (i : Nat) : List Nat := if i = ns.length then ns ++ [1] else ns.set i (g ns i + 1)
def less (ns : List Nat) (i : Nat) : List Nat := (ns.set i (g ns i - 1)).filter (0 < ·)
theorem g_append_one {ns : List Nat} {k j : Nat} : g (ns ++ [k]) j = if j = ns.length then k else g ns j := by
  unfold g
  rw [List.getD_eq_getElem?_getD, List.getD_eq_getElem?_getD]
  by_cases h : j < ns.length
  · rw [List.getElem?_append_left h, if_neg (by omega)]
  · rw [List.getElem?_append_right (by omega)]
    by_cases e : j = ns.length
    · subst e; simp
    · rw [if_neg e, List.getElem?_eq_none (by simp; omega), List.getElem?_eq_none (by omega)]
theorem g_set {ns : List Nat} {i k j : Nat} (hi : i < ns.length) : g (ns.set i k) j = if j = i then k else g ns j := by
  unfold g
  rw [List.getD_eq_getElem?_getD, List.getD_eq_getElem?_getD, List.getElem?_set]
  by_cases e : j = i
  · subst e; simp [hi]
  · rw [if_neg (Ne.symm e), if_neg e]
theorem g_more {ns : List Nat} {i : Nat} (hi : i ≤ ns.length) (j : Nat) : g (more ns i) j = if j = i then g ns i + 1 else g ns j := by
  unfold more
  by_cases e : i = ns.length
  · rw [if_pos e, g_append_one, e, g_ge (Nat.le_refl _)]
  · rw [if_neg e, g_set (by omega)]
theorem more_len {ns : List Nat} {i : Nat} (hi : i ≤ ns.length) : (more ns i).length = if i = ns.length then ns.length + 1 else ns.length := by
  unfold more
  by_cases e : i = ns.length
  · rw [if_pos e, if_pos e, List.length_append]; rfl
  · rw [if_neg e, if_neg e, List.length_set]
theorem sum_set_nat : ∀ {ns : List Nat} {i k : Nat}, i < ns.length → (ns.set i k).sum + g ns i = ns.sum + k
  | [], i, k, h => absurd h (Nat.not_lt_zero _)
  | x :: r, 0, k, _ => by
    show (k :: r).sum + x = (x :: r).sum + k
    rw [List.sum_cons, List.sum_cons]; omega
  | x :: r, i + 1, k, h => by
    have ih := sum_set_nat (ns := r) (i := i) (k := k) (by simpa using h)
    show (x :: r.set i k).sum + g r i = (x :: r).sum + k
    rw [List.sum_cons, List.sum_cons]; omega
theorem more_sum {ns : List Nat} {i : Nat} (hi : i ≤ ns.length) : (more ns i).sum = ns.sum + 1 := by
  unfold more
  by_cases e : i = ns.length
  · rw [if_pos e, List.sum_append]; rfl
  · rw [if_neg e]
    have := sum_set_nat (ns := ns) (i := i) (k := g ns i + 1) (by omega)
    omega
theorem more_shp {ns : List Nat} (h : Shp ns) {i : Nat} (hi : i ≤ ns.length) (ho : isOuter ns i = true) : Shp (more ns i) := by
  have ho' : i = 0 ∨ g ns i < g ns (i - 1) := by
    unfold isOuter at ho
    rcases Bool.or_eq_true_iff.mp ho with q | q
    · exact .inl (by simpa using q)
    · exact .inr (of_decide_eq_true q)
  refine ⟨fun j => ?_, fun j hj => ?_⟩
  · rw [g_more hi, g_more hi]
    have hd := h.dec j
    by_cases e1 : j + 1 = i
    · rw [if_pos e1, if_neg (by omega)]
      rcases ho' with q | q
      · omega
      · have : i - 1 = j := by omega
        rw [this] at q; exact q
    · rw [if_neg e1]
      by_cases e2 : j = i
      · rw [if_pos e2]; rw [e2] at hd ⊢; omega
      · rw [if_neg e2]; exact hd
  · rw [g_more hi]
    by_cases e2 : j = i
    · rw [if_pos e2]; omega
    · rw [if_neg e2]
      refine h.pos j ?_
      rw [more_len hi] at hj
      split at hj <;> omega
theorem filter_pos_of {ns : List Nat} (h : ∀ x ∈ ns, 0 < x) : ns.filter (0 < ·) = ns := List.filter_eq_self.mpr fun x hx => decide_eq_true (h x hx)
/-- less, by places -/
theorem less_at {ns : List Nat} (h : Shp ns) {i : Nat} (hc : isCorner ns i = true) : (less ns i = ns.set i (g ns i - 1) ∧ 2 ≤ g ns i) ∨ (g ns i = 1 ∧ i + 1 = ns.length ∧ less ns i = ns.take i) := by
  have hi := corner_lt hc
  have hc' : g ns (i + 1) < g ns i := of_decide_eq_true hc
  by_cases h1 : g ns i = 1
  · right
    have hl : i + 1 = ns.length := by
      cases Nat.lt_or_ge (i + 1) ns.length with
      | inl q => have := h.pos _ q; omega
      | inr q => omega
    refine ⟨h1, hl, ?_⟩
    have e : ns.set i 0 = ns.take i ++ [0] := by
      apply List.ext_getElem
      · simp; omega
      · intro j a b
        rw [List.getElem_set]
        by_cases q : i = j
        · subst q
          rw [if_pos rfl, List.getElem_append_right (by simp; omega)]
          simp
        · rw [if_neg q, List.getElem_append_left (by simp at a; simp; omega), List.getElem_take]
    unfold less
    rw [h1, show 1 - 1 = 0 from rfl, e, List.filter_append]
    rw [filter_pos_of (fun x hx => h.mem_pos x (List.mem_of_mem_take hx))]
    simp
  · left
    have := h.pos i hi
    refine ⟨?_, by omega⟩
    unfold less
    refine filter_pos_of fun x hx => ?_
    rcases List.mem_or_eq_of_mem_set hx with q | q
    · exact h.mem_pos x q
    · omega
theorem g_less {ns : List Nat} (h : Shp ns) {i : Nat} (hc : isCorner ns i = true) (j : Nat) : g (less ns i) j = if j = i then g ns i - 1 else g ns j := by
  have hi := corner_lt hc
  rcases less_at h hc with ⟨e, _⟩ | ⟨h1, hl, e⟩
  · rw [e, g_set hi]
  · rw [e]
    by_cases q : j < i
    · rw [if_neg (by omega), g_lt (by simp; omega), g_lt (by omega), List.getElem_take]
    · rw [g_ge (by simp; omega)]
      by_cases e2 : j = i
      · rw [if_pos e2, h1]
      · rw [if_neg e2, g_ge (by omega)]
theorem less_shp {ns : List Nat} (h : Shp ns) {i : Nat} (hc : isCorner ns i = true) : Shp (less ns i) := by
  have hi := corner_lt hc
  have hc' : g ns (i + 1) < g ns i := of_decide_eq_true hc
  refine ⟨fun j => ?_, fun j hj => ?_⟩
  · rw [g_less h hc, g_less h hc]
    have hd := h.dec j
    by_cases e1 : j + 1 = i
    · rw [if_pos e1, if_neg (by omega)]
      rw [e1] at hd; omega
    · rw [if_neg e1]
      by_cases e2 : j = i
      · rw [if_pos e2, e2]; omega
      · rw [if_neg e2]; exact hd
  · rcases less_at h hc with ⟨e, h2⟩ | ⟨h1, hl, e⟩
    · rw [e, List.length_set] at hj
      rw [g_less h hc]
      split
      · omega
      · exact h.pos j hj
    · rw [e, List.length_take] at hj
      rw [g_less h hc, if_neg (by omega)]
      exact h.pos j (by omega)
theorem less_sum {ns : List Nat} (h : Shp ns) {i : Nat} (hc : isCorner ns i = true) : (less ns i).sum + 1 = ns.sum := by
  have hi := corner_lt hc
  have hp := h.pos i hi
  have e : ∀ l : List Nat, (l.filter (0 < ·)).sum = l.sum := by
    intro l
    induction l with
    | nil => rfl
    | cons x r ih =>
      rw [List.filter_cons]
      by_cases hx : 0 < x
      · rw [if_pos (decide_eq_true hx), List.sum_cons, List.sum_cons, ih]
      · rw [if_neg (by simp; omega), List.sum_cons, ih]; omega
  unfold less
  rw [e]
  have := sum_set_nat (ns := ns) (i := i) (k := g ns i - 1) hi
  omega
theorem less_len {ns : List Nat} (h : Shp ns) {i : Nat} (hc : isCorner ns i = true) : (less ns i).length = if g ns i = 1 then i else ns.length := by
  rcases less_at h hc with ⟨e, h2⟩ | ⟨h1, hl, e⟩
  · rw [e, if_neg (by omega), List.length_set]
  · rw [e, if_pos h1, List.length_take]; omega
/-- the one undoes the other -/
theorem more_corner {ns : List Nat} (h : Shp ns) {i : Nat} (hi : i ≤ ns.length) (ho : isOuter ns i = true) : isCorner (more ns i) i = true := by
  unfold isCorner
  rw [g_more hi, g_more hi, if_neg (by omega), if_pos rfl]
  have := h.dec i
  exact decide_eq_true (by omega)
theorem less_more {ns : List Nat} (h : Shp ns) {i : Nat} (hi : i ≤ ns.length) (ho : isOuter ns i = true) : less (more ns i) i = ns := by
  have hs := more_shp h hi ho
  have hc := more_corner h hi ho
  have hl : (less (more ns i) i).length = ns.length := by
    rw [less_len hs hc, g_more hi, if_pos rfl, more_len hi]
    by_cases e : i = ns.length
    · rw [if_pos e, g_ge (by omega), if_pos rfl]; exact e
    · rw [if_neg e]
      have := h.pos i (by omega)
      rw [if_neg (by omega)]
  refine ext_g hl fun j hj => ?_
  rw [g_less hs hc, g_more hi, g_more hi]
  by_cases e : j = i
  · rw [if_pos e, if_pos rfl, e]; rfl
  · rw [if_neg e, if_neg e]
theorem less_outer {ns : List Nat} (h : Shp ns) {i : Nat} (hc : isCorner ns i = true) : i ≤ (less ns i).length ∧ isOuter (less ns i) i = true := by
  have hi := corner_lt hc
  refine ⟨?_, ?_⟩
  · rw [less_len h hc]; split <;> omega
  · unfold isOuter
    by_cases e : i = 0
    · rw [e]; rfl
    · rw [g_less h hc, g_less h hc, if_pos rfl, if_neg (by omega)]
      have hd := h.dec (i - 1)
      have hp := h.pos i hi
      rw [show i - 1 + 1 = i by omega] at hd
      rw [Bool.or_eq_true]; right; exact decide_eq_true (by omega)
theorem more_less {ns : List Nat} (h : Shp ns) {i : Nat} (hc : isCorner ns i = true) : more (less ns i) i = ns := by
  have hi := corner_lt hc
  obtain ⟨hle, ho⟩ := less_outer h hc
  have hp := h.pos i hi
  have hl : (more (less ns i) i).length = ns.length := by
    rw [more_len hle, less_len h hc]
    by_cases e : g ns i = 1
    · rw [if_pos e, if_pos rfl]
      rcases less_at h hc with ⟨_, h2⟩ | ⟨_, hl, _⟩
      · omega
      · exact hl
    · rw [if_neg e, if_neg (by omega)]
  refine ext_g hl fun j hj => ?_
  rw [g_more hle, g_less h hc, g_less h hc]
  by_cases e : j = i
  · rw [if_pos e, if_pos rfl, e]; omega
  · rw [if_neg e, if_neg e]

/-! ### flipped, held -/
def flip (ns : List Nat) : List Nat := (List.range (g ns 0)).map fun p => (ns.filter (p < ·)).length
def held (a o : List Nat) : Bool := decide (a.length ≤ o.length) && (List.range a.length).all fun i => decide (g a i ≤ g o i)
theorem held_iff {a o : List Nat} (ha : Shp a) (ho : Shp o) : held a o = true ↔ ∀ i, g a i ≤ g o i := by
  unfold held
  rw [Bool.and_eq_true, List.all_eq_true]
  constructor
  · rintro ⟨h1, h2⟩ i
    cases Nat.lt_or_ge i a.length with
    | inl h => exact of_decide_eq_true (h2 i (List.mem_range.mpr h))
    | inr h => rw [g_ge h]; exact Nat.zero_le _
  · intro h
    refine ⟨decide_eq_true ?_, fun i _ => decide_eq_true (h i)⟩
    cases Nat.lt_or_ge o.length a.length with
    | inl q =>
      have h1 := ha.pos _ q
      have h2 := h o.length
      rw [g_ge (Nat.le_refl _)] at h2
      omega
    | inr q => exact q
theorem flip_len (ns : List Nat) : (flip ns).length = g ns 0 := by unfold flip; simp
theorem filter_len_mono {p q : Nat → Bool} (l : List Nat) (h : ∀ x ∈ l, p x = true → q x = true) : (l.filter p).length ≤ (l.filter q).length := by
  induction l with
  | nil => exact Nat.le_refl _
  | cons x r ih =>
    have ih := ih fun y hy => h y (List.mem_cons_of_mem _ hy)
    rw [List.filter_cons, List.filter_cons]
    by_cases hx : p x = true
    · rw [if_pos hx, if_pos (h x List.mem_cons_self hx)]; simpa using ih
    · rw [if_neg hx]
      by_cases hq : q x = true
      · rw [if_pos hq]; simp; omega
      · rw [if_neg hq]; exact ih
theorem cnt_zero {ns : List Nat} (h : Shp ns) {p : Nat} (hp : g ns 0 ≤ p) : (ns.filter (p < ·)).length = 0 := by
  rw [List.length_eq_zero_iff, List.filter_eq_nil_iff]
  intro x hx
  obtain ⟨i, hi, e⟩ := List.getElem_of_mem hx
  have := h.le (Nat.zero_le i)
  rw [g_lt hi, e] at this
  simp; omega
theorem g_flip {ns : List Nat} (h : Shp ns) (p : Nat) : g (flip ns) p = (ns.filter (p < ·)).length := by
  cases Nat.lt_or_ge p (g ns 0) with
  | inl q =>
    rw [g_lt (by rw [flip_len]; exact q)]
    unfold flip
    simp
  | inr q => rw [g_ge (by rw [flip_len]; exact q), cnt_zero h q]
/-- a descending list: the number of those above p tells which they are -/
theorem cnt_iff : ∀ {ns : List Nat}, (∀ i, g ns (i + 1) ≤ g ns i) → ∀ p i, i < (ns.filter (p < ·)).length ↔ p < g ns i
  | [], _, p, i => by
    have : g [] i = 0 := g_ge (Nat.zero_le _)
    simp [this]
  | x :: r, h, p, i => by
    have hr : ∀ i, g r (i + 1) ≤ g r i := fun i => h (i + 1)
    have ih := fun i => cnt_iff hr p i
    rw [List.filter_cons]
    by_cases hx : p < x
    · rw [if_pos (decide_eq_true hx), List.length_cons]
      cases i with
      | zero => exact ⟨fun _ => hx, fun _ => Nat.succ_pos _⟩
      | succ i =>
        show i + 1 < _ + 1 ↔ p < g r i
        rw [← ih i]; omega
    · rw [if_neg (by simpa using hx)]
      have hall : ∀ j, g r j ≤ x := by
        intro j
        induction j with
        | zero => exact h 0
        | succ j ihj => exact Nat.le_trans (hr j) ihj
      constructor
      · intro q
        have := (ih i).mp q
        have := hall i
        omega
      · intro q
        cases i with
        | zero => exact absurd q hx
        | succ i =>
          have := hall i
          have q' : p < g r i := q
          omega
theorem flip_iff {ns : List Nat} (h : Shp ns) (p i : Nat) : i < g (flip ns) p ↔ p < g ns i := by
  rw [g_flip h]; exact cnt_iff h.dec p i
theorem flip_shp {ns : List Nat} (h : Shp ns) : Shp (flip ns) := by
  refine ⟨fun p => ?_, fun p hp => ?_⟩
  · rw [g_flip h, g_flip h]
    exact filter_len_mono _ fun x _ q => decide_eq_true (by have := of_decide_eq_true q; omega)
  · rw [flip_len] at hp
    exact (flip_iff h p 0).mpr hp
theorem flip_sum {ns : List Nat} (h : Shp ns) : (flip ns).sum = ns.sum := by
  have key : ∀ (l : List Nat) (m : Nat), (∀ x ∈ l, x ≤ m) → ((List.range m).map fun p => (l.filter (p < ·)).length).sum = l.sum := by
    intro l m
    induction l with
    | nil =>
      intro _
      have : ∀ k : Nat, ((List.range k).map fun p => (([] : List Nat).filter (p < ·)).length).sum = 0 := by
        intro k
        induction k with
        | zero => rfl
        | succ k ih => rw [List.range_succ, List.map_append, List.sum_append, ih]; rfl
      exact this m
    | cons x r ih =>
      intro hm
      have ih := ih fun y hy => hm y (List.mem_cons_of_mem _ hy)
      have one : ∀ k : Nat, ((List.range k).map fun p => ((x :: r).filter (p < ·)).length).sum = min x k + ((List.range k).map fun p => (r.filter (p < ·)).length).sum := by
        intro k
        induction k with
        | zero => simp
        | succ k ihk =>
          rw [List.range_succ, List.map_append, List.sum_append, ihk, List.map_append, List.sum_append]
          have e : ((x :: r).filter (k < ·)).length = (if k < x then 1 else 0) + (r.filter (k < ·)).length := by
            rw [List.filter_cons]
            by_cases hx : k < x
            · rw [if_pos (decide_eq_true hx), if_pos hx, List.length_cons]; omega
            · rw [if_neg (by simpa using hx), if_neg hx]; omega
          have e3 : ∀ f : Nat → Nat, (([k].map f).sum : Nat) = f k := fun f => by simp
          rw [e3, e3, e]
          split <;> omega
      rw [one, ih, List.sum_cons]
      have := hm x List.mem_cons_self
      omega
  unfold flip
  refine key ns (g ns 0) fun x hx => ?_
  obtain ⟨i, hi, e⟩ := List.getElem_of_mem hx
  have := h.le (Nat.zero_le i)
  rw [g_lt hi, e] at this
  exact this
theorem held_flip {a o : List Nat} (ha : Shp a) (ho : Shp o) : held (flip a) (flip o) = held a o := by
  rw [Bool.eq_iff_iff, held_iff (flip_shp ha) (flip_shp ho), held_iff ha ho]
  constructor
  · intro h i
    cases Nat.lt_or_ge (g o i) (g a i) with
    | inl q =>
      have h1 := (flip_iff ha (g o i) i).mpr q
      have h2 := h (g o i)
      have h3 := (flip_iff ho (g o i) i).mp (by omega)
      omega
    | inr q => exact q
  · intro h p
    cases Nat.lt_or_ge (g (flip o) p) (g (flip a) p) with
    | inl q =>
      have h1 := (flip_iff ha p _).mp q
      have h2 := h (g (flip o) p)
      have h3 := (flip_iff ho p (g (flip o) p)).mpr (by omega)
      omega
    | inr q => exact q
end Wm

/-! Boxes of a shape; a list of boxes that makes a shape. -/
namespace Wm
set_option linter.all false
def boxesTo (ns : List Nat) (k : Nat) : List (Nat × Nat) := (List.range k).flatMap fun i => (List.range (g ns i)).map fun j => (i, j)
def boxes (ns : List Nat) : List (Nat × Nat) := boxesTo ns ns.length
theorem boxesTo_succ (ns : List Nat) (k : Nat) : boxesTo ns (k + 1) = boxesTo ns k ++ (List.range (g ns k)).map fun j => (k, j) := by
  unfold boxesTo
  rw [List.range_succ, List.flatMap_append]
  simp
theorem boxesTo_len (ns : List Nat) (k : Nat) : (boxesTo ns k).length ≤ (ns.take k).sum := by
  induction k with
  | zero => simp [boxesTo]
  | succ k ih =>
    rw [boxesTo_succ, List.length_append, List.length_map, List.length_range]
    cases Nat.lt_or_ge k ns.length with
    | inl h =>
      rw [List.take_add_one, List.sum_append, some_g h]
      simp; omega
    | inr h =>
      rw [g_ge h]
      rw [List.take_of_length_le (by omega)] at ih ⊢
      exact ih
theorem boxes_len (ns : List Nat) : (boxes ns).length ≤ ns.sum := by
  have := boxesTo_len ns ns.length
  rw [List.take_length] at this
  exact this
theorem mem_boxesTo {ns : List Nat} {k : Nat} {b : Nat × Nat} : b ∈ boxesTo ns k ↔ b.1 < k ∧ b.2 < g ns b.1 := by
  obtain ⟨i, j⟩ := b
  unfold boxesTo
  rw [List.mem_flatMap]
  constructor
  · rintro ⟨a, ha, hb⟩
    obtain ⟨c, hc, e⟩ := List.mem_map.mp hb
    cases e
    exact ⟨List.mem_range.mp ha, List.mem_range.mp hc⟩
  · rintro ⟨h1, h2⟩
    exact ⟨i, List.mem_range.mpr h1, List.mem_map.mpr ⟨j, List.mem_range.mpr h2, rfl⟩⟩
theorem mem_boxes {ns : List Nat} {b : Nat × Nat} : b ∈ boxes ns ↔ b.2 < g ns b.1 := by
  unfold boxes
  rw [mem_boxesTo]
  exact ⟨fun h => h.2, fun h => ⟨Shp.lt_len (Nat.lt_of_le_of_lt (Nat.zero_le _) h), h⟩⟩
/-- whether all of a list's boxes lean on others -/
def boxOk (bs : List (Nat × Nat)) (b : Nat × Nat) : Bool := (b.1 == 0 || bs.contains (b.1 - 1, b.2)) && (b.2 == 0 || bs.contains (b.1, b.2 - 1))
def formOk (bs : List (Nat × Nat)) : Bool := bs.all (boxOk bs)
def rowCount (bs : List (Nat × Nat)) (r : Nat) : Nat := (bs.filter fun b => b.1 == r).length
theorem rowCount_append (a b : List (Nat × Nat)) (r : Nat) : rowCount (a ++ b) r = rowCount a r + rowCount b r := by
  unfold rowCount; rw [List.filter_append, List.length_append]
theorem rowCount_boxesTo (ns : List Nat) (k r : Nat) : rowCount (boxesTo ns k) r = if r < k then g ns r else 0 := by
  induction k with
  | zero => simp [boxesTo, rowCount]
  | succ k ih =>
    rw [boxesTo_succ, rowCount_append, ih]
    have e : rowCount ((List.range (g ns k)).map fun j => (k, j)) r = if k = r then g ns k else 0 := by
      unfold rowCount
      rw [List.filter_map, List.length_map]
      by_cases h : k = r
      · rw [if_pos h, List.filter_eq_self.mpr (fun x _ => by simp [h]), List.length_range]
      · rw [if_neg h, List.length_eq_zero_iff, List.filter_eq_nil_iff]
        intro x _; simp [h]
    rw [e]
    by_cases h : k = r
    · subst h; simp
    · rw [if_neg h]
      by_cases h2 : r < k
      · rw [if_pos h2, if_pos (by omega)]; omega
      · rw [if_neg h2, if_neg (by omega)]
theorem rowCount_boxes (ns : List Nat) (r : Nat) : rowCount (boxes ns) r = g ns r := by
  unfold boxes
  rw [rowCount_boxesTo]
  split
  · rfl
  · rw [g_ge (by omega)]
theorem rowCount_one (i j r : Nat) : rowCount [(i, j)] r = if i = r then 1 else 0 := by
  unfold rowCount
  by_cases h : i = r <;> simp [h]
/-- the boxes but one -/
def without (ns : List Nat) (c : Nat × Nat) : List (Nat × Nat) := (boxes ns).filter fun b => b != c
theorem mem_without {ns : List Nat} {c b : Nat × Nat} : b ∈ without ns c ↔ b.2 < g ns b.1 ∧ b ≠ c := by
  unfold without; rw [List.mem_filter, mem_boxes]; simp
theorem range_but (n : Nat) : ((List.range (n + 1)).filter fun j => j != n).length = n := by
  rw [List.range_succ, List.filter_append, List.filter_eq_self.mpr (fun x hx => by
    have := List.mem_range.mp hx
    simp; omega)]
  simp
theorem rowCount_without {ns : List Nat} {i : Nat} (hi : 0 < g ns i) (r : Nat) : rowCount (without ns (i, g ns i - 1)) r = if r = i then g ns i - 1 else g ns r := by
  have hil : i < ns.length := Shp.lt_len hi
  have key : ∀ k, rowCount ((boxesTo ns k).filter fun b => b != (i, g ns i - 1)) r = if r < k then (if r = i then g ns i - 1 else g ns r) else 0 := by
    intro k
    induction k with
    | zero => simp [boxesTo, rowCount]
    | succ k ih =>
      rw [boxesTo_succ, List.filter_append, rowCount_append, ih]
      have e : rowCount (((List.range (g ns k)).map fun j => (k, j)).filter fun b => b != (i, g ns i - 1)) r = if k = r then (if k = i then g ns i - 1 else g ns k) else 0 := by
        unfold rowCount
        rw [List.filter_map, List.filter_map, List.length_map]
        by_cases h : k = r
        · rw [if_pos h, List.filter_eq_self.mpr (fun x _ => by simp [h])]
          by_cases h2 : k = i
          · rw [if_pos h2]
            subst h2
            have e2 : ((fun b => b != (k, g ns k - 1)) ∘ fun j => (k, j)) = fun j => j != g ns k - 1 := by
              funext j
              by_cases q : j = g ns k - 1
              · simp [q]
              · have e9 : ((k, j) : Nat × Nat) ≠ (k, g ns k - 1) := fun z => q (congrArg Prod.snd z)
                show ((k, j) != (k, g ns k - 1)) = (j != g ns k - 1)
                rw [bne_iff_ne.mpr e9, bne_iff_ne.mpr q]
            rw [e2]
            have e3 := range_but (g ns k - 1)
            rw [show g ns k - 1 + 1 = g ns k by omega] at e3
            exact e3
          · rw [if_neg h2, List.filter_eq_self.mpr (fun x _ => by simp [h2]), List.length_range]
        · rw [if_neg h, List.length_eq_zero_iff, List.filter_eq_nil_iff]
          intro x _; simp [h]
      rw [e]
      by_cases h : k = r
      · subst h; simp
      · rw [if_neg h, Nat.add_zero]
        by_cases h2 : r < k
        · rw [if_pos h2, if_pos (show r < k + 1 by omega)]
        · rw [if_neg h2, if_neg (show ¬ r < k + 1 by omega)]
  have := key ns.length
  show rowCount ((boxesTo ns ns.length).filter fun b => b != (i, g ns i - 1)) r = _
  rw [this]
  by_cases h : r < ns.length
  · rw [if_pos h]
  · rw [if_neg h, if_neg (show ¬ r = i by omega), g_ge (by omega)]
theorem sorted_range : ∀ {m : Nat} {ks : List Nat}, ks.Nodup → ks.Pairwise (· ≤ ·) → (∀ r, r ∈ ks ↔ r < m) → ks = List.range m := by
  intro m ks hn hs hm
  refine List.Perm.eq_of_pairwise (le := (· ≤ ·)) (fun a b _ _ h1 h2 => Nat.le_antisymm h1 h2) hs (List.pairwise_iff_getElem.mpr fun i j _ _ hij => by simp; omega) ?_
  rw [List.perm_ext_iff_of_nodup hn List.nodup_range]
  intro a; rw [hm, List.mem_range]
theorem mem_rows {bs : List (Nat × Nat)} {r : Nat} : (∃ b ∈ bs, b.1 = r) ↔ 0 < rowCount bs r := by
  unfold rowCount
  rw [List.length_pos_iff_exists_mem]
  constructor
  · rintro ⟨b, hb, e⟩
    exact ⟨b, List.mem_filter.mpr ⟨hb, by simpa using e⟩⟩
  · rintro ⟨b, hb⟩
    obtain ⟨h1, h2⟩ := List.mem_filter.mp hb
    exact ⟨b, h1, by simpa using h2⟩
theorem form_is {bs : List (Nat × Nat)} {t ks : List Nat} (ht : Shp t) (hc : ∀ r, rowCount bs r = g t r) (hn : ks.Nodup) (hs : ks.Pairwise (· ≤ ·)) (hm : ∀ r, r ∈ ks ↔ ∃ b ∈ bs, b.1 = r) : ks.map (rowCount bs) = t := by
  have e : ks = List.range t.length := sorted_range hn hs fun r => by
    rw [hm, mem_rows, hc]
    exact ⟨fun h => Shp.lt_len h, fun h => ht.pos r h⟩
  rw [e]
  refine ext_g (by simp) fun j hj => ?_
  have hj' : j < t.length := by simpa using hj
  rw [g_lt (by simpa using hj), List.getElem_map, List.getElem_range, hc]
theorem form_boxes {ns ks : List Nat} (h : Shp ns) (hn : ks.Nodup) (hs : ks.Pairwise (· ≤ ·)) (hm : ∀ r, r ∈ ks ↔ ∃ b ∈ boxes ns, b.1 = r) : ks.map (rowCount (boxes ns)) = ns :=
  form_is h (rowCount_boxes ns) hn hs hm
theorem form_more {ns ks : List Nat} (h : Shp ns) {i : Nat} (hi : i ≤ ns.length) (ho : isOuter ns i = true) (hn : ks.Nodup) (hs : ks.Pairwise (· ≤ ·)) (hm : ∀ r, r ∈ ks ↔ ∃ b ∈ boxes ns ++ [(i, g ns i)], b.1 = r) :
    ks.map (rowCount (boxes ns ++ [(i, g ns i)])) = more ns i := by
  refine form_is (more_shp h hi ho) (fun r => ?_) hn hs hm
  rw [rowCount_append, rowCount_boxes, rowCount_one, g_more hi]
  by_cases e : r = i
  · subst e; simp
  · rw [if_neg (Ne.symm e), if_neg e]; omega
theorem form_less {ns ks : List Nat} (h : Shp ns) {i : Nat} (hc : isCorner ns i = true) (hn : ks.Nodup) (hs : ks.Pairwise (· ≤ ·)) (hm : ∀ r, r ∈ ks ↔ ∃ b ∈ without ns (i, g ns i - 1), b.1 = r) :
    ks.map (rowCount (without ns (i, g ns i - 1))) = less ns i := by
  refine form_is (less_shp h hc) (fun r => ?_) hn hs hm
  rw [rowCount_without (h.pos i (corner_lt hc)), g_less h hc]
theorem all_eq {α : Type} {l : List α} {p : α → Bool} {b : Bool} (h1 : b = true → ∀ x ∈ l, p x = true) (h2 : b = false → ∃ x ∈ l, p x = false) : l.all p = b := by
  cases b with
  | true => exact List.all_eq_true.mpr (h1 rfl)
  | false =>
    obtain ⟨x, hx, e⟩ := h2 rfl
    rw [List.all_eq_false]
    exact ⟨x, hx, by rw [e]; decide⟩
theorem boxOk_iff {bs : List (Nat × Nat)} {i j : Nat} : boxOk bs (i, j) = true ↔ (i = 0 ∨ (i - 1, j) ∈ bs) ∧ (j = 0 ∨ (i, j - 1) ∈ bs) := by
  unfold boxOk
  rw [Bool.and_eq_true, Bool.or_eq_true, Bool.or_eq_true, List.contains_iff_mem, List.contains_iff_mem]
  simp
theorem ok_boxes {ns : List Nat} (h : Shp ns) : formOk (boxes ns) = true := by
  unfold formOk
  rw [List.all_eq_true]
  rintro ⟨i, j⟩ hb
  have hj := mem_boxes.mp hb
  simp only at hj
  rw [boxOk_iff, mem_boxes, mem_boxes]
  constructor
  · rcases Nat.eq_zero_or_pos i with e | e
    · exact .inl e
    · right
      have := h.dec (i - 1)
      rw [show i - 1 + 1 = i by omega] at this
      show j < g ns (i - 1)
      omega
  · rcases Nat.eq_zero_or_pos j with e | e
    · exact .inl e
    · right; show j - 1 < g ns i; omega
theorem ok_more {ns : List Nat} (h : Shp ns) (i : Nat) : formOk (boxes ns ++ [(i, g ns i)]) = isOuter ns i := by
  unfold formOk
  refine all_eq (fun ho => ?_) (fun ho => ?_)
  · rintro ⟨a, b⟩ hb
    rw [boxOk_iff, List.mem_append, List.mem_append, mem_boxes, mem_boxes]
    rcases List.mem_append.mp hb with q | q
    · have hj := mem_boxes.mp q
      simp only at hj
      constructor
      · rcases Nat.eq_zero_or_pos a with e | e
        · exact .inl e
        · right; left
          have := h.dec (a - 1)
          rw [show a - 1 + 1 = a by omega] at this
          show b < g ns (a - 1)
          omega
      · rcases Nat.eq_zero_or_pos b with e | e
        · exact .inl e
        · right; left; show b - 1 < g ns a; omega
    · have e : (a, b) = (i, g ns i) := by simpa using q
      cases e
      constructor
      · unfold isOuter at ho
        rcases Bool.or_eq_true_iff.mp ho with q | q
        · exact .inl (by simpa using q)
        · right; left; exact of_decide_eq_true q
      · rcases Nat.eq_zero_or_pos (g ns i) with e | e
        · exact .inl e
        · right; left; show g ns i - 1 < g ns i; omega
  · refine ⟨(i, g ns i), by simp, ?_⟩
    rw [Bool.eq_false_iff]
    intro q
    rw [boxOk_iff, List.mem_append, mem_boxes] at q
    unfold isOuter at ho
    obtain ⟨o1, o2⟩ := Bool.or_eq_false_iff.mp ho
    have o1' : i ≠ 0 := by simpa using o1
    have o2' : ¬ g ns i < g ns (i - 1) := of_decide_eq_false o2
    rcases q.1 with z | z | z
    · exact o1' z
    · exact o2' z
    · have e : (i - 1, g ns i) = (i, g ns i) := by simpa using z
      have := congrArg Prod.fst e
      simp only at this
      omega
theorem ok_less {ns : List Nat} (h : Shp ns) {i : Nat} (hi : i < ns.length) : formOk (without ns (i, g ns i - 1)) = isCorner ns i := by
  have hp := h.pos i hi
  unfold formOk
  refine all_eq (fun ho => ?_) (fun ho => ?_)
  · have hc : g ns (i + 1) < g ns i := of_decide_eq_true ho
    rintro ⟨a, b⟩ hb
    obtain ⟨hj, hne⟩ := mem_without.mp hb
    simp only at hj
    rw [boxOk_iff, mem_without, mem_without]
    constructor
    · rcases Nat.eq_zero_or_pos a with e | e
      · exact .inl e
      · right
        have := h.dec (a - 1)
        rw [show a - 1 + 1 = a by omega] at this
        refine ⟨by show b < g ns (a - 1); omega, fun q => ?_⟩
        have e1 : a - 1 = i := congrArg Prod.fst q
        have e2 : b = g ns i - 1 := congrArg Prod.snd q
        rw [show a = i + 1 by omega] at hj
        omega
    · rcases Nat.eq_zero_or_pos b with e | e
      · exact .inl e
      · right
        refine ⟨by show b - 1 < g ns a; omega, fun q => ?_⟩
        have e1 : a = i := congrArg Prod.fst q
        have e2 : b - 1 = g ns i - 1 := congrArg Prod.snd q
        rw [e1] at hj
        omega
  · have hc : ¬ g ns (i + 1) < g ns i := of_decide_eq_false ho
    have hd := h.dec i
    refine ⟨(i + 1, g ns i - 1), mem_without.mpr ⟨by show g ns i - 1 < g ns (i + 1); omega, fun q => by
      have := congrArg Prod.fst q
      simp only at this
      omega⟩, ?_⟩
    rw [Bool.eq_false_iff]
    intro q
    rw [boxOk_iff] at q
    rcases q.1 with z | z
    · omega
    · exact (mem_without.mp z).2 rfl
/-- all boxes of a are among those of o -/
def dueB (a o : List Nat) : Bool := (boxes a).all fun b => (boxes o).contains b
theorem due_eq {a o : List Nat} (ha : Shp a) (ho : Shp o) : dueB a o = held a o := by
  rw [Bool.eq_iff_iff, held_iff ha ho]
  unfold dueB
  rw [List.all_eq_true]
  constructor
  · intro h i
    rcases Nat.eq_zero_or_pos (g a i) with e | e
    · omega
    · have := h (i, g a i - 1) (mem_boxes.mpr (by show g a i - 1 < g a i; omega))
      rw [List.contains_iff_mem, mem_boxes] at this
      simp only at this
      omega
  · rintro h ⟨i, j⟩ hb
    have hj := mem_boxes.mp hb
    simp only at hj
    rw [List.contains_iff_mem, mem_boxes]
    have := h i
    show j < g o i
    omega
end Wm

/-! Tables: a letter put in, a letter taken out; plain lists, no program. -/
namespace Wm
set_option linter.all false
/-! ### one row -/
def Srt (r : List Nat) : Prop := ∀ i, i + 1 < r.length → g r i ≤ g r (i + 1)
theorem Srt.le {r : List Nat} (h : Srt r) {i j : Nat} (hij : i ≤ j) (hj : j < r.length) : g r i ≤ g r j := by
  induction hij with
  | refl => exact Nat.le_refl _
  | step _ ih => exact Nat.le_trans (ih (by omega)) (h _ (by omega))
theorem Srt.pairwise {r : List Nat} (h : Srt r) : r.Pairwise (· ≤ ·) := List.pairwise_iff_getElem.mpr fun i j hi hj hij => by
  have := h.le (Nat.le_of_lt hij) hj
  rw [g_lt hi, g_lt hj] at this
  exact this
def putRow (r : List Nat) (x : Nat) : List Nat × Option Nat := match r with
  | [] => ([x], none)
  | y :: s => if x < y then (x :: s, some y) else (y :: (putRow s x).1, (putRow s x).2)
theorem putRow_hit : ∀ {r : List Nat} {x p : Nat}, p < r.length → (∀ j, j < p → g r j ≤ x) → x < g r p → putRow r x = (r.take p ++ [x] ++ r.drop (p + 1), some (g r p))
  | [], x, p, h, _, _ => absurd h (Nat.not_lt_zero _)
  | y :: s, x, 0, _, _, h => by
    have h' : x < y := h
    unfold putRow
    rw [if_pos h']; rfl
  | y :: s, x, p + 1, hp, hb, h => by
    have h0 : y ≤ x := hb 0 (Nat.succ_pos _)
    have ih := putRow_hit (r := s) (x := x) (p := p) (by simpa using hp) (fun j hj => hb (j + 1) (by omega)) h
    unfold putRow
    rw [if_neg (by omega), ih]; rfl
theorem putRow_end : ∀ {r : List Nat} {x : Nat}, (∀ j, j < r.length → g r j ≤ x) → putRow r x = (r ++ [x], none)
  | [], x, _ => rfl
  | y :: s, x, h => by
    have h0 : y ≤ x := h 0 (by simp)
    have ih := putRow_end (r := s) (x := x) fun j hj => h (j + 1) (by simpa using hj)
    unfold putRow
    rw [if_neg (by omega), ih]; rfl
/-- what a letter put into a row does, by places -/
def PutAt (r : List Nat) (x : Nat) (r' : List Nat) (o : Option Nat) : Prop :=
  ∃ q, q ≤ r.length ∧ (∀ j, j < q → g r j ≤ x) ∧ (∀ j, g r' j = if j = q then x else g r j) ∧
    ((q < r.length ∧ r'.length = r.length ∧ x < g r q ∧ o = some (g r q)) ∨ (q = r.length ∧ r'.length = r.length + 1 ∧ o = none))
theorem first_above (r : List Nat) (x : Nat) : (∃ p, p < r.length ∧ (∀ j, j < p → g r j ≤ x) ∧ x < g r p) ∨ ∀ j, j < r.length → g r j ≤ x := by
  induction r with
  | nil => exact .inr fun j h => absurd h (Nat.not_lt_zero _)
  | cons y s ih =>
    by_cases hy : x < y
    · exact .inl ⟨0, by simp, fun j h => absurd h (Nat.not_lt_zero _), hy⟩
    · rcases ih with ⟨p, h1, h2, h3⟩ | h
      · refine .inl ⟨p + 1, by simpa using h1, fun j hj => ?_, h3⟩
        cases j with
        | zero => show y ≤ x; omega
        | succ j => exact h2 j (by omega)
      · refine .inr fun j hj => ?_
        cases j with
        | zero => show y ≤ x; omega
        | succ j => exact h j (by simpa using hj)
theorem put_set {r : List Nat} {x p : Nat} (hp : p < r.length) : r.take p ++ [x] ++ r.drop (p + 1) = r.set p x := by
  rw [List.set_eq_take_append_cons_drop, if_pos hp]; simp
theorem putRow_at (r : List Nat) (x : Nat) : PutAt r x (putRow r x).1 (putRow r x).2 := by
  rcases first_above r x with ⟨p, h1, h2, h3⟩ | h
  · rw [putRow_hit h1 h2 h3, put_set h1]
    exact ⟨p, Nat.le_of_lt h1, h2, fun j => g_set h1, .inl ⟨h1, List.length_set .., h3, rfl⟩⟩
  · rw [putRow_end h]
    exact ⟨r.length, Nat.le_refl _, h, fun j => g_append_one, .inr ⟨rfl, by simp, rfl⟩⟩
theorem PutAt.srt {r r' : List Nat} {x : Nat} {o : Option Nat} (h : PutAt r x r' o) (hs : Srt r) : Srt r' := by
  obtain ⟨q, hq, hb, hg, hc⟩ := h
  intro i hi
  rw [hg, hg]
  by_cases e1 : i = q
  · rw [if_pos e1, if_neg (by omega)]
    rcases hc with ⟨c1, c2, c3, _⟩ | ⟨c1, c2, _⟩
    · have := hs.le (i := q) (j := i + 1) (by omega) (by omega)
      omega
    · omega
  · rw [if_neg e1]
    by_cases e2 : i + 1 = q
    · rw [if_pos e2]; exact hb i (by omega)
    · rw [if_neg e2]
      refine hs i ?_
      rcases hc with ⟨c1, c2, c3, _⟩ | ⟨c1, c2, _⟩ <;> omega
theorem PutAt.mem {r r' : List Nat} {x : Nat} {o : Option Nat} (h : PutAt r x r' o) {y : Nat} (hy : y ∈ r') : y = x ∨ y ∈ r := by
  obtain ⟨q, hq, hb, hg, hc⟩ := h
  obtain ⟨i, hi, e⟩ := List.getElem_of_mem hy
  have h1 := hg i
  rw [g_lt hi, e] at h1
  by_cases e1 : i = q
  · rw [if_pos e1] at h1; exact .inl h1
  · rw [if_neg e1] at h1
    have hil : i < r.length := by rcases hc with ⟨c1, c2, c3, _⟩ | ⟨c1, c2, _⟩ <;> omega
    right; rw [h1, g_lt hil]; exact List.getElem_mem hil
theorem PutAt.bump {r r' : List Nat} {x y : Nat} (h : PutAt r x r' (some y)) : y ∈ r := by
  obtain ⟨q, hq, hb, hg, hc⟩ := h
  rcases hc with ⟨c1, c2, c3, c4⟩ | ⟨c1, c2, c3⟩
  · rw [Option.some.inj c4, g_lt c1]; exact List.getElem_mem c1
  · cases c3
/-! ### a row below another one -/
def Rise (u s : List Nat) : Prop := s.length ≤ u.length ∧ ∀ i, i < s.length → g u i < g s i
/-- the letter y that left the row u (u' behind it) is put into the row below -/
theorem rise_put {u u' s s' : List Nat} {z y : Nat} {o : Option Nat} (hu : PutAt u z u' (some y)) (us : Srt u) (hr : Rise u s) (hs : PutAt s y s' o) : Rise u' s' := by
  obtain ⟨p, hp, ub, ug, uc⟩ := hu
  rcases uc with ⟨p1, p2, p3, p4⟩ | ⟨_, _, z'⟩
  case inr => cases z'
  have ey : y = g u p := Option.some.inj p4
  obtain ⟨q, hq, sb, sg, sc⟩ := hs
  have hqp : q ≤ p := by
    cases Nat.lt_or_ge p q with
    | inl h =>
      have h1 := sb p h
      have h2 := hr.2 p (by omega)
      omega
    | inr h => exact h
  refine ⟨?_, fun i hi => ?_⟩
  · have h1 := hr.1
    rcases sc with ⟨c1, c2, _⟩ | ⟨c1, c2, _⟩ <;> omega
  · rw [sg, ug]
    by_cases e : i = q
    · rw [if_pos e]
      by_cases e2 : i = p
      · rw [if_pos e2]; omega
      · rw [if_neg e2]
        have := ub i (by omega)
        omega
    · rw [if_neg e]
      have hil : i < s.length := by rcases sc with ⟨c1, c2, _⟩ | ⟨c1, c2, _⟩ <;> omega
      have h1 := hr.2 i hil
      by_cases e2 : i = p
      · rw [if_pos e2]; rw [e2] at h1 ⊢; omega
      · rw [if_neg e2]; exact h1
theorem rise_new {u u' : List Nat} {z y : Nat} (hu : PutAt u z u' (some y)) : Rise u' [y] := by
  obtain ⟨p, hp, ub, ug, uc⟩ := hu
  rcases uc with ⟨p1, p2, p3, p4⟩ | ⟨_, _, z'⟩
  case inr => cases z'
  have ey : y = g u p := Option.some.inj p4
  refine ⟨by simp; omega, fun i hi => ?_⟩
  have e : i = 0 := by simpa using hi
  subst e
  rw [ug]
  show _ < y
  by_cases e2 : 0 = p
  · rw [if_pos e2]; omega
  · rw [if_neg e2]
    have := ub 0 (by omega)
    omega
/-- a row that only lost letters in value (put, nothing left): what stands below stands still -/
theorem rise_low {u u' s : List Nat} {z : Nat} {o : Option Nat} (hu : PutAt u z u' o) (hr : Rise u s) : Rise u' s := by
  obtain ⟨p, hp, ub, ug, uc⟩ := hu
  refine ⟨?_, fun i hi => ?_⟩
  · have := hr.1
    rcases uc with ⟨c1, c2, _⟩ | ⟨c1, c2, _⟩ <;> omega
  · have h1 := hr.2 i hi
    have h2 := hr.1
    rw [ug]
    by_cases e : i = p
    · rcases uc with ⟨c1, c2, c3, _⟩ | ⟨c1, c2, _⟩
      · rw [if_pos e]; rw [e] at h1 ⊢; omega
      · omega
    · rw [if_neg e]; exact h1
/-! ### the rows -/
def Ch : List (List Nat) → Prop
  | [] => True
  | [_] => True
  | u :: s :: rs => Rise u s ∧ Ch (s :: rs)
structure Tab (rows : List (List Nat)) : Prop where
  srt : ∀ r ∈ rows, Srt r
  ne : ∀ r ∈ rows, 1 ≤ r.length
  ltr : ∀ r ∈ rows, ∀ y ∈ r, 1 ≤ y ∧ y ≤ 12
  ch : Ch rows
theorem Tab.nil : Tab [] := ⟨fun _ h => absurd h (by simp), fun _ h => absurd h (by simp), fun _ h => absurd h (by simp), trivial⟩
theorem Ch.tail {u : List Nat} {rs : List (List Nat)} (h : Ch (u :: rs)) : Ch rs := by
  cases rs with
  | nil => trivial
  | cons s r => exact h.2
theorem Tab.tail {u : List Nat} {rs : List (List Nat)} (h : Tab (u :: rs)) : Tab rs :=
  ⟨fun r hr => h.srt r (List.mem_cons_of_mem _ hr), fun r hr => h.ne r (List.mem_cons_of_mem _ hr), fun r hr => h.ltr r (List.mem_cons_of_mem _ hr), h.ch.tail⟩
def lens (rows : List (List Nat)) : List Nat := rows.map List.length
def putRows : List (List Nat) → Nat → List (List Nat) × Nat
  | [], x => ([[x]], 0)
  | r :: rs, x => match (putRow r x).2 with
    | none => ((putRow r x).1 :: rs, 0)
    | some y => ((putRow r x).1 :: (putRows rs y).1, (putRows rs y).2 + 1)
theorem putRows_none {r : List Nat} {rs : List (List Nat)} {x : Nat} (h : (putRow r x).2 = none) : putRows (r :: rs) x = ((putRow r x).1 :: rs, 0) := by
  rw [putRows, h]
theorem putRows_some {r : List Nat} {rs : List (List Nat)} {x y : Nat} (h : (putRow r x).2 = some y) : putRows (r :: rs) x = ((putRow r x).1 :: (putRows rs y).1, (putRows rs y).2 + 1) := by
  rw [putRows, h]
theorem put_head {u u' : List Nat} {z y : Nat} (hu : PutAt u z u' (some y)) (us : Srt u) : ∀ {rs : List (List Nat)}, Ch (u :: rs) → Ch (putRows rs y).1 → Ch (u' :: (putRows rs y).1)
  | [], _, _ => ⟨rise_new hu, trivial⟩
  | s :: rs, h, k => by
    have hs := putRow_at s y
    have hr := rise_put hu us h.1 hs
    cases o : (putRow s y).2 with
    | none =>
      rw [putRows_none o] at k ⊢
      exact ⟨hr, k⟩
    | some w =>
      rw [putRows_some o] at k ⊢
      exact ⟨hr, k⟩
theorem putRows_tab : ∀ {rows : List (List Nat)} {x : Nat}, Tab rows → 1 ≤ x ∧ x ≤ 12 → Tab (putRows rows x).1
  | [], x, _, hx => ⟨fun r hr => by
      have e : r = [x] := by simpa [putRows] using hr
      subst e
      intro i hi; simp at hi, fun r hr => by
      have e : r = [x] := by simpa [putRows] using hr
      subst e; simp, fun r hr y hy => by
      have e : r = [x] := by simpa [putRows] using hr
      subst e
      have : y = x := by simpa using hy
      subst this; exact hx, trivial⟩
  | r :: rs, x, h, hx => by
    have hr := putRow_at r x
    have hs := hr.srt (h.srt r List.mem_cons_self)
    have hn : 1 ≤ (putRow r x).1.length := by
      have := h.ne r List.mem_cons_self
      obtain ⟨q, _, _, _, c⟩ := hr
      rcases c with ⟨_, c, _⟩ | ⟨_, c, _⟩ <;> omega
    have hl : ∀ y ∈ (putRow r x).1, 1 ≤ y ∧ y ≤ 12 := fun y hy => by
      rcases hr.mem hy with e | e
      · rw [e]; exact hx
      · exact h.ltr r List.mem_cons_self y e
    cases o : (putRow r x).2 with
    | none =>
      rw [putRows_none o]
      refine ⟨fun t ht => ?_, fun t ht => ?_, fun t ht => ?_, ?_⟩
      · rcases List.mem_cons.mp ht with e | e
        · rw [e]; exact hs
        · exact h.srt t (List.mem_cons_of_mem _ e)
      · rcases List.mem_cons.mp ht with e | e
        · rw [e]; exact hn
        · exact h.ne t (List.mem_cons_of_mem _ e)
      · rcases List.mem_cons.mp ht with e | e
        · rw [e]; exact hl
        · exact h.ltr t (List.mem_cons_of_mem _ e)
      · cases rs with
        | nil => trivial
        | cons s rs => exact ⟨rise_low hr h.ch.1, h.ch.2⟩
    | some y =>
      rw [putRows_some o]
      rw [o] at hr
      have ih := putRows_tab h.tail (h.ltr r List.mem_cons_self y hr.bump)
      refine ⟨fun t ht => ?_, fun t ht => ?_, fun t ht => ?_, put_head hr (h.srt r List.mem_cons_self) h.ch ih.ch⟩
      · rcases List.mem_cons.mp ht with e | e
        · rw [e]; exact hs
        · exact ih.srt t e
      · rcases List.mem_cons.mp ht with e | e
        · rw [e]; exact hn
        · exact ih.ne t e
      · rcases List.mem_cons.mp ht with e | e
        · rw [e]; exact hl
        · exact ih.ltr t e
theorem more_zero (a : Nat) (ns : List Nat) : more (a :: ns) 0 = (a + 1) :: ns := by
  unfold more
  rw [if_neg (by simp)]; rfl
theorem more_succ (a : Nat) (ns : List Nat) (i : Nat) : more (a :: ns) (i + 1) = a :: more ns i := by
  unfold more
  by_cases e : i = ns.length
  · rw [if_pos e, if_pos (by simp [e])]; rfl
  · rw [if_neg e, if_neg (by simpa using e)]; rfl
theorem putRows_lens : ∀ (rows : List (List Nat)) (x : Nat), lens (putRows rows x).1 = more (lens rows) (putRows rows x).2 ∧ (putRows rows x).2 ≤ rows.length
  | [], x => ⟨by unfold putRows lens more; rfl, Nat.le_refl _⟩
  | r :: rs, x => by
    have hr := putRow_at r x
    cases o : (putRow r x).2 with
    | none =>
      rw [putRows_none o]
      refine ⟨?_, Nat.zero_le _⟩
      show (putRow r x).1.length :: lens rs = more (r.length :: lens rs) 0
      rw [more_zero]
      obtain ⟨q, _, _, _, c⟩ := hr
      rcases c with ⟨_, _, _, c⟩ | ⟨_, c, _⟩
      · rw [o] at c; cases c
      · rw [c]
    | some y =>
      rw [putRows_some o]
      obtain ⟨h1, h2⟩ := putRows_lens rs y
      refine ⟨?_, by simpa using h2⟩
      show (putRow r x).1.length :: lens (putRows rs y).1 = more (r.length :: lens rs) ((putRows rs y).2 + 1)
      rw [more_succ, h1]
      obtain ⟨q, _, _, _, c⟩ := hr
      rcases c with ⟨_, c, _⟩ | ⟨_, _, c⟩
      · rw [c]
      · rw [o] at c; cases c
theorem Tab.shp : ∀ {rows : List (List Nat)}, Tab rows → Shp (lens rows)
  | [], _ => Shp.nil
  | r :: rs, h => by
    have ih := h.tail.shp
    refine ⟨fun i => ?_, fun i hi => ?_⟩
    · cases i with
      | zero =>
        cases rs with
        | nil => show g (lens []) 0 ≤ _; rw [g_ge (by simp [lens])]; exact Nat.zero_le _
        | cons s rs => exact h.ch.1.1
      | succ i => exact ih.dec i
    · cases i with
      | zero => exact h.ne r List.mem_cons_self
      | succ i => exact ih.pos i (by simpa [lens] using hi)
theorem outer_of_more {ns : List Nat} {i : Nat} (hi : i ≤ ns.length) (h : Shp (more ns i)) : isOuter ns i = true := by
  unfold isOuter
  by_cases e : i = 0
  · rw [e]; rfl
  · have hd := h.dec (i - 1)
    rw [show i - 1 + 1 = i by omega, g_more hi, g_more hi, if_pos rfl, if_neg (by omega)] at hd
    rw [Bool.or_eq_true]; right; exact decide_eq_true (by omega)
def rowsOf (word : List Nat) : List (List Nat) := word.foldl (fun rs x => (putRows rs x).1) []
theorem rowsOf_snoc (w : List Nat) (x : Nat) : rowsOf (w ++ [x]) = (putRows (rowsOf w) x).1 := by
  unfold rowsOf; rw [List.foldl_append]; rfl
theorem rowsOf_ok (word : List Nat) (h : ∀ x ∈ word, 1 ≤ x ∧ x ≤ 12) : Tab (rowsOf word) ∧ (lens (rowsOf word)).sum = word.length := by
  have key : ∀ (w : List Nat) (rs : List (List Nat)), Tab rs → (∀ x ∈ w, 1 ≤ x ∧ x ≤ 12) → Tab (w.foldl (fun rs x => (putRows rs x).1) rs) ∧ (lens (w.foldl (fun rs x => (putRows rs x).1) rs)).sum = (lens rs).sum + w.length := by
    intro w
    induction w with
    | nil => intro rs hr _; exact ⟨hr, rfl⟩
    | cons x w ih =>
      intro rs hr hx
      have ht := putRows_tab hr (hx x List.mem_cons_self)
      obtain ⟨a, b⟩ := ih (putRows rs x).1 ht fun y hy => hx y (List.mem_cons_of_mem _ hy)
      refine ⟨a, ?_⟩
      show (lens (w.foldl (fun rs x => (putRows rs x).1) (putRows rs x).1)).sum = _
      obtain ⟨h1, h2⟩ := putRows_lens rs x
      rw [b, h1, more_sum (by simpa [lens] using h2), List.length_cons]; omega
  obtain ⟨a, b⟩ := key word [] Tab.nil h
  refine ⟨a, ?_⟩
  show (lens (word.foldl (fun rs x => (putRows rs x).1) [])).sum = _
  rw [b]; simp [lens]
/-! ### a letter taken out -/
/-- the last place whose letter is less -/
def lastBelow (r : List Nat) (y : Nat) : Nat := ((List.range r.length).filter fun i => decide (g r i < y)).foldl max 0
def pushOut (r : List Nat) (y : Nat) : List Nat × Nat := (r.set (lastBelow r y) y, g r (lastBelow r y))
theorem foldl_max : ∀ (l : List Nat) (a : Nat), (∀ x ∈ l, x ≤ l.foldl max a) ∧ a ≤ l.foldl max a ∧ (l.foldl max a = a ∨ l.foldl max a ∈ l)
  | [], a => ⟨fun _ h => absurd h (by simp), Nat.le_refl _, .inl rfl⟩
  | x :: l, a => by
    obtain ⟨h1, h2, h3⟩ := foldl_max l (max a x)
    refine ⟨fun y hy => ?_, ?_, ?_⟩
    · rcases List.mem_cons.mp hy with e | e
      · rw [e]; show x ≤ l.foldl max (max a x); omega
      · exact h1 y e
    · show a ≤ l.foldl max (max a x); omega
    · show l.foldl max (max a x) = a ∨ _
      rcases h3 with e | e
      · rcases Nat.le_total a x with q | q
        · right; show l.foldl max (max a x) ∈ x :: l; rw [e, Nat.max_eq_right q]; exact List.mem_cons_self
        · left; rw [e]; exact Nat.max_eq_left q
      · right; exact List.mem_cons_of_mem _ e
theorem lastBelow_spec {r : List Nat} {y q : Nat} (hq : q < r.length) (hy : g r q < y) : lastBelow r y < r.length ∧ g r (lastBelow r y) < y ∧ q ≤ lastBelow r y ∧ ∀ j, lastBelow r y < j → j < r.length → y ≤ g r j := by
  unfold lastBelow
  obtain ⟨h1, h2, h3⟩ := foldl_max ((List.range r.length).filter fun i => decide (g r i < y)) 0
  have mem : ∀ j, j < r.length → g r j < y → j ∈ (List.range r.length).filter fun i => decide (g r i < y) := fun j a b => List.mem_filter.mpr ⟨List.mem_range.mpr a, decide_eq_true b⟩
  have hm : ((List.range r.length).filter fun i => decide (g r i < y)).foldl max 0 ∈ (List.range r.length).filter fun i => decide (g r i < y) := by
    rcases h3 with e | e
    · have := h1 q (mem q hq hy)
      rw [e] at this ⊢
      have e0 : q = 0 := by omega
      rw [← e0]; exact mem q hq hy
    · exact e
  obtain ⟨a, b⟩ := List.mem_filter.mp hm
  refine ⟨List.mem_range.mp a, of_decide_eq_true b, h1 q (mem q hq hy), fun j hj hl => ?_⟩
  cases Nat.lt_or_ge (g r j) y with
  | inl z =>
    have := h1 j (mem j hl z)
    omega
  | inr z => exact z
/-- y has left the row s, which is s' now -/
def Rev (s s' : List Nat) (y : Nat) : Prop := ∃ q, q < s.length ∧ g s q = y ∧ s'.length ≤ s.length ∧ (∀ j, j < s'.length → g s j ≤ g s' j) ∧ ∀ j, q ≤ j → j < s'.length → y < g s' j
theorem Rev.last {s : List Nat} (h : 1 ≤ s.length) : Rev s s.dropLast (g s (s.length - 1)) := by
  have hl : s.dropLast.length = s.length - 1 := List.length_dropLast
  refine ⟨s.length - 1, by omega, rfl, by omega, fun j hj => ?_, fun j h1 h2 => by omega⟩
  rw [g_lt hj, List.getElem_dropLast, g_lt]
  exact Nat.le_refl _
theorem push_ok {r s s' : List Nat} {y : Nat} (hr : Rise r s) (hs : Srt r) (hv : Rev s s' y) :
    Rise (pushOut r y).1 s' ∧ Rev r (pushOut r y).1 (pushOut r y).2 ∧ Srt (pushOut r y).1 ∧ (pushOut r y).1.length = r.length := by
  obtain ⟨q, hq, hy, hl, hle, hgt⟩ := hv
  have hqr : q < r.length := Nat.lt_of_lt_of_le hq hr.1
  have hqy : g r q < y := by have := hr.2 q hq; omega
  obtain ⟨p1, p2, p3, p4⟩ := lastBelow_spec hqr hqy
  unfold pushOut
  generalize lastBelow r y = p at p1 p2 p3 p4 ⊢
  have hg := fun j => g_set (ns := r) (i := p) (k := y) (j := j) p1
  have hlen : (r.set p y).length = r.length := List.length_set ..
  refine ⟨⟨by have := hr.1; show s'.length ≤ (r.set p y).length; omega, fun j hj => ?_⟩, ⟨p, p1, rfl, Nat.le_of_eq hlen, fun j hj => ?_, fun j h1 h2 => ?_⟩, fun i hi => ?_, hlen⟩
  · show g (r.set p y) j < _
    rw [hg]
    by_cases e : j = p
    · rw [if_pos e]; exact hgt j (by omega) hj
    · rw [if_neg e]
      have := hr.2 j (by omega)
      have := hle j hj
      omega
  · show _ ≤ g (r.set p y) j
    rw [hg]
    by_cases e : j = p
    · rw [if_pos e, e]; omega
    · rw [if_neg e]; exact Nat.le_refl _
  · show g r p < g (r.set p y) j
    rw [hg]
    by_cases e : j = p
    · rw [if_pos e]; exact p2
    · rw [if_neg e]
      have := p4 j (by omega) (by simp at h2; omega)
      omega
  · have hi' : i + 1 < r.length := by rw [← hlen]; exact hi
    show g (r.set p y) i ≤ g (r.set p y) (i + 1)
    rw [hg, hg]
    by_cases e1 : i = p
    · rw [if_pos e1, if_neg (by omega)]; exact p4 _ (by omega) hi'
    · rw [if_neg e1]
      by_cases e2 : i + 1 = p
      · rw [if_pos e2]
        have := hs i hi'
        rw [e2] at this
        omega
      · rw [if_neg e2]; exact hs i hi'
theorem pushOut_mem {r : List Nat} {y q : Nat} (hq : q < r.length) (hy : g r q < y) : (pushOut r y).2 ∈ r ∧ ∀ x ∈ (pushOut r y).1, x = y ∨ x ∈ r := by
  obtain ⟨p1, p2, p3, p4⟩ := lastBelow_spec hq hy
  unfold pushOut
  refine ⟨by show g r _ ∈ r; rw [g_lt p1]; exact List.getElem_mem p1, fun x hx => ?_⟩
  rcases List.mem_or_eq_of_mem_set hx with e | e
  · exact .inr e
  · exact .inl e
/-- the rows above, from the lowest one on -/
def pushAll : List (List Nat) → Nat → List (List Nat) × Nat
  | [], y => ([], y)
  | r :: rs, y => ((pushOut r (pushAll rs y).2).1 :: (pushAll rs y).1, (pushOut r (pushAll rs y).2).2)
theorem pushAll_snoc : ∀ (rs : List (List Nat)) (r : List Nat) (y : Nat), pushAll (rs ++ [r]) y = ((pushAll rs (pushOut r y).2).1 ++ [(pushOut r y).1], (pushAll rs (pushOut r y).2).2)
  | [], r, y => rfl
  | a :: rs, r, y => by
    show pushAll (a :: (rs ++ [r])) y = _
    unfold pushAll
    rw [pushAll_snoc rs r y]; rfl
theorem pushAll_len : ∀ (rs : List (List Nat)) (y : Nat), (pushAll rs y).1.length = rs.length
  | [], _ => rfl
  | r :: rs, y => by unfold pushAll; simp [pushAll_len rs y]
theorem pushAll_lens : ∀ (rs : List (List Nat)) (y : Nat), lens (pushAll rs y).1 = lens rs
  | [], _ => rfl
  | r :: rs, y => by
    unfold pushAll
    show (pushOut r (pushAll rs y).2).1.length :: lens (pushAll rs y).1 = r.length :: lens rs
    rw [pushAll_lens rs y]
    unfold pushOut
    rw [List.length_set]
def takeRows (rows : List (List Nat)) (i : Nat) : List (List Nat) × Nat :=
  let s := rows.getD i []
  let p := pushAll (rows.take i) (g s (s.length - 1))
  ((p.1 ++ s.dropLast :: rows.drop (i + 1)).filter (fun r => 0 < r.length), p.2)
/-- the same row by row: the rows above, the row s, the rows below -/
theorem push_chain : ∀ {us : List (List Nat)} {s s' : List Nat} {y : Nat} {ds : List (List Nat)}, (∀ r ∈ us, Srt r) → Ch (us ++ [s]) → Rev s s' y → Ch (s' :: ds) → Ch ((pushAll us y).1 ++ s' :: ds) ∧ (∀ r ∈ (pushAll us y).1, Srt r) ∧
    (us = [] ∨ ∃ u us' u' , us = u :: us' ∧ (∃ t, (pushAll us y).1 = u' :: t) ∧ Rev u u' (pushAll us y).2)
  | [], s, s', y, ds, _, _, _, h => ⟨h, fun r hr => absurd hr (by simp [pushAll]), .inl rfl⟩
  | u :: us, s, s', y, ds, hs, hc, hv, h => by
    have hs' : ∀ r ∈ us, Srt r := fun r hr => hs r (List.mem_cons_of_mem _ hr)
    have hc' : Ch (us ++ [s]) := hc.tail
    obtain ⟨i1, i2, i3⟩ := push_chain (us := us) (ds := ds) hs' hc' hv h
    have us' : Srt u := hs u List.mem_cons_self
    rcases i3 with e | ⟨u2, us2, u2', e, ⟨t, et⟩, rv⟩
    · subst e
      have hr : Rise u s := hc.1
      obtain ⟨p1, p2, p3, p4⟩ := push_ok hr us' hv
      refine ⟨⟨p1, h⟩, fun r hr => ?_, .inr ⟨u, [], _, rfl, ⟨_, rfl⟩, p2⟩⟩
      have e : r = (pushOut u y).1 := by simpa [pushAll] using hr
      rw [e]; exact p3
    · subst e
      have hr : Rise u u2 := hc.1
      obtain ⟨p1, p2, p3, p4⟩ := push_ok hr us' rv
      refine ⟨?_, fun r hr => ?_, .inr ⟨u, u2 :: us2, _, rfl, ⟨_, rfl⟩, p2⟩⟩
      · show Ch ((pushOut u (pushAll (u2 :: us2) y).2).1 :: ((pushAll (u2 :: us2) y).1 ++ s' :: ds))
        rw [et] at i1 ⊢
        exact ⟨p1, i1⟩
      · have hr' : r ∈ (pushOut u (pushAll (u2 :: us2) y).2).1 :: (pushAll (u2 :: us2) y).1 := hr
        rcases List.mem_cons.mp hr' with e | e
        · rw [e]; exact p3
        · exact i2 r e
end Wm

/-! A letter taken out leaves a table. -/
namespace Wm
theorem lastBelow_lt {r : List Nat} {y : Nat} (h : 1 ≤ r.length) : lastBelow r y < r.length := by
  unfold lastBelow
  obtain ⟨_, _, h3⟩ := foldl_max ((List.range r.length).filter fun i => decide (g r i < y)) 0
  rcases h3 with e | e
  · omega
  · exact List.mem_range.mp (List.mem_filter.mp e).1
theorem pushAll_mem {P : Nat → Prop} : ∀ {rs : List (List Nat)} {y : Nat}, (∀ r ∈ rs, 1 ≤ r.length) → (∀ r ∈ rs, ∀ x ∈ r, P x) → P y → (∀ r ∈ (pushAll rs y).1, ∀ x ∈ r, P x) ∧ P (pushAll rs y).2
  | [], y, _, _, hy => ⟨fun r hr => absurd hr (by simp [pushAll]), hy⟩
  | r :: rs, y, hl, hp, hy => by
    obtain ⟨i1, i2⟩ := pushAll_mem (rs := rs) (y := y) (fun r hr => hl r (List.mem_cons_of_mem _ hr)) (fun r hr => hp r (List.mem_cons_of_mem _ hr)) hy
    have lt := lastBelow_lt (y := (pushAll rs y).2) (hl r List.mem_cons_self)
    refine ⟨fun q hq x hx => ?_, ?_⟩
    · have hq' : q ∈ (pushOut r (pushAll rs y).2).1 :: (pushAll rs y).1 := hq
      rcases List.mem_cons.mp hq' with e | e
      · rw [e] at hx
        rcases List.mem_or_eq_of_mem_set hx with z | z
        · exact hp r List.mem_cons_self x z
        · rw [z]; exact i2
      · exact i1 q e x hx
    · show P (g r (lastBelow r (pushAll rs y).2))
      rw [g_lt lt]
      exact hp r List.mem_cons_self _ (List.getElem_mem lt)
theorem pushAll_ne {rs : List (List Nat)} {y : Nat} (h : ∀ r ∈ rs, 1 ≤ r.length) : ∀ r ∈ (pushAll rs y).1, 1 ≤ r.length := fun r hr => by
  have e := pushAll_lens rs y
  have hm : r.length ∈ lens (pushAll rs y).1 := List.mem_map.mpr ⟨r, hr, rfl⟩
  rw [e] at hm
  obtain ⟨q, hq, e2⟩ := List.mem_map.mp hm
  rw [← e2]; exact h q hq
theorem Ch.left : ∀ {a b : List (List Nat)}, Ch (a ++ b) → Ch a
  | [], _, _ => trivial
  | [_], _, _ => trivial
  | _ :: v :: a, b, h => ⟨h.1, Ch.left (a := v :: a) (b := b) h.2⟩
theorem Ch.right : ∀ {a b : List (List Nat)}, Ch (a ++ b) → Ch b
  | [], _, h => h
  | _ :: a, b, h => Ch.right (a := a) (b := b) h.tail
theorem split_at {rows : List (List Nat)} {i : Nat} (h : i < rows.length) : rows = rows.take i ++ rows.getD i [] :: rows.drop (i + 1) := by
  have e : rows.getD i [] = rows[i] := by rw [List.getD_eq_getElem?_getD, List.getElem?_eq_getElem h]; rfl
  rw [e, ← List.drop_eq_getElem_cons h, List.take_append_drop]
theorem lens_filter (L : List (List Nat)) : lens (L.filter fun r => decide (0 < r.length)) = (lens L).filter fun n => decide (0 < n) := by
  unfold lens
  rw [List.filter_map]
  rfl
theorem takeRows_ok {rows : List (List Nat)} (h : Tab rows) {i : Nat} (hc : isCorner (lens rows) i = true) :
    Tab (takeRows rows i).1 ∧ lens (takeRows rows i).1 = less (lens rows) i := by
  have hlen : (lens rows).length = rows.length := by unfold lens; exact List.length_map ..
  have hi : i < rows.length := by rw [← hlen]; exact corner_lt hc
  have lg : ∀ j, g (lens rows) j = (rows.getD j []).length := fun j => by
    unfold g lens
    rw [List.getD_eq_getElem?_getD, List.getD_eq_getElem?_getD, List.getElem?_map]
    cases rows[j]? <;> rfl
  have cor : (rows.getD (i + 1) []).length < (rows.getD i []).length := by
    have := of_decide_eq_true hc
    rw [lg, lg] at this
    exact this
  have hm : rows.getD i [] ∈ rows := by rw [List.getD_eq_getElem?_getD, List.getElem?_eq_getElem hi]; exact List.getElem_mem hi
  have sp := split_at hi
  generalize hs : rows.getD i [] = s at *
  have hch := h.ch
  rw [sp] at hch
  have c1 : Ch (rows.take i ++ [s]) := by
    have e : rows.take i ++ s :: rows.drop (i + 1) = (rows.take i ++ [s]) ++ rows.drop (i + 1) := by rw [List.append_assoc]; rfl
    rw [e] at hch
    exact hch.left
  have c2 : Ch (s :: rows.drop (i + 1)) := hch.right
  have hs1 : 1 ≤ s.length := h.ne _ hm
  have dl : s.dropLast.length = s.length - 1 := List.length_dropLast
  have dg : ∀ j, j < s.length - 1 → g s.dropLast j = g s j := fun j hj => by
    rw [g_lt (by rw [dl]; exact hj), List.getElem_dropLast, g_lt (by omega)]
  have c3 : Ch (s.dropLast :: rows.drop (i + 1)) := by
    cases hd : rows.drop (i + 1) with
    | nil => trivial
    | cons v vs =>
      rw [hd] at c2
      have hv : rows.getD (i + 1) [] = v := by
        rw [List.getD_eq_getElem?_getD]
        have : (rows.drop (i + 1))[0]? = some v := by rw [hd]; rfl
        rw [List.getElem?_drop] at this
        rw [this]; rfl
      rw [hv] at cor
      refine ⟨⟨by rw [dl]; omega, fun j hj => ?_⟩, c2.2⟩
      rw [dg j (by omega)]
      exact c2.1.2 j hj
  have tk : ∀ r ∈ rows.take i, r ∈ rows := fun r hr => List.mem_of_mem_take hr
  have dr : ∀ r ∈ rows.drop (i + 1), r ∈ rows := fun r hr => List.mem_of_mem_drop hr
  obtain ⟨k1, k2, _⟩ := push_chain (us := rows.take i) (ds := rows.drop (i + 1)) (fun r hr => h.srt r (tk r hr)) c1 (Rev.last hs1) c3
  have ne1 := pushAll_ne (rs := rows.take i) (y := g s (s.length - 1)) fun r hr => h.ne r (tk r hr)
  have last : 1 ≤ g s (s.length - 1) ∧ g s (s.length - 1) ≤ 12 := by
    rw [g_lt (by omega)]
    exact h.ltr _ hm _ (List.getElem_mem _)
  have mm := (pushAll_mem (P := fun x => 1 ≤ x ∧ x ≤ 12) (rs := rows.take i) (y := g s (s.length - 1)) (fun r hr => h.ne r (tk r hr)) (fun r hr => h.ltr r (tk r hr)) last).1
  have et : (takeRows rows i).1 = ((pushAll (rows.take i) (g s (s.length - 1))).1 ++ s.dropLast :: rows.drop (i + 1)).filter (fun r => decide (0 < r.length)) := by
    unfold takeRows
    rw [hs]
  have sd : Srt s.dropLast := fun j hj => by
    rw [dg j (by omega), dg (j + 1) (by omega)]
    exact h.srt _ hm j (by omega)
  have memL : ∀ r ∈ (pushAll (rows.take i) (g s (s.length - 1))).1 ++ s.dropLast :: rows.drop (i + 1), Srt r ∧ ∀ y ∈ r, 1 ≤ y ∧ y ≤ 12 := fun r hr => by
    rcases List.mem_append.mp hr with z | z
    · exact ⟨k2 r z, mm r z⟩
    · rcases List.mem_cons.mp z with e | e
      · rw [e]; exact ⟨sd, fun y hy => h.ltr _ hm y ((List.dropLast_sublist s).subset hy)⟩
      · exact ⟨h.srt r (dr r e), h.ltr r (dr r e)⟩
  refine ⟨⟨fun r hr => ?_, fun r hr => ?_, fun r hr => ?_, ?_⟩, ?_⟩
  · rw [et] at hr; exact (memL r (List.mem_filter.mp hr).1).1
  · rw [et] at hr
    have := of_decide_eq_true (List.mem_filter.mp hr).2
    omega
  · rw [et] at hr; exact (memL r (List.mem_filter.mp hr).1).2
  · rw [et]
    have f1 : (pushAll (rows.take i) (g s (s.length - 1))).1.filter (fun r => decide (0 < r.length)) = (pushAll (rows.take i) (g s (s.length - 1))).1 := List.filter_eq_self.mpr fun r hr => decide_eq_true (by have := ne1 r hr; omega)
    have f2 : (rows.drop (i + 1)).filter (fun r => decide (0 < r.length)) = rows.drop (i + 1) := List.filter_eq_self.mpr fun r hr => decide_eq_true (by have := h.ne r (dr r hr); omega)
    rw [List.filter_append, f1, List.filter_cons]
    by_cases e : 0 < s.dropLast.length
    · rw [if_pos (decide_eq_true e), f2]; exact k1
    · rw [if_neg (fun z => e (of_decide_eq_true z)), f2]
      have hd : rows.drop (i + 1) = [] := by
        cases hd : rows.drop (i + 1) with
        | nil => rfl
        | cons v vs =>
          exfalso
          have hv : rows.getD (i + 1) [] = v := by
            rw [List.getD_eq_getElem?_getD]
            have : (rows.drop (i + 1))[0]? = some v := by rw [hd]; rfl
            rw [List.getElem?_drop] at this
            rw [this]; rfl
          have : 1 ≤ v.length := h.ne v (dr v (by rw [hd]; exact List.mem_cons_self))
          rw [hv] at cor
          omega
      rw [hd, List.append_nil]
      exact k1.left
  · rw [et, lens_filter]
    unfold less
    congr 1
    have e1 : lens ((pushAll (rows.take i) (g s (s.length - 1))).1 ++ s.dropLast :: rows.drop (i + 1)) = lens (rows.take i) ++ (s.length - 1) :: lens (rows.drop (i + 1)) := by
      have := pushAll_lens (rows.take i) (g s (s.length - 1))
      unfold lens at this ⊢
      rw [List.map_append, this, List.map_cons, dl]
    rw [e1, lg, hs, List.set_eq_take_append_cons_drop, if_pos (by rw [hlen]; exact hi)]
    unfold lens
    rw [← List.map_take, ← List.map_drop]
theorem takeRows_sum {rows : List (List Nat)} (h : Tab rows) {i : Nat} (hc : isCorner (lens rows) i = true) : (lens (takeRows rows i).1).sum + 1 = (lens rows).sum := by
  rw [(takeRows_ok h hc).2]
  exact less_sum h.shp hc
end Wm

set_option Elab.async false
set_option linter.all false
set_option maxRecDepth 100000
set_option maxHeartbeats 4000000
/-! try: .. except (x, y, z) as n: a raised one surely matches. -/
namespace We
open PySem PySem.Spec PyProof.Rows L2
/-- what the clause wishes of an exception of the body -/
def wTup (K : PySem.W.Frag) (cs : List Value) (i : Nat) (ts : Addr → Value → Option Addr → TS) (D : Ends) : WX := fun cls d σ H =>
  PySem.W.exmAny K cls cs = some true ∧ ∀ a, H a = none →
    ts a cls d ⟨fun σ' H' => D.nx (σ'.set i none) H', D.rt, fun σ' H' => D.bk (σ'.set i none) H', fun σ' H' => D.ct (σ'.set i none) H'⟩ (σ.set i (some (.ref a))) H
/-- the suite's end, whatever it is: the name goes -/
theorem suite_ends {X : Cx} {pins : List (Addr × Obj)} {i : Nat} {n : Str} {pos : Pos} {D : Ends} {a : Addr} {q : Addr × Obj} (ok : X.Ok) (hN : X.N.Nodup) (hi : X.N[i]? = some n) (hln : X.env.kindOf n = some .local) {f : Flow} {s6 : Shared}
    (h : SP (X.suite a (q :: (X.pn ++ pins))) [] ⟨fun σ' H' => D.nx (σ'.set i none) H', D.rt, fun σ' H' => D.bk (σ'.set i none) H', fun σ' H' => D.ct (σ'.set i none) H'⟩ f s6) :
    wpAny (model X.prog X.w) X.A (do bindName X.env n .none; unbindBehindTheSuite X.env n pos) (fun _ s7 => SP X pins D f s7) X.xe s6 := by
  cases f with
  | next => obtain ⟨σ6, H6, S6, q6⟩ := h; exact gone_ok (S6.unsuite ok) hN hi hln fun s7 J => ⟨_, _, J, q6⟩
  | brk => obtain ⟨σ6, H6, S6, q6⟩ := h; exact gone_ok (S6.unsuite ok) hN hi hln fun s7 J => ⟨_, _, J, q6⟩
  | cont => obtain ⟨σ6, H6, S6, q6⟩ := h; exact gone_ok (S6.unsuite ok) hN hi hln fun s7 J => ⟨_, _, J, q6⟩
  | ret u => obtain ⟨v6, σ6, H6, S6, r6, q6⟩ := h; exact gone_ok (S6.unsuite ok) hN hi hln fun s7 J => ⟨_, _, _, J, r6, q6⟩
/-- the body's end without an exception -/
theorem body_ends {X : Cx} {pins : List (Addr × Obj)} {D : Ends} {xe : Value → Shared → Prop} (ok : X.Ok) {f : Flow} {s1 : Shared} (h : SP (X.tr (X.pn ++ pins) xe) [] D f s1) : SP X pins D f s1 := by
  cases f with
  | next => obtain ⟨σ', H', J, q⟩ := h; exact ⟨σ', H', J.ofTry ok, q⟩
  | brk => obtain ⟨σ', H', J, q⟩ := h; exact ⟨σ', H', J.ofTry ok, q⟩
  | cont => obtain ⟨σ', H', J, q⟩ := h; exact ⟨σ', H', J.ofTry ok, q⟩
  | ret u => obtain ⟨v, σ', H', J, r, q⟩ := h; exact ⟨v, σ', H', J.ofTry ok, r, q⟩
/-- an exception in flight, the heap grown -/
theorem fly_ext {B h h' : Heap} {l : List Env} {a : Addr} {Z : Obj → Prop} (f : HandSPX.FlyingZ B l a Z h) (kp : ∀ b o, h.get? b = some o → h'.get? b = some o) : HandSPX.FlyingZ B l a Z h' := by
  obtain ⟨f1, f2, f3, oe, vs, T, oT, tt, q1, q2, q3, q4, q5, q6, q7, q8, q9⟩ := f
  exact ⟨fun b o e => kp b o (f1 b o e), f2, f3.of_keeps fun b o e _ => ⟨o, kp b o e, rfl⟩, oe, vs, T, oT, tt, kp _ _ q1, q2, q3, q4, q5, q6, kp _ _ q7, q8, q9⟩
section
variable {X : Cx} {x y z n : Str} {cx cy cz : Value} {i k : Nat} {body suite : List Stmt} {b₀ : Stmt} {p1 p2 p3 pt pos pos' : Pos} {tb : WX → TS} {ts : Addr → Value → Option Addr → TS}
theorem ps_try_tup (hst : X.stack = X.env :: X.outer) (hfl : X.env.frame = some X.env.locals) (hN : X.N.Nodup) (hi : X.N[i]? = some n) (hln : X.env.kindOf n = some .local)
    (gx : Gl X x) (gy : Gl X y) (gz : Gl X z) (mx : X.mg x = some cx) (my : X.mg y = some cy) (mz : X.mg z = some cz)
    (hb : ∀ (W : WX) (pn : List (Addr × Obj)) (xe : Value → Shared → Prop), Takes (X.tr pn xe) W → PassesOwn (model X.prog X.w) X.A X.env xe → PSs (X.tr pn xe) body (tb W))
    (hsu : ∀ (a : Addr) (oe : Obj) (cls : Value) (d : Option Addr) (pn : List (Addr × Obj)), Zc cls d oe → (∃ vs, oe.data = .fields vs) → PSs (X.suite a ((a, oe) :: pn)) (b₀ :: suite) (ts a cls d))
    (dx : (x == ("__debug__" : Str)) = false := by decide) (dy : (y == ("__debug__" : Str)) = false := by decide) (dz : (z == ("__debug__" : Str)) = false := by decide) :
    PS X (.Try body [.ExceptHandler (some (.Tuple [.Name x p1, .Name y p2, .Name z p3] k pt)) (some n) (b₀ :: suite) pos'] [] [] pos) (fun D σ H => tb (wTup X.K [cx, cy, cz] i ts D) D σ H) := by
  refine ⟨fun pins s σ H D I h => wpAny_Try_except ?_⟩
  have ok := I.ok
  have frm : X.A.frames = some (X.env :: X.outer) := by rw [ok.frames, hst]
  have run := (hb (wTup X.K [cx, cy, cz] i ts D) (X.pn ++ pins) (fun e s₁ => wpAny (model X.prog X.w) X.A (noteFrame e X.env) (fun _ s₂ => wpAny (model X.prog X.w) X.A (setFlight e none)
    (fun _ s₃ => wpAny (model X.prog X.w) X.A (handleBy e X.env [.ExceptHandler (some (.Tuple [.Name x p1, .Name y p2, .Name z p3] k pt)) (some n) (b₀ :: suite) pos']) (SP X pins D) X.xe s₃) X.xe s₂) X.xe s₁)
    ?tk PassesOwn.looking).run [] s σ H D (I.toTry _) h
  case tk =>
    rintro u s' ⟨a, B, sI, pins', σ', H', cls, d, rfl, J', nb, up, sky, na, os, ag, hm, hts⟩
    have J : Inv X pins σ' H' sI := J'.ofTry ok
    rw [show (X.tr (X.pn ++ pins) _).stack = X.env :: X.outer from hst] at sky
    refine Sky.land Zc.steady frm hfl sky fun h3 fl3 up3 => ?_
    have J3 : Inv X pins σ' H' { s' with heap := h3 } := J.landed nb fl3.1 (up.trans up3) os ag
    obtain ⟨oe3, vs3, he3, hz3, hd3⟩ := fl3.there
    have outF : a ∉ frs (X.env :: X.outer) := fun hmem => by
      obtain ⟨_, ob, eb, hnf⟩ := fl3.2.2.1.mem hmem
      rw [he3] at eb
      cases eb
      exact hnf _ hd3
    have nL : a ≠ X.env.locals := fun e => outF (List.mem_filterMap.mpr ⟨X.env, List.mem_cons_self, by rw [hfl, e]⟩)
    have nF : a ∉ X.fs := fun hmem => outF (by
      obtain ⟨e, he, q⟩ := List.mem_filterMap.mp hmem
      exact List.mem_filterMap.mpr ⟨e, List.mem_cons_of_mem _ he, q⟩)
    have S3 := J3.suite he3 hd3 na nL nF
    refine PySem.W.exc_clause_as (Tuple_ (spliced_more ?_))
    refine ld_glob (X := X.suite a ((a, oe3) :: (X.pn ++ pins))) S3 gx mx ?_ dx
    refine spliced_more ?_
    refine ld_glob (X := X.suite a ((a, oe3) :: (X.pn ++ pins))) S3 gy my ?_ dy
    refine spliced_more ?_
    refine ld_glob (X := X.suite a ((a, oe3) :: (X.pn ++ pins))) S3 gz mz ?_ dz
    refine spliced_none ?_
    refine wpAny_newObj_type ?_ (by show 3 ≤ sizeLine; decide)
    have LT : PySem.W.Looks (model X.prog X.w) (h3.push { cls := .type "tuple", data := .seq [cx, cy, cz].toArray }) (typeOf (.ref a)) cls := fun A Q E s1 kp q =>
      wpAny_typeOf_ref (kp _ _ (Heap.get?_push_of_some _ he3)) (by rw [hz3.1]; exact q)
    have K3 : X.K.In (h3.push { cls := .type "tuple", data := .seq [cx, cy, cz].toArray }) := J3.kIn.keeps fun b o e => Heap.get?_push_of_some _ e
    refine ⟨true, PySem.W.exm_tup3 K3 LT (Heap.get?_push_size h3 rfl) hm, ?_⟩
    rw [if_pos rfl]
    have grow : ∀ b o, h3.get? b = some o → (h3.push { cls := .type "tuple", data := .seq [cx, cy, cz].toArray }).get? b = some o := fun b o e => Heap.get?_push_of_some _ e
    refine HandSPX.lands_againZ (s := { s' with heap := h3.push { cls := .type "tuple", data := .seq [cx, cy, cz].toArray } }) (fly_ext fl3 grow) fun h4 fl4 up4 => ?_
    have J4 : L2.Inv X pins σ' H' { s' with heap := h4 } := J.landed nb fl4.1 ((up.trans up3).trans ((Heap.UpToSlots.of_keeps grow).trans up4)) os ag
    obtain ⟨oe4, vs4, he4, hz4, hd4⟩ := fl4.there
    refine store_ok (X := X.suite a ((a, oe4) :: (X.pn ++ pins))) (v := .ref a) (J4.suite he4 hd4 na nL nF) hN hi (.inl hln) rfl (fun s5 S5 => ?_) (.inr hln)
    exact wpAny_mono ((hsu a oe4 cls d (X.pn ++ pins) hz4 ⟨_, hd4⟩).run [] s5 _ H' _ S5 (hts a na)) (fun f s6 hsp => suite_ends ok hN hi hln hsp) (fun _ _ w => False.elim w)
  refine wpAny_mono run (fun f s1 hsp => ?_) (fun e s1 he => he)
  have q := body_ends ok hsp
  cases f with
  | next => exact wpAny_execs_nil q
  | brk => exact q
  | cont => exact q
  | ret u => exact q
end
end We

set_option Elab.async false
set_option linter.all false
set_option maxRecDepth 100000
set_option maxHeartbeats 4000000
/-! A def called in an except suite with the caught error: what it promises of that very error; isinstance of it. -/
namespace We
open PySem PySem.Spec PyProof.Rows L2 L2H
/-- a def's promise, p an error that is held around it -/
structure FnJ (P : Program) (w : World) (K : PySem.W.Frag) (mg : Str → Option Value) (base : Heap) (k : Nat) (f : Addr) (fd : FuncData) (ps : List Str) (sp : Addr × Obj → Sp) : Prop where
  len : ∀ p vs H Q E, sp p vs H Q E → vs.length = ps.length
  run : ∀ (A : Around) (outer : List Env) (s : Shared) (H : Hp) (args : Args) (us : List Value) (vs : List V) (Q : VK) (E : XK) (p : Addr × Obj), RoomH k A → PinOk outer H s p → Env0 P w K mg base A outer s H →
    BindsTo s fd args (ps.zip us) → Vals vs us → sp p vs H Q E → codeAny (model P w) A (.call (.ref f) args) (CR CX0 outer P w H s Q E) s
theorem Fun.okJ {P : Program} {w : World} {K : PySem.W.Frag} {mg : Str → Option Value} {base : Heap} {x qual : Str} {st : Stmt} {f : Addr} {fd : FuncData} {N ps : List Str} {k : Nat} {sp : Addr × Obj → Sp} (F : Fun K x qual st f fd) (S : FnScope N ps (defScope st))
    (len : ∀ p vs H Q E, sp p vs H Q E → vs.length = ps.length)
    (hbody : ∀ (cdv : Value) (A : Around) (outer : List Env) (s : Shared) (H : Hp) (vs : List V) (Q : VK) (E : XK) (p : Addr × Obj), RoomH k (A.deeper (envOfC qual (defScope st) s.heap.objs.size f cdv)) → sp p vs H Q E →
      ∃ t, PSs (cxH CX0 P w K mg base N qual (defScope st) f cdv A outer s H E p) (defBody st) t ∧ t { nx := fun _ H' => Q .non H', rt := Q } (L2.start N vs) H) : FnJ P w K mg base (k + 1) f fd ps sp := by
  obtain ⟨oc, od, kV, doc, pm, an, cdv, ct, osl, rfl, lk, hcd⟩ := F.ex
  refine ⟨len, fun A outer s H args us vs Q E p hr hpin e0 hb r hsp => ?_⟩
  have KX : K.In s.heap := e0.mod.kin.keeps fun b o e => (e0.bs b o e).1
  have par : ∀ y ∈ ps.zip us, (defScope st).names.lookup y.1 = some .local ∨ ((defScope st).names.lookup y.1 = some .cell ∧ ((cellsFrom (s.heap.objs.size + 1) (defScope st).names []).lookup y.1).isSome = true) := by
    rintro ⟨n, v⟩ hy
    exact (S.par n (List.of_mem_zip hy).1).imp id fun q => ⟨q, PySem.W.cellsFrom_some _ _ _ (.inl q)⟩
  refine codeAny_call_function hr.depth (KX _ _ lk) rfl S.co S.gen rfl (PySem.W.codeRec_of KX hcd) (hb _ _ _ _ (wpAny_newFunctionEnv_cells S.kind par fun env he s1 x => ?_))
  subst he
  refine ⟨(e0.mod.nolimit.keeps fun b o e => (e0.bs b o e).1).keeps x.toInCall.keep, codeAny_func ?_⟩
  obtain ⟨t, ht, hq⟩ := hbody cdv A outer s H vs Q E p (hr.deeper _) hsp
  have I := inv_startH (CX := CX0) (P := P) (w := w) (K := K) (mg := mg) (base := base) (qual := qual) (f := f) (cd := cdv) (A := A) (outer := outer) (E := E) S hpin e0 (len _ _ _ _ _ hsp) r x
  refine wpAny_mono (ht.run [] s1 _ H _ I hq) (fun fl s' hs => ?_) fun e s' hs => hs
  cases fl with
  | ret u => obtain ⟨v, σ', H', J, rv, q⟩ := hs; exact ⟨v, H', J.os, J.bare, J.base, J.hok, rv, q⟩
  | next => obtain ⟨σ', H', J, q⟩ := hs; exact ⟨.non, H', J.os, J.bare, J.base, J.hok, rfl, q⟩
  | brk => obtain ⟨_, _, _, q⟩ := hs; exact False.elim q
  | cont => obtain ⟨_, _, _, q⟩ := hs; exact False.elim q
section
variable {X : Cx} {k : Nat} {f : Addr} {fd : FuncData} {a : Str} {sp : Addr × Obj → Sp} {x : Str} {q pos : Pos} {e : Expr} {te : TE} {p : Addr × Obj}
/-- f(e), p held -/
theorem pe_callJ (F : FnJ X.prog X.w X.K X.mg X.base k f fd [a] sp) (hr : RoomH k X.A) (hp : p ∈ X.pn) (hg : Gl X x) (hm : X.mg x = some (.ref f)) (hk : PySem.W.keepIn X.K (.ref f) = true) (hb : Binds X.K fd [a] []) (he : PE X e te)
    (hdb : (x == ("__debug__" : Str)) = false := by decide) (hst : starEach [e] X.env = (false, eval e X.env) :: starEach [] X.env := by rfl) :
    PE X (.Call (.Name x q) [e] [] pos) (fun σ H Q => tCons te tNil σ H fun vs H1 => sp p vs H1 Q E0) := by
  refine ⟨fun pins s σ H Q I h => wpAny_Call_Name_kw (ld_glob I hg hm ?_ hdb)⟩
  refine PySem.W.callWith_K (h₀ := X.base) I.ok.mod.kin hk (thn ((pa_cons he pa_nil hst).run pos pins s σ H _ I h) fun us s1 ⟨vs, H1, I1, r, hsp⟩ => ⟨I1.kIn, ?_⟩) hst (by rfl)
  have hl : us.length = [a].length := by rw [← r.length]; exact F.len _ _ _ _ _ hsp
  have b := hb s1 us I1.kIn (by rw [List.append_nil]; exact hl)
  rw [List.append_nil] at b
  obtain ⟨P1, P2, P3, P4, P5⟩ := I1.pin p (List.mem_append_left _ hp)
  have hpin : PinOk X.stack H1 s1 p := ⟨P1, P2, fun hm => (List.mem_cons.mp (I1.stkSub p.1 hm)).elim P3 P4, P5⟩
  refine wpAny_call (codeAny_mono (F.run X.A X.stack s1 H1 ⟨us, []⟩ us vs Q E0 p hr hpin I1.env0 b r hsp) fun r s' hq => ?_)
  cases r with
  | error e => exact False.elim hq
  | ok fl =>
    cases fl with
    | ret u => exact I1.after hq
    | next => exact False.elim hq
    | brk => exact False.elim hq
    | cont => exact False.elim hq
/-- isinstance(p, c): p an error that is held, an instance of D whose dict is at d -/
def rIsJ (K : PySem.W.Frag) (D a d : Addr) : List V → Hp → VK → Prop := fun xs H Q => ∃ (c : V) (cv : Value) (b : Bool), xs = [.ref a, c] ∧ (∀ u, RelV c u → u = cv) ∧ PySem.W.kitOne K (.ref D) cv = some b ∧ (∃ fs, H d = some (.xd fs)) ∧ Q (.bl b) H
theorem call_isJ {D d : Addr} (hp : p ∈ X.pn) (C : ExcC X.K D) (hc : p.2.cls = .ref D) (hd : p.2.dict = some d) (hf : ∃ vs, p.2.data = .fields vs) : CallR X (.builtin "isinstance") (rIsJ X.K D p.1 d) := by
  intro pins s σ H xs us Q I r h
  obtain ⟨c, cv, b, rfl, hcv, e, ⟨fs, hH⟩, qq⟩ := h
  obtain ⟨u1, u2, rfl, r1, r2⟩ := vals2 r
  obtain rfl : u1 = Value.ref p.1 := r1
  obtain rfl := hcv _ r2
  obtain ⟨hget, _⟩ := I.pin p (List.mem_append_left _ hp)
  obtain ⟨vs, hv⟩ := hf
  have okd : ObjOk X.prog X.w H s.heap d (.xd fs) := I.hok d _ hH
  obtain ⟨mA, ⟨od, es, ep, hod, _⟩, _⟩ := okd
  obtain ⟨cd, hcd, _⟩ := PySem.W.any_some C.hd
  have J : PySem.W.InstAt s.heap p.1 p.2 D (some od) := ⟨hget, hc, by unfold PySem.W.notCls; rw [hv], by rw [hd]; exact hod⟩
  exact PySem.W.kia_one (PySem.W.kitx_exc (by rw [hcd]; rfl) C.hg C.hk C.hs C.ha C.hn C.ht C.hm) I.kIn J e (fun z => nomatch z) fun tk => ⟨.bl b, H, I.tok tk, rfl, qq⟩
end
end We

set_option Elab.async false
set_option linter.all false
set_option maxRecDepth 100000
set_option maxHeartbeats 4000000
/-! An own exception (over ValueError, by whatever classes) whose __init__ is: super().__init__(g); self.g = g. -/
namespace We
open PySem PySem.Spec PySem.Calls PyProof.Rows L2 PySem.W
def top (i : Nat) : Stmt := PySem.Challenge.pw_wordshapes_k03_whole_boxes_put_and_taken.main.body.getD i (.Pass ⟨0, 0, 0, 0⟩)
abbrev sRow : Stmt := inClass (top 7) 0
/-- what the written part says of the class at C and of its __init__ at f: its code at cda, its cell __class__ at cc -/
structure SupC (P : Program) (K : Frag) (C f cc cda : Addr) : Prop where
  oex : OexC K C
  iC : findIn K (.ref C) "__init__" = some (some (.ref f))
  tI : typeIn K (.ref f) = some (.type "function")
  noG : findIn K (.ref C) "given" = some none
  fn : ∃ oc od osl kV doc pm an ct, K.lookup f = some ⟨oc, od, .func (ksFn "__init__" "InvalidRow.__init__" (defArgs sRow) (defBody sRow) (defScope sRow) .none kV doc pm an (.ref cda) ct cc), osl⟩
  cdi : codeIn K (.ref cda) "InvalidRow.__init__" = true
  cell : ∃ oc od osl, K.lookup cc = some ⟨oc, od, .cell (some (.ref C)), osl⟩
  file : ∃ oc od vs osl tf, K.lookup cda = some ⟨oc, od, .fields vs, osl⟩ ∧ vs[2]? = some (.str P.main.file tf)
  self : mroIn K C (.ref C) = some true
  sup : ks_superIn K C C "__init__" = some (some (.builtin "ValueError.__init__"))
  isV : subIn K (.ref C) (.type "ValueError") = some true
  any : nsIn K cStatics "thirdparty.any" = some none
  top : (P.main.scope.names.lookup ("super" : Str)).isSome = false
abbrev fdRow (kV doc pm : Value) (an : Option Addr) (cda : Addr) (ct : Value) (cc : Addr) : FuncData := ksFn "__init__" "InvalidRow.__init__" (defArgs sRow) (defBody sRow) (defScope sRow) .none kV doc pm an (.ref cda) ct cc
abbrev envRow (L f cda cc : Addr) : Env := ksEnv "InvalidRow.__init__" (defScope sRow) L f (.ref cda) cc
section
variable {prog : Program} {w : World} {A : Around} {E : Value → Shared → Prop} {h : Heap} {g : Array GenState} {d : Drawn} {tk : Nat} {os : OsState} {nm q : Str} {C N uq e t0 : Addr} {bs bm : List Value} {hdct : Bool} {sn : List Str} {sub : List Value} {ab : Bool} {col : Option Bool} {dd : Option Addr} {k0 k1 k2 k3 k5 : Option Value} {us : List Value}
/-- the bound ValueError.__init__ called: nothing but the exception's own record changes -/
theorem call_mw {Q : Value → Shared → Prop} (hC : h.get? C = some (excClassObj nm q C N bs bm hdct sn sub ab col dd k0 k1 k2 k3 k5 "ValueError.__new__")) (he : h.get? e = some (HandSPX.excO C t0)) (hu : h.get? uq = some (kxs_mw "ValueError.__init__" e)) (hz : us.length ≤ sizeLine)
    (hq : ∀ h' t1, (∀ b o, b ≠ e → h.get? b = some o → h'.get? b = some o) → h'.get? e = some (HandSPX.excO C t1) → Q .none ⟨h', g, d, tk, os⟩) : wpAny (model prog w) A (call (.ref uq) us) Q E ⟨h, g, d, tk, os⟩ := by
  have bound : (Value.type "method-wrapper" == Value.type "method" || Value.type "method-wrapper" == Value.type "builtin_function_or_method" || Value.type "method-wrapper" == Value.type "method-wrapper") = true := by decide
  refine wpAny_call (codeAny_of_tree ?_)
  show wpAny _ A.in1 (callAny (.ref uq) ⟨us, []⟩) _ _ _
  simp only [callAny]
  refine wpAny_bind (wpAny_load hu ?_)
  simp only [bound, if_true]
  refine KFB.if_so (by decide) (wpAny_bind (check_bound_init F.excBase_ValueError.toExcCallFacts hC he rfl (wpAny_bind (wpAny_pure (wpAny_pure ⟨plainId_quiet F.excBase_ValueError.init.plain _, codeAny_builtin F.excBase_ValueError.initEntry ?_⟩)))))
  exact exc_init_tree (cls := .ref C) (t0 := t0) (dv := none) (c2 := .none) (c3 := .none) (b4 := .bool false) he hz fun h' k e' _ => hq h' _ k e'
end
section
variable {P : Program} {w : World} {A : Around} {R : Result → Shared → Prop} {K : Frag} {C f cc cda e t0 : Addr} {u : Value} {h : Heap} {g : Array GenState} {d : Drawn} {tk : Nat} {os : OsState} {mg mb : Str → Option Value}
theorem init_sup (T : SupC P K C f cc cda) (X : K.In h) (lim : h.NoLimit) (G : h.Ns mainGlobals mg) (nos : mg "super" = none) (B : h.Ns builtinsNs mb) (bb : mb "super" = some (.type "super"))
    (he : h.get? e = some (HandSPX.excO C t0)) (hKe : K.lookup e = none) (hroom : A.depth < recursionLimit)
    (hq : ∀ h' tk' dx t1, (∀ b o, b ≠ e → h.get? b = some o → h'.get? b = some o) → h.objs.size ≤ dx → dx ≠ e → h'.get? e = some { cls := .ref C, dict := some dx, data := .fields #[.ref t1, .none, .none, .none, .bool false, .none] } →
      h'.Ns1 dx (fun y => if y = "given" then some u else none) → R (.ok (.ret .none)) ⟨h', g, d, tk', os⟩) :
    codeAny (model P w) A (.call (.ref f) ⟨[.ref e, u], []⟩) R ⟨h, g, d, tk, os⟩ := by
  obtain ⟨oc, od, osl, kV, doc, pm, an, ct, lf⟩ := T.fn
  obtain ⟨oc2, od2, osl2, lcell⟩ := T.cell
  obtain ⟨oc3, od3, vs, osl3, tf, lcode, hvs⟩ := T.file
  obtain ⟨nm, q, N, bs, bm, sn, sub, ab, col, dd, k0, k1, k2, k3, k5, hC, hbm⟩ := T.oex.cls
  have hcl : clsIn K C = some { name := nm, bases := bs, mro := .ref C :: bm, ns := N, qualname := q, hasDict := true, slotNames := sn, subclasses := sub, abstract := ab, collection := col, hasDel := false } := by unfold clsIn; rw [hC] <;> rfl
  have neC : e ≠ C := fun z => by
    have := X _ _ hC
    rw [← z, he] at this
    exact absurd (congrArg Obj.data (Option.some.inj this)) (by intro q; cases q)
  refine ks_codeAny_call_defAt (fd := fdRow kV doc pm an cda ct cc) (body := defBody sRow) (binds := [("self", .ref e), ("given", u)]) hroom (X _ _ lf) rfl lim (codeRec_of X T.cdi) rfl (.of_eq rfl) (show ∀ x ∈ (defScope sRow).names, x.2 ≠ .cell by decide +kernel) ?loc (fun h₁ hns hk => ?_)
  case loc =>
    intro y hy
    rcases List.mem_cons.mp hy with z | z
    · rw [z]; rfl
    · rw [List.mem_singleton.mp z]; rfl
  have X1 : K.In h₁ := X.keeps hk
  obtain ⟨L, hL⟩ : ∃ L, L = h.objs.size := ⟨_, rfl⟩
  have hns1 : h₁.Ns L (fun x => ([("self", Value.ref e), ("given", u)] : List (Str × Value)).reverse.lookup x) := by rw [hL]; exact hns
  have below : ∀ {b : Addr} {o : Obj}, h.get? b = some o → b < L := fun z => by rw [hL]; exact Heap.lt_size z
  show PySem.wpAt (model P w) (A.deeper (envRow h.objs.size f cda cc)) (.func (defBody sRow) (envRow h.objs.size f cda cc)) (execs (defBody sRow) (envRow h.objs.size f cda cc)) _ _ _
  rw [← hL]
  refine ks_wpAt_execs_cons (ks_wpAt_Expr_any (ks_wpAt_MethodCall ?_))
  refine ks_wpAt_super_base (fd := fdRow kV doc pm an cda ct cc) rfl rfl (by decide) rfl (X1 _ _ lf) rfl rfl rfl (X1 _ _ lcode) rfl hvs (beq_self_eq_true _) T.top ?_
  refine ks_loadName_global rfl rfl (loadGlobal_builtin (mg := mg) (mb := mb) (G.keeps hk) nos (B.keeps hk) bb ⟨rfl, ?_⟩)
  refine wpAny_loadName_free rfl rfl rfl ⟨_, X1 _ _ lcell, rfl⟩ ?_
  refine wpAny_loadName_local rfl rfl hns1 (v := .ref e) (by rfl) ?_
  refine ks_wpAny_isType_cls (X1 _ _ hC) rfl ⟨rfl, ?_⟩
  refine ks_wpAny_call_super (X1 _ _ hC) rfl (hk _ _ he) rfl (fun c z => by cases z) (looks_mroIn X1 T.self) (fun h₂ hso k2 => ?_)
  have X2 : K.In h₂ := X1.keeps k2
  have e2 : h₂.get? e = some (HandSPX.excO C t0) := k2 _ _ (hk _ _ he)
  have I2 : W.InstAt h₂ e (HandSPX.excO C t0) C none := ⟨e2, rfl, rfl, trivial⟩
  have hsup : alongIn K "__init__" (((Value.ref C :: bm).dropWhile (· != .ref C)).drop 1) = some (some (.builtin "ValueError.__init__")) := by
    have z := T.sup
    unfold ks_superIn at z
    rw [hcl] at z
    exact z
  refine kxs_getMethod kxs_ValueError hso (looks_opaque X2 T.any) ((looks_clsIn X2 hcl).andThen .now) rfl X2 hsup (I2.type.andThen (looks_subIn X2 T.isV)) neC (by decide) ?_
  obtain ⟨h₃, e3⟩ : ∃ h₃, h₃ = h₂.push (kxs_mw "ValueError.__init__" e) := ⟨_, rfl⟩
  have k3' : ∀ b o, h₂.get? b = some o → h₃.get? b = some o := fun b o z => by rw [e3]; exact Heap.get?_push_of_some _ z
  have hu : h₃.get? h₂.objs.size = some (kxs_mw "ValueError.__init__" e) := by rw [e3]; exact Heap.get?_push_size h₂ rfl
  rw [← e3]
  have X3 : K.In h₃ := X2.keeps k3'
  have kk : ∀ b o, h₁.get? b = some o → h₃.get? b = some o := fun b o z => k3' _ _ (k2 _ _ z)
  have hns3 := hns1.keeps kk
  refine kxs_callWith (i := "ValueError.__init__") (x := e) rfl (evalArgs_plain (spliced_more (wpAny_Name (wpAny_loadName_local rfl rfl hns3 (v := u) (by rfl) (spliced_none ⟨hu, ?_⟩)) (by decide))))
  refine call_mw (X3 _ _ hC) (k3' _ _ e2) hu (by show 1 ≤ sizeLine; decide) fun h₄ t1 k4 e4 => ?_
  have X4 : K.In h₄ := fun b o z => k4 b o (fun zz => by
    rw [zz, hKe] at z
    cases z) (X3 _ _ z)
  have hLe : L ≠ e := fun z => absurd (below he) (by rw [z]; exact Nat.lt_irrefl _)
  have hns4 : h₄.Ns L (fun x => ([("self", Value.ref e), ("given", u)] : List (Str × Value)).reverse.lookup x) := by
    obtain ⟨oL, es, ep, q1, q2⟩ := hns3
    exact ⟨oL, es, ep, k4 _ _ hLe q1, q2⟩
  show PySem.wpAt (model P w) (A.deeper (envRow L f cda cc)) (.func (defBody sRow) (envRow L f cda cc)) (execs ((defBody sRow).drop 1) (envRow L f cda cc)) _ _ _
  refine ks_wpAt_execs_cons (ks_wpAt_Assign_Attr (wpAt_of_wpAny ?_))
  refine wpAny_Name (wpAny_loadName_local rfl rfl hns4 (v := u) (by rfl) ?_) (by decide)
  refine wpAny_Name (wpAny_loadName_local rfl rfl hns4 (v := .ref e) (by rfl) ?_) (by decide)
  refine set_plain X4 (ox := HandSPX.excO C t1) (od := none) ⟨e4, rfl, rfl, trivial⟩ T.oex.sa ?_
  refine HandSPX.exc_osa X4 e4 hcl (show HandSPX.refsVE (.ref C :: bm) = true from hbm) rfl T.noG fun h₅ tk' dx k5' dn dne hx hn => ?_
  refine wpAt_of_wpAny (wpAny_execs_nil ?_)
  refine hq h₅ tk' dx t1 (fun b o hb z => k5' _ _ hb (k4 _ _ hb (kk _ _ (hk _ _ z)))) ?_ dne hx hn
  have := hns4.lt
  rw [hL] at this
  exact Nat.le_trans (Nat.le_of_lt this) dn
end
/-- InvalidRow(e) -/
def tRowX (C : Addr) (te : TE) : L2.St → Hp → XK → Prop := fun σ H Q => tCons te tNil σ H fun vs H1 => ∃ v, vs = [v] ∧ ∀ d, H1 d = none → Q (.ref C) (some d) (upd H1 d (.xd [("given", v)]))
theorem pmk_row {X : Cx} {C f cc cda : Addr} {e : Expr} {te : TE} {p pos : Pos} (T : SupC X.prog X.K C f cc cda) (nos : X.mg "super" = none) (hr : Room 1 X.A) (hg : Gl X "InvalidRow") (hm : X.mg "InvalidRow" = some (.ref C)) (he : PE X e te)
    (hst : starEach [e] X.env = (false, eval e X.env) :: starEach [] X.env := by rfl) : PMk X (.Call (.Name "InvalidRow" p) [e] [] pos) (tRowX C te) := by
  intro pins s σ H Q I h
  obtain ⟨nm, q, N, bs, bm, sn, sub, ab, col, dd, k0, k1, k2, k3, k5, hC, hbm⟩ := T.oex.cls
  refine wpAny_Call_Name_kw (ld_glob I hg hm ?_ (by decide))
  refine callWith_K (h₀ := X.base) I.ok.mod.kin T.oex.kC (thn ((pa_cons he pa_nil hst).run pos pins s σ H _ I h) fun us s1 hh => ?_) hst (by rfl)
  obtain ⟨vs, H1, I1, r1, v, rfl, q1⟩ := hh
  obtain ⟨u, rfl, ru⟩ := vals1 r1
  refine ⟨I1.kIn, ?_⟩
  show wpAny _ _ (call (.ref C) [u]) _ _ _
  obtain ⟨hp, g, dr, tk, os⟩ := s1
  have X1 : X.K.In hp := I1.kIn
  have eK : X.K.lookup (hp.objs.size + 1) = none := by
    cases z : X.K.lookup (hp.objs.size + 1) with
    | none => rfl
    | some o => exact absurd (Nat.lt_of_succ_lt (Heap.lt_size (X1 _ _ z))) (Nat.lt_irrefl _)
  have grow : ∀ b o, hp.get? b = some o → ((hp.push (kdv_tup [u])).push (HandSPX.excO C hp.objs.size)).get? b = some o := fun b o z => Heap.get?_push_of_some _ (Heap.get?_push_of_some _ z)
  obtain ⟨mb, B1, B2⟩ := I1.mod.blt
  have hr2 := hr.make (k := 0) C [u] []
  refine wpAny_call (HandSPX.call_own F.excBase_ValueError (fun Y => HandSPX.refsVE_contains Y bm hbm) (X1 _ _ hC) (looks_findIn X1 T.iC) (fun self => bind_fn X1 self T.tI) (by show 1 ≤ sizeLine; decide) ?_)
  refine init_sup T (X1.keeps grow) (I1.nolimit.keeps grow) ((I1.mod.glob.keeps I1.bk).keeps grow) nos ((B1.keeps I1.bk).keeps grow) ((B2 _ (by decide)).trans (by decide +kernel)) (by heap_get) eK hr2.depth fun h' tk' dx t1 kp dn dne hx hn => ?_
  refine ⟨rfl, ?_⟩
  obtain ⟨G, g1, g2⟩ := restrict h' fun b => decide (b ≠ hp.objs.size + 1)
  have neE : ∀ {b : Addr} {o : Obj}, hp.get? b = some o → b ≠ hp.objs.size + 1 := fun z => Nat.ne_of_lt (Nat.lt_succ_of_lt (Heap.lt_size z))
  have kG : ∀ b o, hp.get? b = some o → G.get? b = some o := fun b o z => (g1 b (decide_eq_true (neE z))).trans (kp b o (neE z) (grow b o z))
  have dge : hp.objs.size ≤ dx := Nat.le_trans (by rw [Heap.size_push, Heap.size_push]; exact Nat.le_add_right _ 2) dn
  have fresh := fun b (z : hp.objs.size ≤ b) => I1.hok.fresh z
  have okd : ObjOk X.prog X.w (upd H1 dx (.xd [("given", v)])) G dx (.xd [("given", v)]) := by
    exact ⟨_, hn.at fun o y => (g1 dx (decide_eq_true dne)).trans y, fun f => relO_put (fs := []) (mA := fun _ => none) ru (fun _ => True.intro) f⟩
  have J : L2.Inv X pins σ (upd H1 dx (.xd [("given", v)])) ⟨G, g, dr, tk', os⟩ := I1.laid (t' := tk') kG dge okd
  exact ⟨_, _, _, ⟨G, g, dr, tk', os⟩, _, .ref C, some dx, rfl, J, fun b o z => by
    by_cases hb : b = hp.objs.size + 1
    · rw [hb, g2 _ (by simp)] at z
      cases z
    · exact (g1 b (decide_eq_true hb)).symm.trans z, g2 _ (by simp), hx, ⟨rfl, rfl⟩, rfl, rfl, by rw [upd_ne (Ne.symm dne)]; exact fresh _ (Nat.le_succ _), rfl, I1.bare, raises_own T.oex.exC T.oex.tyC, q1 dx (fresh dx dge)⟩
end We

set_option Elab.async false
set_option linter.all false
set_option maxRecDepth 100000
set_option maxHeartbeats 4000000
/-! enumerate of a tuple. -/
namespace We
open PySem PySem.Spec PyProof.Rows L2
abbrev tupIt (t : Addr) : Obj := { cls := .type "tuple_iterator", data := .fields #[.ref t, .int 0 0] }
theorem enT_new (t : Addr) (its : Array Value) : Meets (Builtin.«enumerate.__new__» ⟨[.type "enumerate", .ref t], []⟩) (fun _ R s => s.heap.IsTuple t its ∧
    R (.ok (.ret (.ref (s.heap.push (tupIt t)).objs.size))) { s with heap := (s.heap.push (tupIt t)).push { cls := .type "enumerate", data := .fields #[.none, .bool false, .ref s.heap.objs.size, rawInt 0, .none, .none] } }) :=
  .of_wp fun prog w A R s hh => by
    obtain ⟨hp, g, dr, tk, os⟩ := s
    obtain ⟨ht, hR⟩ := hh
    have sub1 := sub_enumerate
    have go : ∀ {A2 : Around} {E2 Q2 : Value → Shared → Prop}, Q2 (.ref hp.objs.size) ⟨hp.push (tupIt t), g, dr, tk, os⟩ → wpAny (model prog w) A2 (pyIter (.ref t)) Q2 E2 ⟨hp, g, dr, tk, os⟩ :=
      fun q => (begins_tuple t its).iter prog w _ _ ⟨hp, g, dr, tk, os⟩ _ ht q
    wp_walk using go
    refine wpAny_stack_any fun st => wpAny_pure ?_
    split
    · rename_i c _ _ _ _ _
      cases (c == Value.type "enumerate")
      · wp_walk using go
        exact ⟨_, rfl, hR⟩
      · wp_walk using go
        exact ⟨_, rfl, hR⟩
    · wp_walk using go
      exact ⟨_, rfl, hR⟩
theorem enT_call {prog : Program} {w : World} {A : Around} {E Q : Value → Shared → Prop} {s : Shared} {t : Addr} {its : Array Value} (ht : s.heap.IsTuple t its)
    (k : ∀ h2, IsEnum h2 (s.heap.objs.size + 1) s.heap.objs.size 0 .none → h2.IsTupleIter s.heap.objs.size t 0 →
      (∀ b o, s.heap.get? b = some o → h2.get? b = some o) → Q (.ref (s.heap.objs.size + 1)) { s with heap := h2 }) : wpAny (model prog w) A (call (.type "enumerate") [.ref t]) Q E s := by
  refine callType_new F.called_enumerate (by decide) (F.typeCall_enumerate_1 _) (F.newCall_enumerate_1 _) (fun x => F.args_object_init_2 x _) F.entry_enumerate_new (enT_new t its) ⟨ht, ?_⟩
  have sz : (s.heap.push (tupIt t)).objs.size = s.heap.objs.size + 1 := Heap.size_push ..
  show _ ∧ _
  rw [sz]
  have at1 := Heap.get?_push_size (s.heap.push (tupIt t)) (o := { cls := .type "enumerate", data := .fields #[.none, .bool false, .ref s.heap.objs.size, rawInt 0, .none, .none] }) rfl
  rw [sz] at at1
  exact ⟨⟨_, at1, rfl⟩, k _ at1 ⟨_, Heap.get?_push_of_some _ (Heap.get?_push_size _ rfl), rfl, rfl⟩ fun b o x => Heap.get?_push_of_some _ (Heap.get?_push_of_some _ x)⟩
/-- the items of the tuple at a, each in a new pair -/
def IteT (K : PySem.W.Frag) (a : Addr) : It :=
  ⟨fun i H => ∃ (xs : List V) (x : V), SqT K H a xs ∧ xs[i]? = some x, fun i H v H2 => ∃ T x, v = .ref T ∧ H T = none ∧ H2 = upd H T (.tup [.int (i : Nat), x]) ∧ ∀ xs, SqT K H a xs → xs[i]? = some x, fun i H => ∃ xs : List V, SqT K H a xs ∧ xs.length ≤ i⟩

theorem turn_enT {P : Program} {w : World} {K : PySem.W.Frag} {elts : List Expr} {kk : Nat} {tpos : Pos} (a e it : Addr) :
    Turn P w K (.Tuple elts kk tpos) (IteT K a) [e, it] e (fun i h => (∃ old, IsEnum h e it ((i : Nat) : Int) old) ∧ h.IsTupleIter it a i ∧ e ≠ it) where
  mem := List.mem_cons_self
  obj := fun i h st b hb => by
    obtain ⟨⟨old, he⟩, ⟨o, ho, hc, hd⟩, _⟩ := st
    rcases List.mem_cons.mp hb with z | z
    · subst z; exact ⟨_, he, fun v q => nomatch q⟩
    · obtain rfl := List.mem_singleton.mp z; exact ⟨o, ho, fun v q => by rw [hd] at q; cases q⟩
  keep := fun i h h2 st k => ⟨st.1.elim fun old he => ⟨old, k e List.mem_cons_self _ he⟩, st.2.1.at fun o q => k it (List.mem_cons_of_mem _ List.mem_cons_self) o q, st.2.2⟩
  item := by
    intro X hP hw hK hc i pins s σ H E I hf st hg
    subst hP hw hK
    obtain ⟨⟨old, he⟩, hit, hne⟩ := st
    obtain ⟨xs, x, hq, hx⟩ := hg
    obtain ⟨its, rv, p, _⟩ := I.tuple hq
    obtain ⟨u, hu, ru⟩ := rv.get hx
    have le : e < s.heap.objs.size := Heap.lt_size he
    have li : it < s.heap.objs.size := by obtain ⟨_, q, _⟩ := hit; exact Heap.lt_size q
    obtain ⟨oi, hoi, hci, hdi⟩ := id hit
    obtain ⟨ot, hot, hct, nt, hdt⟩ := id p
    have nai : a ≠ it := by
      intro z
      rw [z] at hot
      rw [hot] at hoi
      cases hoi
      rw [hct] at hci
      injection hci with z2
      exact absurd z2 (by decide)
    have nea : e ≠ a := by
      intro z
      rw [← z] at hot
      have he2 : s.heap.get? e = some _ := he
      rw [hot] at he2
      cases he2
      injection hct with z2
      exact absurd z2 (by decide)
    have tk := I.ok.hd hc
    have Dr := Draws.tuple (prog := X.prog) (w := X.w) (A := X.A.in1) tk it a nai its.toArray
    refine wpAny_pyNext_enum_itemD Dr he (i := i) ⟨hit, p⟩ (by rw [List.size_toArray, ← rv.length]; exact (List.getElem?_eq_some_iff.mp hx).1) hne (fun z => by
      rcases List.mem_cons.mp z with z | z
      · exact hne z
      · exact nea (List.mem_singleton.mp z)) fun v h2 tk2 hv ho hst2 hT hsz hk => ?_
    have hv' : its.toArray[i]? = some v := hv
    have ev : v = u := by
      have : its[i]? = some v := by simpa using hv'
      rw [hu] at this
      exact (Option.some.inj this).symm
    subst ev
    refine ⟨_, rfl, wpAny_letOwnedTupleGo_enum (s := { s with heap := h2, toks := tk2 + 1 }) ho fun h3 he3 sb => ?_⟩
    have hT3 : h3.get? s.heap.objs.size = some { cls := .type "tuple", data := .seq #[.int i tk2, v] } := (sb.2 _ (Nat.ne_of_gt le)).trans hT
    have new : ObjOk X.prog X.w (upd H s.heap.objs.size (.tup [.int (i : Nat), x])) h3 s.heap.objs.size (.tup [.int (i : Nat), x]) :=
      ⟨by show 2 ≤ sizeLine; decide, [.int i tk2, v], .cons ⟨_, rfl⟩ (.cons ru .nil), ⟨_, hT3, rfl, _, rfl⟩⟩
    have J : Inv X pins σ (upd H s.heap.objs.size (.tup [.int (i : Nat), x])) { s with heap := h3, toks := tk2 + 1 } :=
      I.turnedNew (ch := [e, it]) (fun b ob hb q => (sb.2 b (fun z => hb (by simp [z]))).trans (hk b ob (fun z => hb (by simp [z])) (fun z => hb (by simp [z])) q)) hf (Nat.le_refl _) new
    refine ⟨.ref s.heap.objs.size, _, J, rfl, ⟨_, x, rfl, I.hok.fresh (Nat.le_refl _), rfl, fun ys hy => by rw [I.tuple_inj hy hq]; exact hx⟩, ⟨⟨v, ?_⟩, hst2.1.at fun o q => (sb.2 it (Ne.symm hne)).trans q, hne⟩, fun b hb => ?_⟩
    · have e1 : ((i + 1 : Nat) : Int) = (i : Int) + 1 := by omega
      rw [e1]; exact he3
    · have lb : b < s.heap.objs.size := by
        rcases List.mem_cons.mp hb with z | z
        · rw [z]; exact le
        · rw [List.mem_singleton.mp z]; exact li
      rw [upd_ne (Nat.ne_of_lt lb)]
      exact (hf b hb).1
  done := by
    intro X hP hw hK hc i pins s σ H E I hf st hg
    subst hP hw hK
    obtain ⟨⟨old, he⟩, hit, hne⟩ := st
    obtain ⟨xs, hq, hx⟩ := hg
    obtain ⟨its, rv, p, _⟩ := I.tuple hq
    obtain ⟨f0, f1, f2, f3, f4, f5⟩ := hf it (List.mem_cons_of_mem _ List.mem_cons_self)
    have tk := I.ok.hd hc
    have li : it < s.heap.objs.size := by obtain ⟨_, q, _⟩ := hit; exact Heap.lt_size q
    have hT : s.TypeIs (.ref e) "enumerate" := ⟨_, he, rfl⟩
    unfold pyNext
    refine wpAny_bind (wpAny_attempt (wpAny_callSpecial?_slot (name := Str.ofString "__next__") hT F.slot_enumerate_next
      (wpAny_call_entry F.slot_enumerate_next hT F.entry_enumerate_next ?_ (F.args_enumerate_next_1 _))))
    show wpAny _ _ (field (.ref e) 2 >>= _) _ _ _
    refine wpAny_bind (wpAny_field he rfl (x := .ref it) rfl ?_)
    refine wpAny_bind (wpAny_nextOf_tuple_end tk hit p (by rw [Array.getElem?_eq_none (by rw [List.size_toArray, ← rv.length]; exact hx)]) fun h2 x hx2 hx3 => ?_)
    obtain ⟨o, ho, hc3⟩ := hx3
    refine wpAny_bind (wpAny_isInstance (T := "StopIteration") (b := true) ⟨o, ho, hc3⟩ isSubtype_stop ?_)
    exact wpAny_pure ⟨rfl, I.turned (t' := s.toks) (fun b o hb q => hx2 b o hb q) f0 f1 f3 f4 f5⟩
  self := fun A i s Q E st h => let ⟨⟨_, he⟩, _⟩ := st; wpAny_pyIter_enum he h
def iEnumT (K : PySem.W.Frag) (ta : TA) : TI := fun σ H R => ta σ H fun vs H1 => ∃ a xs, vs = [.ref a] ∧ SqT K H1 a xs ∧ R (IteT K a) H1
theorem pi_enT {X : Cx} {e : Expr} {ta : TA} {p pos tpos : Pos} {elts : List Expr} {kk : Nat} (hg : Gl X "enumerate") (hm : X.mg "enumerate" = none) (ha : PA X [e] ta) (hs : starEach [e] X.env = [(false, eval e X.env)] := by rfl) :
    PI X (.Tuple elts kk tpos) (.Call (.Name "enumerate" p) [e] [] pos) (iEnumT X.K ta) := by
  refine ⟨fun pins s σ H R I h => Call_ (ld_blt I hg hm boot_enumerate (PyProof.Rows.callWith_type1 (thn (ha.run pos pins s σ H _ I h) fun us s1 ⟨vs, H1, J, r1, a, xs, ex, hq, q⟩ => ?_) hs rfl))⟩
  subst ex
  cases r1 with
  | cons r rr =>
    cases rr
    cases r
    obtain ⟨its, rv, p2, _⟩ := J.tuple hq
    refine enT_call p2 fun h2 he hit hk => wpAny_pyIter_enum he ?_
    have J2 : Inv X pins σ H1 { s1 with heap := h2 } := J.kept (t' := s1.toks) hk
    refine ⟨s1.heap.objs.size + 1, [s1.heap.objs.size + 1, s1.heap.objs.size], _, _, H1, rfl, J2, turn_enT a (s1.heap.objs.size + 1) s1.heap.objs.size, ⟨⟨.none, he⟩, hit, Nat.succ_ne_self _⟩, fun b hb => ?_, q⟩
    have lb : s1.heap.objs.size ≤ b := by
      rcases List.mem_cons.mp hb with z | z
      · rw [z]; exact Nat.le_add_right _ _
      · rw [List.mem_singleton.mp z]; exact Nat.le_refl _
    exact J.fpOk lb (J.hok.fresh lb)
theorem walk_enT {K : PySem.W.Frag} {a : Addr} {xs : List V} : Walk (IteT K a) xs.length (fun H => SqT K H a xs) (YPair (fun i => some (.int (i : Nat))) (fun i => xs[i]?)) := by
  refine ⟨fun i _ hi q => ⟨xs, xs[i], q, List.getElem?_eq_getElem hi⟩, fun _ q => ⟨xs, q, Nat.le_refl _⟩, fun i H v H2 _ q y => ?_⟩
  obtain ⟨T, x, h1, h2, h3, h4⟩ := y
  exact ⟨T, .int (i : Nat), x, h1, h2, h3, rfl, h4 xs q⟩
end We

set_option Elab.async false
set_option linter.all false
set_option maxRecDepth 100000
set_option maxHeartbeats 4000000
/-! t[::-1] of a tuple; zip of two tuples walked. -/
namespace We
open PySem PySem.Spec PyProof.Rows L2 HT
section
variable {prog : Program} {w : World} {A : Around} {E : Value → Shared → Prop} {s : Shared}
theorem applied_back {sl : Addr} {vl vu vs : Value} {n : Nat} {Q : Int × Int × Nat → Shared → Prop} (hs : s.heap.IsSliceOf sl vl vu vs) (pl : IsPart vl none) (pu : IsPart vu none) (ps : IsPart vs (some (-1)))
    (k : Q ((n : Int) - 1, -1, n) s) : wpAny (model prog w) A (Builtin.Slice.sliceApplied (.ref sl) (pure (n : Int))) Q E s := by
  obtain ⟨o, h1, h2, h3⟩ := id hs
  unfold Builtin.Slice.sliceApplied Builtin.Slice.sliceFields
  refine wpAny_bind (wpAny_bind (wpAny_field h1 h3 (x := vl) rfl (wpAny_bind (wpAny_field h1 h3 (x := vu) rfl (wpAny_bind (wpAny_field h1 h3 (x := vs) rfl (wpAny_pure ?_)))))))
  refine wpAny_bind (slicePart_ ps ?_)
  show wpAny _ _ (if ((-1 : Int) == 0) = true then _ else _) _ _ s
  rw [if_neg (by decide)]
  refine wpAny_bind (slicePart_ pl (wpAny_bind (slicePart_ pu (wpAny_bind (wpAny_pure ?_)))))
  have ea : Builtin.Slice.sliceAdjust none none (-1) (n : Int) = ((n : Int) - 1, -1) := by
    unfold Builtin.Slice.sliceAdjust
    have h0 : (-1 : Int) < 0 := by decide
    simp only [h0, if_true]
  have ep : Builtin.Slice.slicePlaces ((n : Int) - 1) (-1) (-1) = n := by
    unfold Builtin.Slice.slicePlaces
    have h0 : ¬ (-1 : Int) > 0 := by decide
    have h4 : (- -1 : Int) = 1 := by decide
    simp only [h0, if_false, h4, Int.ediv_one]
    split <;> omega
  show wpAny _ _ (match Builtin.Slice.sliceAdjust none none (-1) (n : Int) with | (lo, hi) => pure (lo, (-1 : Int), Builtin.Slice.slicePlaces lo hi (-1))) _ _ s
  rw [ea]
  show wpAny _ _ (pure ((n : Int) - 1, (-1 : Int), Builtin.Slice.slicePlaces ((n : Int) - 1) (-1) (-1))) _ _ s
  rw [ep]
  exact wpAny_pure k
theorem fm_congr {f g : Nat → Option Value} : ∀ {l : List Nat}, (∀ m, m ∈ l → f m = g m) → l.filterMap f = l.filterMap g
  | [], _ => rfl
  | x :: l, h => by rw [List.filterMap_cons, List.filterMap_cons, h x List.mem_cons_self, fm_congr fun m hm => h m (List.mem_cons_of_mem _ hm)]
theorem pick_back (xs : List Value) : ((List.range xs.length).filterMap fun (m : Nat) => xs.toArray[((xs.length : Int) - 1 + (m : Int) * -1).toNat]?).toArray = xs.reverse.toArray := by
  congr 1
  have e : ∀ m, m ∈ List.range xs.length → xs.toArray[((xs.length : Int) - 1 + (m : Int) * -1).toNat]? = xs.reverse[m]? := fun m hm => by
    rw [List.mem_range] at hm
    have e1 : ((xs.length : Int) - 1 + (m : Int) * -1).toNat = xs.length - 1 - m := by omega
    rw [e1, List.getElem?_reverse hm]
    simp
  rw [fm_congr e]
  have : ∀ ys : List Value, (List.range ys.length).filterMap (fun m => ys[m]?) = ys := fun ys => by
    induction ys with
    | nil => rfl
    | cons y ys ih =>
      rw [List.length_cons, List.range_succ_eq_map, List.filterMap_cons, List.filterMap_map]
      show y :: _ = _
      congr 1
  have h := this xs.reverse
  rw [List.length_reverse] at h
  exact h
theorem get_back {t sl : Addr} {its : List Value} {vl vu vs : Value} {Q : Value → Shared → Prop} (ht : IsTup s.heap t its.toArray) (hs : s.heap.IsSliceOf sl vl vu vs) (pl : IsPart vl none) (pu : IsPart vu none) (ps : IsPart vs (some (-1)))
    (k : Q (.ref s.heap.objs.size) { s with heap := s.heap.push { cls := .type "tuple", data := .seq its.reverse.toArray } }) (hz : its.length ≤ sizeLine) : wpAny (model prog w) A (getItem (.ref t) (.ref sl)) Q E s := by
  obtain ⟨o, h1, h2, h3⟩ := id hs
  have hT : s.TypeIs (.ref sl) "slice" := ⟨o, h1, h2⟩
  have fit : sizeOk (.seq its.reverse.toArray) := by
    show its.reverse.toArray.size ≤ sizeLine
    rw [List.size_toArray, List.length_reverse]
    exact hz
  unfold getItem
  try with_reducible refine wpAny_holding ?_
  first | refine wpAny_bind (wpAny_pure ?_) | skip
  refine wpAny_bind (wpAny_sequenceKey ht.typeIs (by decide) ?_)
  refine wpAny_bind (wpAny_callSpecial?_slot (name := Str.ofString "__getitem__") ht.typeIs PyProof.Rows.slot_tuple_getitem
    (wpAny_call_entry PyProof.Rows.slot_tuple_getitem ht.typeIs entry_tuple_getitem ?_ (args_tuple_getitem _ _)))
  show wpAny _ _ (Builtin.Tuple.tupleItemsOf (.ref t) >>= _) _ _ s
  refine wpAny_bind (tupleItemsOf_ ht (wpAny_bind (wpAny_typeOf hT ?_)))
  rw [if_pos (by decide), List.size_toArray]
  refine wpAny_bind (applied_back hs pl pu ps ?_)
  have no : ¬ ((((its.length : Int) - 1) == 0 && (-1 : Int) == 1 && its.length == its.length) = true) := by
    intro q
    rw [Bool.and_eq_true, Bool.and_eq_true] at q
    exact absurd (eq_of_beq q.1.2) (by decide)
  show wpAny _ _ (if (((its.length : Int) - 1) == 0 && (-1 : Int) == 1 && its.length == its.length) = true then _ else _) _ _ s
  rw [if_neg no, pick_back]
  first
    | exact wpAny_bind (m := Builtin.Tuple.tupleExact _) (wpAny_newObj_type (wpAny_pure ⟨_, rfl, wpAny_pure k⟩) fit)
    | exact wpAny_bind (m := Builtin.Tuple.tupleExact _) (wpAny_newObj_type (wpAny_bind (wpAny_pure (wpAny_pure ⟨_, rfl, wpAny_pure k⟩))) fit)
    | exact wpAny_bind (wpAny_bind (m := Builtin.Tuple.tupleExact _) (wpAny_newObj_type (wpAny_pure (wpAny_pure ⟨_, rfl, wpAny_pure k⟩)) fit))
    | exact wpAny_bind (wpAny_bind (m := Builtin.Tuple.tupleExact _) (wpAny_newObj_type (wpAny_pure ⟨_, rfl, wpAny_pure k⟩) fit))
end
section
variable {X : Cx}
def tBack (K : PySem.W.Frag) (te : TE) : TE := fun σ H Q => te σ H fun x H1 => ∃ a xs, x = .ref a ∧ SqT K H1 a xs ∧ ∀ p, H1 p = none → Q (.ref p) (upd H1 p (.tup xs.reverse))
theorem pe_back {e : Expr} {te : TE} {k : Nat} {p1 p2 p3 pos : Pos} (he : PE X e te) : PE X (.Subscript e (.Slice none none (some (.UnaryOp .USub (.Constant (.int 1) k p1) p2)) p3) pos) (tBack X.K te) := by
  refine ⟨fun pins s σ H Q I h => Subscript_ (thn (he.run pins s σ H _ I h) fun v s1 ⟨x, H1, I1, r1, a, xs, ex, hx, q⟩ => ?_)⟩
  subst ex
  cases r1
  have st : PO X (some (.UnaryOp .USub (.Constant (.int 1) k p1) p2)) (tPart (tUn (rU fun i => .int (-i)) (tC (.int 1)))) := po_some (pe_un un_neg pe_int)
  refine wpAny_Slice (thn (po_none.run pins s1 σ H1 (fun o Hb => o = none ∧ Hb = H1) I1 ⟨rfl, rfl⟩) fun vl s2 ⟨l, Ha, I2, pl, el, ea⟩ => ?_)
  subst el ea
  refine thn (po_none.run pins s2 σ Ha (fun o Hb => o = none ∧ Hb = Ha) I2 ⟨rfl, rfl⟩) fun vu s3 ⟨u, Hc, I3, pu, eu, ec⟩ => ?_
  subst eu ec
  refine thn (st.run pins s3 σ Hc (fun o Hb => o = some (-1) ∧ Hb = Hc) I3 ⟨1, rfl, -1, rfl, rfl, rfl⟩) fun vs s4 ⟨o, Hd, I4, ps, eo, ed⟩ => ?_
  subst eo ed
  have J : Inv X pins σ Hd { s4 with heap := s4.heap.push { cls := .type "slice", data := .fields #[vl, vu, vs] } } := I4.kept (t' := s4.toks) fun b ob z => Heap.get?_push_of_some _ z
  obtain ⟨its, r, ht, hz⟩ := J.tuple hx
  show wpAny (model X.prog X.w) X.A (subscriptTail e (.Slice none none (some (.UnaryOp .USub (.Constant (.int 1) k p1) p2)) p3) (.ref a) (.ref s4.heap.objs.size)) (EP X pins σ Q) X.xe { s4 with heap := s4.heap.push { cls := .type "slice", data := .fields #[vl, vu, vs] } }
  refine tail_any (ops := [.ref a, .ref s4.heap.objs.size]) ht.typeIs PyProof.Rows.slot_tuple_getitem.lookup ?_ (by with_unfolding_all rfl)
  refine get_back ht (Heap.IsSliceOf.new _ vl vu vs) pl pu ps ?_ (by rw [← r.length]; exact hz)
  refine ⟨.ref _, _, J.laid (t' := s4.toks) (o := .tup xs.reverse) (fun b ob z => Heap.get?_push_of_some _ z) (Nat.le_refl _) ?_, rfl, q _ (J.hok.fresh (Nat.le_refl _))⟩
  exact ⟨by rw [List.length_reverse]; exact hz, _, r.reverse, IsTup.new _ _⟩
end
theorem walk_zT {K : PySem.W.Frag} {a b : Addr} {xs ys : List V} {n : Nat} (hn : n = min xs.length ys.length) : Walk (RZ.ItzT K a b) n (fun H => SqT K H a xs ∧ SqT K H b ys) (YPair (fun i => xs[i]?) (fun i => ys[i]?)) := by
  subst hn
  refine ⟨fun i H hi q => ⟨xs, ys, xs[i]'(by omega), ys[i]'(by omega), q.1, q.2, List.getElem?_eq_getElem _, List.getElem?_eq_getElem _⟩, fun H q => ⟨xs, ys, q.1, q.2, by omega⟩, fun i H v H2 _ q y => ?_⟩
  obtain ⟨T, x, z, h1, h2, h3, h4, h5⟩ := y
  exact ⟨T, x, z, h1, h2, h3, h4 xs q.1, h5 ys q.2⟩
end We

set_option Elab.async false
set_option linter.all false
set_option maxRecDepth 100000
set_option maxHeartbeats 4000000
/-! Data in the tracked heap; judgements about expressions and blocks over an environment of data. -/
namespace Wx
open PySem PySem.Spec PyProof.Rows L2 Evl
/-! ### data -/
mutual
inductive Da (H : Hp) : V → PyData → Prop
  | non : Da H .non .none
  | bl (b : Bool) : Da H (.bl b) (.bool b)
  | int (i : Int) : Da H (.int i) (.int i)
  | str (x : Str) : Da H (.str x) (.str x)
  | lst {a : Addr} {xs : List V} {ds : List PyData} : H a = some (.lst xs) → DaAll H xs ds → Da H (.ref a) (.list ds)
  | tup {a : Addr} {xs : List V} {ds : List PyData} : H a = some (.tup xs) → DaAll H xs ds → Da H (.ref a) (.tuple ds)
  | dkI {a : Addr} {ks : List (Int × Int)} : H a = some (.dK (ks.map fun k => (Sum.inl k.1, V.int k.2))) → Da H (.ref a) (.dict (ks.map fun k => (.int k.1, .int k.2)))
  | dkT {a : Addr} {ks : List (Int × Int)} : H a = some (.dT (ks.map fun k => ([Sum.inl k.1, Sum.inl k.2], V.bl true))) → Da H (.ref a) (.dict ((.none, .none) :: ks.map fun k => (.tuple [.int k.1, .int k.2], .bool true)))
  /-- any object, untold -/
  | rf (a : Addr) : Da H (.ref a) (.dict [(.str "r", .int (a : Nat))])
  /-- an exception at a, its dict at d, its field i -/
  | exc {a d : Addr} {i : Int} : H d = some (.xd [("given", .int i)]) → Da H (.ref a) (.dict [(.str "e", .int (a : Nat)), (.none, .int (d : Nat)), (.none, .int i)])
  /-- an instance of the class at C, its one attribute that data -/
  | obj {a C dx : Addr} {v : V} {d : PyData} : H a = some (.ins C dx [("filled", v)]) → Da H v d → Da H (.ref a) (.dict [(.str "o", .int (C : Nat)), (.none, d)])
inductive DaAll (H : Hp) : List V → List PyData → Prop
  | nil : DaAll H [] []
  | cons {v : V} {vs : List V} {d : PyData} {ds : List PyData} : Da H v d → DaAll H vs ds → DaAll H (v :: vs) (d :: ds)
end
/-- data in which no list stands -/
def imm : PyData → Bool
  | .list _ => false
  | .tuple ds => go ds
  | .dict _ => false
  | _ => true
where go : List PyData → Bool
  | [] => true
  | d :: ds => imm d && go ds
theorem imm_go (ds : List PyData) : imm.go ds = ds.all imm := by
  induction ds with
  | nil => rfl
  | cons d ds ih => rw [imm.go, ih]; rfl
theorem imm_tup (ds : List PyData) : imm (.tuple ds) = ds.all imm := by rw [imm, imm_go]
/-- all tuples are kept -/
def ExT (H H' : Hp) : Prop := ∀ a xs, H a = some (.tup xs) → H' a = some (.tup xs)
theorem ExT.refl (H : Hp) : ExT H H := fun _ _ h => h
theorem ExT.trans {H H1 H2 : Hp} (a : ExT H H1) (b : ExT H1 H2) : ExT H H2 := fun x o h => b x o (a x o h)
theorem Ex.t {H H' : Hp} (e : Ex H H') : ExT H H' := fun a xs h => e a _ h
theorem ExT.upd {H : Hp} {p : Addr} {o : HO} (h : ∀ xs, H p ≠ some (.tup xs)) : ExT H (L2.upd H p o) := fun a xs e => by
  rw [upd_ne (fun z => h xs (by rw [← z]; exact e))]
  exact e
section
variable {K : PySem.W.Frag} {H H' : Hp}
mutual
theorem Da.mono (e : Ex H H') : ∀ {v : V} {d : PyData}, Da H v d → Da H' v d
  | _, _, .non => .non
  | _, _, .bl b => .bl b
  | _, _, .int i => .int i
  | _, _, .str x => .str x
  | _, _, .lst h a => .lst (e _ _ h) (DaAll.mono e a)
  | _, _, .tup h a => .tup (e _ _ h) (DaAll.mono e a)
  | _, _, .dkI h => .dkI (e _ _ h)
  | _, _, .dkT h => .dkT (e _ _ h)
  | _, _, .rf a => .rf a
  | _, _, .exc h => .exc (e _ _ h)
  | _, _, .obj h a => .obj (e _ _ h) (Da.mono e a)
theorem DaAll.mono (e : Ex H H') : ∀ {vs : List V} {ds : List PyData}, DaAll H vs ds → DaAll H' vs ds
  | _, _, .nil => .nil
  | _, _, .cons h a => .cons (Da.mono e h) (DaAll.mono e a)
end
mutual
theorem Da.immT (e : ExT H H') : ∀ {v : V} {d : PyData}, imm d = true → Da H v d → Da H' v d
  | _, _, _, .non => .non
  | _, _, _, .bl b => .bl b
  | _, _, _, .int i => .int i
  | _, _, _, .str x => .str x
  | _, _, q, .lst h a => by cases q
  | _, _, q, .tup h a => .tup (e _ _ h) (DaAll.immT e q a)
  | _, _, q, .dkI _ => by cases q
  | _, _, q, .dkT _ => by cases q
  | _, _, q, .rf _ => by cases q
  | _, _, q, .exc _ => by cases q
  | _, _, q, .obj _ _ => by cases q
theorem DaAll.immT (e : ExT H H') : ∀ {vs : List V} {ds : List PyData}, imm.go ds = true → DaAll H vs ds → DaAll H' vs ds
  | _, _, _, .nil => .nil
  | _, _, q, .cons h a => by
    rw [imm.go, Bool.and_eq_true] at q
    exact .cons (Da.immT e q.1 h) (DaAll.immT e q.2 a)
end
mutual
theorem Da.dp : ∀ {v : V} {d : PyData}, Da H v d → d.hasDict = false → Dp K H v d
  | _, _, .non, _ => .non
  | _, _, .bl b, _ => .bl b
  | _, _, .int i, _ => .int i
  | _, _, .str x, _ => .str x
  | _, _, .lst h a, q => .lst (sq_of h) (DaAll.dp a (by simpa [PyData.hasDict] using q))
  | _, _, .tup h a, q => .tup (st_of h) (DaAll.dp a (by simpa [PyData.hasDict] using q))
  | _, _, .dkI _, q => by simp [PyData.hasDict] at q
  | _, _, .dkT _, q => by simp [PyData.hasDict] at q
  | _, _, .rf _, q => by simp [PyData.hasDict] at q
  | _, _, .exc _, q => by simp [PyData.hasDict] at q
  | _, _, .obj _ _, q => by simp [PyData.hasDict] at q
theorem DaAll.dp : ∀ {vs : List V} {ds : List PyData}, DaAll H vs ds → PyData.hasDictAll ds = false → DpAll K H vs ds
  | _, _, .nil, _ => .nil
  | _, _, .cons h a, q => by
    simp only [PyData.hasDictAll, Bool.or_eq_false_iff] at q
    exact .cons (Da.dp h q.1) (DaAll.dp a q.2)
end
theorem shaped_nd {d : PyData} (h : SeqAt.shaped d = true) : d.hasDict = false := PyData.hasDict_of_canLay d (SeqAt.canLay_of_shaped h)
theorem DaAll.len : ∀ {vs : List V} {ds : List PyData}, DaAll H vs ds → vs.length = ds.length
  | _, _, .nil => rfl
  | _, _, .cons _ a => congrArg Nat.succ (DaAll.len a)
theorem DaAll.at : ∀ {vs : List V} {ds : List PyData} {i : Nat} {d : PyData}, DaAll H vs ds → ds[i]? = some d → ∃ v, vs[i]? = some v ∧ Da H v d
  | _, _, 0, _, .cons h _, q => by cases q; exact ⟨_, rfl, h⟩
  | _, _, i + 1, _, .cons _ a, q => DaAll.at (i := i) a q
theorem DaAll.at' : ∀ {vs : List V} {ds : List PyData} {i : Nat} {v : V}, DaAll H vs ds → vs[i]? = some v → ∃ d, ds[i]? = some d ∧ Da H v d
  | _, _, 0, _, .cons h _, q => by cases q; exact ⟨_, rfl, h⟩
  | _, _, i + 1, _, .cons _ a, q => DaAll.at' (i := i) a q
theorem DaAll.app : ∀ {vs ws : List V} {ds es : List PyData}, DaAll H vs ds → DaAll H ws es → DaAll H (vs ++ ws) (ds ++ es)
  | _, _, _, _, .nil, b => b
  | _, _, _, _, .cons h a, b => .cons h (DaAll.app a b)
theorem DaAll.take : ∀ {vs : List V} {ds : List PyData} (n : Nat), DaAll H vs ds → DaAll H (vs.take n) (ds.take n)
  | _, _, 0, _ => .nil
  | _, _, _ + 1, .nil => .nil
  | _, _, n + 1, .cons h a => .cons h (DaAll.take n a)
theorem DaAll.drop : ∀ {vs : List V} {ds : List PyData} (n : Nat), DaAll H vs ds → DaAll H (vs.drop n) (ds.drop n)
  | _, _, 0, h => h
  | _, _, _ + 1, .nil => .nil
  | _, _, n + 1, .cons _ a => DaAll.drop n a
theorem DaAll.rev : ∀ {vs : List V} {ds : List PyData}, DaAll H vs ds → DaAll H vs.reverse ds.reverse
  | _, _, .nil => .nil
  | _, _, .cons h a => by
    rw [List.reverse_cons, List.reverse_cons]
    exact (DaAll.rev a).app (.cons h .nil)
theorem Da.int_of {v : V} {i : Int} (h : Da H v (.int i)) : v = .int i := by cases h; rfl
theorem Da.bl_of {v : V} {b : Bool} (h : Da H v (.bool b)) : v = .bl b := by cases h; rfl
theorem Da.str_of {v : V} {x : Str} (h : Da H v (.str x)) : v = .str x := by cases h; rfl
theorem Da.non_of {v : V} (h : Da H v .none) : v = .non := by cases h; rfl
theorem Da.tup_of {v : V} {ds : List PyData} (h : Da H v (.tuple ds)) : ∃ a xs, v = .ref a ∧ H a = some (.tup xs) ∧ DaAll H xs ds := by cases h with | tup h a => exact ⟨_, _, rfl, h, a⟩
theorem Da.lst_of {v : V} {ds : List PyData} (h : Da H v (.list ds)) : ∃ a xs, v = .ref a ∧ H a = some (.lst xs) ∧ DaAll H xs ds := by cases h with | lst h a => exact ⟨_, _, rfl, h, a⟩
theorem DaAll.ints : ∀ {vs : List V} {ns : List Int}, DaAll H vs (ns.map PyData.int) → vs = ns.map V.int
  | _, [], .nil => rfl
  | _, _ :: ns, .cons h a => by rw [h.int_of, DaAll.ints (ns := ns) a]; rfl
theorem DaAll.bools : ∀ {vs : List V} {bs : List Bool}, DaAll H vs (bs.map PyData.bool) → vs = bs.map V.bl
  | _, [], .nil => rfl
  | _, _ :: bs, .cons h a => by rw [h.bl_of, DaAll.bools (bs := bs) a]; rfl
theorem daInts : ∀ (ns : List Int), DaAll H (ns.map V.int) (ns.map PyData.int)
  | [] => .nil
  | n :: ns => .cons (.int n) (daInts ns)
end
/-! ### the weakest readings -/
section
variable (X : Cx)
def RE (e : Expr) : TE := fun σ H Q => ∀ pins s, Inv X pins σ H s → wpAny (model X.prog X.w) X.A (eval e X.env) (EP X pins σ Q) X.xe s
def RT (e : Expr) : TT := fun σ H Q => ∀ pins s, Inv X pins σ H s → wpAny (model X.prog X.w) X.A (isTrue e X.env (eval e X.env)) (TP X pins σ Q) X.xe s
def RW (e : Expr) : TT := fun σ H Q => ∀ whole pins s, Inv X pins σ H s → wpAny (model X.prog X.w) X.A (isTrue e X.env whole) (TP X pins σ Q) X.xe s
def RA (es : List Expr) : TA := fun σ H Q => ∀ pos pins s, Inv X pins σ H s → wpAny (model X.prog X.w) X.A (spliced (backTo pos (starEach es X.env))) (AP X pins σ Q) X.xe s
def RO (e : Option Expr) : TO := fun σ H Q => ∀ pins s, Inv X pins σ H s → wpAny (model X.prog X.w) X.A (evalPart e X.env) (fun u s' => ∃ o H', Inv X pins σ H' s' ∧ IsPart u o ∧ Q o H') X.xe s
def RS (st : Stmt) : TS := fun D σ H => ∀ pins s, Inv X pins σ H s → wpAny (model X.prog X.w) X.A (exec st X.env) (SP X pins D) X.xe s
def RSs (st : List Stmt) : TS := fun D σ H => ∀ pins s, Inv X pins σ H s → wpAny (model X.prog X.w) X.A (execs st X.env) (SP X pins D) X.xe s
def RTs (ifs : List Expr) : TT := fun σ H Q => ∀ pins s, Inv X pins σ H s →
    wpAny (model X.prog X.w) X.A (forIn ifs true fun c r => if r = true then do let ok ← isTrue c X.env (eval c X.env); pure (ForInStep.yield ok) else pure (ForInStep.yield r)) (TP X pins σ Q) X.xe s
def RG (tg : Expr) : TG := fun v σ H Q => ∀ pins s u, Inv X pins σ H s → RelV v u → wpAny (model X.prog X.w) X.A (assign tg X.env u) (fun _ s' => ∃ σ' H', Inv X pins σ' H' s' ∧ Q σ' H') X.xe s
def RI (tg iter : Expr) : TI := fun σ H R => ∀ pins s, Inv X pins σ H s → wpAny (model X.prog X.w) X.A (eval iter X.env) (fun v s1 => wpAny (model X.prog X.w) X.A (pyIter v) (PIE X pins σ tg R) X.xe s1) X.xe s
variable {X}
theorem pe_RE {e : Expr} : PE X e (RE X e) := ⟨fun pins s σ H Q I h => h pins s I⟩
theorem pt_RT {e : Expr} : PT X e (RT X e) := ⟨fun pins s σ H Q I h => h pins s I⟩
theorem pw_RW {e : Expr} : PW X e (RW X e) := ⟨fun w pins s σ H Q I h => h w pins s I⟩
theorem pa_RA {es : List Expr} : PA X es (RA X es) := ⟨fun pos pins s σ H Q I h => h pos pins s I⟩
theorem po_RO {e : Option Expr} : PO X e (RO X e) := ⟨fun pins s σ H Q I h => h pins s I⟩
theorem ps_RS {st : Stmt} : PS X st (RS X st) := ⟨fun pins s σ H D I h => h pins s I⟩
theorem pss_RSs {st : List Stmt} : PSs X st (RSs X st) := ⟨fun pins s σ H D I h => h pins s I⟩
theorem pts_RTs {ifs : List Expr} : PTs X ifs (RTs X ifs) := ⟨fun pins s σ H Q I h => h pins s I⟩
theorem pg_RG {tg : Expr} : PG X tg (RG X tg) := ⟨fun pins s σ H v u Q I r h => h pins s u I r⟩
theorem pi_RI {tg iter : Expr} : PI X tg iter (RI X tg iter) := ⟨fun pins s σ H R I h => h pins s I⟩
theorem _root_.L2.PE.re {e : Expr} {t : TE} (h : PE X e t) {σ H Q} (q : t σ H Q) : RE X e σ H Q := fun pins s I => h.run pins s σ H Q I q
theorem _root_.L2.PT.rt {e : Expr} {t : TT} (h : PT X e t) {σ H Q} (q : t σ H Q) : RT X e σ H Q := fun pins s I => h.run pins s σ H Q I q
theorem _root_.L2.PW.rw {e : Expr} {t : TT} (h : PW X e t) {σ H Q} (q : t σ H Q) : RW X e σ H Q := fun w pins s I => h.run w pins s σ H Q I q
theorem _root_.L2.PA.ra {es : List Expr} {t : TA} (h : PA X es t) {σ H Q} (q : t σ H Q) : RA X es σ H Q := fun pos pins s I => h.run pos pins s σ H Q I q
theorem _root_.L2.PO.ro {e : Option Expr} {t : TO} (h : PO X e t) {σ H Q} (q : t σ H Q) : RO X e σ H Q := fun pins s I => h.run pins s σ H Q I q
theorem _root_.L2.PS.rs {st : Stmt} {t : TS} (h : PS X st t) {D σ H} (q : t D σ H) : RS X st D σ H := fun pins s I => h.run pins s σ H D I q
theorem _root_.L2.PSs.rss {st : List Stmt} {t : TS} (h : PSs X st t) {D σ H} (q : t D σ H) : RSs X st D σ H := fun pins s I => h.run pins s σ H D I q
theorem _root_.L2.PG.rg {tg : Expr} {t : TG} (h : PG X tg t) {v σ H Q} (q : t v σ H Q) : RG X tg v σ H Q := fun pins s u I r => h.run pins s σ H v u Q I r q
theorem _root_.L2.PI.ri {tg iter : Expr} {t : TI} (h : PI X tg iter t) {σ H R} (q : t σ H R) : RI X tg iter σ H R := fun pins s I => h.run pins s σ H R I q
end
/-! ### environments of data -/
abbrev Rho := List (Option PyData)
structure StD (H : Hp) (σ : L2.St) (ρ : Rho) : Prop where
  len : σ.length = ρ.length
  at_ : ∀ (i : Nat) (d : PyData), ρ[i]? = some (some d) → ∃ v, σ[i]? = some (some v) ∧ Da H v d
theorem StD.mono {H H' : Hp} {σ : L2.St} {ρ : Rho} (h : StD H σ ρ) (e : Ex H H') : StD H' σ ρ := ⟨h.len, fun i d q => let ⟨v, a, b⟩ := h.at_ i d q; ⟨v, a, b.mono e⟩⟩
theorem StD.set {H : Hp} {σ : L2.St} {ρ : Rho} {i : Nat} {v : V} {d : PyData} (h : StD H σ ρ) (hv : Da H v d) : StD H (σ.set i (some v)) (ρ.set i (some d)) := ⟨by rw [List.length_set, List.length_set]; exact h.len, fun j e q => by
  by_cases z : i = j
  · subst z
    rw [List.getElem?_set] at q
    rw [if_pos rfl] at q
    split at q
    · rename_i hl
      cases q
      exact ⟨v, by rw [List.getElem?_set_self (by rw [h.len]; exact hl)], hv⟩
    · cases q
  · rw [List.getElem?_set_ne z] at q ⊢
    exact h.at_ j e q⟩
/-- less is known -/
theorem StD.sub {H : Hp} {σ : L2.St} {ρ ρ' : Rho} (h : StD H σ ρ) (hl : ρ'.length = ρ.length) (s : ∀ (i : Nat) (d : PyData), ρ'[i]? = some (some d) → ρ[i]? = some (some d)) : StD H σ ρ' := ⟨h.len.trans hl.symm, fun i d q => h.at_ i d (s i d q)⟩
/-- another value in a slot of which nothing is told -/
theorem StD.free {H : Hp} {σ : L2.St} {ρ : Rho} {i : Nat} {o : Option V} (h : StD H σ ρ) : StD H (σ.set i o) (ρ.set i none) := ⟨by rw [List.length_set, List.length_set]; exact h.len, fun j d q => by
  by_cases z : i = j
  · subst z
    rw [List.getElem?_set, if_pos rfl] at q
    split at q <;> cases q
  · rw [List.getElem?_set_ne z] at q ⊢
    exact h.at_ j d q⟩
/-- the slots vs forgotten -/
def wipeD (ρ : Rho) : List Nat → Rho
  | [] => ρ
  | v :: vs => (wipeD ρ vs).set v none
theorem StD.wipe {H : Hp} {σ : L2.St} {ρ : Rho} (h : StD H σ ρ) : ∀ vs, StD H (L2.wipe σ vs) (wipeD ρ vs)
  | [] => h
  | v :: vs => (h.wipe vs).free
theorem wipe_at (σ : L2.St) : ∀ (vs : List Nat) (i : Nat), (wipe σ vs)[i]? = if i ∈ vs then σ[i]?.map fun _ => none else σ[i]?
  | [], i => by rw [if_neg (List.not_mem_nil)]; rfl
  | v :: vs, i => by
    show ((wipe σ vs).set v none)[i]? = _
    by_cases z : v = i
    · subst z
      rw [if_pos List.mem_cons_self, List.getElem?_set, if_pos rfl, wipe_length]
      by_cases l : v < σ.length
      · rw [if_pos l, List.getElem?_eq_getElem l]; rfl
      · rw [if_neg l, List.getElem?_eq_none (Nat.le_of_not_lt l)]; rfl
    · rw [List.getElem?_set_ne z, wipe_at σ vs i]
      by_cases m : i ∈ vs
      · rw [if_pos m, if_pos (List.mem_cons_of_mem _ m)]
      · rw [if_neg m, if_neg (fun q => (List.mem_cons.mp q).elim (fun e => z e.symm) m)]
theorem wipe_set {σ : L2.St} {vs : List Nat} {j : Nat} {o : Option V} (h : j ∈ vs) : wipe (σ.set j o) vs = wipe σ vs := List.ext_getElem? fun i => by
  rw [wipe_at, wipe_at]
  by_cases z : j = i
  · subst z
    rw [if_pos h, if_pos h, List.getElem?_set, if_pos rfl]
    by_cases l : j < σ.length
    · rw [if_pos l, List.getElem?_eq_getElem l]; rfl
    · rw [if_neg l, List.getElem?_eq_none (Nat.le_of_not_lt l)]
  · rw [List.getElem?_set_ne z]
theorem wipe_wipe (σ : L2.St) (vs : List Nat) : wipe (wipe σ vs) vs = wipe σ vs := List.ext_getElem? fun i => by
  rw [wipe_at, wipe_at]
  by_cases h : i ∈ vs
  · rw [if_pos h, if_pos h]; cases σ[i]? <;> rfl
  · rw [if_neg h, if_neg h]
/-! ### B: what the data lie in; H: the heap around it -/
structure Gr (B H B' H' : Hp) : Prop where
  b : Ex B B'
  h : Ex H H'
  s : Ex B' H'
  f : ∀ a, H a ≠ none → B' a = B a
theorem Gr.refl {B H : Hp} (e : Ex B H) : Gr B H B H := ⟨Ex.refl B, Ex.refl H, e, fun _ _ => rfl⟩
theorem Gr.trans {B H B1 H1 B2 H2 : Hp} (x : Gr B H B1 H1) (y : Gr B1 H1 B2 H2) : Gr B H B2 H2 := ⟨x.b.trans y.b, x.h.trans y.h, y.s, fun a n => (y.f a (fun z => by
  cases q : H a with
  | none => exact n q
  | some o => rw [x.h a o q] at z; cases z)).trans (x.f a n)⟩
theorem Gr.new {B H : Hp} (e : Ex B H) {p : Addr} {o : HO} (h : H p = none) : Gr B H (upd B p o) (upd H p o) := by
  have hb : B p = none := fresh_back e h
  refine ⟨Ex.new hb, Ex.new h, fun a u q => ?_, fun a n => upd_ne fun z => n (by rw [z]; exact h)⟩
  by_cases z : a = p
  · rw [z, upd_same] at q ⊢; exact q
  · rw [upd_ne z] at q ⊢; exact e a u q
section
variable (X : Cx)
def ED (e : Expr) (ρ : Rho) (d : PyData) : Prop := ∀ σ B H, Ex B H → StD B σ ρ → ∀ Q : VK, (∀ v B' H', Gr B H B' H' → Da B' v d → Q v H') → RE X e σ H Q
def ET (e : Expr) (ρ : Rho) (b : Bool) : Prop := ∀ σ B H, Ex B H → StD B σ ρ → ∀ Q : Bool → Hp → Prop, (∀ B' H', Gr B H B' H' → Q b H') → RT X e σ H Q
def EW (e : Expr) (ρ : Rho) (b : Bool) : Prop := ∀ σ B H, Ex B H → StD B σ ρ → ∀ Q : Bool → Hp → Prop, (∀ B' H', Gr B H B' H' → Q b H') → RW X e σ H Q
def ETs (es : List Expr) (ρ : Rho) (b : Bool) : Prop := ∀ σ B H, Ex B H → StD B σ ρ → ∀ Q : Bool → Hp → Prop, (∀ B' H', Gr B H B' H' → Q b H') → RTs X es σ H Q
def EA (es : List Expr) (ρ : Rho) (ds : List PyData) : Prop := ∀ σ B H, Ex B H → StD B σ ρ → ∀ Q : List V → Hp → Prop, (∀ vs B' H', Gr B H B' H' → DaAll B' vs ds → Q vs H') → RA X es σ H Q
def EO (e : Option Expr) (ρ : Rho) (o : Option Int) : Prop := ∀ σ B H, Ex B H → StD B σ ρ → ∀ Q : Option Int → Hp → Prop, (∀ B' H', Gr B H B' H' → Q o H') → RO X e σ H Q
/-- n turns, the i-th gives y i -/
def EI (tg iter : Expr) (ρ : Rho) (n : Nat) (y : Nat → PyData) : Prop := ∀ σ B H, Ex B H → StD B σ ρ → ∀ R : It → Hp → Prop,
  (∀ J B' H' G, Gr B H B' H' → (∀ H2, Ex B' H2 → G H2) → Walk J n G (fun i H2 v H3 => ∀ B2, Ex B' B2 → Ex B2 H2 → ∃ B3, Gr B2 H2 B3 H3 ∧ Da B3 v (y i)) → R J H') → RI X tg iter σ H R
/-- a target: the slots js are set -/
def GT (tg : Expr) (js : List Nat) (d : PyData) (ρ ρ' : Rho) : Prop := ∀ v σ B H (Q : L2.St → Hp → Prop), Ex B H → StD B σ ρ → Da B v d →
  (∀ σ', StD B σ' ρ' → (∀ vs, (∀ j ∈ js, j ∈ vs) → wipe σ' vs = wipe σ vs) → Q σ' H) → RG X tg v σ H Q
end
/-- what a block comes to: what is known where it goes on, what it returns, what it raises InvalidRow with -/
structure Po where
  N : Rho → Prop := fun _ => False
  R : PyData → Prop := fun _ => False
  G : PyData → Prop := fun _ => False
/-- C: the class that is raised; E: the wish for it -/
def SX (X : Cx) (C : Addr) (E : XK) (sts : List Stmt) (ρ : Rho) (o : Po) : Prop := ∀ σ B H (D : Ends), Ex B H → StD B σ ρ →
  (∀ σ' B' H' ρ', Gr B H B' H' → StD B' σ' ρ' → o.N ρ' → D.nx σ' H') → (∀ v B' H' d, Gr B H B' H' → Da B' v d → o.R d → D.rt v H') →
  (∀ v B' H' d x, Gr B H B' H' → Da B' v d → o.G d → H' x = none → E (.ref C) (some x) (upd H' x (.xd [("given", v)]))) → RSs X sts D σ H
def S1 (X : Cx) (C : Addr) (E : XK) (st : Stmt) (ρ : Rho) (o : Po) : Prop := ∀ σ B H (D : Ends), Ex B H → StD B σ ρ →
  (∀ σ' B' H' ρ', Gr B H B' H' → StD B' σ' ρ' → o.N ρ' → D.nx σ' H') → (∀ v B' H' d, Gr B H B' H' → Da B' v d → o.R d → D.rt v H') →
  (∀ v B' H' d x, Gr B H B' H' → Da B' v d → o.G d → H' x = none → E (.ref C) (some x) (upd H' x (.xd [("given", v)]))) → RS X st D σ H
end Wx

set_option Elab.async false
set_option linter.all false
set_option maxRecDepth 100000
set_option maxHeartbeats 4000000
/-! Rules for expressions over data. -/
namespace Wx
open PySem PySem.Spec PyProof.Rows L2 Evl
section
variable {X : Cx} {ρ : Rho} {a b c e : Expr} {es rest : List Expr} {d d1 d2 : PyData} {ds ds2 : List PyData} {pos : Pos} {p q : Bool}
theorem d_var (i : Nat) {x : Str} (h : ρ[i]? = some (some d) := by exact rfl) (hN : X.N[i]? = some x := by rfl) (hv : Vis X.env.scope x := by first | exact Or.inl rfl | exact Or.inr (Or.inl rfl) | exact Or.inr (Or.inr rfl))
    (hd : (x == ("__debug__" : Str)) = false := by decide) (hcd : (x == ("__classdict__" : Str)) = false := by decide) : ED X (.Name x pos) ρ d := fun σ B H ex s Q k =>
  let ⟨v, e1, e2⟩ := s.at_ i d h; (pe_var hN hv hd hcd).re ⟨v, e1, k v B H (Gr.refl ex) e2⟩
theorem d_pe {v : V} (h : PE X e (tC v)) (hd : ∀ B, Da B v d) : ED X e ρ d := fun σ B H ex s Q k => h.re (k v B H (Gr.refl ex) (hd B))
theorem d_int {i j} : ED X (.Constant (.int i) j pos) ρ (.int i) := d_pe pe_int fun _ => .int i
theorem d_bl {k j} : ED X (.Constant (.bool k) j pos) ρ (.bool k) := d_pe pe_bl fun _ => .bl k
theorem d_non {j} : ED X (.Constant .none j pos) ρ .none := d_pe pe_non fun _ => .non
theorem d_str {x j} : ED X (.Constant (.str x) j pos) ρ (.str x) := d_pe pe_str fun _ => .str x
theorem d_glob {x : Str} {i : Int} {t : Tok} (hm : X.mg x = some (.int i t)) (hg : Gl X x := by rfl) (hd : (x == ("__debug__" : Str)) = false := by decide) : ED X (.Name x pos) ρ (.int i) := d_pe (v := .int i) (pe_glob hg hm ⟨t, rfl⟩ hd) fun _ => .int i
theorem d_eq (h : ED X e ρ d) (z : d = d2) : ED X e ρ d2 := z ▸ h
theorem t_eq (h : ET X e ρ p) (z : p = q) : ET X e ρ q := z ▸ h
theorem t_eq' (h : EW X e ρ p) (z : p = q) : EW X e ρ q := z ▸ h
/-! ### argument lists, displays -/
theorem a_nil : EA X [] ρ [] := fun σ B H ex s Q k => pa_nil.ra (k [] B H (Gr.refl ex) .nil)
theorem a_cons (h : ED X e ρ d) (t : EA X es ρ ds) (hs : starEach (e :: es) X.env = (false, eval e X.env) :: starEach es X.env := by rfl) : EA X (e :: es) ρ (d :: ds) := fun σ B H ex s Q k =>
  (pa_cons pe_RE pa_RA hs).ra (h σ B H ex s _ fun v B1 H1 g1 e1 => t σ B1 H1 g1.s (s.mono g1.b) _ fun vs B2 H2 g2 e2 => k _ B2 H2 (g1.trans g2) (.cons (e1.mono g2.b) e2))
theorem a_star {p1 : Pos} (h : ED X e ρ (.tuple ds)) (t : EA X es ρ ds2) (hs : starEach (.Starred e p1 :: es) X.env = (true, eval e X.env) :: starEach es X.env := by rfl) : EA X (.Starred e p1 :: es) ρ (ds ++ ds2) := fun σ B H ex s Q k =>
  (StX.pa_star pe_RE pa_RA hs).ra (h σ B H ex s _ fun v B1 H1 g1 e1 => by
    obtain ⟨x, xs, rfl, hx, hd⟩ := e1.tup_of
    exact ⟨x, xs, rfl, .inl (st_of (g1.s _ _ hx)), t σ B1 H1 g1.s (s.mono g1.b) _ fun vs B2 H2 g2 e2 => k _ B2 H2 (g1.trans g2) ((hd.mono g2.b).app e2)⟩)
theorem a_starL {p1 : Pos} (h : ED X e ρ (.list ds)) (t : EA X es ρ ds2) (hs : starEach (.Starred e p1 :: es) X.env = (true, eval e X.env) :: starEach es X.env := by rfl) : EA X (.Starred e p1 :: es) ρ (ds ++ ds2) := fun σ B H ex s Q k =>
  (StX.pa_star pe_RE pa_RA hs).ra (h σ B H ex s _ fun v B1 H1 g1 e1 => by
    obtain ⟨x, xs, rfl, hx, hd⟩ := e1.lst_of
    exact ⟨x, xs, rfl, .inr (sq_of (g1.s _ _ hx)), t σ B1 H1 g1.s (s.mono g1.b) _ fun vs B2 H2 g2 e2 => k _ B2 H2 (g1.trans g2) ((hd.mono g2.b).app e2)⟩)
theorem d_tup {k1} (h : EA X es ρ ds) (hl : ds.length ≤ 100000 := by first | decide | (simp; done)) : ED X (.Tuple es k1 pos) ρ (.tuple ds) := fun σ B H ex s Q k =>
  (pe_tup pa_RA).re (h σ B H ex s _ fun vs B1 H1 g1 e1 => ⟨sz_of (by rw [e1.len]; exact hl), fun x hx => k _ _ _ (g1.trans (Gr.new g1.s hx)) (.tup upd_same (e1.mono (Gr.new g1.s hx).b))⟩)
theorem d_lst (h : EA X es ρ ds) (hl : ds.length ≤ 100000 := by first | decide | (simp; done)) : ED X (.List es pos) ρ (.list ds) := fun σ B H ex s Q k =>
  (pe_lst pa_RA).re (h σ B H ex s _ fun vs B1 H1 g1 e1 => ⟨sz_of (by rw [e1.len]; exact hl), fun x hx => k _ _ _ (g1.trans (Gr.new g1.s hx)) (.lst upd_same (e1.mono (Gr.new g1.s hx).b))⟩)
/-! ### operations -/
def BinR (X : Cx) (f : Value → Value → Sem Value) (d1 d2 d : PyData) : Prop := ∃ r : R2, OpR X f r ∧ ∀ x y B H, Ex B H → Da B x d1 → Da B y d2 → ∀ Q : VK, (∀ v B' H', Gr B H B' H' → Da B' v d → Q v H') → r x y H Q
theorem d_bin {op : Operator} (h : BinR X (binaryOp op) d1 d2 d) (ha : ED X a ρ d1) (hb : ED X b ρ d2) : ED X (.BinOp a op b pos) ρ d := fun σ B H ex s Q k => by
  obtain ⟨r, ho, hr⟩ := h
  exact (pe_op ho pe_RE pe_RE).re (ha σ B H ex s _ fun x B1 H1 g1 e1 => hb σ B1 H1 g1.s (s.mono g1.b) _ fun y B2 H2 g2 e2 => hr x y B2 H2 g2.s (e1.mono g2.b) e2 Q fun v B3 H3 g3 e3 => k v B3 H3 ((g1.trans g2).trans g3) e3)
theorem d_cmp {op : CmpOp} (h : BinR X (compareOp op) d1 d2 d) (ha : ED X a ρ d1) (hb : ED X b ρ d2) (hm : behindInMarks op b = false := by first | exact nobehind _ (by decide) (by decide) | rfl) : ED X (.Compare a [op] [b] pos) ρ d := fun σ B H ex s Q k => by
  obtain ⟨r, ho, hr⟩ := h
  exact (pe_cmpR ho pe_RE pe_RE hm).re (ha σ B H ex s _ fun x B1 H1 g1 e1 => hb σ B1 H1 g1.s (s.mono g1.b) _ fun y B2 H2 g2 e2 => hr x y B2 H2 g2.s (e1.mono g2.b) e2 Q fun v B3 H3 g3 e3 => k v B3 H3 ((g1.trans g2).trans g3) e3)
theorem t_cmp {op : CmpOp} (h : BinR X (compareOp op) d1 d2 (.bool p)) (ha : ED X a ρ d1) (hb : ED X b ρ d2) (hm : behindInMarks op b = false := by first | exact nobehind _ (by decide) (by decide) | rfl) : ET X (.Compare a [op] [b] pos) ρ p := fun σ B H ex s Q k => by
  obtain ⟨r, ho, hr⟩ := h
  exact (pt_cmpR ho pe_RE pe_RE hm).rt (ha σ B H ex s _ fun x B1 H1 g1 e1 => hb σ B1 H1 g1.s (s.mono g1.b) _ fun y B2 H2 g2 e2 => hr x y B2 H2 g2.s (e1.mono g2.b) e2 _ fun v B3 H3 g3 e3 => ⟨p, e3.bl_of, k B3 H3 ((g1.trans g2).trans g3)⟩)
theorem r_I0 {f : Value → Value → Sem Value} {g : Int → Int → V} {i j : Int} (h : OpR X f (rI0 g)) (hd : ∀ B, Da B (g i j) d) : BinR X f (.int i) (.int j) d := ⟨_, h, fun x y B H ex e1 e2 Q k => ⟨i, j, e1.int_of, e2.int_of, k _ B H (Gr.refl ex) (hd B)⟩⟩
theorem r_I {f : Value → Value → Sem Value} {C : Int → Int → Prop} {g : Int → Int → V} {i j : Int} (h : OpR X f (rI C g)) (hc : C i j) (hd : ∀ B, Da B (g i j) d) : BinR X f (.int i) (.int j) d := ⟨_, h, fun x y B H ex e1 e2 Q k => ⟨i, j, e1.int_of, e2.int_of, hc, k _ B H (Gr.refl ex) (hd B)⟩⟩
theorem r_add {i j : Int} : BinR X (binaryOp .Add) (.int i) (.int j) (.int (i + j)) := r_I0 op_add fun _ => .int _
theorem r_sub {i j : Int} : BinR X (binaryOp .Sub) (.int i) (.int j) (.int (i - j)) := r_I0 op_sub fun _ => .int _
theorem r_lt {i j : Int} : BinR X (compareOp .Lt) (.int i) (.int j) (.bool (decide (i < j))) := r_I0 op_lt fun _ => .bl _
theorem r_le {i j : Int} : BinR X (compareOp .LtE) (.int i) (.int j) (.bool (decide (i ≤ j))) := r_I0 op_le fun _ => .bl _
theorem r_gt {i j : Int} : BinR X (compareOp .Gt) (.int i) (.int j) (.bool (decide (j < i))) := r_I0 op_gt fun _ => .bl _
theorem r_ge {i j : Int} : BinR X (compareOp .GtE) (.int i) (.int j) (.bool (decide (j ≤ i))) := r_I0 op_ge fun _ => .bl _
theorem r_eq (hu : X.A.units + 64 < cLine) (h1 : SeqAt.shaped d1 = true) (h2 : SeqAt.shaped d2 = true) : BinR X (compareOp .Eq) d1 d2 (.bool (PyData.eqv d1 d2)) := ⟨_, op_eqD hu, fun x y B H ex e1 e2 Q k =>
  ⟨d1, d2, (e1.mono ex).dp (shaped_nd h1), (e2.mono ex).dp (shaped_nd h2), h1, h2, k _ B H (Gr.refl ex) (.bl _)⟩⟩
theorem r_ne (hu : X.A.units + 64 < cLine) (h1 : SeqAt.shaped d1 = true) (h2 : SeqAt.shaped d2 = true) : BinR X (compareOp .NotEq) d1 d2 (.bool (!PyData.eqv d1 d2)) := ⟨_, op_neD hu, fun x y B H ex e1 e2 Q k =>
  ⟨d1, d2, (e1.mono ex).dp (shaped_nd h1), (e2.mono ex).dp (shaped_nd h2), h1, h2, k _ B H (Gr.refl ex) (.bl _)⟩⟩
theorem r_inL (hu : X.A.units + 65 < cLine) (h1 : SeqAt.shaped d = true) (h2 : SeqAt.shaped (.list ds) = true) : BinR X (compareOp .In) d (.list ds) (.bool (ds.any fun z => PyData.eqv z d)) := ⟨_, op_inD hu, fun x y B H ex e1 e2 Q k =>
  ⟨d, ds, (e1.mono ex).dp (shaped_nd h1), (e2.mono ex).dp (shaped_nd h2), h1, h2, k _ B H (Gr.refl ex) (.bl _)⟩⟩
theorem r_niL (hu : X.A.units + 65 < cLine) (h1 : SeqAt.shaped d = true) (h2 : SeqAt.shaped (.list ds) = true) : BinR X (compareOp .NotIn) d (.list ds) (.bool (!ds.any fun z => PyData.eqv z d)) := ⟨_, op_notInD hu, fun x y B H ex e1 e2 Q k =>
  ⟨d, ds, (e1.mono ex).dp (shaped_nd h1), (e2.mono ex).dp (shaped_nd h2), h1, h2, k _ B H (Gr.refl ex) (.bl _)⟩⟩
/-- an int in a tuple of ints -/
theorem inV_ints (i : Int) (ns : List Int) : inV (.int i) (ns.map V.int) = ns.any (· == i) := by
  unfold inV
  induction ns with
  | nil => rfl
  | cons n ns ih =>
    rw [List.map_cons, List.any_cons, List.any_cons, ih]
    rfl
theorem flat_ints (ns : List Int) : (ns.map V.int).all flatV = true := by
  induction ns with
  | nil => rfl
  | cons n ns ih => rw [List.map_cons, List.all_cons, ih]; rfl
theorem r_inI {i : Int} {ns : List Int} : BinR X (compareOp .In) (.int i) (.tuple (ns.map PyData.int)) (.bool (ns.any (· == i))) := ⟨_, op_in_seq, fun x y B H ex e1 e2 Q k => by
  obtain ⟨t, xs, rfl, ht, hd⟩ := e2.tup_of
  obtain rfl := hd.ints
  obtain rfl := e1.int_of
  refine ⟨t, _, rfl, .inr (st_of (ex _ _ ht)), rfl, flat_ints ns, ?_⟩
  rw [inV_ints]
  exact k _ B H (Gr.refl ex) (.bl _)⟩
theorem r_niI {i : Int} {ns : List Int} : BinR X (compareOp .NotIn) (.int i) (.tuple (ns.map PyData.int)) (.bool (!ns.any (· == i))) := ⟨_, op_notIn_seq, fun x y B H ex e1 e2 Q k => by
  obtain ⟨t, xs, rfl, ht, hd⟩ := e2.tup_of
  obtain rfl := hd.ints
  obtain rfl := e1.int_of
  refine ⟨t, _, rfl, .inr (st_of (ex _ _ ht)), rfl, flat_ints ns, ?_⟩
  rw [inV_ints]
  exact k _ B H (Gr.refl ex) (.bl _)⟩
/-- .. in a list of ints -/
theorem r_inJ {i : Int} {ns : List Int} : BinR X (compareOp .In) (.int i) (.list (ns.map PyData.int)) (.bool (ns.any (· == i))) := ⟨_, op_in_seq, fun x y B H ex e1 e2 Q k => by
  obtain ⟨t, xs, rfl, ht, hd⟩ := e2.lst_of
  obtain rfl := hd.ints
  obtain rfl := e1.int_of
  refine ⟨t, _, rfl, .inl (sq_of (ex _ _ ht)), rfl, flat_ints ns, ?_⟩
  rw [inV_ints]
  exact k _ B H (Gr.refl ex) (.bl _)⟩
theorem r_isN : BinR X (compareOp .Is) d .none (.bool (match d with | .none => true | _ => false)) := ⟨_, op_isN, fun x y B H ex e1 e2 Q k => ⟨e2.non_of, k _ B H (Gr.refl ex) (by cases e1 <;> exact .bl _)⟩⟩
theorem r_notN : BinR X (compareOp .IsNot) d .none (.bool (match d with | .none => false | _ => true)) := ⟨_, op_notN, fun x y B H ex e1 e2 Q k => ⟨e2.non_of, k _ B H (Gr.refl ex) (by cases e1 <;> exact .bl _)⟩⟩
/-- tuples, lists put together -/
theorem r_catT (hz : ds.length + ds2.length ≤ 100000) : BinR X (binaryOp .Add) (.tuple ds) (.tuple ds2) (.tuple (ds ++ ds2)) := ⟨_, op_catA, fun x y B H ex e1 e2 Q k => by
  obtain ⟨t, xs, rfl, ht, hd⟩ := e1.tup_of
  obtain ⟨u, ys, rfl, hu, he⟩ := e2.tup_of
  refine ⟨t, u, xs, ys, rfl, rfl, st_of (ex _ _ ht), st_of (ex _ _ hu), sz_of (by rw [hd.len, he.len]; exact hz), fun z => ?_, fun _ z => ?_, fun _ _ p hp => ?_⟩
  · subst z; cases hd; exact k _ B H (Gr.refl ex) (.tup hu he)
  · subst z; cases he; rw [List.append_nil] at k; exact k _ B H (Gr.refl ex) (.tup ht hd)
  · exact k _ _ _ (Gr.new ex hp) (.tup upd_same ((hd.app he).mono (Gr.new (o := .tup (xs ++ ys)) ex hp).b))⟩
theorem r_catL (hz : ds.length + ds2.length ≤ 100000) : BinR X (binaryOp .Add) (.list ds) (.list ds2) (.list (ds ++ ds2)) := ⟨_, op_cat, fun x y B H ex e1 e2 Q k => by
  obtain ⟨t, xs, rfl, ht, hd⟩ := e1.lst_of
  obtain ⟨u, ys, rfl, hu, he⟩ := e2.lst_of
  exact ⟨t, u, xs, ys, rfl, rfl, ex _ _ ht, ex _ _ hu, sz_of (by rw [hd.len, he.len]; exact hz), fun p hp => k _ _ _ (Gr.new ex hp) (.lst upd_same ((hd.app he).mono (Gr.new (o := .lst (xs ++ ys)) ex hp).b))⟩⟩
theorem DaAll.rep {H : Hp} {vs : List V} (h : DaAll H vs ds) : ∀ n : Nat, DaAll H (List.replicate n vs).flatten (List.replicate n ds).flatten
  | 0 => .nil
  | n + 1 => by
    rw [List.replicate_succ, List.replicate_succ, List.flatten_cons, List.flatten_cons]
    exact h.app (DaAll.rep h n)
theorem r_rep {n : Nat} (hn : n ≤ 1000) (hz : ds.length ≤ 1000) : BinR X (binaryOp .Mult) (.list ds) (.int (n : Nat)) (.list (List.replicate n ds).flatten) := ⟨_, op_rep, fun x y B H ex e1 e2 Q k => by
  obtain ⟨t, xs, rfl, ht, hd⟩ := e1.lst_of
  obtain rfl := e2.int_of
  refine ⟨t, (n : Nat), xs, rfl, rfl, ex _ _ ht, by omega, by omega, ?_, fun p hp => k _ _ _ (Gr.new ex hp) ?_⟩
  · rw [Int.toNat_natCast]
    have := Nat.mul_le_mul (by rw [hd.len]; exact hz : xs.length ≤ 1000) hn
    exact Nat.le_trans this (by decide)
  · rw [Int.toNat_natCast]
    exact .lst upd_same ((hd.rep n).mono (Gr.new (o := .lst (List.replicate n xs).flatten) ex hp).b)⟩
/-! ### and, or, not, if -/
theorem d_one {op} (h : ED X a ρ d) : ED X (.BoolOp op [a] pos) ρ d := fun σ B H ex s Q k => (pe_one pe_RE).re (h σ B H ex s Q k)
theorem d_and (ha : ED X a ρ (.bool p)) (hb : p = true → ED X (.BoolOp .And (b :: rest) pos) ρ (.bool q)) : ED X (.BoolOp .And (a :: b :: rest) pos) ρ (.bool (p && q)) := fun σ B H ex s Q k =>
  (pe_and pe_RE pe_RE).re (ha σ B H ex s _ fun v B1 H1 g1 e1 => ⟨p, e1.bl_of, by
    cases p with
    | true => exact iteT (hb rfl σ B1 H1 g1.s (s.mono g1.b) Q fun v B2 H2 g2 e2 => k v B2 H2 (g1.trans g2) e2)
    | false => exact iteF (k _ B1 H1 g1 (.bl false))⟩)
theorem d_or (ha : ED X a ρ (.bool p)) (hb : p = false → ED X (.BoolOp .Or (b :: rest) pos) ρ (.bool q)) : ED X (.BoolOp .Or (a :: b :: rest) pos) ρ (.bool (p || q)) := fun σ B H ex s Q k =>
  (pe_or pe_RE pe_RE).re (ha σ B H ex s _ fun v B1 H1 g1 e1 => ⟨p, e1.bl_of, by
    cases p with
    | false => exact iteF (hb rfl σ B1 H1 g1.s (s.mono g1.b) Q fun v B2 H2 g2 e2 => k v B2 H2 (g1.trans g2) e2)
    | true => exact iteT (k _ B1 H1 g1 (.bl true))⟩)
theorem d_not (ha : ED X a ρ (.bool p)) : ED X (.UnaryOp .Not a pos) ρ (.bool (!p)) := fun σ B H ex s Q k => (pe_not pe_RE).re (ha σ B H ex s _ fun v B1 H1 g1 e1 => ⟨p, e1.bl_of, k _ B1 H1 g1 (.bl _)⟩)
theorem d_ifE (hc : ET X c ρ p) (h1 : p = true → ED X a ρ d) (h2 : p = false → ED X b ρ d) : ED X (.IfExp c a b pos) ρ d := fun σ B H ex s Q k => (pe_ifExp pt_RT pe_RE pe_RE).re (hc σ B H ex s _ fun B1 H1 g1 => by
  cases p with
  | true => exact iteT (h1 rfl σ B1 H1 g1.s (s.mono g1.b) Q fun v B2 H2 g2 e2 => k v B2 H2 (g1.trans g2) e2)
  | false => exact iteF (h2 rfl σ B1 H1 g1.s (s.mono g1.b) Q fun v B2 H2 g2 e2 => k v B2 H2 (g1.trans g2) e2))
theorem t_val (h : ED X e ρ (.bool p)) (he : ∀ whole, isTrue e X.env whole = (do let v ← whole; standAt e.pos; holding [v] (truthy v)) := by intro _; rfl) : ET X e ρ p := fun σ B H ex s Q k =>
  (pt_val pe_RE he).rt (h σ B H ex s _ fun v B1 H1 g1 e1 => ⟨p, e1.bl_of, k B1 H1 g1⟩)
theorem t_not (h : ET X a ρ p) : ET X (.UnaryOp .Not a pos) ρ (!p) := fun σ B H ex s Q k => (pt_not pt_RT).rt (h σ B H ex s _ k)
theorem t_w (h : EW X e ρ p) : ET X e ρ p := fun σ B H ex s Q k => (pw_RW.pt).rt (h σ B H ex s Q k)
theorem w_and1 (h : ET X a ρ p) : EW X (.BoolOp .And [a] pos) ρ p := fun σ B H ex s Q k => (pw_and1 pt_RT).rw (h σ B H ex s Q k)
theorem w_or1 (h : ET X a ρ p) : EW X (.BoolOp .Or [a] pos) ρ p := fun σ B H ex s Q k => (pw_or1 pt_RT).rw (h σ B H ex s Q k)
theorem w_and (ha : ET X a ρ p) (hb : p = true → EW X (.BoolOp .And (b :: rest) pos) ρ q) : EW X (.BoolOp .And (a :: b :: rest) pos) ρ (p && q) := fun σ B H ex s Q k => (pw_and pt_RT pw_RW).rw (ha σ B H ex s _ fun B1 H1 g1 => by
  cases p with
  | true => exact iteT (hb rfl σ B1 H1 g1.s (s.mono g1.b) Q fun B2 H2 g2 => k B2 H2 (g1.trans g2))
  | false => exact iteF (k B1 H1 g1))
theorem w_or (ha : ET X a ρ p) (hb : p = false → EW X (.BoolOp .Or (b :: rest) pos) ρ q) : EW X (.BoolOp .Or (a :: b :: rest) pos) ρ (p || q) := fun σ B H ex s Q k => (pw_or pt_RT pw_RW).rw (ha σ B H ex s _ fun B1 H1 g1 => by
  cases p with
  | false => exact iteF (hb rfl σ B1 H1 g1.s (s.mono g1.b) Q fun B2 H2 g2 => k B2 H2 (g1.trans g2))
  | true => exact iteT (k B1 H1 g1))
theorem ts_nil : ETs X [] ρ true := fun σ B H ex s Q k => fun pins s1 I => pts_nil.run pins s1 σ H Q I (k B H (Gr.refl ex))
theorem ts_one (h : ET X c ρ p) : ETs X [c] ρ p := fun σ B H ex s Q k => fun pins s1 I => (pts_one pt_RT).run pins s1 σ H Q I (h σ B H ex s Q k)
/-- a low bound ≤ b ≤ c of ints -/
theorem d_chain {i j k0 : Int} (ha : ED X a ρ (.int i)) (hb : ED X b ρ (.int j)) (hc : ED X c ρ (.int k0)) (hm : lastMarks [.LtE, .LtE] [b, c] = false := by with_unfolding_all rfl) :
    ED X (.Compare a [.LtE, .LtE] [b, c] pos) ρ (.bool (decide (i ≤ j) && decide (j ≤ k0))) := fun σ B H ex s Q k =>
  (pe_chain op_le op_le pe_RE pe_RE pe_RE hm).re (ha σ B H ex s _ fun x B1 H1 g1 e1 => hb σ B1 H1 g1.s (s.mono g1.b) _ fun y B2 H2 g2 e2 => ⟨i, j, e1.int_of, e2.int_of, decide (i ≤ j), rfl, by
    generalize decide (i ≤ j) = z at k
    cases z with
    | true => exact iteT (hc σ B2 H2 g2.s ((s.mono g1.b).mono g2.b) _ fun z B3 H3 g3 e3 => ⟨j, k0, e2.int_of, e3.int_of, k _ B3 H3 ((g1.trans g2).trans g3) (.bl _)⟩)
    | false => exact iteF (k _ B2 H2 (g1.trans g2) (.bl _))⟩)
end
end Wx

set_option Elab.async false
set_option linter.all false
set_option maxRecDepth 100000
set_option maxHeartbeats 4000000
/-! Rules over data: calls, subscripts, comprehensions, loops, statements. -/
namespace Wx
open PySem PySem.Spec PyProof.Rows L2 Evl
/-- what the data of a walk are, items known by place -/
def itemsD (n : Nat) (f : Nat → Bool) (v : Nat → PyData) : List PyData := ((List.range n).filter f).map v
theorem itemsD_yes {n : Nat} {f : Nat → Bool} {v : Nat → PyData} (h : f n = true) : itemsD (n + 1) f v = itemsD n f v ++ [v n] := by
  unfold itemsD
  rw [List.range_succ, List.filter_append, List.map_append, List.filter_cons, if_pos h]
  rfl
theorem itemsD_no {n : Nat} {f : Nat → Bool} {v : Nat → PyData} (h : f n = false) : itemsD (n + 1) f v = itemsD n f v := by
  unfold itemsD
  rw [List.range_succ, List.filter_append, List.map_append, List.filter_cons, if_neg (by rw [h]; decide), List.filter_nil, List.map_nil, List.append_nil]
theorem itemsD_len (n : Nat) (f : Nat → Bool) (v : Nat → PyData) : (itemsD n f v).length ≤ n := by
  unfold itemsD
  rw [List.length_map]
  exact Nat.le_trans (List.length_filter_le f _) (by rw [List.length_range]; exact Nat.le_refl _)
theorem itemsD_all (n : Nat) (v : Nat → PyData) : itemsD n (fun _ => true) v = (List.range n).map v := by
  unfold itemsD
  rw [List.filter_eq_self.mpr fun _ _ => rfl]
section
variable {X : Cx} {ρ ρ2 : Rho} {a b c e : Expr} {es rest : List Expr} {d d1 d2 : PyData} {ds ds2 : List PyData} {pos : Pos} {p q : Bool}
/-! ### calls -/
def CalR (X : Cx) (f : Value) (ds : List PyData) (d : PyData) : Prop := ∃ r : List V → Hp → VK → Prop, CallR X f r ∧ ∀ vs B H, Ex B H → DaAll B vs ds → ∀ Q : VK, (∀ v B' H', Gr B H B' H' → Da B' v d → Q v H') → r vs H Q
theorem d_callB {x : Str} {id : String} (h : CalR X (.builtin id) ds d) (ha : EA X (e :: es) ρ ds) (hm : X.mg x = none) (hv : bootBuiltins x = some (.builtin id) := by first | exact PySem.boot_len | decide +kernel) (hg : Gl X x := by rfl) (hn : x ≠ "__name__" := by decide) (hdb : (x == ("__debug__" : Str)) = false := by decide)
    (he : starEach (e :: es) X.env = (false, eval e X.env) :: starEach es X.env := by rfl) (hpl : (backTo pos (starEach es X.env)).any (·.1) = false := by rfl) {p : Pos} : ED X (.Call (.Name x p) (e :: es) [] pos) ρ d := fun σ B H ex s Q k => by
  obtain ⟨r, hc, hr⟩ := h
  exact (pe_callB hc hg hm hv pa_RA hn hdb he hpl).re (ha σ B H ex s _ fun vs B1 H1 g1 e1 => hr vs B1 H1 g1.s e1 Q fun v B2 H2 g2 e2 => k v B2 H2 (g1.trans g2) e2)
theorem d_callTy {x : Str} {T : String} (h : CalR X (.type T) ds d) (ha : EA X (e :: es) ρ ds) (hm : X.mg x = none) (hv : bootBuiltins x = some (.type T) := by decide +kernel) (hg : Gl X x := by rfl) (hn : x ≠ "__name__" := by decide) (hdb : (x == ("__debug__" : Str)) = false := by decide)
    (he : starEach (e :: es) X.env = (false, eval e X.env) :: starEach es X.env := by rfl) (hpl : (backTo pos (starEach es X.env)).any (·.1) = false := by rfl) {p : Pos} : ED X (.Call (.Name x p) (e :: es) [] pos) ρ d := fun σ B H ex s Q k => by
  obtain ⟨r, hc, hr⟩ := h
  exact (pe_callTy hc hg hm hv pa_RA hn hdb he hpl).re (ha σ B H ex s _ fun vs B1 H1 g1 e1 => hr vs B1 H1 g1.s e1 Q fun v B2 H2 g2 e2 => k v B2 H2 (g1.trans g2) e2)
theorem c_lenT : CalR X (.builtin "len") [.tuple ds] (.int ds.length) := ⟨_, call_len_seq, fun vs B H ex e1 Q k => by
  cases e1 with
  | cons h t =>
    cases t
    obtain ⟨x, xs, rfl, hx, hd⟩ := h.tup_of
    exact ⟨x, xs, rfl, .inr (st_of (ex _ _ hx)), by rw [hd.len]; exact k _ B H (Gr.refl ex) (.int _)⟩⟩
theorem c_lenL : CalR X (.builtin "len") [.list ds] (.int ds.length) := ⟨_, call_len_seq, fun vs B H ex e1 Q k => by
  cases e1 with
  | cons h t =>
    cases t
    obtain ⟨x, xs, rfl, hx, hd⟩ := h.lst_of
    exact ⟨x, xs, rfl, .inl (sq_of (ex _ _ hx)), by rw [hd.len]; exact k _ B H (Gr.refl ex) (.int _)⟩⟩
theorem c_tupL : CalR X (.type "tuple") [.list ds] (.tuple ds) := ⟨_, call_tuple_of, fun vs B H ex e1 Q k => by
  cases e1 with
  | cons h t =>
    cases t
    obtain ⟨x, xs, rfl, hx, hd⟩ := h.lst_of
    exact ⟨x, xs, rfl, .inl ⟨sq_of (ex _ _ hx), fun l hl => k _ _ _ (Gr.new ex hl) (.tup upd_same (hd.mono (Gr.new (o := .tup xs) ex hl).b))⟩⟩⟩
theorem c_lstT : CalR X (.type "list") [.tuple ds] (.list ds) := ⟨_, call_list_of, fun vs B H ex e1 Q k => by
  cases e1 with
  | cons h t =>
    cases t
    obtain ⟨x, xs, rfl, hx, hd⟩ := h.tup_of
    exact ⟨x, xs, rfl, .inr (st_of (ex _ _ hx)), fun l hl => k _ _ _ (Gr.new ex hl) (.lst upd_same (hd.mono (Gr.new (o := .lst xs) ex hl).b))⟩⟩
theorem c_all {bs : List Bool} (hc : X.calm = true) : CalR X (.builtin "all") [.list (bs.map PyData.bool)] (.bool (bs.all id)) := ⟨_, cr_all hc, fun vs B H ex e1 Q k => by
  cases e1 with
  | cons h t =>
    cases t
    obtain ⟨x, xs, rfl, hx, hd⟩ := h.lst_of
    obtain rfl := hd.bools
    exact ⟨x, bs, rfl, sq_of (ex _ _ hx), k _ B H (Gr.refl ex) (.bl _)⟩⟩
theorem c_sumL {ns : List Int} (hc : X.calm = true) : CalR X (.builtin "sum") [.list (ns.map PyData.int)] (.int ns.sum) := ⟨_, cr_sum hc, fun vs B H ex e1 Q k => by
  cases e1 with
  | cons h t =>
    cases t
    obtain ⟨x, xs, rfl, hx, hd⟩ := h.lst_of
    obtain rfl := hd.ints
    exact ⟨x, ns, rfl, sq_of (ex _ _ hx), k _ B H (Gr.refl ex) (.int _)⟩⟩
/-- the promise of a def: of these data it gives that, and leaves all that is tracked -/
def spD (F : List PyData → PyData → Prop) : Sp := fun vs H Q _ => ∃ B ds d, Ex B H ∧ DaAll B vs ds ∧ F ds d ∧ ∀ v B' H', Gr B H B' H' → Da B' v d → Q v H'
theorem d_call {CX : CXT} {k : Nat} {f : Addr} {fd : FuncData} {ps : List Str} {x : Str} {E : XK} {S : Sp} (F : FnOk X.prog X.w X.K X.mg X.base CX k f fd ps S) (hr : Room k X.A) (hm : X.mg x = some (.ref f)) (hk : PySem.W.keepIn X.K (.ref f) = true) (hb : Binds X.K fd ps []) (hx : Passes CX X E)
    (hS : ∀ vs B H (Q : VK), Ex B H → DaAll B vs ds → (∀ v B' H', Gr B H B' H' → Da B' v d → Q v H') → S vs H Q E) (ha : EA X (e :: es) ρ ds) (hg : Gl X x := by rfl)
    (hdb : (x == ("__debug__" : Str)) = false := by decide) (hst : starEach (e :: es) X.env = (false, eval e X.env) :: starEach es X.env := by rfl) (hpl : (backTo pos (starEach es X.env)).any (·.1) = false := by rfl) {p : Pos} :
    ED X (.Call (.Name x p) (e :: es) [] pos) ρ d := fun σ B H ex s Q k =>
  (pe_call F hr hg hm hk hb .nil hx pa_RA hdb hst hpl).re (ha σ B H ex s _ fun vs B1 H1 g1 e1 => by
    rw [List.append_nil]
    exact hS vs B1 H1 Q g1.s e1 fun v B2 H2 g2 e2 => k v B2 H2 (g1.trans g2) e2)
theorem hS_D {F : List PyData → PyData → Prop} {E : XK} (h : F ds d) : ∀ vs B H (Q : VK), Ex B H → DaAll B vs ds → (∀ v B' H', Gr B H B' H' → Da B' v d → Q v H') → spD F vs H Q E := fun vs B H Q ex e k => ⟨B, ds, d, ex, e, h, k⟩
/-! ### subscripts -/
theorem plain_ix {b : Expr} (h : ∀ o i, subscripted b false o i = operate [o, i] (getItem o i) := by intro _ _; rfl) : PlainIx b := h
theorem d_ixT {i : Int} (h : atI ds i = some d) (ha : ED X a ρ (.tuple ds)) (hb : ED X b ρ (.int i)) (hp : PlainIx b := by exact fun _ _ => rfl) : ED X (.Subscript a b pos) ρ d := fun σ B H ex s Q k =>
  (pe_ix ix_tup pe_RE pe_RE hp).re (ha σ B H ex s _ fun x B1 H1 g1 e1 => hb σ B1 H1 g1.s (s.mono g1.b) _ fun y B2 H2 g2 e2 => by
    obtain ⟨t, xs, rfl, ht, hd⟩ := e1.tup_of
    obtain rfl := e2.int_of
    unfold atI at h
    cases hj : ixN ds.length i with
    | none => rw [hj] at h; cases h
    | some j =>
      rw [hj] at h
      obtain ⟨v, e3, e4⟩ := hd.at h
      exact ⟨t, xs, i, v, rfl, rfl, st_of (g2.h _ _ (g1.s _ _ ht)), by unfold atI; rw [hd.len, hj]; exact e3, k v B2 H2 (g1.trans g2) (e4.mono g2.b)⟩)
theorem d_ixL {i : Int} (h : atI ds i = some d) (ha : ED X a ρ (.list ds)) (hb : ED X b ρ (.int i)) (hp : PlainIx b := by exact fun _ _ => rfl) : ED X (.Subscript a b pos) ρ d := fun σ B H ex s Q k =>
  (pe_ix ix_list pe_RE pe_RE hp).re (ha σ B H ex s _ fun x B1 H1 g1 e1 => hb σ B1 H1 g1.s (s.mono g1.b) _ fun y B2 H2 g2 e2 => by
    obtain ⟨t, xs, rfl, ht, hd⟩ := e1.lst_of
    obtain rfl := e2.int_of
    unfold atI at h
    cases hj : ixN ds.length i with
    | none => rw [hj] at h; cases h
    | some j =>
      rw [hj] at h
      obtain ⟨v, e3, e4⟩ := hd.at h
      exact ⟨t, xs, i, v, rfl, rfl, sq_of (g2.h _ _ (g1.s _ _ ht)), by unfold atI; rw [hd.len, hj]; exact e3, k v B2 H2 (g1.trans g2) (e4.mono g2.b)⟩)
theorem o_none : EO X none ρ none := fun σ B H ex s Q k => po_none.ro (k B H (Gr.refl ex))
theorem o_some {i : Int} (h : ED X e ρ (.int i)) : EO X (some e) ρ (some i) := fun σ B H ex s Q k => (po_some pe_RE).ro (h σ B H ex s _ fun v B1 H1 g1 e1 => ⟨i, e1.int_of, k B1 H1 g1⟩)
def cutD (xs : List PyData) (lo hi : Option Int) : List PyData := (xs.drop (HT.sIx xs.length 0 lo)).take (HT.sIx xs.length xs.length hi - HT.sIx xs.length 0 lo)
theorem DaAll.cut {H : Hp} {vs : List V} (h : DaAll H vs ds) (lo hi : Option Int) : DaAll H (cutV vs lo hi) (cutD ds lo hi) := by
  unfold cutV cutD
  rw [h.len]
  exact (h.drop _).take _
theorem d_sl {lo hi : Option Expr} {l u : Option Int} {p2 : Pos} (ha : ED X a ρ (.tuple ds)) (hl : EO X lo ρ l) (hh : EO X hi ρ u) : ED X (.Subscript a (.Slice lo hi none p2) pos) ρ (.tuple (cutD ds l u)) := fun σ B H ex s Q k =>
  (pe_slice sl_tupA pe_RE po_RO po_RO).re (ha σ B H ex s _ fun x B1 H1 g1 e1 => hl σ B1 H1 g1.s (s.mono g1.b) _ fun B2 H2 g2 => hh σ B2 H2 g2.s ((s.mono g1.b).mono g2.b) _ fun B3 H3 g3 => by
    have g := (g1.trans g2).trans g3
    obtain ⟨t, xs, rfl, ht, hd⟩ := (e1.mono (g2.trans g3).b).tup_of
    refine ⟨t, xs, rfl, st_of (g3.s _ _ ht), fun z => k _ B3 H3 g ?_, fun z pp hp => k _ _ _ (g.trans (Gr.new g3.s hp)) (.tup upd_same ((hd.cut l u).mono (Gr.new (o := .tup (cutV xs l u)) g3.s hp).b))⟩
    have e0 : cutD ds l u = ds := by
      unfold cutD
      rw [← hd.len, z.1, z.2, List.drop_zero, Nat.sub_zero, hd.len, List.take_length]
    rw [e0]
    exact .tup ht hd)
theorem cut_to {xs : List PyData} {i : Nat} (h : i ≤ xs.length) : cutD xs none (some (i : Int)) = xs.take i := by
  unfold cutD
  rw [HT.sIx_none, HT.sIx_nat, List.drop_zero, Nat.sub_zero, Nat.min_eq_left h]
theorem cut_from {xs : List PyData} {i : Nat} (h : i ≤ xs.length) : cutD xs (some (i : Int)) none = xs.drop i := by
  unfold cutD
  rw [HT.sIx_none, HT.sIx_nat, Nat.min_eq_left h, List.take_of_length_le (by rw [List.length_drop]; exact Nat.le_refl _)]
theorem cut_last {xs : List PyData} : cutD xs none (some (-1)) = xs.dropLast := by
  unfold cutD
  rw [HT.sIx_none, List.drop_zero, Nat.sub_zero, List.dropLast_eq_take]
  congr 1
  show (if (-1 : Int) < 0 then ((-1 : Int) + (xs.length : Int)).toNat else min (-1 : Int).toNat xs.length) = _
  rw [if_pos (by decide)]
  omega
/-! ### what is walked -/
section
variable {tg iter : Expr} {n : Nat} {y : Nat → PyData}
theorem i_tup (h : ED X iter ρ (.tuple ds)) (hy : ∀ i, i < n → ds[i]? = some (y i)) (hn : ds.length = n) : EI X tg iter ρ n y := fun σ B H ex s R k => (pi_tup pe_RE).ri (h σ B H ex s _ fun v B1 H1 g1 e1 => by
  obtain ⟨t, xs, rfl, ht, hd⟩ := e1.tup_of
  have w := (walk_tup (K := X.K) (a := t) (xs := xs)).mono (G' := fun H2 => H2 t = some (.tup xs)) (Y' := fun i H2 v H3 => ∀ B2, Ex B1 B2 → Ex B2 H2 → ∃ B3, Gr B2 H2 B3 H3 ∧ Da B3 v (y i)) (fun _ g => st_of g) fun i H2 v H3 hi _ q B2 eb es => by
    obtain ⟨rfl, q⟩ := q
    obtain ⟨d, hd1, hd2⟩ := hd.at' q
    rw [hy i (by rw [← hn, ← hd.len]; exact hi)] at hd1
    cases hd1
    exact ⟨B2, Gr.refl es, hd2.mono eb⟩
  rw [hd.len, hn] at w
  exact ⟨t, rfl, ⟨xs, st_of (g1.s _ _ ht)⟩, k _ B1 H1 _ g1 (fun H2 e => e _ _ ht) w⟩)
theorem i_lst (h : ED X iter ρ (.list ds)) (hy : ∀ i, i < n → ds[i]? = some (y i)) (hn : ds.length = n) : EI X tg iter ρ n y := fun σ B H ex s R k => (pi_list pe_RE).ri (h σ B H ex s _ fun v B1 H1 g1 e1 => by
  obtain ⟨t, xs, rfl, ht, hd⟩ := e1.lst_of
  have w := (walk_list (K := X.K) (a := t) (xs := xs)).mono (G' := fun H2 => H2 t = some (.lst xs)) (Y' := fun i H2 v H3 => ∀ B2, Ex B1 B2 → Ex B2 H2 → ∃ B3, Gr B2 H2 B3 H3 ∧ Da B3 v (y i)) (fun _ g => sq_of g) fun i H2 v H3 hi _ q B2 eb es => by
    obtain ⟨rfl, q⟩ := q
    obtain ⟨d, hd1, hd2⟩ := hd.at' q
    rw [hy i (by rw [← hn, ← hd.len]; exact hi)] at hd1
    cases hd1
    exact ⟨B2, Gr.refl es, hd2.mono eb⟩
  rw [hd.len, hn] at w
  exact ⟨t, rfl, ⟨xs, sq_of (g1.s _ _ ht)⟩, k _ B1 H1 _ g1 (fun H2 e => e _ _ ht) w⟩)
theorem i_rng {m : Int} (ha : EA X [a] ρ [.int m]) (hn : m.toNat = n) (h1 : -(2 ^ 62) ≤ m) (h2 : m < 2 ^ 62) (hm : X.mg "range" = none) (hg : Gl X "range" := by rfl) (hs : starEach [a] X.env = [(false, eval a X.env)] := by rfl) {pp : Pos} :
    EI X tg (.Call (.Name "range" pp) [a] [] pos) ρ n (fun i => .int (i : Nat)) := fun σ B H ex s R k => (pi_range1 hg hm pa_RA hs).ri (ha σ B H ex s _ fun vs B1 H1 g1 e1 => by
  cases e1 with
  | cons hh t =>
    cases t
    obtain rfl := hh.int_of
    refine ⟨m, rfl, h1, h2, ?_⟩
    rw [hn]
    refine k _ B1 H1 (fun _ => True) g1 (fun _ _ => trivial) ((walk_range (lo := 0) (n := n)).mono (fun _ _ => trivial) fun i H2 v H3 hi _ q B2 eb es => ?_)
    obtain ⟨rfl, rfl⟩ := q
    refine ⟨B2, Gr.refl es, ?_⟩
    show Da _ (V.int (0 + (i : Int))) _
    rw [Int.zero_add]
    exact .int _)
theorem i_rngD {m : Nat} (ha : EA X [a, b, c] ρ [.int ((m : Int) - 1), .int (-1), .int (-1)]) (hz : m < 2 ^ 30) (hm : X.mg "range" = none) (hg : Gl X "range" := by rfl)
    (hs : starEach [a, b, c] X.env = (false, eval a X.env) :: starEach [b, c] X.env := by rfl) (hpl : (backTo pos (starEach [b, c] X.env)).any (·.1) = false := by rfl) {pp : Pos} :
    EI X tg (.Call (.Name "range" pp) [a, b, c] [] pos) ρ m (fun i => .int ((m - 1 - i : Nat) : Int)) := fun σ B H ex s R k => (pi_range3 hg hm pa_RA hs hpl).ri (ha σ B H ex s _ fun vs B1 H1 g1 e1 => by
  cases e1 with
  | cons h1 t =>
    cases t with
    | cons h2 t =>
      cases t with
      | cons h3 t =>
        cases t
        obtain rfl := h1.int_of
        obtain rfl := h2.int_of
        obtain rfl := h3.int_of
        have q := RgC.neg (i := (m : Int) - 1) (j := -1) (by omega) (by omega) (by omega) (by omega)
        have e0 : ((m : Int) - 1 - -1).toNat = m := by omega
        rw [e0] at q
        refine ⟨_, _, _, m, rfl, q, k _ B1 H1 (fun _ => True) g1 (fun _ _ => trivial) ((walk_rangeC (lo := (m : Int) - 1) (c := -1) (n := m)).mono (fun _ _ => trivial) fun i H2 v H3 hi _ q B2 eb es => ?_)⟩
        obtain ⟨rfl, rfl⟩ := q
        have e2 : (m : Int) - 1 + (i : Nat) * -1 = ((m - 1 - i : Nat) : Int) := by omega
        refine ⟨B2, Gr.refl es, ?_⟩
        show Da _ (V.int ((m : Int) - 1 + (i : Nat) * -1)) _
        rw [e2]
        exact .int _)
theorem i_enum {elts : List Expr} {kk : Nat} {tpos : Pos} (h : ED X e ρ (.tuple ds)) (hy : ∀ i, i < n → ds[i]? = some (y i)) (hn : ds.length = n) (hm : X.mg "enumerate" = none) (hg : Gl X "enumerate" := by rfl) (hs : starEach [e] X.env = [(false, eval e X.env)] := by rfl) {pp : Pos} :
    EI X (.Tuple elts kk tpos) (.Call (.Name "enumerate" pp) [e] [] pos) ρ n (fun i => .tuple [.int (i : Nat), y i]) := fun σ B H ex s R k => (We.pi_enT hg hm pa_RA hs).ri ((a_cons h a_nil hs) σ B H ex s _ fun vs B1 H1 g1 e1 => by
  cases e1 with
  | cons hh t =>
    cases t
    obtain ⟨t, xs, rfl, ht, hd⟩ := hh.tup_of
    have w := (We.walk_enT (K := X.K) (a := t) (xs := xs)).mono (G' := fun H2 => H2 t = some (.tup xs)) (Y' := fun i H2 v H3 => ∀ B2, Ex B1 B2 → Ex B2 H2 → ∃ B3, Gr B2 H2 B3 H3 ∧ Da B3 v (.tuple [.int (i : Nat), y i])) (fun _ g => st_of g) fun i H2 v H3 hi _ q B2 eb es => by
      obtain ⟨T, x, z, rfl, hT, rfl, q1, q2⟩ := q
      cases q1
      obtain ⟨d, hd1, hd2⟩ := hd.at' q2
      rw [hy i (by rw [← hn, ← hd.len]; exact hi)] at hd1
      cases hd1
      exact ⟨_, Gr.new es hT, .tup upd_same (.cons (.int _) (.cons (hd2.mono (eb.trans (Gr.new (o := .tup [.int (i : Nat), z]) es hT).b)) .nil))⟩
    rw [hd.len, hn] at w
    exact ⟨t, xs, rfl, st_of (g1.s _ _ ht), k _ B1 H1 _ g1 (fun H2 e => e _ _ ht) w⟩)
end
/-! ### targets -/
theorem g_name (i : Nat) {x : Str} (hN : X.N.Nodup) (hi : X.N[i]? = some x := by rfl) (hx : Loc X.env.scope x := by first | exact Or.inl rfl | exact Or.inr rfl) (hf : X.fn x = true ∨ X.env.scope.names.lookup x = some .local := by first | exact .inl rfl | exact .inr rfl) :
    GT X (.Name x pos) [i] d ρ (ρ.set i (some d)) := fun v σ B H Q ex s hv k => (pg_name hN hi hx hf).rg (show gName i v σ H Q from k _ (s.set hv) fun vs h => wipe_set (h i List.mem_cons_self))
theorem g_pair {t1 t2 : Expr} {kk : Nat} {js1 js2 : List Nat} {ρ3 : Rho} (hc : X.calm = true) (h1 : GT X t1 js1 d1 ρ ρ2) (h2 : GT X t2 js2 d2 ρ2 ρ3) (hn : (assignEach [t1, t2] X.env).length = 2 := by rfl) (hst : (assignEach [t1, t2] X.env).findIdx? (·.1) = none := by rfl)
    (e1 : (assignEach [t1, t2] X.env).map (·.2) = assign t1 X.env :: (assignEach [t2] X.env).map (·.2) := by rfl) (e2 : (assignEach [t2] X.env).map (·.2) = assign t2 X.env :: (assignEach [] X.env).map (·.2) := by rfl) :
    GT X (.Tuple [t1, t2] kk pos) (js1 ++ js2) (.tuple [d1, d2]) ρ ρ3 := fun v σ B H Q ex s hv k => (pg_tup hc (pgs_cons pg_RG (pgs_cons pg_RG pgs_nil e2) e1) hn hst).rg (by
  obtain ⟨t, xs, rfl, ht, hd⟩ := hv.tup_of
  cases hd with
  | cons q1 hd =>
    cases hd with
    | cons q2 hd =>
      cases hd
      refine ⟨t, _, rfl, st_of (ex _ _ ht), rfl, _, _, rfl, h1 _ σ B H _ ex s q1 fun σ1 s1 w1 => ⟨_, _, rfl, h2 _ σ1 B H _ ex s1 q2 fun σ2 s2 w2 => ⟨rfl, k σ2 s2 fun vs hv => ?_⟩⟩⟩
      rw [w2 vs fun j hj => hv j (List.mem_append_right _ hj), w1 vs fun j hj => hv j (List.mem_append_left _ hj)])
/-! ### comprehensions -/
/-- what holds in every block of that scope -/
def InBlk (X : Cx) (scope : Scope) (P : Cx → Prop) : Prop := ∀ (s : Shared) (H : Hp) (C : Addr) (cl : List (Str × Addr)) (fp : List Addr), P (X.blk s H scope (compEnvC scope cl C X.env) fp)
abbrev bG (X : Cx) (scope : Scope) (tg : Expr) : TG := fun v σ H Q => InBlk X scope fun Y => RG Y tg v σ H Q
abbrev bT (X : Cx) (scope : Scope) (ifs : List Expr) : TT := fun σ H Q => InBlk X scope fun Y => RTs Y ifs σ H Q
abbrev bE (X : Cx) (scope : Scope) (elt : Expr) : TE := fun σ H Q => InBlk X scope fun Y => RE Y elt σ H Q
theorem lc_readM {elt tg iter : Expr} {ifs : List Expr} {scope : Scope} {own : List (Str × Nat)} {n : Nat} {y v0 : Nat → PyData} {js : List Nat} {ρw : Rho} {ρi : Nat → Rho} {f : Nat → Bool} (hc : X.calm = true) (hN : X.N.Nodup) (ok : BlkOk X.N X.env.scope scope own) (hi : EI X tg iter ρ n y)
    (hw : wipeD ρ (own.map (·.2)) = ρw) (hjs : ∀ j ∈ js, j ∈ own.map (·.2)) (hz : n ≤ 90000) (hg : ∀ i, i < n → InBlk X scope fun Y => GT Y tg js (y i) ρw (ρi i)) (ht : ∀ i, i < n → InBlk X scope fun Y => ETs Y ifs (ρi i) (f i))
    (he : ∀ i, i < n → f i = true → InBlk X scope fun Y => ED Y elt (ρi i) (v0 i)) {σ : L2.St} {B H : Hp} (ex : Ex B H) (s : StD B σ ρ) {Q : VK} (k : ∀ p vs B' H', Gr B H B' H' → H p = none → B' p = none → H' p = some (.lst vs) → DaAll B' vs (itemsD n f v0) → Q (.ref p) H') :
    tLc (RI X tg iter) (bG X scope tg) (bT X scope ifs) (bE X scope elt) (own.map (·.2)) σ H Q := by
  refine hi σ B H ex s _ fun J B1 H1 G g1 hG wk D hD => ?_
  have sw := (s.mono g1.b).wipe (own.map (·.2))
  rw [hw] at sw
  refine lc_it wk (g := fun v σ H Q => InBlk X scope fun Y => RG Y tg v σ H Q) (tt := fun σ H Q => InBlk X scope fun Y => RTs Y ifs σ H Q) (te := fun σ H Q => InBlk X scope fun Y => RE Y elt σ H Q)
    (vs := own.map (·.2)) (σ := σ) (H1 := H1) (D := D) (Qd := fun H2 => Q (.ref D) H2) (fun i H2 => ∃ B2 acc, Gr B1 H1 B2 H2 ∧ B2 D = none ∧ H2 D = some (.lst acc) ∧ DaAll B2 acc (itemsD i f v0)) ⟨B1, [], ?_, fresh_back g1.s hD, upd_same, .nil⟩ (fun i H2 hle p => ?_) (fun i x H2 H3 hlt p yd => ?_) fun H2 p => ?_
  · exact ⟨Ex.refl _, Ex.new hD, g1.s.trans (Ex.new hD), fun a n => rfl⟩
  · obtain ⟨B2, acc, g2, _⟩ := p
    exact hG H2 (g2.b.trans g2.s)
  · obtain ⟨B2, acc, g2, nD, hacc, hda⟩ := p
    obtain ⟨B3, g3, hx⟩ := yd B2 g2.b g2.s
    have n3 : B3 D = none := (g3.f D (by rw [hacc]; intro z; cases z)).trans nD
    have hl : acc.length ≤ i := by rw [hda.len]; exact itemsD_len i f v0
    intro s0 H0 C cl fp
    refine hg i hlt s0 H0 C cl fp x _ B3 H3 _ g3.s ((sw.mono g2.b).mono g3.b) hx fun σ2 s2 w2 => ⟨(w2 _ hjs).trans (wipe_wipe σ _), fun s0 H0 C cl fp => ht i hlt s0 H0 C cl fp σ2 B3 H3 g3.s s2 _ fun B4 H4 g4 => ?_⟩
    have n4 : B4 D = none := (g4.f D (by rw [g3.h D _ hacc]; intro z; cases z)).trans n3
    cases hf : f i with
    | true =>
      rw [if_pos rfl]
      intro s0 H0 C cl fp
      refine he i hlt hf s0 H0 C cl fp σ2 B4 H4 g4.s (s2.mono g4.b) _ fun v5 B5 H5 g5 e5 => ?_
      have h5 : H5 D = some (.lst acc) := g5.h D _ (g4.h D _ (g3.h D _ hacc))
      have n5 : B5 D = none := (g5.f D (by rw [g4.h D _ (g3.h D _ hacc)]; intro z; cases z)).trans n4
      have gg := ((g2.trans g3).trans g4).trans g5
      refine ⟨acc, h5, sz_lt (by omega), B5, acc ++ [v5], ⟨gg.b, Ex.mut gg.h hD, Ex.mut gg.s n5, gg.f⟩, n5, upd_same, ?_⟩
      rw [itemsD_yes hf]
      exact (hda.mono (((g3.b).trans g4.b).trans g5.b)).app (.cons e5 .nil)
    | false =>
      rw [if_neg Bool.false_ne_true]
      refine ⟨B4, acc, (g2.trans g3).trans g4, n4, g4.h D _ (g3.h D _ hacc), ?_⟩
      rw [itemsD_no hf]
      exact hda.mono (g3.b.trans g4.b)
  · obtain ⟨B2, acc, g2, nD, hacc, hda⟩ := p
    exact k D acc B2 H2 (g1.trans g2) (fresh_back g1.h hD) nD hacc hda
theorem lc_read {elt tg iter : Expr} {ifs : List Expr} {scope : Scope} {own : List (Str × Nat)} {n : Nat} {y v0 : Nat → PyData} {js : List Nat} {ρw : Rho} {ρi : Nat → Rho} {f : Nat → Bool} (hc : X.calm = true) (hN : X.N.Nodup) (ok : BlkOk X.N X.env.scope scope own) (hi : EI X tg iter ρ n y)
    (hw : wipeD ρ (own.map (·.2)) = ρw) (hjs : ∀ j ∈ js, j ∈ own.map (·.2)) (hz : n ≤ 90000) (hg : ∀ i, i < n → InBlk X scope fun Y => GT Y tg js (y i) ρw (ρi i)) (ht : ∀ i, i < n → InBlk X scope fun Y => ETs Y ifs (ρi i) (f i))
    (he : ∀ i, i < n → f i = true → InBlk X scope fun Y => ED Y elt (ρi i) (v0 i)) {σ : L2.St} {B H : Hp} (ex : Ex B H) (s : StD B σ ρ) {Q : VK} (k : ∀ v B' H', Gr B H B' H' → Da B' v (.list (itemsD n f v0)) → Q v H') :
    tLc (RI X tg iter) (bG X scope tg) (bT X scope ifs) (bE X scope elt) (own.map (·.2)) σ H Q :=
  lc_readM hc hN ok hi hw hjs hz hg ht he ex s fun D acc B2 H2 g2 fD nD hacc hda => by
    refine k _ (upd B2 D (.lst acc)) H2 ⟨g2.b.trans (Ex.new nD), g2.h, fun a o q => ?_, fun a n => ?_⟩ (.lst upd_same (hda.mono (Ex.new nD)))
    · by_cases z : a = D
      · rw [z] at q ⊢; rw [upd_same] at q; rw [hacc]; exact q
      · rw [upd_ne z] at q; exact g2.s a o q
    · have na : a ≠ D := fun z => n (by rw [z]; exact fD)
      rw [upd_ne na]
      exact g2.f a n
theorem d_lc {elt tg iter : Expr} {ifs : List Expr} {scope : Scope} {own : List (Str × Nat)} {n : Nat} {y v : Nat → PyData} {js : List Nat} {ρw : Rho} {ρi : Nat → Rho} {f : Nat → Bool} (hc : X.calm = true) (hN : X.N.Nodup) (ok : BlkOk X.N X.env.scope scope own) (hi : EI X tg iter ρ n y)
    (hw : wipeD ρ (own.map (·.2)) = ρw) (hjs : ∀ j ∈ js, j ∈ own.map (·.2)) (hz : n ≤ 90000) (hg : ∀ i, i < n → InBlk X scope fun Y => GT Y tg js (y i) ρw (ρi i)) (ht : ∀ i, i < n → InBlk X scope fun Y => ETs Y ifs (ρi i) (f i))
    (he : ∀ i, i < n → f i = true → InBlk X scope fun Y => ED Y elt (ρi i) (v i)) (hs : ∀ x, foldedSetIterable iter X.env x = pure x := by intro _; rfl) : ED X (.ListComp elt [⟨tg, iter, ifs, 0⟩] scope pos) ρ (.list (itemsD n f v)) := fun σ B H ex s Q k =>
  (pe_lc hc hN pi_RI ok (fun s H C cl fp => ⟨fun pins s1 σ H v u Q I r h => h _ _ _ _ _ pins s1 u I r⟩) (fun s H C cl fp => ⟨fun pins s1 σ H Q I h => h _ _ _ _ _ pins s1 I⟩) (fun s H C cl fp => ⟨fun pins s1 σ H Q I h => h _ _ _ _ _ pins s1 I⟩) hs).re
    (lc_read hc hN ok hi hw hjs hz hg ht he ex s k)
end
end Wx

set_option Elab.async false
set_option linter.all false
set_option maxRecDepth 100000
set_option maxHeartbeats 4000000
/-! Statements over data; a def's promise over data. -/
namespace Wx
open PySem PySem.Spec PyProof.Rows L2 Evl
section
variable {X : Cx} {C : Addr} {E : XK} {ρ ρ2 : Rho} {a b c e : Expr} {st : Stmt} {rest s1 s2 : List Stmt} {d : PyData} {pos : Pos} {p : Bool} {o : Po}
theorem s_nil (h : o.N ρ) : SX X C E [] ρ o := fun σ B H D ex s n r g => pss_nil.rss (n σ B H ρ (Gr.refl ex) s h)
theorem s_cons {M : Rho → Prop} (h1 : S1 X C E st ρ { N := M, R := o.R, G := o.G }) (h2 : ∀ ρ', M ρ' → SX X C E rest ρ' o) : SX X C E (st :: rest) ρ o := fun σ B H D ex s n r g =>
  (pss_cons ps_RS pss_RSs).rss (h1 σ B H _ ex s (fun σ' B' H' ρ' g1 s' m => h2 ρ' m σ' B' H' D g1.s s' (fun σ2 B2 H2 ρ2 g2 => n σ2 B2 H2 ρ2 (g1.trans g2)) (fun v B2 H2 d g2 => r v B2 H2 d (g1.trans g2)) fun v B2 H2 d x g2 => g v B2 H2 d x (g1.trans g2)) r g)
theorem q_asg {tg : Expr} {js : List Nat} (he : ED X e ρ d) (hg : GT X tg js d ρ ρ2) (k : SX X C E rest ρ2 o) (hs : swapsWithSole [tg] e pos.line X.env = pure false := by rfl) (hw : swappedStores [tg] e X.env = pure none := by rfl) (h1 : (assignEach [tg] X.env).map (·.2) = [assign tg X.env] := by rfl) :
    SX X C E (.Assign [tg] e pos :: rest) ρ o := s_cons (M := fun ρ' => ρ' = ρ2) (fun σ B H D ex s n r g => (ps_asg pe_RE pg_RG hs hw h1).rs (he σ B H ex s _ fun v B1 H1 g1 e1 => hg v σ B1 H1 _ g1.s (s.mono g1.b) e1 fun σ' s' _ => n σ' B1 H1 ρ2 g1 s' rfl)) fun ρ' z => z ▸ k
/-- x = e, x in slot i -/
theorem q_set (i : Nat) {x : Str} {pos' : Pos} (he : ED X e ρ d) (k : SX X C E rest (ρ.set i (some d)) o) (hN : X.N.Nodup) (hi : X.N[i]? = some x := by rfl) (hx : Loc X.env.scope x := by first | exact Or.inl rfl | exact Or.inr rfl)
    (hs : swapsWith e (some (.Name x pos')) pos.line X.env = pure false := by rfl) (hf : X.fn x = true ∨ X.env.scope.names.lookup x = some .local := by first | exact .inl rfl | exact .inr rfl) :
    SX X C E (.Assign [.Name x pos'] e pos :: rest) ρ o := s_cons (M := fun ρ' => ρ' = ρ.set i (some d)) (fun σ B H D ex s n r g => (ps_set hN hi hx pe_RE hs hf).rs (he σ B H ex s _ fun v B1 H1 g1 e1 => n _ B1 H1 _ g1 ((s.mono g1.b).set e1) rfl)) fun ρ' z => z ▸ k
theorem q_ret (he : ED X e ρ d) (hR : o.R d) : SX X C E (.Return (some e) pos :: rest) ρ o := s_cons (M := fun _ => False) (fun σ B H D ex s n r g => (ps_ret pe_RE).rs (he σ B H ex s _ fun v B1 H1 g1 e1 => r v B1 H1 d g1 e1 hR)) fun ρ' z => z.elim
theorem q_expr (he : ED X e ρ d) (k : SX X C E rest ρ o) (hs : swapsWith e none pos.line X.env = pure false := by rfl) : SX X C E (.Expr e pos :: rest) ρ o := s_cons (M := fun ρ' => ρ' = ρ) (fun σ B H D ex s n r g => (ps_expr pe_RE hs).rs (he σ B H ex s _ fun v B1 H1 g1 e1 => n σ B1 H1 ρ g1 (s.mono g1.b) rfl)) fun ρ' z => z ▸ k
theorem q_if {M : Rho → Prop} (hc : ET X c ρ p) (h1 : p = true → SX X C E s1 ρ { N := M, R := o.R, G := o.G }) (h2 : p = false → SX X C E s2 ρ { N := M, R := o.R, G := o.G }) (k : ∀ ρ', M ρ' → SX X C E rest ρ' o) : SX X C E (.If c s1 s2 pos :: rest) ρ o :=
  s_cons (fun σ B H D ex s n r g => (ps_if pt_RT pss_RSs pss_RSs).rs (hc σ B H ex s _ fun B1 H1 g1 => by
    cases p with
    | true => exact iteT (h1 rfl σ B1 H1 D g1.s (s.mono g1.b) (fun σ2 B2 H2 ρ2 g2 => n σ2 B2 H2 ρ2 (g1.trans g2)) (fun v B2 H2 d g2 => r v B2 H2 d (g1.trans g2)) fun v B2 H2 d x g2 => g v B2 H2 d x (g1.trans g2))
    | false => exact iteF (h2 rfl σ B1 H1 D g1.s (s.mono g1.b) (fun σ2 B2 H2 ρ2 g2 => n σ2 B2 H2 ρ2 (g1.trans g2)) (fun v B2 H2 d g2 => r v B2 H2 d (g1.trans g2)) fun v B2 H2 d x g2 => g v B2 H2 d x (g1.trans g2)))) k
/-- if c: .. that does not go on -/
theorem q_when (hc : ET X c ρ p) (h1 : p = true → SX X C E s1 ρ { N := fun _ => False, R := o.R, G := o.G }) (k : p = false → SX X C E rest ρ o) : SX X C E (.If c s1 [] pos :: rest) ρ o := by
  cases p with
  | true => exact q_if (M := fun _ => False) hc (fun _ σ B H D ex s n r g => h1 rfl σ B H D ex s n r g) (fun z => nomatch z) fun _ z => z.elim
  | false => exact q_if (M := fun ρ' => ρ' = ρ) hc (fun z => nomatch z) (fun _ => s_nil rfl) fun ρ' z => z ▸ k rfl
theorem q_for {tg iter : Expr} {body : List Stmt} {n : Nat} {y : Nat → PyData} {js : List Nat} (I : Nat → Rho → Prop) (T : Nat → Rho → Rho) (hi : EI X tg iter ρ n y) (h0 : I 0 ρ) (hg : ∀ i ρ', i < n → I i ρ' → GT X tg js (y i) ρ' (T i ρ'))
    (hb : ∀ i ρ', i < n → I i ρ' → SX X C E body (T i ρ') { N := I (i + 1), R := o.R, G := o.G }) (k : ∀ ρ', I n ρ' → SX X C E rest ρ' o) (hc : X.calm = true) (hp : PassesOwn (model X.prog X.w) X.A X.env X.xe) (hs : ∀ x, foldedSetIterable iter X.env x = pure x := by intro _; rfl) :
    SX X C E (.For tg iter body [] pos :: rest) ρ o := s_cons (M := I n) (fun σ B H D ex s n' r g => (ps_for hp hc pi_RI pg_RG pss_RSs hs).rs (hi σ B H ex s _ fun J B1 H1 G g1 hG wk => by
  refine for_it wk (D := D) (g := RG X tg) (tb := RSs X body) (σ := σ) (H := H1) (fun i σ2 H2 => ∃ B2 ρ', Gr B1 H1 B2 H2 ∧ StD B2 σ2 ρ' ∧ I i ρ') ⟨B1, ρ, Gr.refl g1.s, s.mono g1.b, h0⟩ (fun i σ2 H2 _ p => ?_) (fun i x σ2 H2 H3 hlt p yd => ?_) fun σ2 H2 p => ?_
  · obtain ⟨B2, ρ', g2, _⟩ := p
    exact hG H2 (g2.b.trans g2.s)
  · obtain ⟨B2, ρ', g2, s2, i2⟩ := p
    obtain ⟨B3, g3, hx⟩ := yd B2 g2.b g2.s
    refine hg i ρ' hlt i2 x σ2 B3 H3 _ g3.s (s2.mono g3.b) hx fun σ4 s4 _ => hb i ρ' hlt i2 σ4 B3 H3 _ g3.s s4 (fun σ5 B5 H5 ρ5 g5 s5 i5 => ⟨B5, ρ5, (g2.trans g3).trans g5, s5, i5⟩) (fun v B5 H5 d g5 => r v B5 H5 d (((g1.trans g2).trans g3).trans g5)) fun v B5 H5 d z g5 => g v B5 H5 d z (((g1.trans g2).trans g3).trans g5)
  · obtain ⟨B2, ρ', g2, s2, i2⟩ := p
    exact n' σ2 B2 H2 ρ' (g1.trans g2) s2 i2)) k
/-- x = [..] on one line, x a local -/
theorem q_lc (i0 : Nat) {x : Str} {py : Pos} {elt tg iter : Expr} {ifs : List Expr} {scope : Scope} {own : List (Str × Nat)} {n : Nat} {y v : Nat → PyData} {js : List Nat} {ρw : Rho} {ρi : Nat → Rho} {f : Nat → Bool} {pos2 : Pos} (hc : X.calm = true) (hN : X.N.Nodup) (ok : BlkOk X.N X.env.scope scope own) (hi : EI X tg iter ρ n y)
    (hw : wipeD ρ (own.map (·.2)) = ρw) (hjs : ∀ j ∈ js, j ∈ own.map (·.2)) (hz : n ≤ 90000) (hg : ∀ i, i < n → InBlk X scope fun Y => GT Y tg js (y i) ρw (ρi i)) (ht : ∀ i, i < n → InBlk X scope fun Y => ETs Y ifs (ρi i) (f i))
    (he : ∀ i, i < n → f i = true → InBlk X scope fun Y => ED Y elt (ρi i) (v i)) (hyl : X.env.scope.names.lookup x = some .local) (hsw : swapsWith (.ListComp elt [⟨tg, iter, ifs, 0⟩] scope pos2) (some (.Name x py)) pos.line X.env = pure true)
    (k : SX X C E rest (ρ.set i0 (some (.list (itemsD n f v)))) o) (hy : X.N[i0]? = some x := by rfl) (hs : ∀ x, foldedSetIterable iter X.env x = pure x := by intro _; rfl) :
    SX X C E (.Assign [.Name x py] (.ListComp elt [⟨tg, iter, ifs, 0⟩] scope pos2) pos :: rest) ρ o := s_cons (M := fun ρ' => ρ' = ρ.set i0 (some (.list (itemsD n f v)))) (fun σ B H D ex s n' r g =>
  (ps_setLc (wi := RI X tg iter) (g := bG X scope tg) (tt := bT X scope ifs) (te := bE X scope elt) hc hN hy hyl hsw pi_RI ok (fun s H C cl fp => ⟨fun pins s1 σ H v u Q I r h => h _ _ _ _ _ pins s1 u I r⟩) (fun s H C cl fp => ⟨fun pins s1 σ H Q I h => h _ _ _ _ _ pins s1 I⟩) (fun s H C cl fp => ⟨fun pins s1 σ H Q I h => h _ _ _ _ _ pins s1 I⟩) hs).rs
    (show tAsg (tLc _ _ _ _ _) (gName i0) D σ H from lc_read hc hN ok hi hw hjs hz hg ht he ex s fun v B1 H1 g1 e1 => n' _ B1 H1 _ g1 ((s.mono g1.b).set e1) rfl)) fun ρ' z => z ▸ k
/-- raise, by what the making of the exception asks -/
theorem q_raise {t : L2.St → Hp → XK → Prop} {W : WX} (hc : X.calm = true) (tk : Takes X W) (he : PMk X e t) (hW : ∀ cls d σ H, E cls d H → W cls d σ H)
    (ht : ∀ σ B H, Ex B H → StD B σ ρ → ∀ Q : XK, (∀ v B' H' x, Gr B H B' H' → Da B' v d → H' x = none → Q (.ref C) (some x) (upd H' x (.xd [("given", v)]))) → t σ H Q) (hG : o.G d) : SX X C E (.Raise (some e) none pos :: rest) ρ o :=
  s_cons (M := fun _ => False) (fun σ B H D ex s n r g => (ps_raise hc tk he).rs (ht σ B H ex s _ fun v B1 H1 x g1 e1 hx => hW _ _ _ _ (g v B1 H1 d x g1 e1 hG hx))) fun ρ' z => z.elim
end
/-- the environment at a def's entry -/
def ρ0 (N : List Str) (ds : List PyData) : Rho := ds.map some ++ List.replicate (N.length - ds.length) none
theorem StD.start {B : Hp} {N : List Str} : ∀ {vs : List V} {ds : List PyData}, DaAll B vs ds → StD B (L2.start N vs) (ρ0 N ds) := fun {vs ds} h => by
  unfold L2.start ρ0
  refine ⟨by rw [List.length_append, List.length_append, List.length_map, List.length_map, List.length_replicate, List.length_replicate, h.len], fun i d q => ?_⟩
  by_cases hl : i < ds.length
  · rw [List.getElem?_append_left (by rw [List.length_map]; exact hl), List.getElem?_map] at q
    rw [List.getElem?_append_left (by rw [List.length_map, h.len]; exact hl), List.getElem?_map]
    cases hd : ds[i]? with
    | none => rw [hd] at q; cases q
    | some d' =>
      rw [hd] at q
      cases q
      obtain ⟨v, e1, e2⟩ := h.at hd
      exact ⟨v, by rw [e1]; rfl, e2⟩
  · rw [List.getElem?_append_right (by rw [List.length_map]; omega), List.getElem?_replicate] at q
    split at q <;> cases q
section
variable {P : Program} {w : World} {K : PySem.W.Frag} {mg : Str → Option Value} {base : Heap}
/-- a def that gives d of ds, no exception -/
theorem fn_D {x qual : Str} {st : Stmt} {f : Addr} {fd : FuncData} {N ps : List Str} {k : Nat} {R : List PyData → PyData → Prop} (F : Fun K x qual st f fd) (S : FnScope N ps (defScope st)) (len : ∀ ds d, R ds d → ds.length = ps.length)
    (hb : ∀ (cdv : Value) (A : Around) (outer : List Env) (s : Shared) (H : Hp) (E : XK) (ds : List PyData) (d : PyData), Room k (A.deeper (envOfC qual (defScope st) s.heap.objs.size f cdv)) → R ds d →
      SX (cxOf CX0 P w K mg base N qual (defScope st) f cdv A outer s H E).nox 0 E0 (defBody st) (ρ0 N ds) { N := fun _ => d = .none, R := fun d' => d' = d }) : FnOk P w K mg base CX0 (k + 1) f fd ps (spD R) :=
  Fun.ok F S (fun vs H Q E h => by obtain ⟨B, ds, d, _, h1, h2, _⟩ := h; rw [h1.len]; exact len _ _ h2) fun cdv A outer s H vs Q E hr h => by
    obtain ⟨B, ds, d, ex, h1, h2, h3⟩ := h
    refine ⟨_, pss_RSs, hb cdv A outer s H E ds d hr h2 (L2.start N vs) B H _ ex (StD.start h1) (fun σ' B' H' ρ' g _ z => ?_) (fun v B' H' d' g e z => ?_) fun v B' H' d' x' g e z => z.elim⟩
    · subst z; exact h3 _ _ _ g .non
    · subst z; exact h3 _ _ _ g e
/-- the promise of a def that gives d of ds, or raises InvalidRow (at C) with d -/
def spX (C : Addr) (R : List PyData → PyData → Prop) (G : List PyData → PyData → Prop) : Sp := fun vs H Q E => ∃ B ds, Ex B H ∧ DaAll B vs ds ∧ ((∃ d, R ds d ∧ ∀ v B' H', Gr B H B' H' → Da B' v d → Q v H') ∨
  ∃ d, G ds d ∧ ∀ v B' H' x, Gr B H B' H' → Da B' v d → H' x = none → E (.ref C) (some x) (upd H' x (.xd [("given", v)])))
theorem fn_X {x qual : Str} {st : Stmt} {f : Addr} {fd : FuncData} {N ps : List Str} {k : Nat} {C : Addr} {R G : List PyData → PyData → Prop} (F : Fun K x qual st f fd) (S : FnScope N ps (defScope st)) (len : ∀ ds d, R ds d → ds.length = ps.length) (len2 : ∀ ds d, G ds d → ds.length = ps.length)
    (hb : ∀ (cdv : Value) (A : Around) (outer : List Env) (s : Shared) (H : Hp) (E : XK) (ds : List PyData) (d : PyData), Room k (A.deeper (envOfC qual (defScope st) s.heap.objs.size f cdv)) → R ds d →
      SX (cxOf (L2.CX P w) P w K mg base N qual (defScope st) f cdv A outer s H E) C E (defBody st) (ρ0 N ds) { N := fun _ => d = .none, R := fun d' => d' = d })
    (hx : ∀ (cdv : Value) (A : Around) (outer : List Env) (s : Shared) (H : Hp) (E : XK) (ds : List PyData) (d : PyData), Room k (A.deeper (envOfC qual (defScope st) s.heap.objs.size f cdv)) → G ds d →
      SX (cxOf (L2.CX P w) P w K mg base N qual (defScope st) f cdv A outer s H E) C E (defBody st) (ρ0 N ds) { G := fun d' => d' = d }) : FnOk P w K mg base (L2.CX P w) (k + 1) f fd ps (spX C R G) :=
  Fun.okX F S (fun vs H Q E h => by
    obtain ⟨B, ds, _, h1, ⟨d, h2, _⟩ | ⟨d, h2, _⟩⟩ := h
    · rw [h1.len]; exact len _ _ h2
    · rw [h1.len]; exact len2 _ _ h2) fun cdv A outer s H vs Q E hr h => by
    obtain ⟨B, ds, ex, h1, ⟨d, h2, h3⟩ | ⟨d, h2, h3⟩⟩ := h
    · refine ⟨_, pss_RSs, hb cdv A outer s H E ds d hr h2 (L2.start N vs) B H _ ex (StD.start h1) (fun σ' B' H' ρ' g _ z => ?_) (fun v B' H' d' g e z => ?_) fun v B' H' d' x' g e z => z.elim⟩
      · subst z; exact h3 _ _ _ g .non
      · subst z; exact h3 _ _ _ g e
    · refine ⟨_, pss_RSs, hx cdv A outer s H E ds d hr h2 (L2.start N vs) B H _ ex (StD.start h1) (fun σ' B' H' ρ' g _ z => z.elim) (fun v B' H' d' g e z => z.elim) fun v B' H' d' x' g e z hx => ?_⟩
      subst z; exact h3 _ _ _ _ g e hx
end
end Wx

set_option Elab.async false
set_option linter.all false
set_option maxRecDepth 100000
set_option maxHeartbeats 4000000
/-! isinstance, sum and sorted of a tuple, repr over data. -/
namespace Wx
open PySem PySem.Spec PyProof.Rows L2 Evl
def tyD : PyData → String
  | .none => "NoneType"
  | .bool _ => "bool"
  | .int _ => "int"
  | .str _ => "str"
  | .list _ => "list"
  | .tuple _ => "tuple"
  | .dict _ => "dict"
theorem nd_ints (ns : List Int) : PyData.hasDictAll (ns.map PyData.int) = false := by
  induction ns with
  | nil => simp [PyData.hasDictAll]
  | cons n ns ih => simp [PyData.hasDictAll, PyData.hasDict, ih]
theorem nd_iT (ns : List Int) : (PyData.tuple (ns.map PyData.int)).hasDict = false := by
  simp only [PyData.hasDict]
  exact nd_ints ns
theorem nd_all {ds : List PyData} (h : ∀ d ∈ ds, d.hasDict = false) : (PyData.tuple ds).hasDict = false := by
  simp only [PyData.hasDict]
  induction ds with
  | nil => simp [PyData.hasDictAll]
  | cons d ds ih => simp [PyData.hasDictAll, h d List.mem_cons_self, ih fun x hx => h x (List.mem_cons_of_mem _ hx)]
theorem Da.ty {K : PySem.W.Frag} {H : Hp} {v : V} {d : PyData} (h : Da H v d) (n : d.hasDict = false) : TyX K H v (.type (tyD d)) := by
  cases h with
  | non => exact .base .non
  | bl b => exact .base (.bl b)
  | int i => exact .base (.int i)
  | str x => exact .base (.str x)
  | lst h _ => exact .base (.lst h)
  | tup h _ => exact .base (.tup h)
  | dkI h => simp [PyData.hasDict] at n
  | dkT h => simp [PyData.hasDict] at n
  | rf a => simp [PyData.hasDict] at n
  | exc h => simp [PyData.hasDict] at n
  | obj h _ => simp [PyData.hasDict] at n
section
variable {X : Cx} {ρ : Rho} {e : Expr} {d : PyData} {ds : List PyData} {pos p q : Pos}
theorem d_isi {T : Str} {tn : String} {b : Bool} (hk : kitB (tyD d) tn = some b) (hnd : d.hasDict = false) (he : ED X e ρ d) (hm : X.mg "isinstance" = none) (hT : X.mg T = none) (hv : bootBuiltins T = some (.type tn) := by decide +kernel) (hg : Gl X "isinstance" := by rfl) (hgT : Gl X T := by rfl) (hn : T ≠ "__name__" := by decide) (hdb : (T == ("__debug__" : Str)) = false := by decide)
    (he1 : starEach [e, .Name T q] X.env = (false, eval e X.env) :: starEach [.Name T q] X.env := by rfl) (he2 : starEach [.Name T q] X.env = (false, eval (.Name T q) X.env) :: starEach [] X.env := by rfl) (hpl : (backTo pos (starEach [.Name T q] X.env)).any (·.1) = false := by rfl) :
    ED X (.Call (.Name "isinstance" p) [e, .Name T q] [] pos) ρ (.bool b) := fun σ B H ex s Q k =>
  (pe_callB call_isi hg hm (by decide +kernel) (pa_cons pe_RE (pa_cons (pe_bltn hgT hT hv (v := .ty tn) rfl hn hdb) pa_nil he2) he1) (by decide) (by decide) he1 hpl).re (he σ B H ex s _ fun v B1 H1 g1 e1 => ⟨v, .ty tn, _, _, b, rfl, .ty tn, (e1.mono g1.s).ty hnd, kit_ty hk, k _ B1 H1 g1 (.bl b)⟩)
theorem d_isI {i : Int} (he : ED X e ρ (.int i)) (hm : X.mg "isinstance" = none) (hT : X.mg "int" = none) (hg : Gl X "isinstance" := by rfl) (hgT : Gl X "int" := by rfl)
    (he1 : starEach [e, .Name "int" q] X.env = (false, eval e X.env) :: starEach [.Name "int" q] X.env := by rfl) : ED X (.Call (.Name "isinstance" p) [e, .Name "int" q] [] pos) ρ (.bool true) := d_isi (d := .int i) (tn := "int") (show kitB "int" "int" = some true by decide +kernel) (by simp [PyData.hasDict]) he hm hT (by decide +kernel) hg hgT (by decide) (by decide) he1
theorem d_isB {i : Int} (he : ED X e ρ (.int i)) (hm : X.mg "isinstance" = none) (hT : X.mg "bool" = none) (hg : Gl X "isinstance" := by rfl) (hgT : Gl X "bool" := by rfl)
    (he1 : starEach [e, .Name "bool" q] X.env = (false, eval e X.env) :: starEach [.Name "bool" q] X.env := by rfl) : ED X (.Call (.Name "isinstance" p) [e, .Name "bool" q] [] pos) ρ (.bool false) := d_isi (d := .int i) (tn := "bool") (show kitB "int" "bool" = some false by decide +kernel) (by simp [PyData.hasDict]) he hm hT (by decide +kernel) hg hgT (by decide) (by decide) he1
theorem d_isT (he : ED X e ρ (.tuple ds)) (hnd : (PyData.tuple ds).hasDict = false) (hm : X.mg "isinstance" = none) (hT : X.mg "tuple" = none) (hg : Gl X "isinstance" := by rfl) (hgT : Gl X "tuple" := by rfl)
    (he1 : starEach [e, .Name "tuple" q] X.env = (false, eval e X.env) :: starEach [.Name "tuple" q] X.env := by rfl) : ED X (.Call (.Name "isinstance" p) [e, .Name "tuple" q] [] pos) ρ (.bool true) := d_isi (d := .tuple ds) (tn := "tuple") (show kitB "tuple" "tuple" = some true by decide +kernel) hnd he hm hT (by decide +kernel) hg hgT (by decide) (by decide) he1
end
section
variable {prog : Program} {w : World} {A : Around} {E Q : Value → Shared → Prop} {s : Shared} {t : Addr} {its : List Value} {ns : List Int}
theorem sum_tup (hh : A.handled = none) (hl : s.heap.IsTuple t its.toArray) (hi : IntsAre its ns)
    (k : ∀ h2 tk t2, (∀ b o, s.heap.get? b = some o → h2.get? b = some o) → Q (.int ns.sum t2) { s with heap := h2, toks := tk }) : wpAny (model prog w) A (call (.builtin "sum") [.ref t]) Q E s := by
  obtain ⟨xs, ex⟩ := hi.allInts.items
  have e1 : numsOf (intItems xs).toList = ns := by
    rw [← ex]
    exact hi.numsOf
  rw [nums_intItems] at e1
  rw [ex] at hl
  refine PySem.W.ktm_sumG hh hl fun h2 tk t2 kp => ?_
  have z := k h2 tk t2 kp
  rw [preSum_eq, List.take_of_length_le (by simp), e1]
  exact z
end
section
variable {X : Cx} {d : PyData}
theorem c_sumT {ns : List Int} (hc : X.calm = true) : CalR X (.builtin "sum") [.tuple (ns.map PyData.int)] (.int ns.sum) := ⟨fun vs H Q => ∃ (a : Addr), vs = [V.ref a] ∧ SqT X.K H a (ns.map V.int) ∧ Q (.int ns.sum) H, (by
    intro pins s σ H vs us Q I r h
    obtain ⟨a, rfl, hs, q⟩ := h
    obtain ⟨its, rv, hl, _⟩ := I.tuple hs
    rw [Vals.ref1 r]
    exact sum_tup (I.ok.hd hc) hl rv.ints fun h2 tk t2 kp => ⟨.int _, H, I.kept kp, ⟨_, rfl⟩, q⟩), fun vs B H ex e1 Q k => by
  cases e1 with
  | cons h t =>
    cases t
    obtain ⟨x, xs, rfl, hx, hd⟩ := h.tup_of
    obtain rfl := hd.ints
    exact ⟨x, rfl, st_of (ex _ _ hx), k _ B H (Gr.refl ex) (.int _)⟩⟩
/-- repr of a list -/
theorem c_repr {ds : List PyData} (hg : X.A.guards = some []) (hu : X.A.units + 64 < cLine) (hs : (PyData.list ds).showable = true) (hd : (PyData.list ds).hasDict = false) (hz : (PyData.list ds).shown.length ≤ sizeLine) (hp : (PyData.list ds).depth ≤ 60) :
    CalR X (.builtin "repr") [.list ds] (.str (PyData.list ds).shown) := ⟨fun vs H Q => ∃ v, vs = [v] ∧ Dp X.K H v (.list ds) ∧ Q (.str (PyData.list ds).shown) H, (by
    intro pins s σ H vs us Q I r h
    obtain ⟨v, rfl, hv, q⟩ := h
    cases r with
    | cons r1 r2 =>
      cases r2
      rename_i u
      obtain ⟨as, rd⟩ := Dp.reads I (.list ds) v u hv r1
      cases hv with
      | lst h1 h2 =>
        cases r1
        exact PySem.repr_of_reads' rd hs (fun z => by rw [hd] at z; cases z) hg (by omega) (fun _ _ z => z) (fun h2 t2 tk kp => ⟨.str _, H, I.kept kp, ⟨_, rfl⟩, q⟩) hz), fun vs B H ex e1 Q k => by
  cases e1 with
  | cons h t =>
    cases t
    exact ⟨_, rfl, (h.mono ex).dp hd, k _ B H (Gr.refl ex) (.str _)⟩⟩
theorem c_reprI {i : Int} (hi : i.natAbs.log2 < 1920) : CalR X (.builtin "repr") [.int i] (.str (toString i)) := ⟨_, SkE.call_repr_int, fun vs B H ex e1 Q k => by
  cases e1 with
  | cons h t =>
    cases t
    obtain rfl := h.int_of
    exact ⟨i, rfl, hi, k _ B H (Gr.refl ex) (.str _)⟩⟩
end
end Wx
namespace Wx
open PySem PySem.Spec PyProof.Rows L2 Evl
section
variable {X : Cx} {pins : List (Addr × Obj)} {σ : L2.St} {H : Hp} {s : Shared}
/-- within a builtin's call -/
abbrev inA (X : Cx) : Cx := { X with A := X.A.in1 }
theorem inv_in (I : Inv X pins σ H s) : Inv (inA X) pins σ H s :=
  ⟨⟨I.ok.mod, I.ok.kind, I.ok.glob, I.ok.blt, I.ok.above, I.ok.inj, I.ok.has, I.ok.cab, I.ok.hd, I.ok.frames, I.ok.stk, I.ok.exf, I.ok.bs, I.ok.bsz, I.ok.noex, I.ok.exfs, I.ok.funs, I.ok.frf⟩, I.os, I.bare, I.base, I.loc, I.cell, I.free, I.freeC, I.pin, I.hok, I.len⟩
theorem inv_out (I : Inv (inA X) pins σ H s) : Inv X pins σ H s :=
  ⟨⟨I.ok.mod, I.ok.kind, I.ok.glob, I.ok.blt, I.ok.above, I.ok.inj, I.ok.has, I.ok.cab, I.ok.hd, I.ok.frames, I.ok.stk, I.ok.exf, I.ok.bs, I.ok.bsz, I.ok.noex, I.ok.exfs, I.ok.funs, I.ok.frf⟩, I.os, I.bare, I.base, I.loc, I.cell, I.free, I.freeC, I.pin, I.hok, I.len⟩
/-- sorted of a tuple of ints -/
def rSrtT (K : PySem.W.Frag) : List V → Hp → VK → Prop := fun vs H Q => ∃ (a : Addr) (ns : List Int), vs = [V.ref a] ∧ SqT K H a (ns.map V.int) ∧
  ∀ (ms : List Int) (p : Addr), ms.Perm ns → ms.Pairwise (· ≤ ·) → H p = none → Q (.ref p) (upd H p (.lst (ms.map V.int)))
theorem cr_srtT : CallR X (.builtin "sorted") (rSrtT X.K) := by
  intro pins s σ H vs us Q I r h
  obtain ⟨a, ns, rfl, hs, q⟩ := h
  rw [Vals.ref1 r]
  obtain ⟨its, rv, hl, hz⟩ := I.tuple hs
  obtain ⟨o, ho, hc, n, hd⟩ := id hl
  refine Calls.call_function_entry kind_sorted plain_sorted entry_sorted (args_sorted1 _) ?_
  unfold Builtin.«sorted»
  refine wpAny_bind (m := checkCount "sorted" 1 1 _) (wpAny_pure ?_)
  refine wpAny_bind (wpAny_collect_seq a (.inr rfl) ho hc hd (fun h2 kp => ?_) (by rw [List.size_toArray, ← rv.length]; exact hz))
  have e1 : its.toArray.toList = its := by simp
  rw [e1]
  have I2 := I.kept (t' := s.toks) kp
  refine wpAny_bind (wpAny_newList ?_ (by rw [← rv.length]; exact hz))
  have I3 := inv_in (I2.lnew (t' := s.toks) rv hz)
  refine wpAny_bind (wpAny_holding (wpAny_mono ((L2.mt_sortI (X := (inA X).nox)) pins _ σ _ (.ref h2.objs.size) [] _ [] (fun _ H2 => Q (.ref h2.objs.size) H2) (I3.wish _) rfl .nil ⟨h2.objs.size, ns, rfl, rfl, upd_same, fun ms hp ho => ?_⟩) (fun v s4 h4 => ?_) fun e s4 h4 => ?_))
  · rw [upd_upd]
    exact q ms h2.objs.size hp ho (I2.hok.fresh (Nat.le_refl _))
  · obtain ⟨v2, H2, I4, _, q4⟩ := h4
    exact wpAny_pure ⟨_, rfl, .ref h2.objs.size, H2, inv_out I4.unwish, rfl, q4⟩
  · exact h4.elim
end
end Wx
namespace Wx
open PySem PySem.Spec PyProof.Rows L2 Evl
/-- the data of sorted(..): the list of these ints in order -/
theorem sorted_one {a b : List Int} (hp : a.Perm b) (ha : a.Pairwise (· ≤ ·)) (hb : b.Pairwise (· ≤ ·)) : a = b := PySem.W.os_sorted_one hp ha hb
theorem c_srtT {X : Cx} {ns ms : List Int} (hp : ms.Perm ns) (ho : ms.Pairwise (· ≤ ·)) : CalR X (.builtin "sorted") [.tuple (ns.map PyData.int)] (.list (ms.map PyData.int)) := ⟨_, cr_srtT, fun vs B H ex e1 Q k => by
  cases e1 with
  | cons h t =>
    cases t
    obtain ⟨x, xs, rfl, hx, hd⟩ := h.tup_of
    obtain rfl := hd.ints
    exact ⟨x, ns, rfl, st_of (ex _ _ hx), fun ms2 p h1 h2 hp2 => by
      obtain rfl := sorted_one (h1.trans hp.symm) h2 ho
      exact k _ _ _ (Gr.new ex hp2) (.lst upd_same (daInts _))⟩⟩
end Wx

set_option Elab.async false
set_option linter.all false
set_option maxRecDepth 100000
set_option maxHeartbeats 4000000
/-! More rules over data: t[::-1], zip, max; blocks that own a list. -/
namespace Wx
open PySem PySem.Spec PyProof.Rows L2 Evl
section
variable {X : Cx} {ρ : Rho} {a b e : Expr} {d : PyData} {ds es : List PyData} {pos : Pos}
theorem d_rev {k : Nat} {p1 p2 p3 : Pos} (ha : ED X a ρ (.tuple ds)) : ED X (.Subscript a (.Slice none none (some (.UnaryOp .USub (.Constant (.int 1) k p1) p2)) p3) pos) ρ (.tuple ds.reverse) := fun σ B H ex s Q q =>
  (We.pe_back pe_RE).re (ha σ B H ex s _ fun v B1 H1 g1 e1 => by
    obtain ⟨t, xs, rfl, ht, hd⟩ := e1.tup_of
    exact ⟨t, xs, rfl, st_of (g1.s _ _ ht), fun x hx => q _ _ _ (g1.trans (Gr.new g1.s hx)) (.tup upd_same (hd.rev.mono (Gr.new (o := .tup xs.reverse) g1.s hx).b))⟩)
theorem d_neg {i : Int} (h : ED X a ρ (.int i)) : ED X (.UnaryOp .USub a pos) ρ (.int (-i)) := fun σ B H ex s Q k => (pe_un un_neg pe_RE).re (h σ B H ex s _ fun v B1 H1 g1 e1 => ⟨i, e1.int_of, k _ B1 H1 g1 (.int _)⟩)
theorem c_maxL {ns : List Int} {m : Int} (hc : X.calm = true) (h1 : m ∈ ns) (h2 : ∀ y, y ∈ ns → y ≤ m) : CalR X (.builtin "max") [.list (ns.map PyData.int)] (.int m) := ⟨_, cr_max hc, fun vs B H ex e1 Q k => by
  cases e1 with
  | cons h t =>
    cases t
    obtain ⟨x, xs, rfl, hx, hd⟩ := h.lst_of
    obtain rfl := hd.ints
    exact ⟨x, ns, rfl, sq_of (ex _ _ hx), List.length_pos_of_mem h1, fun m2 q1 q2 => by
      obtain rfl : m2 = m := Int.le_antisymm (h2 m2 q1) (q2 m h1)
      exact k _ B H (Gr.refl ex) (.int _)⟩⟩
theorem i_zip {elts : List Expr} {kk n : Nat} {tpos : Pos} {y z : Nat → PyData} (h : ED X a ρ (.tuple ds)) (h' : ED X b ρ (.tuple es)) (hy : ∀ i, i < n → ds[i]? = some (y i)) (hz : ∀ i, i < n → es[i]? = some (z i)) (hn : n = min ds.length es.length) (hm : X.mg "zip" = none) (hg : Gl X "zip" := by rfl)
    (hs : starEach [a, b] X.env = (false, eval a X.env) :: starEach [b] X.env := by rfl) (hs2 : starEach [b] X.env = (false, eval b X.env) :: starEach [] X.env := by rfl) (hpl : (backTo pos (starEach [b] X.env)).any (·.1) = false := by rfl) {pp : Pos} :
    EI X (.Tuple elts kk tpos) (.Call (.Name "zip" pp) [a, b] [] pos) ρ n (fun i => .tuple [y i, z i]) := fun σ B H ex s R k => (RZ.pi_zipA hg hm pa_RA hs hpl).ri ((a_cons h (a_cons h' a_nil hs2) hs) σ B H ex s _ fun vs B1 H1 g1 e1 => by
  cases e1 with
  | cons q1 e1 =>
    cases e1 with
    | cons q2 e1 =>
      cases e1
      obtain ⟨t, xs, rfl, ht, hd⟩ := q1.tup_of
      obtain ⟨u, ys, rfl, hu, he⟩ := q2.tup_of
      have w := (We.walk_zT (K := X.K) (a := t) (b := u) (xs := xs) (ys := ys) (n := n) (by rw [hn, hd.len, he.len])).mono (G' := fun H2 => H2 t = some (.tup xs) ∧ H2 u = some (.tup ys)) (Y' := fun i H2 v H3 => ∀ B2, Ex B1 B2 → Ex B2 H2 → ∃ B3, Gr B2 H2 B3 H3 ∧ Da B3 v (.tuple [y i, z i])) (fun _ g => ⟨st_of g.1, st_of g.2⟩) fun i H2 v H3 hi _ q B2 eb es2 => by
        obtain ⟨T, x, x2, rfl, hT, rfl, q3, q4⟩ := q
        obtain ⟨d1, a1, a2⟩ := hd.at' q3
        rw [hy i hi] at a1
        cases a1
        obtain ⟨d2, c1, c2⟩ := he.at' q4
        rw [hz i hi] at c1
        cases c1
        have gn := Gr.new (o := .tup [x, x2]) es2 hT
        exact ⟨_, gn, .tup upd_same (.cons (a2.mono (eb.trans gn.b)) (.cons (c2.mono (eb.trans gn.b)) .nil))⟩
      exact ⟨t, u, xs, ys, rfl, .inr ⟨st_of (g1.s _ _ ht), st_of (g1.s _ _ hu), k _ B1 H1 _ g1 (fun H2 e => ⟨e _ _ ht, e _ _ hu⟩) w⟩⟩)
end
/-! ### a block that owns a list: slot j holds it, its items are ds -/
structure Own (B0 H0 : Hp) (p : Addr) (j : Nat) (B H : Hp) (σ : L2.St) (ρ : Rho) (ds : List PyData) : Prop where
  g : Gr B0 H0 B H
  s : StD B σ ρ
  at_ : σ[j]? = some (some (.ref p))
  nb : B p = none
  l : ∃ vs, H p = some (.lst vs) ∧ DaAll B vs ds
section
variable {B0 H0 B H : Hp} {p : Addr} {j : Nat} {σ : L2.St} {ρ : Rho} {ds : List PyData}
/-- what was learnt with the list among the data, the list taken out again -/
def cutOut (B : Hp) (p : Addr) : Hp := fun a => if a = p then none else B a
theorem cut_at (B : Hp) (p : Addr) : cutOut B p p = none := if_pos rfl
theorem cut_ne {B : Hp} {p a : Addr} (h : a ≠ p) : cutOut B p a = B a := if_neg h
/-- pure things go on around it -/
theorem Own.grow (o : Own B0 H0 p j B H σ ρ ds) {B' H' : Hp} (g : Gr B H B' H') : Own B0 H0 p j B' H' σ ρ ds := by
  obtain ⟨vs, h1, h2⟩ := o.l
  exact ⟨o.g.trans g, o.s.mono g.b, o.at_, (g.f p (by rw [h1]; intro z; cases z)).trans o.nb, vs, g.h _ _ h1, h2.mono g.b⟩
/-- with the list among the data -/
theorem Own.read (o : Own B0 H0 p j B H σ ρ ds) (hn : H0 p = none) : ∃ B2, Gr B0 H0 B2 H ∧ StD B2 σ (ρ.set j (some (.list ds))) ∧ (∀ B' H', Gr B2 H B' H' → ∀ {σ' : L2.St} {ρ' : Rho}, (∀ (i : Nat) d, ρ'[i]? = some (some d) → ∃ v, σ'[i]? = some (some v) ∧ (Da B v d ∨ (imm d = true ∧ Da B' v d))) → σ'.length = ρ'.length → σ'[j]? = some (some (.ref p)) → Own B0 H0 p j (cutOut B' p) H' σ' ρ' ds ∧ Ex B (cutOut B' p)) := by
  obtain ⟨vs, h1, h2⟩ := o.l
  refine ⟨upd B p (.lst vs), ⟨o.g.b.trans (Ex.new o.nb), o.g.h, fun a u q => ?_, fun a n => ?_⟩, ?_, fun B' H' g σ' ρ' hv hl ha => ?_⟩
  · by_cases z : a = p
    · rw [z, upd_same] at q; rw [z, h1]; exact q
    · rw [upd_ne z] at q; exact o.g.s a u q
  · have z : a ≠ p := fun z => n (by rw [z]; exact hn)
    rw [upd_ne z]
    exact o.g.f a n
  · refine ⟨by rw [List.length_set]; exact o.s.len, fun i d q => ?_⟩
    by_cases z : j = i
    · subst z
      rw [List.getElem?_set, if_pos rfl] at q
      split at q
      · cases q; exact ⟨_, o.at_, .lst upd_same (h2.mono (Ex.new o.nb))⟩
      · cases q
    · rw [List.getElem?_set_ne z] at q
      obtain ⟨v, e1, e2⟩ := o.s.at_ i d q
      exact ⟨v, e1, e2.mono (Ex.new o.nb)⟩
  · have eb : Ex B (cutOut B' p) := fun a u q => by
      have na : a ≠ p := ne_of_none q o.nb
      rw [cut_ne na]
      exact g.b a u (by rw [upd_ne na]; exact q)
    have hp' : B' p = some (.lst vs) := g.b p _ upd_same
    have et : ExT B' (cutOut B' p) := fun a xs q => by
      have na : a ≠ p := fun z => by rw [z, hp'] at q; cases q
      rw [cut_ne na]; exact q
    refine ⟨⟨⟨o.g.b.trans eb, o.g.h.trans g.h, fun a u q => ?_, fun a n => ?_⟩, ⟨hl, fun i d q => ?_⟩, ha, cut_at _ _, vs, g.h _ _ h1, h2.mono eb⟩, eb⟩
    · by_cases z : a = p
      · rw [z, cut_at] at q; cases q
      · rw [cut_ne z] at q; exact g.s a u q
    · have na : a ≠ p := fun z => n (by rw [z]; exact hn)
      rw [cut_ne na, g.f a (fun z => by
        cases q : H0 a with
        | none => exact n q
        | some u => rw [o.g.h a u q] at z; cases z), upd_ne na]
      exact o.g.f a n
    · obtain ⟨v, e1, e2⟩ := hv i d q
      exact ⟨v, e1, e2.elim (fun h => h.mono eb) fun h => h.2.immT et h.1⟩
end
/-- P: what is known at the start; N: where it goes on; R: what it returns -/
def SM (X : Cx) (B0 H0 : Hp) (p : Addr) (j : Nat) (sts : List Stmt) (ρ : Rho) (ds : List PyData) (N : Rho → List PyData → Prop) (R : PyData → Prop) : Prop := H0 p = none → ∀ σ B H (D : Ends), Own B0 H0 p j B H σ ρ ds →
  (∀ σ' B' H' ρ' ds', Ex B B' → Own B0 H0 p j B' H' σ' ρ' ds' → N ρ' ds' → D.nx σ' H') → (∀ v B' H' d, Gr B0 H0 B' H' → Da B' v d → R d → D.rt v H') → RSs X sts D σ H
section
variable {X : Cx} {B0 H0 : Hp} {p : Addr} {j : Nat} {ρ ρ2 : Rho} {ds : List PyData} {N : Rho → List PyData → Prop} {R : PyData → Prop} {a b c e : Expr} {st : Stmt} {rest s1 s2 : List Stmt} {d : PyData} {pos : Pos} {k : Bool}
theorem m_nil (h : N ρ ds) : SM X B0 H0 p j [] ρ ds N R := fun hn σ B H D o n r => pss_nil.rss (n σ B H ρ ds (Ex.refl B) o h)
/-- the rest reads the list alone and returns -/
theorem m_end (h : SX X 0 E0 rest (ρ.set j (some (.list ds))) { R := R }) : SM X B0 H0 p j rest ρ ds N R := fun hn σ B H D o n r => by
  obtain ⟨B2, g, s, _⟩ := o.read hn
  exact h σ B2 H D g.s s (fun _ _ _ _ _ _ z => z.elim) (fun v B' H' d g2 => r v B' H' d (g.trans g2)) fun _ _ _ _ _ _ _ z => z.elim
theorem m_cons {M : Rho → List PyData → Prop} (h1 : H0 p = none → ∀ σ B H (D : Ends), Own B0 H0 p j B H σ ρ ds → (∀ σ' B' H' ρ' ds', Ex B B' → Own B0 H0 p j B' H' σ' ρ' ds' → M ρ' ds' → D.nx σ' H') → (∀ v B' H' d, Gr B0 H0 B' H' → Da B' v d → R d → D.rt v H') → RS X st D σ H)
    (h2 : ∀ ρ' ds', M ρ' ds' → SM X B0 H0 p j rest ρ' ds' N R) : SM X B0 H0 p j (st :: rest) ρ ds N R := fun hn σ B H D o n r =>
  (pss_cons ps_RS pss_RSs).rss (h1 hn σ B H _ o (fun σ' B' H' ρ' ds' eb o' m => h2 ρ' ds' m hn σ' B' H' D o' (fun σ2 B2 H2 ρ2 ds2 e2 => n σ2 B2 H2 ρ2 ds2 (eb.trans e2)) r) r)
/-- tg = e, neither looks at the list -/
theorem m_asg {tg : Expr} {js : List Nat} (he : ED X e ρ d) (hg : GT X tg js d ρ ρ2) (hj : j ∉ js) (q : SM X B0 H0 p j rest ρ2 ds N R) (hs : swapsWithSole [tg] e pos.line X.env = pure false := by rfl) (hw : swappedStores [tg] e X.env = pure none := by rfl) (h1 : (assignEach [tg] X.env).map (·.2) = [assign tg X.env] := by rfl) :
    SM X B0 H0 p j (.Assign [tg] e pos :: rest) ρ ds N R := m_cons (M := fun ρ' ds' => ρ' = ρ2 ∧ ds' = ds) (fun hn σ B H D o n r => (ps_asg pe_RE pg_RG hs hw h1).rs (he σ B H o.g.s o.s _ fun v B1 H1 g1 e1 => hg v σ B1 H1 _ g1.s (o.s.mono g1.b) e1 fun σ' s' w' => by
    have o1 := o.grow g1
    refine n σ' B1 H1 ρ2 ds g1.b ⟨o1.g, s', ?_, o1.nb, o1.l⟩ ⟨rfl, rfl⟩
    have z := congrArg (fun l => l[j]?) (w' js fun _ h => h)
    simp only [wipe_at, if_neg hj] at z
    rw [z]; exact o.at_)) fun ρ' ds' z => z.1 ▸ z.2 ▸ q
/-- x = e, e reads the list, its value is no list -/
theorem m_set (i : Nat) {x : Str} {pos' : Pos} (hi : imm d = true) (hij : i ≠ j) (he : ED X e (ρ.set j (some (.list ds))) d) (q : SM X B0 H0 p j rest (ρ.set i (some d)) ds N R) (hN : X.N.Nodup) (hix : X.N[i]? = some x := by rfl) (hx : Loc X.env.scope x := by first | exact Or.inl rfl | exact Or.inr rfl)
    (hs : swapsWith e (some (.Name x pos')) pos.line X.env = pure false := by rfl) (hf : X.fn x = true ∨ X.env.scope.names.lookup x = some .local := by first | exact .inl rfl | exact .inr rfl) :
    SM X B0 H0 p j (.Assign [.Name x pos'] e pos :: rest) ρ ds N R := m_cons (M := fun ρ' ds' => ρ' = ρ.set i (some d) ∧ ds' = ds) (fun hn σ B H D o n r => (ps_set hN hix hx pe_RE hs hf).rs (by
    obtain ⟨B2, g, s, back⟩ := o.read hn
    refine he σ B2 H g.s s _ fun v B1 H1 g1 e1 => ?_
    have bk := back B1 H1 g1 (σ' := σ.set i (some v)) (ρ' := ρ.set i (some d)) (fun l d' q => ?_) ?_ ?_
    exact n _ _ H1 _ _ bk.2 bk.1 ⟨rfl, rfl⟩
    · by_cases z : i = l
      · subst z
        rw [List.getElem?_set, if_pos rfl] at q
        split at q
        · rename_i hl
          cases q
          exact ⟨v, by rw [List.getElem?_set_self (by rw [o.s.len]; exact hl)], .inr ⟨hi, e1⟩⟩
        · cases q
      · rw [List.getElem?_set_ne z] at q ⊢
        obtain ⟨u, a1, a2⟩ := o.s.at_ l d' q
        exact ⟨u, a1, .inl a2⟩
    · rw [List.length_set, List.length_set]; exact o.s.len
    · rw [List.getElem?_set_ne hij]; exact o.at_)) fun ρ' ds' z => z.1 ▸ z.2 ▸ q
theorem DaAll.setAt {H : Hp} {d : PyData} {v : V} : ∀ {vs : List V} {ds : List PyData} (m : Nat), DaAll H vs ds → Da H v d → DaAll H (vs.set m v) (ds.set m d)
  | _, _, _, .nil, _ => .nil
  | _, _, 0, .cons _ t, h => .cons h t
  | _, _, m + 1, .cons q t, h => .cons q (DaAll.setAt m t h)
/-- the list changes in place -/
theorem Own.put {B H : Hp} {σ : L2.St} (o : Own B0 H0 p j B H σ ρ ds) (hn : H0 p = none) {vs2 : List V} {ds2 : List PyData} (h : DaAll B vs2 ds2) : Own B0 H0 p j B (upd H p (.lst vs2)) σ ρ ds2 :=
  ⟨⟨o.g.b, Ex.mut o.g.h hn, Ex.mut o.g.s o.nb, o.g.f⟩, o.s, o.at_, o.nb, vs2, upd_same, h⟩
/-- xs.append(e) -/
theorem m_app {x : Str} {p1 p2 p3 : Pos} (hx : X.N[j]? = some x) (hv : Vis X.env.scope x) (he : ED X e ρ d) (hz : ds.length < 90000) (q : SM X B0 H0 p j rest ρ (ds ++ [d]) N R) (hd : (x == ("__debug__" : Str)) = false := by decide) (hcd : (x == ("__classdict__" : Str)) = false := by decide)
    (hpe : ∀ (tf te : TE), PE X (.Name x p1) tf → PE X e te → PE X (.Call (.Attribute (.Name x p1) "append" p2) [e] [] p3) (tBM X.K "list" rAppend tf (tCons te tNil))) (hs : swapsWith (.Call (.Attribute (.Name x p1) "append" p2) [e] [] p3) none pos.line X.env = pure false := by rfl) :
    SM X B0 H0 p j (.Expr (.Call (.Attribute (.Name x p1) "append" p2) [e] [] p3) pos :: rest) ρ ds N R := m_cons (M := fun ρ' ds' => ρ' = ρ ∧ ds' = ds ++ [d]) (fun hn σ B H D o n r => (ps_expr (hpe _ _ (pe_var hx hv hd hcd) pe_RE) hs).rs (by
    obtain ⟨vs, h1, h2⟩ := o.l
    refine ⟨.ref p, o.at_, Or.inl ⟨rfl, vs, sq_of h1⟩, he σ B H o.g.s o.s _ fun v B1 H1 g1 e1 => ⟨p, vs, v, rfl, rfl, g1.h _ _ h1, sz_lt (by rw [h2.len]; omega), ?_⟩⟩
    exact n σ B1 _ ρ _ g1.b ((o.grow g1).put hn ((h2.mono g1.b).app (.cons e1 .nil))) ⟨rfl, rfl⟩)) fun ρ' ds' z => z.1 ▸ z.2 ▸ q
/-- if c: .. that returns -/
theorem m_when (hc : ET X c ρ k) (h1 : k = true → SX X 0 E0 s1 (ρ.set j (some (.list ds))) { R := R }) (q : k = false → SM X B0 H0 p j rest ρ ds N R) : SM X B0 H0 p j (.If c s1 [] pos :: rest) ρ ds N R :=
  m_cons (M := fun ρ' ds' => k = false ∧ ρ' = ρ ∧ ds' = ds) (fun hn σ B H D o n r => (ps_if pt_RT pss_RSs pss_RSs).rs (hc σ B H o.g.s o.s _ fun B1 H1 g1 => by
    have o1 := o.grow g1
    cases k with
    | true => exact iteT (m_end (N := fun _ _ => False) (h1 rfl) hn σ B1 H1 D o1 (fun _ _ _ _ _ _ _ z => z.elim) r)
    | false => exact iteF (pss_nil.rss (n σ B1 H1 ρ ds g1.b o1 ⟨rfl, rfl, rfl⟩)))) fun ρ' ds' z => z.2.1 ▸ z.2.2 ▸ q z.1
theorem m_for {tg iter : Expr} {body : List Stmt} {n : Nat} {y : Nat → PyData} {js : List Nat} (I : Nat → Rho → List PyData → Prop) (T : Nat → Rho → Rho) (hi : EI X tg iter ρ n y) (h0 : I 0 ρ ds) (hj : j ∉ js) (hg : ∀ i ρ' ds', i < n → I i ρ' ds' → GT X tg js (y i) ρ' (T i ρ'))
    (hb : ∀ i ρ' ds', i < n → I i ρ' ds' → SM X B0 H0 p j body (T i ρ') ds' (I (i + 1)) R) (q : ∀ ρ' ds', I n ρ' ds' → SM X B0 H0 p j rest ρ' ds' N R) (hc : X.calm = true) (hp : PassesOwn (model X.prog X.w) X.A X.env X.xe) (hs : ∀ x, foldedSetIterable iter X.env x = pure x := by intro _; rfl) :
    SM X B0 H0 p j (.For tg iter body [] pos :: rest) ρ ds N R := m_cons (M := I n) (fun hn σ B H D o nn r => (ps_for hp hc pi_RI pg_RG pss_RSs hs).rs (hi σ B H o.g.s o.s _ fun J B1 H1 G g1 hG wk => by
  refine for_it wk (D := D) (g := RG X tg) (tb := RSs X body) (σ := σ) (H := H1) (fun i σ2 H2 => ∃ B2 ρ' ds', Own B0 H0 p j B2 H2 σ2 ρ' ds' ∧ Ex B1 B2 ∧ I i ρ' ds') ⟨B1, ρ, ds, o.grow g1, Ex.refl _, h0⟩ (fun i σ2 H2 _ z => ?_) (fun i x σ2 H2 H3 hlt z yd => ?_) fun σ2 H2 z => ?_
  · obtain ⟨B2, ρ', ds', o2, eb, _⟩ := z
    exact hG H2 (eb.trans o2.g.s)
  · obtain ⟨B2, ρ', ds', o2, eb, i2⟩ := z
    obtain ⟨B3, g3, hx⟩ := yd B2 eb o2.g.s
    have o3 := o2.grow g3
    refine hg i ρ' ds' hlt i2 x σ2 B3 H3 _ g3.s o3.s hx fun σ4 s4 w4 => ?_
    have o4 : Own B0 H0 p j B3 H3 σ4 (T i ρ') ds' := by
      refine ⟨o3.g, s4, ?_, o3.nb, o3.l⟩
      have z := congrArg (fun l => l[j]?) (w4 js fun _ h => h)
      simp only [wipe_at, if_neg hj] at z
      rw [z]; exact o3.at_
    exact hb i ρ' ds' hlt i2 hn σ4 B3 H3 _ o4 (fun σ5 B5 H5 ρ5 ds5 e5 o5 i5 => ⟨B5, ρ5, ds5, o5, (eb.trans g3.b).trans e5, i5⟩) r
  · obtain ⟨B2, ρ', ds', o2, eb, i2⟩ := z
    exact nn σ2 B2 H2 ρ' ds' (g1.b.trans eb) o2 i2)) q
/-- the start: x = [] -/
theorem q_own {C : Addr} {E : XK} {o : Po} (j : Nat) {x : Str} {pos' p1 : Pos} (q : ∀ B0 H0 p, SM X B0 H0 p j rest (ρ.set j none) [] (fun _ _ => False) o.R) (hj : j < ρ.length) (hN : X.N.Nodup) (hix : X.N[j]? = some x := by rfl) (hx : Loc X.env.scope x := by first | exact Or.inl rfl | exact Or.inr rfl)
    (hs : swapsWith (.List [] p1) (some (.Name x pos')) pos.line X.env = pure false := by rfl) (hf : X.fn x = true ∨ X.env.scope.names.lookup x = some .local := by first | exact .inl rfl | exact .inr rfl) : SX X C E (.Assign [.Name x pos'] (.List [] p1) pos :: rest) ρ o := fun σ B H D ex s n r g =>
  (pss_cons (ps_set hN hix hx (pe_lst pa_nil) hs hf) pss_RSs).rss (show tAsg (tLst tNil) (gName j) { D with nx := RSs X rest D } σ H from ⟨Nat.zero_le _, fun p hp => q B H p hp _ B _ D ⟨⟨Ex.refl B, Ex.new hp, ex.trans (Ex.new hp), fun _ _ => rfl⟩, s.free, List.getElem?_set_self (by rw [s.len]; exact hj), fresh_back ex hp, [], upd_same, .nil⟩ (fun _ _ _ _ _ _ _ z => z.elim) fun v B' H' d g' => r v B' H' d g'⟩)
/-- the start: x = [.. for ..] -/
theorem q_ownLc {C : Addr} {E : XK} {o : Po} (j : Nat) {x : Str} {py : Pos} {elt tg iter : Expr} {ifs : List Expr} {scope : Scope} {own : List (Str × Nat)} {n : Nat} {y v : Nat → PyData} {js : List Nat} {ρw : Rho} {ρi : Nat → Rho} {f : Nat → Bool} {pos2 : Pos} (hc : X.calm = true) (hN : X.N.Nodup) (ok : BlkOk X.N X.env.scope scope own) (hi : EI X tg iter ρ n y)
    (hw : wipeD ρ (own.map (·.2)) = ρw) (hjs : ∀ j ∈ js, j ∈ own.map (·.2)) (hz : n ≤ 90000) (hg : ∀ i, i < n → InBlk X scope fun Y => GT Y tg js (y i) ρw (ρi i)) (ht : ∀ i, i < n → InBlk X scope fun Y => ETs Y ifs (ρi i) (f i))
    (he : ∀ i, i < n → f i = true → InBlk X scope fun Y => ED Y elt (ρi i) (v i)) (hyl : X.env.scope.names.lookup x = some .local) (hsw : swapsWith (.ListComp elt [⟨tg, iter, ifs, 0⟩] scope pos2) (some (.Name x py)) pos.line X.env = pure true)
    (q : ∀ B0 H0 p, SM X B0 H0 p j rest (ρ.set j none) (itemsD n f v) (fun _ _ => False) o.R) (hj : j < ρ.length) (hy : X.N[j]? = some x := by rfl) (hs : ∀ x, foldedSetIterable iter X.env x = pure x := by intro _; rfl) :
    SX X C E (.Assign [.Name x py] (.ListComp elt [⟨tg, iter, ifs, 0⟩] scope pos2) pos :: rest) ρ o := fun σ B H D ex s n' r g =>
  (pss_cons (ps_setLc (wi := RI X tg iter) (g := bG X scope tg) (tt := bT X scope ifs) (te := bE X scope elt) hc hN hy hyl hsw pi_RI ok (fun s H C cl fp => ⟨fun pins s1 σ H v u Q I r h => h _ _ _ _ _ pins s1 u I r⟩) (fun s H C cl fp => ⟨fun pins s1 σ H Q I h => h _ _ _ _ _ pins s1 I⟩) (fun s H C cl fp => ⟨fun pins s1 σ H Q I h => h _ _ _ _ _ pins s1 I⟩) hs) pss_RSs).rss
    (show tAsg (tLc _ _ _ _ _) (gName j) { D with nx := RSs X rest D } σ H from lc_readM hc hN ok hi hw hjs hz hg ht he ex s fun p vs B1 H1 g1 hp nb h1 h2 => q B H p hp _ B1 H1 D ⟨g1, (s.mono g1.b).free, List.getElem?_set_self (by rw [s.len]; exact hj), nb, vs, h1, h2⟩ (fun _ _ _ _ _ _ _ z => z.elim) fun v B' H' d g' => r v B' H' d g')
/-- x[b] = e, x the list -/
theorem m_put {x : Str} {p1 p2 : Pos} {i : Int} {m : Nat} (hi : imm d = true) (he : ED X e (ρ.set j (some (.list ds))) d) (hb : ED X b ρ (.int i)) (hm : ixN ds.length i = some m) (q : SM X B0 H0 p j rest ρ (ds.set m d) N R) (hx : X.N[j]? = some x) (hv : Vis X.env.scope x) (hd : (x == ("__debug__" : Str)) = false := by decide) (hcd : (x == ("__classdict__" : Str)) = false := by decide)
    (ha : ∀ v, assign (.Subscript (.Name x p1) b p2) X.env v = (do
      let ov ← holding [v] (eval (.Name x p1) X.env)
      let iv ← holding [v, ov] (eval b X.env)
      standAt p2
      holding [v, ov, iv] (setItem ov iv v)
      release [v, ov, iv] []) := by intro _; rfl)
    (hs : swapsWithSole [.Subscript (.Name x p1) b p2] e pos.line X.env = pure false := by rfl) (hw : swappedStores [.Subscript (.Name x p1) b p2] e X.env = pure none := by rfl) (h1 : (assignEach [.Subscript (.Name x p1) b p2] X.env).map (·.2) = [assign (.Subscript (.Name x p1) b p2) X.env] := by rfl) :
    SM X B0 H0 p j (.Assign [.Subscript (.Name x p1) b p2] e pos :: rest) ρ ds N R := m_cons (M := fun ρ' ds' => ρ' = ρ ∧ ds' = ds.set m d) (fun hn σ B H D o n r => (ps_asg pe_RE (pg_sub (pe_var hx hv hd hcd) pe_RE set_list ha) hs hw h1).rs (by
    obtain ⟨B2, g, s, back⟩ := o.read hn
    refine he σ B2 H g.s s _ fun v B1 H1 g1 e1 => ?_
    have bk := back B1 H1 g1 (σ' := σ) (ρ' := ρ) (fun l d' z => let ⟨u, a1, a2⟩ := o.s.at_ l d' z; ⟨u, a1, .inl a2⟩) o.s.len o.at_
    have hp1 : ∃ vs, B1 p = some (.lst vs) := by
      obtain ⟨v0, z1, z2⟩ := s.at_ j (.list ds) (by
        rw [List.getElem?_set_self]
        rw [← o.s.len]
        exact (List.getElem?_eq_some_iff.mp o.at_).1)
      rw [o.at_] at z1
      cases z1
      obtain ⟨a, xs, z3, z4, _⟩ := z2.lst_of
      cases z3
      exact ⟨xs, g1.b _ _ z4⟩
    have et : ExT B1 (cutOut B1 p) := fun a xs z => by
      obtain ⟨vs, z2⟩ := hp1
      rw [cut_ne fun z3 => by rw [z3, z2] at z; cases z]; exact z
    have e2 := e1.immT et hi
    refine ⟨.ref p, o.at_, hb σ (cutOut B1 p) H1 bk.1.g.s bk.1.s _ fun u B3 H3 g3 e3 => ?_⟩
    have o3 := bk.1.grow g3
    obtain ⟨vs, l1, l2⟩ := o3.l
    exact ⟨p, vs, i, m, rfl, e3.int_of, l1, by rw [l2.len]; exact hm, n σ B3 _ ρ _ (bk.2.trans g3.b) (o3.put hn (l2.setAt m (e2.mono g3.b))) ⟨rfl, rfl⟩⟩)) fun ρ' ds' z => z.1 ▸ z.2 ▸ q
/-- x[b], y = e, x the list -/
theorem m_put2 {x y : Str} {p1 p2 p3 p4 : Pos} {i : Int} {m i2 kk : Nat} {d1 d2 : PyData} (hi : imm d1 = true) (hi2 : imm d2 = true) (he : ED X e (ρ.set j (some (.list ds))) (.tuple [d1, d2])) (hb : ED X b ρ (.int i)) (hm : ixN ds.length i = some m) (q : SM X B0 H0 p j rest (ρ.set i2 (some d2)) (ds.set m d1) N R) (hc : X.calm = true) (hx : X.N[j]? = some x) (hv : Vis X.env.scope x) (hj : i2 ≠ j) (hN : X.N.Nodup) (hy : X.N[i2]? = some y) (hyl : Loc X.env.scope y)
    (hf : X.fn y = true ∨ X.env.scope.names.lookup y = some .local) (hd : (x == ("__debug__" : Str)) = false := by decide) (hcd : (x == ("__classdict__" : Str)) = false := by decide)
    (ha : ∀ v, assign (.Subscript (.Name x p1) b p2) X.env v = (do
      let ov ← holding [v] (eval (.Name x p1) X.env)
      let iv ← holding [v, ov] (eval b X.env)
      standAt p2
      holding [v, ov, iv] (setItem ov iv v)
      release [v, ov, iv] []) := by intro _; rfl)
    (hs : swapsWithSole [.Tuple [.Subscript (.Name x p1) b p2, .Name y p3] kk p4] e pos.line X.env = pure false := by rfl) (hw : swappedStores [.Tuple [.Subscript (.Name x p1) b p2, .Name y p3] kk p4] e X.env = pure none := by rfl) (h1 : (assignEach [.Tuple [.Subscript (.Name x p1) b p2, .Name y p3] kk p4] X.env).map (·.2) = [assign (.Tuple [.Subscript (.Name x p1) b p2, .Name y p3] kk p4) X.env] := by rfl)
    (hl : (assignEach [.Subscript (.Name x p1) b p2, .Name y p3] X.env).length = 2 := by rfl) (hst : (assignEach [.Subscript (.Name x p1) b p2, .Name y p3] X.env).findIdx? (·.1) = none := by rfl)
    (e1 : (assignEach [.Subscript (.Name x p1) b p2, .Name y p3] X.env).map (·.2) = assign (.Subscript (.Name x p1) b p2) X.env :: (assignEach [.Name y p3] X.env).map (·.2) := by rfl) (e2 : (assignEach [.Name y p3] X.env).map (·.2) = assign (.Name y p3) X.env :: (assignEach [] X.env).map (·.2) := by rfl) :
    SM X B0 H0 p j (.Assign [.Tuple [.Subscript (.Name x p1) b p2, .Name y p3] kk p4] e pos :: rest) ρ ds N R := m_cons (M := fun ρ' ds' => ρ' = ρ.set i2 (some d2) ∧ ds' = ds.set m d1) (fun hn σ B H D o n r => (ps_asg pe_RE (pg_tup hc (pgs_cons (pg_sub (pe_var hx hv hd hcd) pe_RE set_list ha) (pgs_cons (pg_name hN hy hyl hf) pgs_nil e2) e1) hl hst) hs hw h1).rs (by
    obtain ⟨B2, g, s, back⟩ := o.read hn
    refine he σ B2 H g.s s _ fun v B1 H1 g1 e1 => ?_
    have bk := back B1 H1 g1 (σ' := σ) (ρ' := ρ) (fun l d' z => let ⟨u, a1, a2⟩ := o.s.at_ l d' z; ⟨u, a1, .inl a2⟩) o.s.len o.at_
    have hp1 : ∃ vs, B1 p = some (.lst vs) := by
      obtain ⟨v0, z1, z2⟩ := s.at_ j (.list ds) (by
        rw [List.getElem?_set_self]
        rw [← o.s.len]
        exact (List.getElem?_eq_some_iff.mp o.at_).1)
      rw [o.at_] at z1
      cases z1
      obtain ⟨a, xs, z3, z4, _⟩ := z2.lst_of
      cases z3
      exact ⟨xs, g1.b _ _ z4⟩
    have et : ExT B1 (cutOut B1 p) := fun a xs z => by
      obtain ⟨vs, z2⟩ := hp1
      rw [cut_ne fun z3 => by rw [z3, z2] at z; cases z]; exact z
    obtain ⟨t, xs, rfl, ht, hd⟩ := e1.tup_of
    cases hd with
    | cons q1 hd =>
      cases hd with
      | cons q2 hd =>
        cases hd
        have w1 := q1.immT et hi
        have w2 := q2.immT et hi2
        refine ⟨t, _, rfl, st_of (g1.s _ _ ht), rfl, _, _, rfl, .ref p, o.at_, hb σ (cutOut B1 p) H1 bk.1.g.s bk.1.s _ fun u B3 H3 g3 e3 => ?_⟩
        have o3 := bk.1.grow g3
        obtain ⟨vs, l1, l2⟩ := o3.l
        have o4 := o3.put hn (l2.setAt m (w1.mono g3.b))
        refine ⟨p, vs, i, m, rfl, e3.int_of, l1, by rw [l2.len]; exact hm, _, _, rfl, ?_⟩
        exact ⟨rfl, n _ B3 _ _ _ (bk.2.trans g3.b) ⟨o4.g, o4.s.set (w2.mono g3.b), by rw [List.getElem?_set_ne hj]; exact o4.at_, o4.nb, o4.l⟩ ⟨rfl, rfl⟩⟩)) fun ρ' ds' z => z.1 ▸ z.2 ▸ q
end
end Wx

set_option Elab.async false
set_option linter.all false
set_option maxRecDepth 100000
set_option maxHeartbeats 4000000
/-! dict(pairs) whose keys are pairs of ints; in, not in it. -/
namespace Wx
open PySem PySem.Spec PyProof.Rows L2 Evl
/-- a dict of boxes -/
abbrev dT (ks : List (Int × Int)) : PyData := .dict ((.none, .none) :: ks.map fun k => (.tuple [.int k.1, .int k.2], .bool true))
abbrev kk (k : Int × Int) : List L2.Key := [Sum.inl k.1, Sum.inl k.2]
theorem stored_all {α : Type} [DecidableEq α] : ∀ (ps acc : List (α × Addr × Value)), ((acc ++ ps).map (·.1)).Nodup → storedAllH acc ps = acc ++ ps
  | [], acc, _ => by unfold storedAllH; simp
  | p :: ps, acc, h => by
    have e : atKey acc p.1 = none := by
      unfold atKey
      rw [Option.map_eq_none_iff, List.find?_eq_none]
      intro x hx z
      have z : x.1 = p.1 := of_decide_eq_true z
      rw [List.map_append, List.nodup_append] at h
      exact h.2.2 x.1 (List.mem_map.mpr ⟨x, hx, rfl⟩) p.1 List.mem_cons_self z
    show storedAllH (storedH acc p.1 p.2.1 p.2.2) ps = _
    rw [storedH_new e]
    have h2 : ((acc ++ [(p.1, p.2.1, p.2.2)]) ++ ps) = acc ++ p :: ps := by rw [List.append_assoc]; rfl
    rw [stored_all ps _ (by rw [h2]; exact h), h2]
section
variable {X : Cx}
/-- dict(l), l the list of new pairs ((i, j), True): at ps the key, the key's tuple, the pair -/
def rDctT (K : PySem.W.Frag) : List V → Hp → VK → Prop := fun xs H Q => ∃ (a : Addr) (ps : List ((Int × Int) × Addr × Addr)), xs = [.ref a] ∧ SqL K H a (ps.map fun p => V.ref p.2.2) ∧ (∀ p ∈ ps, H p.2.2 = some (.tup [.ref p.2.1, .bl true]) ∧ H p.2.1 = some (.tup [.int p.1.1, .int p.1.2])) ∧ (ps.map (·.1)).Nodup ∧
  ∀ d, H d = none → Q (.ref d) (upd H d (.dT (ps.map fun p => (kk p.1, V.bl true))))
theorem refs_of {α : Type} (f : α → Addr) : ∀ {l : List α} {us : List Value}, Vals (l.map fun p => V.ref (f p)) us → us = l.map fun p => Value.ref (f p)
  | [], _, .nil => rfl
  | x :: l, _, .cons h t => by
    cases h
    rw [List.map_cons, refs_of f t]
theorem cr_dictT (hc : X.calm = true) (hu : X.A.units + 64 < cLine) : CallR X (.type "dict") (rDctT X.K) := by
  intro pins s σ H vs us Q I r h
  obtain ⟨a, ps, rfl, hs, hp, hn, q⟩ := h
  rw [Vals.ref1 r]
  obtain ⟨its, rv, pl, hz⟩ := I.list hs
  have ei := refs_of (fun p : (Int × Int) × Addr × Addr => p.2.2) rv
  subst ei
  rw [List.length_map] at hz
  have tupAt : ∀ {b : Addr} {xs : List V}, H b = some (.tup xs) → ∃ vs, Vals xs vs ∧ IsTup s.heap b vs.toArray := fun {b xs} e => by
    obtain ⟨_, vs, r1, r2⟩ := (show ObjOk X.prog X.w H s.heap b (.tup xs) from I.hok b _ e)
    exact ⟨vs, r1, r2⟩
  have pa : ∀ p ∈ ps, IsTup s.heap p.2.2 #[.ref p.2.1, .bool true] ∧ (tupleKind (mixKind X.prog X.w)).is s.heap (kk p.1) p.2.1 := fun p hm => by
    obtain ⟨e1, e2⟩ := hp p hm
    obtain ⟨vs, r1, r2⟩ := tupAt e1
    obtain ⟨u1, u2, ev, q1, q2⟩ := vals2 r1
    subst ev
    cases (show u1 = Value.ref p.2.1 from q1)
    cases (show u2 = Value.bool true from q2)
    exact ⟨r2, key_of I.hok e2⟩
  have big : (s.heap.objs.size == sysModules) = false := beq_eq_false_iff_ne.mpr (Nat.ne_of_gt I.big)
  have P := PairArg.list (prog := X.prog) (w := X.w) a (ps.map fun p => Value.ref p.2.2).toArray (fun i => ((ps[i]?).map fun p => p.2.2).getD 0) (ps.map fun p => (Value.ref p.2.1, Value.bool true))
  refine call_dict_pairsH (knd := tupleKind (mixKind X.prog X.w)) (ps := ps.map fun p => (kk p.1, p.2.1, Value.bool true)) P (I.ok.hd hc) (by show X.A.units + 1 + 1 < cLine; omega) ⟨pl, ?_, ?_⟩ ⟨by rw [List.length_map, List.length_map], ?_⟩ (fun h2 kp x hx => ?_) (by rw [List.length_map]; exact hz) fun h2 tk hd kp => ?_
  · rw [List.size_toArray, List.length_map, List.length_map]
  · intro j k v e
    rw [List.getElem?_map] at e
    cases hj : ps[j]? with
    | none => rw [hj] at e; cases e
    | some p =>
      rw [hj] at e
      cases e
      refine ⟨by simp [hj], .inl ?_⟩
      show s.heap.IsTuple (((ps[j]?).map fun p => p.2.2).getD 0) #[Value.ref p.2.1, Value.bool true]
      rw [hj]
      exact (pa p (List.mem_of_getElem? hj)).1
  · intro i key v e
    have e : (ps.map fun p => (Value.ref p.2.1, Value.bool true))[i]? = some (key, v) := e
    rw [List.getElem?_map] at e
    cases hj : ps[i]? with
    | none => rw [hj] at e; cases e
    | some p =>
      rw [hj] at e
      cases e
      exact ⟨kk p.1, p.2.1, by rw [List.getElem?_map, hj]; rfl, rfl⟩
  · obtain ⟨p, hm, rfl⟩ := List.mem_map.mp hx
    exact tupleKind_stays.stays (fun b o vs n e z => kp b o (Nat.ne_of_lt (Heap.lt_size e)) (fun z => nomatch z) e) (pa p hm).2
  · have ea : storedAllH [] (ps.map fun p => (kk p.1, p.2.1, Value.bool true)) = ps.map fun p => (kk p.1, p.2.1, Value.bool true) := by
      refine (stored_all _ [] ?_).trans (List.nil_append _)
      rw [List.nil_append, List.map_map]
      have : (ps.map fun p => kk p.1) = (ps.map (·.1)).map kk := by rw [List.map_map]; rfl
      show (ps.map fun p => kk p.1).Nodup
      rw [this]
      refine List.Pairwise.map _ (fun x y hxy z => hxy ?_) hn
      have z : kk x = kk y := z
      injection z with z1 z2
      injection z1 with z1
      injection z2 with z2 _
      injection z2 with z2
      exact Prod.ext z1 z2
    rw [ea] at hd
    have kp' : ∀ b o, s.heap.get? b = some o → h2.get? b = some o := fun b o e => kp b o (fun z => nomatch z) e
    refine ⟨.ref s.heap.objs.size, upd H s.heap.objs.size (.dT (ps.map fun p => (kk p.1, V.bl true))), I.laid (t' := tk) kp' (Nat.le_refl _) ?_, rfl, q _ (I.hok.fresh (Nat.le_refl _))⟩
    obtain ⟨o, es, ep, d1, d2, d3, d4, _, d6⟩ := hd
    refine ⟨by rw [List.length_map]; exact hz, big, ps.map fun p => (kk p.1, p.2.1, Value.bool true), ?_, o, es, ep, d1, d2, d3, d4, d6⟩
    have go : ∀ l : List ((Int × Int) × Addr × Addr), (∀ p ∈ l, p ∈ ps) → Paired (fun (p : List L2.Key × V) (q : List L2.Key × Addr × Value) => p.1 = q.1 ∧ upd H s.heap.objs.size (.dT (ps.map fun p => (kk p.1, V.bl true))) q.2.1 = some (.tup (p.1.map kV)) ∧ RelV p.2 q.2.2) (l.map fun p => (kk p.1, V.bl true)) (l.map fun p => (kk p.1, p.2.1, Value.bool true)) := by
      intro l
      induction l with
      | nil => intro _; exact .nil
      | cons p l ih =>
        intro hl
        have hh := (hp p (hl p List.mem_cons_self)).2
        exact .cons ⟨rfl, (upd_ne (ne_of_none hh (I.hok.fresh (Nat.le_refl _)))).trans hh, rfl⟩ (ih fun x hx => hl x (List.mem_cons_of_mem _ hx))
    exact go ps fun _ h => h
/-- dict of such data -/
theorem c_dictT {ks : List (Int × Int)} (hc : X.calm = true) (hu : X.A.units + 64 < cLine) (hn : ks.Nodup) : CalR X (.type "dict") [.list (ks.map fun k => .tuple [.tuple [.int k.1, .int k.2], .bool true])] (dT ks) := ⟨_, cr_dictT hc hu, fun vs B H ex e1 Q k => by
  cases e1 with
  | cons h t =>
    cases t
    obtain ⟨x, xs, rfl, hx, hd⟩ := h.lst_of
    have go : ∀ (ks : List (Int × Int)) (xs : List V), DaAll B xs (ks.map fun k => .tuple [.tuple [.int k.1, .int k.2], .bool true]) → ∃ ps : List ((Int × Int) × Addr × Addr), ps.map (·.1) = ks ∧ xs = ps.map (fun p => V.ref p.2.2) ∧ ∀ p ∈ ps, B p.2.2 = some (.tup [.ref p.2.1, .bl true]) ∧ B p.2.1 = some (.tup [.int p.1.1, .int p.1.2]) := by
      intro ks
      induction ks with
      | nil => intro xs h; cases h; exact ⟨[], rfl, rfl, fun p hp => nomatch hp⟩
      | cons k ks ih =>
        intro xs h
        cases h with
        | cons h1 h2 =>
          obtain ⟨ps, q1, q2, q3⟩ := ih _ h2
          obtain ⟨a, ys, rfl, ha, hys⟩ := h1.tup_of
          cases hys with
          | cons y1 hys =>
            cases hys with
            | cons y2 hys =>
              cases hys
              obtain ⟨b, zs, rfl, hb, hzs⟩ := y1.tup_of
              obtain rfl := y2.bl_of
              have ez : zs = [.int k.1, .int k.2] := by
                cases hzs with
                | cons z1 hzs =>
                  cases hzs with
                  | cons z2 hzs =>
                    cases hzs
                    rw [z1.int_of, z2.int_of]
              subst ez
              refine ⟨(k, b, a) :: ps, by rw [List.map_cons, q1], by rw [List.map_cons, q2], fun p hp => ?_⟩
              rcases List.mem_cons.mp hp with e | e
              · subst e; exact ⟨ha, hb⟩
              · exact q3 p e
    obtain ⟨ps, rfl, rfl, q3⟩ := go ks xs hd
    refine ⟨x, ps, rfl, sq_of (ex _ _ hx), fun p hp => ⟨ex _ _ (q3 p hp).1, ex _ _ (q3 p hp).2⟩, hn, fun d hd2 => ?_⟩
    have em : (ps.map fun p => (kk p.1, V.bl true)) = (ps.map (·.1)).map fun k => (kk k, V.bl true) := by rw [List.map_map]; rfl
    rw [em]
    exact k _ _ _ (Gr.new ex hd2) (.dkT upd_same)⟩
theorem op_notInDct (hu : X.A.units + 1 < cLine) : OpR X (compareOp .NotIn) (fun x y H Q => ∃ a o, y = .ref a ∧ DGet H a x o ∧ Q (.bl (!o.isSome)) H) := by
  intro pins s σ H x y v u Q I rx ry h
  obtain ⟨a, o, rfl, g, q⟩ := h
  cases ry
  exact d_notIn hu I g rx fun s2 I2 => ⟨.bl _, H, I2, rfl, q⟩
theorem val_some (ks : List (Int × Int)) (k : Int × Int) : (valV (ks.map fun k => (kk k, V.bl true)) (kk k)).isSome = ks.any (· == k) := by
  unfold valV
  induction ks with
  | nil => rfl
  | cons x ks ih =>
    rw [List.map_cons, List.find?_cons, List.any_cons]
    by_cases e : x = k
    · subst e
      simp
    · have ne : ¬ kk x = kk k := fun z => e (by
        injection z with z1 z2
        injection z1 with z1
        injection z2 with z2 _
        injection z2 with z2
        exact Prod.ext z1 z2)
      have eb : (x == k) = false := beq_eq_false_iff_ne.mpr e
      rw [eb, Bool.false_or, ← ih]
      simp only [ne, decide_false]
theorem r_niD {ks : List (Int × Int)} {i j : Int} (hu : X.A.units + 64 < cLine) : BinR X (compareOp .NotIn) (.tuple [.int i, .int j]) (dT ks) (.bool (!ks.any (· == (i, j)))) := ⟨_, op_notInDct (by omega), fun x y B H ex e1 e2 Q k => by
  obtain ⟨t, xs, rfl, ht, hd⟩ := e1.tup_of
  have ez : xs = [.int i, .int j] := by
    cases hd with
    | cons z1 hd =>
      cases hd with
      | cons z2 hd =>
        cases hd
        rw [z1.int_of, z2.int_of]
  subst ez
  have key : ∃ a, y = .ref a ∧ B a = some (.dT (ks.map fun k => (kk k, V.bl true))) := by
    generalize hdd : dT ks = dd at e2
    cases e2 with
    | dkI h =>
      rename_i a ks2
      injection hdd with hdd
      cases ks2 with
      | nil => cases hdd
      | cons _ _ => injection hdd with h1 _; injection h1 with h1 _; cases h1
    | dkT h =>
      rename_i a ks2
      injection hdd with hdd
      injection hdd with _ hdd
      have : ks = ks2 := by
        refine (List.map_inj_right (f := fun k : Int × Int => (PyData.tuple [.int k.1, .int k.2], PyData.bool true)) fun p q z => ?_).mp hdd
        injection z with z1 _
        injection z1 with z1
        injection z1 with z1 z2
        injection z1 with z1
        injection z2 with z2 _
        injection z2 with z2
        exact Prod.ext z1 z2
      subst this
      exact ⟨a, rfl, h⟩
    | rf a => injection hdd with hdd; injection hdd with h1 _; injection h1 with h1 _; cases h1
    | exc h => injection hdd with hdd; injection hdd with h1 _; injection h1 with h1 _; cases h1
    | obj h _ => injection hdd with hdd; injection hdd with h1 _; injection h1 with h1 _; cases h1
    | _ => cases hdd
  obtain ⟨a, rfl, ha⟩ := key
  refine ⟨a, _, rfl, DGet.t (k := kk (i, j)) (ex _ _ ha) (ex _ _ ht), ?_⟩
  rw [val_some]
  exact k _ B H (Gr.refl ex) (.bl _)⟩
end
end Wx

set_option Elab.async false
set_option linter.all false
set_option maxRecDepth 100000
set_option maxHeartbeats 4000000
/-! Instances with one attribute among the data: attributes, properties, methods, making, static methods. -/
namespace Wx
open PySem PySem.Spec PyProof.Rows L2 Evl
/-- an instance of the class at C whose attribute 'filled' is d -/
abbrev oT (C : Addr) (d : PyData) : PyData := .dict [(.str "o", .int (C : Nat)), (.none, d)]
abbrev rD (a : Addr) : PyData := .dict [(.str "r", .int (a : Nat))]
theorem oT_of {B : Hp} {v : V} {C : Addr} {d : PyData} (h : Da B v (oT C d)) : ∃ a dx u, v = .ref a ∧ B a = some (.ins C dx [("filled", u)]) ∧ Da B u d := by
  generalize hd : oT C d = dd at h
  cases h with
  | @obj a C2 dx u d2 h1 h2 =>
    injection hd with hd
    injection hd with e1 e2
    injection e1 with _ e1
    injection e1 with e1
    injection e2 with e2 _
    injection e2 with _ e2
    have : C = C2 := Int.ofNat.inj e1
    subst this
    subst e2
    exact ⟨a, dx, u, rfl, h1, h2⟩
  | @dkI a ks h1 =>
    injection hd with hd
    cases ks with
    | nil => cases hd
    | cons k ks => injection hd with e1 _; injection e1 with e1 _; cases e1
  | @dkT a ks h1 =>
    injection hd with hd
    injection hd with e1 _
    injection e1 with e1 _
    cases e1
  | rf a => injection hd with hd; injection hd with e1 _; injection e1 with e1 _; injection e1 with e1; exact absurd e1 (by decide)
  | exc h => injection hd with hd; injection hd with e1 _; injection e1 with e1 _; injection e1 with e1; exact absurd e1 (by decide)
  | _ => cases hd
section
variable {X : Cx} {ρ : Rho} {a e : Expr} {es : List Expr} {d d2 : PyData} {ds : List PyData} {C : Addr} {pos apos : Pos} {k : Nat} {R : List PyData → PyData → Prop}
theorem d_fld (c : Cls X.K C) (n : NoAttr X.K C "filled") (ha : ED X a ρ (oT C d)) (hb : attributeBase a "filled" X.env (eval a X.env) = eval a X.env := by rfl) : ED X (.Attribute a "filled" pos) ρ d := fun σ B H ex s Q q =>
  (pe_fld pe_RE hb).re (ha σ B H ex s _ fun v B1 H1 g1 e1 => by
    obtain ⟨x, dx, u, rfl, h1, h2⟩ := oT_of e1
    exact ⟨x, C, dx, _, u, rfl, g1.s _ _ h1, c, n, rfl, q u B1 H1 g1 h2⟩)
/-- e.f, a property whose getter keeps a promise over data -/
theorem d_prop {p g : Addr} {fd : FuncData} {ps : List Str} {f : Str} (c : Cls X.K C) (hp : PropOf X.K C f p g) (F : FnOk X.prog X.w X.K X.mg X.base CX0 k g fd ps (spD R)) (hr : Room (k + 1) X.A) (hb : L2.Binds X.K fd ps []) (hR : R [oT C d] d2) (ha : ED X a ρ (oT C d))
    (hab : attributeBase a f X.env (eval a X.env) = eval a X.env := by rfl) : ED X (.Attribute a f pos) ρ d2 := fun σ B H ex s Q q =>
  (pe_prop (E := E0) pe_RE c hp F hr hb .nil pass0 hab).re (ha σ B H ex s _ fun v B1 H1 g1 e1 => by
    obtain ⟨x, dx, u, rfl, h1, h2⟩ := oT_of e1
    exact ⟨x, dx, _, rfl, g1.s _ _ h1, B1, [oT C d], d2, g1.s, .cons (.obj h1 h2) .nil, hR, fun v2 B2 H2 g2 e2 => q v2 B2 H2 (g1.trans g2) e2⟩)
/-- o.m(e ..) -/
theorem d_meth {g : Addr} {fd : FuncData} {ps : List Str} {m : Str} {CX : CXT} {E : XK} {S : Sp} {pl : Sem Bool} (c : Cls X.K C) (hm : Meth X.K C m g) (F : FnOk X.prog X.w X.K X.mg X.base CX k g fd ps S) (hr : Room k X.A) (hb : L2.Binds X.K fd ps []) (hx : Passes CX X E)
    (hS : ∀ vs B H (Q : VK), Ex B H → DaAll B vs (oT C d :: ds) → (∀ v B' H', Gr B H B' H' → Da B' v d2 → Q v H') → S vs H Q E) (hmf : (m == ("filled" : Str)) = false) (ha : ED X a ρ (oT C d)) (he : EA X (e :: es) ρ ds)
    (hst : starEach (e :: es) X.env = (false, eval e X.env) :: starEach es X.env := by rfl) (hpl : (backTo pos (starEach es X.env)).any (·.1) = false := by rfl)
    (ht : eval (.Call (.Attribute a m apos) (e :: es) [] pos) X.env = (do
      let ov ← eval a X.env
      standAt apos.atName
      let (f, first) ← holding [ov] (getMethod ov m pl)
      callWith pos f first (backTo pos (starEach (e :: es) X.env)) (backToKw pos (keywordEach [] X.env)))) : ED X (.Call (.Attribute a m apos) (e :: es) [] pos) ρ d2 := fun σ B H ex s Q q =>
  (pe_meth pe_RE c hm F hr hb .nil hx pa_RA hst hpl ht).re (ha σ B H ex s _ fun v B1 H1 g1 e1 => by
    obtain ⟨x, dx, u, rfl, h1, h2⟩ := oT_of e1
    refine ⟨x, dx, _, rfl, g1.s _ _ h1, ?_, he σ B1 H1 g1.s (s.mono g1.b) _ fun vs B2 H2 g2 e2 => ?_⟩
    · show List.lookup m [("filled", u)] = none
      rw [List.lookup_cons, hmf]
      rfl
    · rw [List.append_nil]
      exact hS _ B2 H2 Q g2.s (.cons ((Da.obj h1 h2).mono g2.b) e2) fun v3 B3 H3 g3 e3 => q v3 B3 H3 ((g1.trans g2).trans g3) e3)
/-- what __init__ promises: the attribute is set, nothing else -/
def spI (C : Addr) (Pd : PyData → Prop) : Sp := fun vs H Q _ => ∃ x dx v B d, vs = [.ref x, v] ∧ H x = some (.ins C dx []) ∧ Ex B H ∧ B x = none ∧ Da B v d ∧ Pd d ∧ ∀ B1 H1, Gr B H B1 H1 → Q .non (upd H1 x (.ins C dx [("filled", v)]))
theorem d_make {g : Addr} {fd : FuncData} {ps : List Str} {x : Str} {Pd : PyData → Prop} {p : Pos} (M : Mk X.K C g) (F : FnOk X.prog X.w X.K X.mg X.base CX0 k g fd ps (spI C Pd)) (hr : Room (k + 1) X.A) (hm : X.mg x = some (.ref C)) (hb : L2.Binds X.K fd ps []) (hP : Pd d) (he : ED X e ρ d) (hg : Gl X x := by rfl)
    (hdb : (x == ("__debug__" : Str)) = false := by decide) (hst : starEach [e] X.env = (false, eval e X.env) :: starEach [] X.env := by rfl) (hpl : (backTo pos (starEach [] X.env)).any (·.1) = false := by rfl) : ED X (.Call (.Name x p) [e] [] pos) ρ (oT C d) := fun σ B H ex s Q q =>
  (pe_make (E := E0) M F hr hg hm hb .nil pass0 pa_RA hdb hst hpl).re ((a_cons he a_nil hst) σ B H ex s _ fun vs B1 H1 g1 e1 => by
    cases e1 with
    | cons e1 t =>
      cases t
      intro y dx hy hdx ne
      have nb : B1 y = none := fresh_back g1.s hy
      have nd : B1 dx = none := fresh_back g1.s hdx
      have ex2 : Ex H1 (upd (upd H1 dx (.own y)) y (.ins C dx [])) := (Ex.new hdx).trans (Ex.new (by rw [upd_ne (Ne.symm ne)]; exact hy))
      refine ⟨y, dx, _, B1, d, rfl, upd_same, g1.s.trans ex2, nb, e1, hP, fun B2 H2 g2 => ⟨rfl, ?_⟩⟩
      have nb2 : B2 y = none := (g2.f y (by rw [upd_same]; intro z; cases z)).trans nb
      have e3 : Da B2 _ d := e1.mono g2.b
      refine q (.ref y) (upd B2 y (.ins C dx [("filled", _)])) _ ⟨(g1.b.trans g2.b).trans (Ex.new nb2), fun a o z => ?_, fun a o z => ?_, fun a n => ?_⟩ (.obj upd_same (e3.mono (Ex.new nb2)))
      · have na : a ≠ y := fun c => by
          subst c
          have := g1.h _ _ z
          rw [hy] at this
          cases this
        rw [upd_ne na]
        exact g2.h _ _ (ex2 _ _ (g1.h _ _ z))
      · by_cases c : a = y
        · rw [c, upd_same] at z ⊢; exact z
        · rw [upd_ne c] at z ⊢; exact g2.s _ _ z
      · have na : a ≠ y := fun c => n (by rw [c]; exact fresh_back g1.h hy)
        rw [upd_ne na, g2.f a (fun z => by
          cases h0 : H a with
          | none => exact n h0
          | some o =>
            have := ex2 _ _ (g1.h _ _ h0)
            rw [this] at z
            cases z)]
        exact g1.f a n)
end
/-! ### a static method of a class -/
structure SMet (K : PySem.W.Frag) (C : Addr) (mc : Value) (m : Str) (p g : Addr) : Prop where
  at_ : PySem.W.findCls K (.ref C) mc m = some (.get (.builtin "staticmethod.__get__") (.ref p) .none (.ref C))
  rc : ∃ rest, PySem.W.recIn K p "staticmethod" = some (.ref g :: rest)
  kp : PySem.W.keepIn K (.ref g) = true
section
variable {X : Cx} {CX : CXT} {k : Nat} {C p g : Addr} {mc : Value} {sp : Sp} {E : XK} {o e : Expr} {es : List Expr} {m : Str} {pos apos : Pos} {ta : TE} {t : TA} {pl : Sem Bool} {fd : FuncData} {ps : List Str}
theorem pe_static (he : PE X o ta) (r : ClX.CRead X.K C mc) (c : SMet X.K C mc m p g) (F : FnOk X.prog X.w X.K X.mg X.base CX k g fd ps sp) (hr : Room k X.A) (hb : L2.Binds X.K fd ps []) (hx : Passes CX X E) (ha : PA X (e :: es) t)
    (hst : starEach (e :: es) X.env = (false, eval e X.env) :: starEach es X.env := by rfl) (hpl : (backTo pos (starEach es X.env)).any (·.1) = false := by rfl)
    (ht : eval (.Call (.Attribute o m apos) (e :: es) [] pos) X.env = (do
      let ov ← eval o X.env
      standAt apos.atName
      let (f, first) ← holding [ov] (getMethod ov m pl)
      callWith pos f first (backTo pos (starEach (e :: es) X.env)) (backToKw pos (keywordEach [] X.env)))) :
    PE X (.Call (.Attribute o m apos) (e :: es) [] pos) (fun σ H Q => ta σ H fun x H1 => x = .ref C ∧ t σ H1 fun vs H2 => sp vs H2 Q E) := by
  refine ⟨fun pins s σ H Q I h => PySem.W.methodCall_KW (pl := pl) (thn (he.run pins s σ H _ I h) fun u s1 ⟨x, H1, I1, rx, ex, q⟩ => ?_) ht⟩
  subst ex
  obtain rfl : u = Value.ref C := rx
  obtain ⟨rest, hp⟩ := c.rc
  refine PySem.W.method_cls I1.kIn r.ga (PySem.W.cls_bind I1.kIn r.rd c.at_ (wpAny_call (PySem.W.sm_get (s := { s1 with toks := s1.toks + 1 }) I1.kIn hp (PySem.W.handed_on rfl ?_))))
  have I2 := I1.tok (s1.toks + 1)
  refine PySem.W.callWith_K (first := []) (h₀ := X.base) I.ok.mod.kin c.kp (thn (ha.run pos pins _ σ H1 _ I2 q) fun us s3 ⟨vs, H2, I3, rv, q2⟩ => ⟨I3.kIn, ?_⟩) hst hpl
  have z := run_fn (us := us) (vs := vs) (dvs := []) (ds := []) F hr hb .nil hx I3 rv (by rw [List.append_nil]; exact q2)
  exact z
end
end Wx

set_option Elab.async false
set_option linter.all false
set_option maxRecDepth 100000
set_option maxHeartbeats 4000000
/-! The shapes' small defs. -/
namespace Wd
open PySem PySem.Spec PyProof.Rows L2 Evl Wx We
/-- no name of these is the program's own -/
structure Bt (mg : Str → Option Value) : Prop where
  len : mg "len" = none
  tuple : mg "tuple" = none
  list : mg "list" = none
  all : mg "all" = none
  range : mg "range" = none
  sum : mg "sum" = none
  isi : mg "isinstance" = none
  int : mg "int" = none
  bool : mg "bool" = none
  enum : mg "enumerate" = none
  zip : mg "zip" = none
  sorted : mg "sorted" = none
  max : mg "max" = none
  min : mg "min" = none
  repr : mg "repr" = none
  dict : mg "dict" = none
  abs : mg "abs" = none
  divmod : mg "divmod" = none
abbrev iT (ns : List Int) : PyData := .tuple (ns.map PyData.int)
theorem items_list {α : Type} (xs : List α) (z : α) (p : α → Bool) (h : α → PyData) : itemsD xs.length (fun i => p (xs.getD i z)) (fun i => h (xs.getD i z)) = (xs.filter p).map h := by
  have e : (List.range xs.length).map (fun i => xs.getD i z) = xs := by
    refine List.ext_getElem (by rw [List.length_map, List.length_range]) fun i h1 h2 => ?_
    rw [List.getElem_map, List.getElem_range, List.getD_eq_getElem?_getD, List.getElem?_eq_getElem h2]
    rfl
  unfold itemsD
  conv => rhs; rw [← e, List.filter_map, List.map_map]
  rfl
theorem c_allI {X : Cx} {n : Nat} {b : Nat → Bool} (hc : X.calm = true) : CalR X (.builtin "all") [.list (itemsD n (fun _ => true) fun i => .bool (b i))] (.bool ((List.range n).all b)) := by
  have h := c_all (X := X) (bs := (List.range n).map b) hc
  rw [List.map_map, List.all_map] at h
  rw [itemsD_all]
  exact h
/-! ### defs by name -/
section
variable (P : Program) (w : World) (K : PySem.W.Frag) (mg : Str → Option Value) (base : Heap)
structure Df (CX : CXT) (k : Nat) (x : Str) (ps : List Str) (sp : Sp) : Prop where
  ex : ∃ (f : Addr) (fd : FuncData), mg x = some (.ref f) ∧ FnOk P w K mg base CX k f fd ps sp ∧ PySem.W.keepIn K (.ref f) = true ∧ Binds K fd ps [] ∧ ∃ o, K.lookup f = some o ∧ o.data = .func fd
/-- the i-th statement of the text is that def -/
structure Dv (x : Str) (i : Nat) : Prop where
  ex : ∃ (f : Addr) (fd : FuncData), mg x = some (.ref f) ∧ Fun K x x (top i) f fd
theorem _root_.L2.Fun.own {K : PySem.W.Frag} {x qual : Str} {st : Stmt} {f : Addr} {fd : FuncData} (F : Fun K x qual st f fd) : ∃ o, K.lookup f = some o ∧ o.data = .func fd := by
  obtain ⟨oc, od, kV, doc, pm, an, cdv, ct, osl, rfl, lk, hcd⟩ := F.ex
  exact ⟨_, lk, rfl⟩
/-- any positional arguments bind in order -/
abbrev BindOk (x : Str) (i : Nat) (ps : List Str) : Prop := ∀ (kV doc pm : Value) (an : Option Addr) (cdv ct : Value) (us : List Value), us.length = ps.length → bindArgs (PySem.W.fnOf x x (defArgs (top i)) (defBody (top i)) (defScope (top i)) .none kV doc pm an cdv ct) ⟨us, []⟩ = pure (ps.zip us)
end
section
variable {P : Program} {w : World} {K : PySem.W.Frag} {mg : Str → Option Value} {base : Heap}
theorem df_D {x : Str} {i k : Nat} {N ps : List Str} {R : List PyData → PyData → Prop} (D : Dv K mg x i) (S : FnScope N ps (defScope (top i))) (bd : BindOk x i ps) (len : ∀ ds d, R ds d → ds.length = ps.length)
    (hb : ∀ (f : Addr) (cdv : Value) (A : Around) (outer : List Env) (s : Shared) (H : Hp) (E : XK) (ds : List PyData) (d : PyData), Room k (A.deeper (envOfC x (defScope (top i)) s.heap.objs.size f cdv)) → R ds d →
      SX (cxOf CX0 P w K mg base N x (defScope (top i)) f cdv A outer s H E).nox 0 E0 (defBody (top i)) (ρ0 N ds) { N := fun _ => d = .none, R := fun d' => d' = d }) : Df P w K mg base CX0 (k + 1) x ps (spD R) := by
  obtain ⟨f, fd, hm, F⟩ := D.ex
  exact ⟨f, fd, hm, fn_D F S len (hb f), F.kp, F.binds bd, F.own⟩
theorem Df.up {CX : CXT} {j k : Nat} {x : Str} {ps : List Str} {sp : Sp} (D : Df P w K mg base CX j x ps sp) (h : j ≤ k) : Df P w K mg base CX k x ps sp := by
  obtain ⟨f, fd, hm, F, kp, b, own⟩ := D.ex
  exact ⟨f, fd, hm, F.mono h, kp, b, own⟩
end
section
variable {X : Cx} {ρ : Rho} {e : Expr} {es : List Expr} {d : PyData} {ds : List PyData} {pos p : Pos} {x : Str} {k : Nat} {ps : List Str} {R G : List PyData → PyData → Prop}
theorem d_df (D : Df X.prog X.w X.K X.mg X.base CX0 k x ps (spD R)) (hr : Room k X.A) (h : R ds d) (ha : EA X (e :: es) ρ ds) (hg : Gl X x := by rfl)
    (hdb : (x == ("__debug__" : Str)) = false := by decide) (hst : starEach (e :: es) X.env = (false, eval e X.env) :: starEach es X.env := by rfl) (hpl : (backTo pos (starEach es X.env)).any (·.1) = false := by rfl) : ED X (.Call (.Name x p) (e :: es) [] pos) ρ d := by
  obtain ⟨f, fd, hm, F, kp, b, own⟩ := D.ex
  exact d_call F hr hm kp b pass0 (hS_D h) ha hg hdb hst hpl
/-- a def that may raise, where it does not -/
theorem d_dfX {C : Addr} (D : Df X.prog X.w X.K X.mg X.base (L2.CX X.prog X.w) k x ps (spX C R G)) (hr : Room k X.A) (h : R ds d) (ha : EA X (e :: es) ρ ds) (hg : Gl X x := by rfl)
    (hdb : (x == ("__debug__" : Str)) = false := by decide) (hst : starEach (e :: es) X.env = (false, eval e X.env) :: starEach es X.env := by rfl) (hpl : (backTo pos (starEach es X.env)).any (·.1) = false := by rfl) : ED X (.Call (.Name x p) (e :: es) [] pos) ρ d := by
  obtain ⟨f, fd, hm, F, kp, b, own⟩ := D.ex
  exact d_call F hr hm kp b passL (fun vs B H Q ex e1 k1 => ⟨B, ds, ex, e1, .inl ⟨d, h, k1⟩⟩) ha hg hdb hst hpl
end
section
variable {P : Program} {w : World} {K : PySem.W.Frag} {mg : Str → Option Value} {base : Heap} {f : Addr} {fd : FuncData}
abbrev zs (ns : List Nat) : List Int := ns.map fun n : Nat => (n : Int)
/-- a tuple of numbers -/
abbrev nT (ns : List Nat) : PyData := iT (zs ns)
theorem nT_len (ns : List Nat) : ((zs ns).map PyData.int).length = ns.length := by rw [List.length_map, List.length_map]
theorem nT_at {ns : List Nat} {i : Nat} (h : i < ns.length) : ((zs ns).map PyData.int)[i]? = some (.int (Wm.g ns i : Nat)) := by
  rw [List.getElem?_map, List.getElem?_map, Wm.some_g h]; rfl
theorem nT_ix {ns : List Nat} {i : Nat} (h : i < ns.length) : atI ((zs ns).map PyData.int) (i : Int) = some (.int (Wm.g ns i : Nat)) := atI_nat (nT_at h)
theorem items_nat (ns : List Nat) (p : Nat → Bool) : PyData.tuple (itemsD ns.length (fun i => p (Wm.g ns i)) (fun i => .int (Wm.g ns i : Nat))) = nT (ns.filter p) := by
  have h := items_list ns 0 p fun n => .int (n : Nat)
  show PyData.tuple _ = PyData.tuple _
  rw [List.map_map]
  exact congrArg _ h
theorem sum_zs (ns : List Nat) : (zs ns).sum = (ns.sum : Nat) := by
  induction ns with
  | nil => rfl
  | cons n ns ih =>
    show (n : Int) + (zs ns).sum = _
    rw [ih, List.sum_cons]
    omega
/-- places that answer -/
theorem items_ix (n : Nat) (p : Nat → Bool) : PyData.tuple (itemsD n p fun i => .int (i : Nat)) = nT ((List.range n).filter p) := by
  show PyData.tuple _ = PyData.tuple _
  rw [List.map_map]
  rfl
/-! ### is_number, is_shape, check_shape -/
theorem scNum : FnScope ["value", "low", "high"] ["value", "low", "high"] (defScope (top 19)) := ⟨rfl, rfl, rfl, by decide +kernel, rfl, by decide +kernel, by decide +kernel⟩
def RNum : List PyData → PyData → Prop := fun ds d => ∃ i lo hi : Int, ds = [.int i, .int lo, .int hi] ∧ d = .bool (decide (lo ≤ i) && decide (i ≤ hi))
theorem is_number_df (M : Bt mg) (D : Dv K mg "is_number" 19) : Df P w K mg base CX0 1 "is_number" ["value", "low", "high"] (spD RNum) := by
  refine df_D D scNum (fun _ _ _ _ _ _ us hl => match us, hl with | [_, _, _], _ => rfl) (fun ds d h => by obtain ⟨_, _, _, rfl, _⟩ := h; rfl) fun f cdv A outer s H E ds d hr h => ?_
  obtain ⟨i, lo, hi, rfl, rfl⟩ := h
  exact q_ret (d_and (p := true) (d_isI (i := i) (d_var 0) M.isi M.int) fun _ => d_and (p := true) (d_not (p := false) (d_isB (i := i) (d_var 0) M.isi M.bool)) fun _ => d_one (d_chain (d_var 1) (d_var 0) (d_var 2))) rfl
theorem scShape : FnScope ["value", "most", "part", "place"] ["value", "most"] (defScope (top 20)) := ⟨rfl, rfl, rfl, by decide +kernel, rfl, by decide +kernel, by decide +kernel⟩
def RShape : List PyData → PyData → Prop := fun ds d => ∃ ns : List Nat, Wm.Shp ns ∧ ns.sum ≤ 40 ∧ ds = [nT ns, .int 40] ∧ d = .bool true
theorem is_shape_df (M : Bt mg) (D : Dv K mg "is_shape" 20) (D1 : Df P w K mg base CX0 1 "is_number" ["value", "low", "high"] (spD RNum)) : Df P w K mg base CX0 2 "is_shape" ["value", "most"] (spD RShape) := by
  refine df_D D scShape (fun _ _ _ _ _ _ us hl => match us, hl with | [_, _], _ => rfl) (fun ds d h => by obtain ⟨_, _, _, rfl, _⟩ := h; rfl) fun f cdv A outer s H E ds d hr h => ?_
  obtain ⟨ns, sh, hs, rfl, rfl⟩ := h
  have hl : ns.length ≤ 40 := Nat.le_trans sh.len_sum hs
  refine q_when (p := false) (t_w (w_or (t_not (p := true) (t_val (d_isT (d_var 0) (nd_iT _) M.isi M.tuple))) fun _ => w_or (t_eq (q := false) (t_cmp r_gt (d_callB c_lenT (a_cons (d_var 0) a_nil) M.len) (d_var 1)) ?b1) fun _ => w_or1 (t_not (p := true) (t_val (d_eq (d_callB (c_allI (n := ns.length) (b := fun i => decide ((1 : Int) ≤ (Wm.g ns i : Nat)) && decide (((Wm.g ns i : Nat) : Int) ≤ 40)) rfl) (a_cons (d_lc (own := [("part", 2)]) rfl scShape.nd (blkOk_by (by kernel_rfl))
    (i_tup (n := ns.length) (d_var 0) (fun i hi => nT_at hi) (nT_len ns)) rfl (js := [2]) (fun j hj => hj) (by omega) (fun i _ _ _ _ _ _ => g_name 2 scShape.nd) (fun i _ _ _ _ _ _ => ts_nil) fun i _ _ _ _ _ _ _ => d_df D1 hr ⟨_, 1, 40, rfl, rfl⟩ (a_cons (d_var 2) (a_cons d_int (a_cons (d_var 1) a_nil)))) a_nil) M.all) ?all1))))) (fun z => nomatch z) fun _ => ?rest
  case b1 => simp only [nT_len]; exact decide_eq_false (by omega)
  case all1 =>
    refine congrArg PyData.bool (List.all_eq_true.mpr fun i hi => ?_)
    rw [List.mem_range] at hi
    have h1 := sh.pos i hi
    have h2 := Wm.g_le_sum (ns := ns) i
    rw [Bool.and_eq_true]
    exact ⟨decide_eq_true (by omega), decide_eq_true (by omega)⟩
  case rest =>
    refine q_ret (d_and (p := true) (d_eq (d_cmp r_le (d_callB (c_sumT rfl) (a_cons (d_var 0) a_nil) M.sum) (d_var 1)) ?s1) fun _ => d_one (d_eq (d_callB (c_allI (n := ns.length - 1) (b := fun i => decide (((Wm.g ns (i + 1) : Nat) : Int) ≤ (Wm.g ns i : Nat))) rfl)
      (a_cons (d_lc (own := [("place", 3)]) rfl scShape.nd (blkOk_by (by kernel_rfl)) (i_rng (n := ns.length - 1) (m := (ns.length : Int) - 1) (a_cons (d_eq (d_bin r_sub (d_callB c_lenT (a_cons (d_var 0) a_nil) M.len) d_int) (by rw [nT_len])) a_nil) (by omega) (by omega) (by omega) M.range) rfl (js := [3]) (fun j hj => hj) (by omega)
        (fun i _ _ _ _ _ _ => g_name 3 scShape.nd) (fun i _ _ _ _ _ _ => ts_nil) fun i hi _ _ _ _ _ _ => d_cmp r_ge (d_ixT (nT_ix (by omega)) (d_var 0) (d_var 3)) (d_ixT (nT_ix (i := i + 1) (by omega)) (d_var 0) (d_bin r_add (d_var 3) d_int))) a_nil) M.all) (d2 := .bool true) ?all2)) rfl
    case s1 => rw [sum_zs]; exact congrArg PyData.bool (decide_eq_true (by omega))
    case all2 =>
      refine congrArg PyData.bool (List.all_eq_true.mpr fun i hi => decide_eq_true ?_)
      have := sh.dec i
      omega
theorem scCheck : FnScope ["value", "most"] ["value", "most"] (defScope (top 21)) := ⟨rfl, rfl, rfl, by decide +kernel, rfl, by decide +kernel, by decide +kernel⟩
def RCheck : List PyData → PyData → Prop := fun ds d => ∃ ns : List Nat, Wm.Shp ns ∧ ns.sum ≤ 40 ∧ ds = [nT ns, .int 40] ∧ d = .none
theorem check_shape_df (D : Dv K mg "check_shape" 21) (D1 : Df P w K mg base CX0 2 "is_shape" ["value", "most"] (spD RShape)) : Df P w K mg base CX0 3 "check_shape" ["value", "most"] (spD RCheck) := by
  refine df_D D scCheck (fun _ _ _ _ _ _ us hl => match us, hl with | [_, _], _ => rfl) (fun ds d h => by obtain ⟨_, _, _, rfl, _⟩ := h; rfl) fun f cdv A outer s H E ds d hr h => ?_
  obtain ⟨ns, sh, hs, rfl, rfl⟩ := h
  exact q_when (p := false) (t_not (p := true) (t_val (d_df D1 hr ⟨ns, sh, hs, rfl, rfl⟩ (a_cons (d_var 0) (a_cons (d_var 1) a_nil))))) (fun z => nomatch z) fun _ => s_nil rfl
end
end Wd

set_option Elab.async false
set_option linter.all false
set_option maxRecDepth 100000
set_option maxHeartbeats 4000000
/-! Defs that are called where the guards are known; calls by keywords alone. -/
namespace Wd
open PySem PySem.Spec PyProof.Rows L2 Evl Wx We
/-- a def's promise where no guard is around -/
structure FnG (P : Program) (w : World) (K : PySem.W.Frag) (mg : Str → Option Value) (base : Heap) (k : Nat) (f : Addr) (fd : FuncData) (ps : List Str) (sp : Sp) : Prop where
  len : ∀ vs H Q E, sp vs H Q E → vs.length = ps.length
  run : ∀ (A : Around) (outer : List Env) (s : Shared) (H : Hp) (args : Args) (us : List Value) (vs : List V) (Q : VK) (E : XK), A.guards = some [] → Room k A → Env0 P w K mg base A outer s H →
    BindsTo s fd args (ps.zip us) → Vals vs us → sp vs H Q E → codeAny (model P w) A (.call (.ref f) args) (CR CX0 outer P w H s Q E) s
theorem Fun.okG {P : Program} {w : World} {K : PySem.W.Frag} {mg : Str → Option Value} {base : Heap} {x qual : Str} {st : Stmt} {f : Addr} {fd : FuncData} {N ps : List Str} {k : Nat} {sp : Sp} (F : Fun K x qual st f fd) (S : FnScope N ps (defScope st))
    (len : ∀ vs H Q E, sp vs H Q E → vs.length = ps.length)
    (hbody : ∀ (cdv : Value) (A : Around) (outer : List Env) (s : Shared) (H : Hp) (vs : List V) (Q : VK) (E : XK), A.guards = some [] → Room k (A.deeper (envOfC qual (defScope st) s.heap.objs.size f cdv)) → sp vs H Q E →
      ∃ t, PSs (cxOf CX0 P w K mg base N qual (defScope st) f cdv A outer s H E).nox (defBody st) t ∧ t { nx := fun _ H' => Q .non H', rt := Q } (L2.start N vs) H) : FnG P w K mg base (k + 1) f fd ps sp := by
  obtain ⟨oc, od, kV, doc, pm, an, cdv, ct, osl, rfl, lk, hcd⟩ := F.ex
  refine ⟨len, fun A outer s H args us vs Q E hgd hr e0 hb r hsp => ?_⟩
  have KX : K.In s.heap := e0.mod.kin.keeps fun b o e => (e0.bs b o e).1
  have par : ∀ y ∈ ps.zip us, (defScope st).names.lookup y.1 = some .local ∨ ((defScope st).names.lookup y.1 = some .cell ∧ ((cellsFrom (s.heap.objs.size + 1) (defScope st).names []).lookup y.1).isSome = true) := by
    rintro ⟨n, v⟩ hy
    exact (S.par n (List.of_mem_zip hy).1).imp id fun q => ⟨q, PySem.W.cellsFrom_some _ _ _ (.inl q)⟩
  refine codeAny_call_function hr.depth (KX _ _ lk) rfl S.co S.gen rfl (PySem.W.codeRec_of KX hcd) (hb _ _ _ _ (wpAny_newFunctionEnv_cells S.kind par fun env he s1 x => ?_))
  subst he
  refine ⟨(e0.mod.nolimit.keeps fun b o e => (e0.bs b o e).1).keeps x.toInCall.keep, codeAny_func ?_⟩
  obtain ⟨t, ht, hq⟩ := hbody cdv A outer s H vs Q E hgd (hr.deeper _) hsp
  have I := inv_start (CX := CX0) (P := P) (w := w) (K := K) (mg := mg) (base := base) (qual := qual) (f := f) (cd := cdv) (A := A) (outer := outer) (E := E) S hr.hd e0 (len _ _ _ _ hsp) r x
  refine wpAny_mono (ht.nox.run [] s1 _ H _ I hq) (fun fl s' hs => ?_) fun e s' hs => hs
  cases fl with
  | ret u => obtain ⟨v, σ', H', J, rv, q⟩ := hs; exact ⟨v, H', J.os, J.bare, J.base, J.hok, rv, q⟩
  | next => obtain ⟨σ', H', J, q⟩ := hs; exact ⟨.non, H', J.os, J.bare, J.base, J.hok, rfl, q⟩
  | brk => obtain ⟨_, _, _, q⟩ := hs; exact False.elim q
  | cont => obtain ⟨_, _, _, q⟩ := hs; exact False.elim q
section
variable {X : Cx} {CX : CXT} {k : Nat} {f : Addr} {fd : FuncData} {ps ks : List Str} {sp : Sp} {x : Str} {p pos : Pos} {e : Expr} {es : List Expr} {kws : List Keyword} {t tk : TA} {E : XK} {g : List Value → List Value → List Value} {gV : List V → List V → List V}
theorem pe_callG (F : FnG X.prog X.w X.K X.mg X.base k f fd ps sp) (hgd : X.A.guards = some []) (hr : Room k X.A) (hg : Gl X x) (hm : X.mg x = some (.ref f)) (hk : PySem.W.keepIn X.K (.ref f) = true) (hb : Binds X.K fd ps [])
    (ha : PA X (e :: es) t) (hdb : (x == ("__debug__" : Str)) = false := by decide) (he : starEach (e :: es) X.env = (false, eval e X.env) :: starEach es X.env := by rfl) (hpl : (backTo pos (starEach es X.env)).any (·.1) = false := by rfl) :
    PE X (.Call (.Name x p) (e :: es) [] pos) (fun σ H Q => t σ H fun vs H1 => sp vs H1 Q E0) := by
  refine ⟨fun pins s σ H Q I h => ?_⟩
  refine wpAny_Call_Name_kw (ld_glob I hg hm ?_ hdb)
  refine PySem.W.callWith_K (h₀ := X.base) I.ok.mod.kin hk (thn (ha.run pos pins s σ H _ I h) fun us s1 ⟨vs, H1, I1, r, hsp⟩ => ⟨I1.kIn, ?_⟩) he hpl
  have hl : us.length = ps.length := by rw [← r.length]; exact F.len _ _ _ _ hsp
  have b := hb s1 us I1.kIn (by rw [List.append_nil]; exact hl)
  rw [List.append_nil] at b
  refine wpAny_call (codeAny_mono (F.run X.A X.stack s1 H1 ⟨us, []⟩ us vs Q E0 hgd hr I1.env0 b r hsp) fun r s' hq => ?_)
  cases r with
  | error e => exact False.elim hq
  | ok fl =>
    cases fl with
    | ret u => exact I1.after hq
    | next => exact False.elim hq
    | brk => exact False.elim hq
    | cont => exact False.elim hq
/-- f(k = v, ..) -/
theorem pe_callK0 (F : FnOk X.prog X.w X.K X.mg X.base CX k f fd ps sp) (hr : Room k X.A) (hg : Gl X x) (hm : X.mg x = some (.ref f)) (hk : PySem.W.keepIn X.K (.ref f) = true) (hb : KBinds X.K fd ps ks g gV) (hx : Passes CX X E)
    (hkw : PK X kws tk) (hall : (backToKw pos (keywordEach kws X.env)).all (·.1.isSome) = true := by rfl) (hks : (backToKw pos (keywordEach kws X.env)).filterMap (·.1) = ks := by rfl)
    (hdb : (x == ("__debug__" : Str)) = false := by decide)
    (hpl : ((backTo pos (starEach [] X.env)).any (·.1) || (backToKw pos (keywordEach kws X.env)).any (·.1.isNone)) = false := by rfl) :
    PE X (.Call (.Name x p) [] kws pos) (tCallK sp gV E tNil tk) := by
  refine ⟨fun pins s σ H Q I h => ?_⟩
  refine wpAny_Call_Name_kw (ld_glob I hg hm ?_ hdb)
  refine PySem.W.callWith_KW0 (h₀ := X.base) I.ok.mod.kin hk hall (thn (hkw.run pos pins s σ H _ I h) fun ws s2 ⟨zs, H2, I2, rz, q2⟩ => ⟨I2.kIn, ?_⟩) hpl
  rw [hks]
  exact run_fnk (us := []) F hr hb hx I2 .nil rz q2
end
/-! ### over data -/
section
variable (X : Cx)
def RK (kws : List Keyword) : TA := fun σ H Q => ∀ pos pins s, Inv X pins σ H s → wpAny (model X.prog X.w) X.A (evalAll ((backToKw pos (keywordEach kws X.env)).map (·.2))) (AP X pins σ Q) X.xe s
def EK (kws : List Keyword) (ρ : Rho) (ds : List PyData) : Prop := ∀ σ B H, Ex B H → StD B σ ρ → ∀ Q : List V → Hp → Prop, (∀ vs B' H', Gr B H B' H' → DaAll B' vs ds → Q vs H') → RK X kws σ H Q
variable {X}
theorem pk_RK {kws : List Keyword} : PK X kws (RK X kws) := ⟨fun pos pins s σ H Q I h => h pos pins s I⟩
theorem _root_.L2.PK.rk {kws : List Keyword} {t : TA} (h : PK X kws t) {σ H Q} (q : t σ H Q) : RK X kws σ H Q := fun pos pins s I => h.run pos pins s σ H Q I q
variable {ρ : Rho} {e : Expr} {d : PyData} {ds : List PyData} {kws : List Keyword} {nm : Option Str} {kpos p pos : Pos}
theorem k_nil : EK X [] ρ [] := fun σ B H ex s Q k => pk_nil.rk (k [] B H (Gr.refl ex) .nil)
theorem k_cons (h : ED X e ρ d) (t : EK X kws ρ ds) : EK X (⟨nm, e, kpos⟩ :: kws) ρ (d :: ds) := fun σ B H ex s Q k =>
  (pk_cons pe_RE pk_RK).rk (h σ B H ex s _ fun v B1 H1 g1 e1 => t σ B1 H1 g1.s (s.mono g1.b) _ fun vs B2 H2 g2 e2 => k _ B2 H2 (g1.trans g2) (.cons (e1.mono g2.b) e2))
end
theorem vals_rev {vs : List V} {us : List Value} (h : Vals vs us) : Vals vs.reverse us.reverse := by
  induction h with
  | nil => exact .nil
  | cons h t ih => rw [List.reverse_cons, List.reverse_cons]; exact ih.append (.cons h .nil)
theorem DaAll.rev2 {H : Hp} {vs : List V} {ds : List PyData} (h : DaAll H vs ds) : DaAll H vs.reverse ds.reverse := h.rev
/-- keywords alone -/
abbrev gK (π : List Value → List Value) : List Value → List Value → List Value := fun us ws => match us with
  | [] => π ws
  | _ :: _ => []
abbrev gKV (π : List V → List V) : List V → List V → List V := fun vs zs => match vs with
  | [] => π zs
  | _ :: _ => []
abbrev BindKOk (x : Str) (i : Nat) (ps ks : List Str) (π : List Value → List Value) : Prop := ∀ (kV doc pm : Value) (an : Option Addr) (cdv ct : Value) (ws : List Value), (π ws).length = ps.length → bindArgs (PySem.W.fnOf x x (defArgs (top i)) (defBody (top i)) (defScope (top i)) .none kV doc pm an cdv ct) ⟨[], ks.zip ws⟩ = pure (ps.zip (π ws))
theorem kb_of {K : PySem.W.Frag} {x : Str} {i : Nat} {f : Addr} {fd : FuncData} {ps ks : List Str} {π : List Value → List Value} {πV : List V → List V} (F : Fun K x x (top i) f fd) (bd : BindKOk x i ps ks π) (hp : ps ≠ []) (rel : ∀ {vs us}, Vals vs us → Vals (πV vs) (π us)) : KBinds K fd ps ks (gK π) (gKV πV) := by
  obtain ⟨oc, od, kV, doc, pm, an, cdv, ct, osl, rfl, lk, hcd⟩ := F.ex
  refine ⟨fun s us ws hK hl => ?_, fun {vs us zs ws} r rz => ?_⟩
  · cases us with
    | nil => exact .of_eq (bd kV doc pm an cdv ct ws hl)
    | cons u us => exact absurd (List.length_eq_zero_iff.mp hl.symm) hp
  · cases r with
    | nil => exact rel rz
    | cons _ _ => exact .nil
section
variable {X : Cx} {CX : CXT} {ρ : Rho} {d : PyData} {ds : List PyData} {k i : Nat} {ps ks : List Str} {x : Str} {kws : List Keyword} {p pos : Pos} {sp : Sp} {R G : List PyData → PyData → Prop}
theorem Df.one (D : Df X.prog X.w X.K X.mg X.base CX k x ps sp) (V : Dv X.K X.mg x i) : ∃ (f : Addr) (fd : FuncData), X.mg x = some (.ref f) ∧ FnOk X.prog X.w X.K X.mg X.base CX k f fd ps sp ∧ PySem.W.keepIn X.K (.ref f) = true ∧ Fun X.K x x (top i) f fd := by
  obtain ⟨f, fd, hm, F, kp, b, o, lo, od⟩ := D.ex
  obtain ⟨f2, fd2, hm2, F2⟩ := V.ex
  rw [hm] at hm2
  cases hm2
  obtain ⟨o2, lo2, od2⟩ := F2.own
  rw [lo] at lo2
  cases lo2
  rw [od] at od2
  cases od2
  exact ⟨f, fd, hm, F, kp, F2⟩
/-- f(k = v): one keyword -/
theorem d_kw1 (D : Df X.prog X.w X.K X.mg X.base CX0 k x ps (spD R)) (V : Dv X.K X.mg x i) (bd : BindKOk x i ps ks fun ws => ws) (hr : Room k X.A) (h : R ds d) (ha : EK X kws ρ ds) (hp : ps ≠ [] := by exact fun z => nomatch z) (hg : Gl X x := by rfl) (hdb : (x == ("__debug__" : Str)) = false := by decide)
    (hall : (backToKw pos (keywordEach kws X.env)).all (·.1.isSome) = true := by rfl) (hks : (backToKw pos (keywordEach kws X.env)).filterMap (·.1) = ks := by rfl)
    (hpl : ((backTo pos (starEach [] X.env)).any (·.1) || (backToKw pos (keywordEach kws X.env)).any (·.1.isNone)) = false := by rfl) : ED X (.Call (.Name x p) [] kws pos) ρ d := by
  obtain ⟨f, fd, hm, F, kp, Fu⟩ := D.one V
  exact fun σ B H ex s Q kk => (pe_callK0 F hr hg hm kp (kb_of (πV := fun zs => zs) Fu bd hp fun r => r) pass0 pk_RK hall hks hdb hpl).re (ha σ B H ex s _ fun vs B1 H1 g1 e1 => ⟨B1, ds, d, g1.s, e1, h, fun v B2 H2 g2 e2 => kk v B2 H2 (g1.trans g2) e2⟩)
/-- f(b = v, a = w), the parameters a, b -/
theorem d_kw2 (D : Df X.prog X.w X.K X.mg X.base CX0 k x ps (spD R)) (V : Dv X.K X.mg x i) (bd : BindKOk x i ps ks List.reverse) (hr : Room k X.A) (h : R ds.reverse d) (ha : EK X kws ρ ds) (hp : ps ≠ [] := by exact fun z => nomatch z) (hg : Gl X x := by rfl) (hdb : (x == ("__debug__" : Str)) = false := by decide)
    (hall : (backToKw pos (keywordEach kws X.env)).all (·.1.isSome) = true := by rfl) (hks : (backToKw pos (keywordEach kws X.env)).filterMap (·.1) = ks := by rfl)
    (hpl : ((backTo pos (starEach [] X.env)).any (·.1) || (backToKw pos (keywordEach kws X.env)).any (·.1.isNone)) = false := by rfl) : ED X (.Call (.Name x p) [] kws pos) ρ d := by
  obtain ⟨f, fd, hm, F, kp, Fu⟩ := D.one V
  exact fun σ B H ex s Q kk => (pe_callK0 F hr hg hm kp (kb_of (πV := List.reverse) Fu bd hp vals_rev) pass0 pk_RK hall hks hdb hpl).re (ha σ B H ex s _ fun vs B1 H1 g1 e1 => ⟨B1, ds.reverse, d, g1.s, e1.rev, h, fun v B2 H2 g2 e2 => kk v B2 H2 (g1.trans g2) e2⟩)
/-- .. of a def that may raise, where it does not -/
theorem d_kw2X {C : Addr} (D : Df X.prog X.w X.K X.mg X.base (L2.CX X.prog X.w) k x ps (spX C R G)) (V : Dv X.K X.mg x i) (bd : BindKOk x i ps ks List.reverse) (hr : Room k X.A) (h : R ds.reverse d) (ha : EK X kws ρ ds) (hp : ps ≠ [] := by exact fun z => nomatch z) (hg : Gl X x := by rfl) (hdb : (x == ("__debug__" : Str)) = false := by decide)
    (hall : (backToKw pos (keywordEach kws X.env)).all (·.1.isSome) = true := by rfl) (hks : (backToKw pos (keywordEach kws X.env)).filterMap (·.1) = ks := by rfl)
    (hpl : ((backTo pos (starEach [] X.env)).any (·.1) || (backToKw pos (keywordEach kws X.env)).any (·.1.isNone)) = false := by rfl) : ED X (.Call (.Name x p) [] kws pos) ρ d := by
  obtain ⟨f, fd, hm, F, kp, Fu⟩ := D.one V
  exact fun σ B H ex s Q kk => (pe_callK0 F hr hg hm kp (kb_of (πV := List.reverse) Fu bd hp vals_rev) passL pk_RK hall hks hdb hpl).re (ha σ B H ex s _ fun vs B1 H1 g1 e1 => ⟨B1, ds.reverse, g1.s, e1.rev, .inl ⟨d, h, fun v B2 H2 g2 e2 => kk v B2 H2 (g1.trans g2) e2⟩⟩)
end
/-! ### defs by name, no guard around -/
section
variable (P : Program) (w : World) (K : PySem.W.Frag) (mg : Str → Option Value) (base : Heap)
structure DfG (k : Nat) (x : Str) (ps : List Str) (sp : Sp) : Prop where
  ex : ∃ (f : Addr) (fd : FuncData), mg x = some (.ref f) ∧ FnG P w K mg base k f fd ps sp ∧ PySem.W.keepIn K (.ref f) = true ∧ Binds K fd ps []
end
section
variable {P : Program} {w : World} {K : PySem.W.Frag} {mg : Str → Option Value} {base : Heap}
theorem df_G {x : Str} {i k : Nat} {N ps : List Str} {R : List PyData → PyData → Prop} (D : Dv K mg x i) (S : FnScope N ps (defScope (top i))) (bd : BindOk x i ps) (len : ∀ ds d, R ds d → ds.length = ps.length)
    (hb : ∀ (f : Addr) (cdv : Value) (A : Around) (outer : List Env) (s : Shared) (H : Hp) (E : XK) (ds : List PyData) (d : PyData), A.guards = some [] → Room k (A.deeper (envOfC x (defScope (top i)) s.heap.objs.size f cdv)) → R ds d →
      SX (cxOf CX0 P w K mg base N x (defScope (top i)) f cdv A outer s H E).nox 0 E0 (defBody (top i)) (ρ0 N ds) { N := fun _ => d = .none, R := fun d' => d' = d }) : DfG P w K mg base (k + 1) x ps (spD R) := by
  obtain ⟨f, fd, hm, F⟩ := D.ex
  refine ⟨f, fd, hm, Fun.okG F S (fun vs H Q E h => by obtain ⟨B, ds, d, _, h1, h2, _⟩ := h; rw [h1.len]; exact len _ _ h2) (fun cdv A outer s H vs Q E hgd hr h => ?_), F.kp, F.binds bd⟩
  obtain ⟨B, ds, d, ex, h1, h2, h3⟩ := h
  refine ⟨_, pss_RSs, hb f cdv A outer s H E ds d hgd hr h2 (L2.start N vs) B H _ ex (StD.start h1) (fun σ' B' H' ρ' g _ z => ?_) (fun v B' H' d' g e z => ?_) fun v B' H' d' x' g e z => z.elim⟩
  · subst z; exact h3 _ _ _ g .non
  · subst z; exact h3 _ _ _ g e
end
section
variable {X : Cx} {ρ : Rho} {e : Expr} {es : List Expr} {d : PyData} {ds : List PyData} {pos p : Pos} {x : Str} {k : Nat} {ps : List Str} {R : List PyData → PyData → Prop}
theorem d_dfG (D : DfG X.prog X.w X.K X.mg X.base k x ps (spD R)) (hgd : X.A.guards = some []) (hr : Room k X.A) (h : R ds d) (ha : EA X (e :: es) ρ ds) (hg : Gl X x := by rfl)
    (hdb : (x == ("__debug__" : Str)) = false := by decide) (hst : starEach (e :: es) X.env = (false, eval e X.env) :: starEach es X.env := by rfl) (hpl : (backTo pos (starEach es X.env)).any (·.1) = false := by rfl) : ED X (.Call (.Name x p) (e :: es) [] pos) ρ d := by
  obtain ⟨f, fd, hm, F, kp, b⟩ := D.ex
  exact fun σ B H ex s Q kk => (pe_callG F hgd hr hg hm kp b pa_RA hdb hst hpl).re (ha σ B H ex s _ fun vs B1 H1 g1 e1 => ⟨B1, ds, d, g1.s, e1, h, fun v B2 H2 g2 e2 => kk v B2 H2 (g1.trans g2) e2⟩)
end
end Wd

set_option Elab.async false
set_option linter.all false
set_option maxRecDepth 100000
set_option maxHeartbeats 4000000
/-! The shapes' defs. -/
namespace Wd
open PySem PySem.Spec PyProof.Rows L2 Evl Wx We
theorem r_eqI {X : Cx} {i j : Int} : BinR X (compareOp .Eq) (.int i) (.int j) (.bool (decide (i = j))) := ⟨_, op_eq, fun x y B H ex e1 e2 Q k => by
  obtain rfl := e1.int_of
  obtain rfl := e2.int_of
  refine ⟨rfl, ?_⟩
  rw [show decide (V.int i = V.int j) = decide (i = j) by simp]
  exact k _ B H (Gr.refl ex) (.bl _)⟩
theorem r_neI {X : Cx} {i j : Int} : BinR X (compareOp .NotEq) (.int i) (.int j) (.bool (!decide (i = j))) := ⟨_, op_ne, fun x y B H ex e1 e2 Q k => by
  obtain rfl := e1.int_of
  obtain rfl := e2.int_of
  refine ⟨rfl, ?_⟩
  rw [show decide (V.int i = V.int j) = decide (i = j) by simp]
  exact k _ B H (Gr.refl ex) (.bl _)⟩
theorem cut_frm {xs : List PyData} {i : Nat} : Wx.cutD xs (some (i : Int)) none = xs.drop i := by
  by_cases h : i ≤ xs.length
  · exact cut_from h
  · unfold Wx.cutD
    rw [HT.sIx_none, HT.sIx_nat, Nat.min_eq_right (by omega), List.drop_eq_nil_of_le (Nat.le_refl _), List.drop_eq_nil_of_le (by omega), List.take_nil]
theorem zs_drop (ns : List Nat) (i : Nat) : ((zs ns).map PyData.int).drop i = (zs (ns.drop i)).map PyData.int := by rw [← List.map_drop, ← List.map_drop]
theorem zs_take (ns : List Nat) (i : Nat) : ((zs ns).map PyData.int).take i = (zs (ns.take i)).map PyData.int := by rw [← List.map_take, ← List.map_take]
theorem zs_app (a b : List Nat) : (zs a).map PyData.int ++ (zs b).map PyData.int = (zs (a ++ b)).map PyData.int := by rw [← List.map_append, ← List.map_append]
theorem set_parts {ns : List Nat} {i k : Nat} (h : i < ns.length) : ns.take i ++ [k] ++ ns.drop (i + 1) = ns.set i k := by
  rw [List.set_eq_take_append_cons_drop, if_pos h, List.append_assoc]
  rfl
theorem any_zs {ns : List Nat} {i : Nat} : ((zs ns).any (· == (i : Int))) = decide (i ∈ ns) := by
  by_cases h : i ∈ ns
  · rw [decide_eq_true h]
    exact List.any_eq_true.mpr ⟨_, List.mem_map.mpr ⟨i, h, rfl⟩, beq_self_eq_true _⟩
  · rw [decide_eq_false h]
    refine List.any_eq_false.mpr fun x hx z => h ?_
    obtain ⟨n, hn, rfl⟩ := List.mem_map.mp hx
    have : (n : Int) = i := eq_of_beq z
    have : n = i := by omega
    rw [← this]; exact hn
section
variable {P : Program} {w : World} {K : PySem.W.Frag} {mg : Str → Option Value} {base : Heap} {f : Addr} {fd : FuncData}
theorem scTrim : FnScope ["numbers", "number"] ["numbers"] (defScope (top 22)) := ⟨rfl, rfl, rfl, by decide +kernel, rfl, by decide +kernel, by decide +kernel⟩
def RTrim : List PyData → PyData → Prop := fun ds d => ∃ ns : List Nat, ns.length ≤ 1000 ∧ ds = [nT ns] ∧ d = nT (ns.filter fun n => decide (0 < n))
theorem trimmed_df (M : Bt mg) (D : Dv K mg "trimmed" 22) : Df P w K mg base CX0 1 "trimmed" ["numbers"] (spD RTrim) := by
  refine df_D D scTrim (fun _ _ _ _ _ _ us hl => match us, hl with | [_], _ => rfl) (fun ds d h => by obtain ⟨ns, _, rfl, _⟩ := h; rfl) fun f cdv A outer s H E ds d hr h => ?_
  obtain ⟨ns, hl, rfl, rfl⟩ := h
  exact q_ret (d_callTy c_tupL (a_cons (d_lc (own := [("number", 1)]) (f := fun i => decide (0 < Wm.g ns i)) (v := fun i => .int (Wm.g ns i : Nat)) rfl scTrim.nd (blkOk_by (by kernel_rfl))
    (i_tup (n := ns.length) (d_var 0) (fun i hi => nT_at hi) (nT_len ns)) rfl (js := [1]) (fun j hj => hj) (by omega)
    (fun i _ _ _ _ _ _ => g_name 1 scTrim.nd) (fun i _ _ _ _ _ _ => ts_one (t_eq (t_cmp r_gt (d_var 1) d_int) (by simp))) fun i _ _ _ _ _ _ _ => d_var 1) a_nil) M.tuple) (items_nat ns fun n => decide (0 < n))
theorem scFlip : FnScope ["shape", "place", "part"] ["shape"] (defScope (top 23)) := ⟨rfl, rfl, rfl, by decide +kernel, rfl, by decide +kernel, by decide +kernel⟩
def RFlip : List PyData → PyData → Prop := fun ds d => ∃ ns : List Nat, ns.length ≤ 1000 ∧ Wm.g ns 0 ≤ 1000 ∧ ds = [nT ns] ∧ d = nT (Wm.flip ns)
theorem flipped_of_df (M : Bt mg) (D : Dv K mg "flipped_of" 23) : Df P w K mg base CX0 1 "flipped_of" ["shape"] (spD RFlip) := by
  refine df_D D scFlip (fun _ _ _ _ _ _ us hl => match us, hl with | [_], _ => rfl) (fun ds d h => by obtain ⟨ns, _, _, rfl, _⟩ := h; rfl) fun f cdv A outer s H E ds d hr h => ?_
  obtain ⟨ns, hl, hg, rfl, rfl⟩ := h
  have cnt : ∀ i : Nat, PyData.int ((itemsD ns.length (fun j => decide (i < Wm.g ns j)) (fun j => .int (Wm.g ns j : Nat))).length : Nat) = .int ((ns.filter fun n => decide (i < n)).length : Nat) := fun i => by
    have h := items_nat ns fun n => decide (i < n)
    injection h with h
    rw [h, nT_len]
  refine q_ret (d_callTy c_tupL (a_cons (d_lc (own := [("place", 1)]) (f := fun i => true) (v := fun i => .int ((ns.filter fun n => decide (i < n)).length : Nat)) rfl scFlip.nd (blkOk_by (by kernel_rfl))
    (i_rng (n := Wm.g ns 0) (m := (Wm.g ns 0 : Nat)) (a_cons (d_ifE (t_cmp r_gt (d_callB c_lenT (a_cons (d_var 0) a_nil) M.len) d_int) (fun z => d_ixT (nT_ix (i := 0) ?len) (d_var 0) d_int) (fun z => d_eq d_int ?zero)) a_nil) (by simp) (by omega) (by omega) M.range)
    rfl (js := [1]) (fun j hj => hj) (by omega) (fun i _ _ _ _ _ _ => g_name 1 scFlip.nd) (fun i _ _ _ _ _ _ => ts_nil) fun i _ _ _ _ _ _ _ => d_eq (d_callB c_lenL (a_cons (d_lc (own := [("part", 2)]) (f := fun j => decide (i < Wm.g ns j)) (v := fun j => .int (Wm.g ns j : Nat)) rfl scFlip.nd (blkOk_by (by kernel_rfl))
      (i_tup (n := ns.length) (d_var 0) (fun i hi => nT_at hi) (nT_len ns)) rfl (js := [2]) (fun j hj => hj) (by omega) (fun j _ _ _ _ _ _ => g_name 2 scFlip.nd) (fun j _ _ _ _ _ _ => ts_one (t_eq (t_cmp r_gt (d_var 2) (d_var 1)) (by simp))) fun j _ _ _ _ _ _ _ => d_var 2) a_nil) M.len) (cnt i)) a_nil) M.tuple) ?_
  case len =>
    rw [nT_len] at z
    have := of_decide_eq_true z
    omega
  case zero =>
    rw [nT_len] at z
    have := of_decide_eq_false z
    rw [Wm.g_ge (by omega)]
    rfl
  show PyData.tuple _ = PyData.tuple _
  rw [itemsD_all]
  unfold Wm.flip
  rw [List.map_map, List.map_map]
  rfl
theorem scCor : FnScope ["shape", "later", "row", "part"] ["shape"] (defScope (top 24)) := ⟨rfl, rfl, rfl, by decide +kernel, rfl, by decide +kernel, by decide +kernel⟩
def RCor : List PyData → PyData → Prop := fun ds d => ∃ ns : List Nat, ns.length ≤ 1000 ∧ ds = [nT ns] ∧ d = nT (Wm.corners ns)
theorem g_later {ns : List Nat} {i : Nat} (h : i < ns.length) : Wm.g (ns.drop 1 ++ [0]) i = Wm.g ns (i + 1) := by
  by_cases q : i + 1 < ns.length
  · rw [Wm.g_lt q, Wm.g_lt (by simp; omega), List.getElem_append_left (by simp; omega), List.getElem_drop]
    congr 1
    omega
  · rw [Wm.g_ge (i := i + 1) (by omega), Wm.g_lt (by simp; omega), List.getElem_append_right (by simp; omega)]
    simp
theorem corners_of_df (M : Bt mg) (D : Dv K mg "corners_of" 24) : Df P w K mg base CX0 1 "corners_of" ["shape"] (spD RCor) := by
  refine df_D D scCor (fun _ _ _ _ _ _ us hl => match us, hl with | [_], _ => rfl) (fun ds d h => by obtain ⟨ns, _, rfl, _⟩ := h; rfl) fun f cdv A outer s H E ds d hr h => ?_
  obtain ⟨ns, hl, rfl, rfl⟩ := h
  refine q_set 1 (d_eq (d2 := nT (ns.drop 1 ++ [0])) (d_bin (r_catT ?sz) (d_sl (d_var 0) (o_some d_int) o_none) (d_tup (a_cons d_int a_nil))) ?lat) (q_ret (d_callTy c_tupL (a_cons (d_lc (own := [("row", 2), ("part", 3)]) (f := Wm.isCorner ns) (v := fun i => .int (i : Nat)) rfl scCor.nd (blkOk_by (by kernel_rfl))
    (i_enum (n := ns.length) (d_var 0) (fun i hi => nT_at hi) (nT_len ns) M.enum) rfl (fun j hj => hj) (by omega) (fun i _ _ _ _ _ _ => g_pair rfl (g_name 2 scCor.nd) (g_name 3 scCor.nd)) (fun i hi _ _ _ _ _ => ts_one (t_eq (t_cmp r_gt (d_var 3) (d_ixT (nT_ix (i := i) ?ix) (d_var 1) (d_var 2))) ?tst)) fun i _ _ _ _ _ _ _ => d_var 2) a_nil) M.tuple) (items_ix ns.length _)) scCor.nd
  case sz => rw [show (1 : Int) = ((1 : Nat) : Int) from rfl, cut_frm, zs_drop, nT_len, List.length_drop]; simp; omega
  case lat => rw [show (1 : Int) = ((1 : Nat) : Int) from rfl, cut_frm, zs_drop]; exact congrArg PyData.tuple (zs_app _ [0])
  case ix => rw [List.length_append, List.length_drop]; simp; omega
  case tst =>
    rw [g_later hi]
    unfold Wm.isCorner
    simp
theorem scOut : FnScope ["shape", "found", "row", "part"] ["shape"] (defScope (top 25)) := ⟨rfl, rfl, rfl, by decide +kernel, rfl, by decide +kernel, by decide +kernel⟩
def ROut : List PyData → PyData → Prop := fun ds d => ∃ ns : List Nat, Wm.Shp ns ∧ ns.length ≤ 1000 ∧ ds = [nT ns] ∧ d = nT (Wm.outers ns)
theorem outers_of_df (M : Bt mg) (D : Dv K mg "outers_of" 25) : Df P w K mg base CX0 1 "outers_of" ["shape"] (spD ROut) := by
  refine df_D D scOut (fun _ _ _ _ _ _ us hl => match us, hl with | [_], _ => rfl) (fun ds d h => by obtain ⟨ns, _, _, rfl, _⟩ := h; rfl) fun f cdv A outer s H E ds d hr h => ?_
  obtain ⟨ns, sh, hl, rfl, rfl⟩ := h
  refine q_lc 1 (own := [("row", 2), ("part", 3)]) (f := Wm.isOuter ns) (v := fun i => .int (i : Nat)) rfl scOut.nd (blkOk_by (by kernel_rfl))
    (i_enum (n := ns.length) (d_var 0) (fun i hi => nT_at hi) (nT_len ns) M.enum) rfl (fun j hj => hj) (by omega) (fun i _ _ _ _ _ _ => g_pair rfl (g_name 2 scOut.nd) (g_name 3 scOut.nd))
    (fun i hi _ _ _ _ _ => ts_one (t_w (w_or (t_eq (q := i == 0) (t_cmp r_eqI (d_var 2) d_int) ?t0) fun z => w_or1 (t_eq (t_cmp r_gt (d_ixT (nT_ix (ns := ns) (i := i - 1) (by omega)) (d_var 0) (d_eq (d_bin r_sub (d_var 2) d_int) ?im)) (d_var 3)) ?t1))))
    (fun i _ _ _ _ _ _ _ => d_var 2) rfl (sw_true rfl rfl rfl (by decide +kernel)) (q_ret (d_callTy c_tupL (a_cons (d_bin (r_catL ?sz) (d_var 1) (d_lst (a_cons (d_callB c_lenT (a_cons (d_var 0) a_nil) M.len) a_nil))) a_nil) M.tuple) ?fin)
  case t0 =>
    rw [Bool.eq_iff_iff, decide_eq_true_eq, beq_iff_eq]
    omega
  case im =>
    have : i ≠ 0 := fun e => by rw [e] at z; cases z
    exact congrArg PyData.int (by omega)
  case t1 => rw [Bool.eq_iff_iff, decide_eq_true_eq, decide_eq_true_eq]; omega
  case sz => have := itemsD_len ns.length (Wm.isOuter ns) fun i => .int (i : Nat); simp; omega
  case fin =>
    show PyData.tuple _ = PyData.tuple ((zs (Wm.outers ns)).map PyData.int)
    rw [Wm.outers_eq sh, ← zs_app]
    have h := items_ix ns.length (Wm.isOuter ns)
    injection h with h
    rw [h, nT_len]
    rfl
end
end Wd

set_option Elab.async false
set_option linter.all false
set_option maxRecDepth 100000
set_option maxHeartbeats 4000000
/-! The shapes' defs, the public ones. -/
namespace Wd
open PySem PySem.Spec PyProof.Rows L2 Evl Wx We
section
variable {P : Program} {w : World} {K : PySem.W.Frag} {mg : Str → Option Value} {base : Heap}
abbrev Cn (mg : Str → Option Value) : Prop := ∃ t, mg "MOST_BOXES" = some (.int 40 t)
theorem scMore : FnScope ["shape", "row"] ["shape", "row"] (defScope (top 26)) := ⟨rfl, rfl, rfl, by decide +kernel, rfl, by decide +kernel, by decide +kernel⟩
def RMore : List PyData → PyData → Prop := fun ds d => ∃ (ns : List Nat) (i : Nat), ns.length ≤ 1000 ∧ i ≤ ns.length ∧ ds = [nT ns, .int (i : Nat)] ∧ d = nT (Wm.more ns i)
theorem more_of_df (M : Bt mg) (D : Dv K mg "more_of" 26) : Df P w K mg base CX0 1 "more_of" ["shape", "row"] (spD RMore) := by
  refine df_D D scMore (fun _ _ _ _ _ _ us hl => match us, hl with | [_, _], _ => rfl) (fun ds d h => by obtain ⟨_, _, _, _, rfl, _⟩ := h; rfl) fun f cdv A outer s H E ds d hr h => ?_
  obtain ⟨ns, i, hl, hi, rfl, rfl⟩ := h
  refine q_ret (d_ifE (t_eq (q := decide (i = ns.length)) (t_cmp r_eqI (d_var 1) (d_callB c_lenT (a_cons (d_var 0) a_nil) M.len)) ?t) (fun z => d_eq (d_bin (r_catT ?s1) (d_var 0) (d_tup (a_cons d_int a_nil))) ?e1)
    fun z => d_eq (d_bin (r_catT ?s2) (d_bin (r_catT ?s3) (d_sl (d_var 0) o_none (o_some (d_var 1))) (d_tup (a_cons (d_bin r_add (d_ixT (nT_ix (ns := ns) (i := i) (by have := of_decide_eq_false z; omega)) (d_var 0) (d_var 1)) d_int) a_nil))) (d_sl (d_var 0) (o_some (d_bin r_add (d_var 1) d_int)) o_none)) ?e2) rfl
  case t => rw [nT_len, Bool.eq_iff_iff, decide_eq_true_eq, decide_eq_true_eq]; omega
  case s1 => rw [nT_len]; simp; omega
  case e1 =>
    have e := of_decide_eq_true z
    unfold Wm.more
    rw [if_pos e]
    exact congrArg PyData.tuple (zs_app ns [1])
  case s3 => rw [cut_to (by rw [nT_len]; omega), zs_take, nT_len, List.length_take]; simp; omega
  case s2 => rw [cut_to (by rw [nT_len]; omega), show (i : Int) + 1 = ((i + 1 : Nat) : Int) from rfl, cut_frm, zs_take, zs_drop, List.length_append, nT_len, nT_len, List.length_take, List.length_drop]; simp; omega
  case e2 =>
    have e := of_decide_eq_false z
    rw [cut_to (by rw [nT_len]; omega), show (i : Int) + 1 = ((i + 1 : Nat) : Int) from rfl, cut_frm, zs_take, zs_drop]
    unfold Wm.more
    rw [if_neg e, ← set_parts (by omega)]
    show PyData.tuple _ = PyData.tuple ((zs _).map PyData.int)
    rw [← zs_app, ← zs_app]
    rfl
theorem scLess : FnScope ["shape", "row"] ["shape", "row"] (defScope (top 27)) := ⟨rfl, rfl, rfl, by decide +kernel, rfl, by decide +kernel, by decide +kernel⟩
def RLess : List PyData → PyData → Prop := fun ds d => ∃ (ns : List Nat) (i : Nat), ns.length ≤ 900 ∧ i < ns.length ∧ 1 ≤ Wm.g ns i ∧ ds = [nT ns, .int (i : Nat)] ∧ d = nT (Wm.less ns i)
theorem less_of_df (D : Dv K mg "less_of" 27) (D1 : Df P w K mg base CX0 1 "trimmed" ["numbers"] (spD RTrim)) : Df P w K mg base CX0 2 "less_of" ["shape", "row"] (spD RLess) := by
  refine df_D D scLess (fun _ _ _ _ _ _ us hl => match us, hl with | [_, _], _ => rfl) (fun ds d h => by obtain ⟨_, _, _, _, _, rfl, _⟩ := h; rfl) fun f cdv A outer s H E ds d hr h => ?_
  obtain ⟨ns, i, hl, hi, h1, rfl, rfl⟩ := h
  refine q_ret (d_df D1 hr ⟨ns.set i (Wm.g ns i - 1), by rw [List.length_set]; omega, rfl, rfl⟩ (a_cons (d_eq (d2 := nT (ns.set i (Wm.g ns i - 1))) (d_bin (r_catT ?s2) (d_bin (r_catT ?s3) (d_sl (d_var 0) o_none (o_some (d_var 1))) (d_tup (a_cons (d_bin r_sub (d_ixT (nT_ix (ns := ns) (i := i) hi) (d_var 0) (d_var 1)) d_int) a_nil))) (d_sl (d_var 0) (o_some (d_bin r_add (d_var 1) d_int)) o_none)) ?e2) a_nil)) rfl
  case s3 => rw [cut_to (by rw [nT_len]; omega), zs_take, nT_len, List.length_take]; simp; omega
  case s2 => rw [cut_to (by rw [nT_len]; omega), show (i : Int) + 1 = ((i + 1 : Nat) : Int) from rfl, cut_frm, zs_take, zs_drop, List.length_append, nT_len, nT_len, List.length_take, List.length_drop]; simp; omega
  case e2 =>
    rw [cut_to (by rw [nT_len]; omega), show (i : Int) + 1 = ((i + 1 : Nat) : Int) from rfl, cut_frm, zs_take, zs_drop, ← set_parts hi]
    show PyData.tuple _ = PyData.tuple ((zs _).map PyData.int)
    rw [← zs_app, ← zs_app, show ((Wm.g ns i : Nat) : Int) - 1 = ((Wm.g ns i - 1 : Nat) : Int) by omega]
    rfl
theorem scHeld : FnScope ["inner", "outer", "row", "part"] ["inner", "outer"] (defScope (top 28)) := ⟨rfl, rfl, rfl, by decide +kernel, rfl, by decide +kernel, by decide +kernel⟩
def RHeld : List PyData → PyData → Prop := fun ds d => ∃ a o : List Nat, a.length ≤ 1000 ∧ ds = [nT a, nT o] ∧ d = .bool (Wm.held a o)
theorem is_held_df (M : Bt mg) (D : Dv K mg "is_held" 28) : Df P w K mg base CX0 1 "is_held" ["inner", "outer"] (spD RHeld) := by
  refine df_D D scHeld (fun _ _ _ _ _ _ us hl => match us, hl with | [_, _], _ => rfl) (fun ds d h => by obtain ⟨_, _, _, rfl, _⟩ := h; rfl) fun f cdv A outer s H E ds d hr h => ?_
  obtain ⟨a, o, hl, rfl, rfl⟩ := h
  refine q_ret (d_and (p := decide (a.length ≤ o.length)) (q := (List.range a.length).all fun i => decide (Wm.g a i ≤ Wm.g o i)) (d_eq (d_cmp r_le (d_callB c_lenT (a_cons (d_var 0) a_nil) M.len) (d_callB c_lenT (a_cons (d_var 1) a_nil) M.len)) ?l) fun z => d_one (d_callB (c_allI rfl)
    (a_cons (d_lc (own := [("row", 2), ("part", 3)]) (f := fun _ => true) (v := fun i => .bool (decide (Wm.g a i ≤ Wm.g o i))) rfl scHeld.nd (blkOk_by (by kernel_rfl)) (i_enum (n := a.length) (d_var 0) (fun i hi => nT_at hi) (nT_len a) M.enum) rfl (fun j hj => hj) (by omega)
      (fun i _ _ _ _ _ _ => g_pair rfl (g_name 2 scHeld.nd) (g_name 3 scHeld.nd)) (fun i _ _ _ _ _ _ => ts_nil) fun i hi _ _ _ _ _ _ => d_eq (d_cmp r_le (d_var 3) (d_ixT (nT_ix (ns := o) (i := i) (Nat.lt_of_lt_of_le hi (of_decide_eq_true z))) (d_var 1) (d_var 2))) (congrArg PyData.bool (by rw [Bool.eq_iff_iff, decide_eq_true_eq, decide_eq_true_eq]; omega))) a_nil) M.all)) rfl
  case l => rw [nT_len, nT_len]; exact congrArg PyData.bool (by rw [Bool.eq_iff_iff, decide_eq_true_eq, decide_eq_true_eq]; omega)
/-! ### the public ones -/
abbrev SHP (ns : List Nat) : Prop := Wm.Shp ns ∧ ns.sum ≤ 40
theorem SHP.l {ns : List Nat} (h : SHP ns) : ns.length ≤ 40 := Nat.le_trans h.1.len_sum h.2
theorem SHP.g0 {ns : List Nat} (h : SHP ns) (i : Nat) : Wm.g ns i ≤ 40 := Nat.le_trans (Wm.g_le_sum i) h.2
abbrev DChk (P : Program) (w : World) (K : PySem.W.Frag) (mg : Str → Option Value) (base : Heap) : Prop := Df P w K mg base CX0 3 "check_shape" ["value", "most"] (spD RCheck)
theorem scF1 : FnScope ["shape"] ["shape"] (defScope (top 29)) := ⟨rfl, rfl, rfl, by decide +kernel, rfl, by decide +kernel, by decide +kernel⟩
def RF1 (R : List Nat → List Nat) : List PyData → PyData → Prop := fun ds d => ∃ ns : List Nat, SHP ns ∧ ds = [nT ns] ∧ d = nT (R ns)
theorem flipped_df (C : Cn mg) (D : Dv K mg "flipped" 29) (D1 : DChk P w K mg base) (D2 : Df P w K mg base CX0 1 "flipped_of" ["shape"] (spD RFlip)) : Df P w K mg base CX0 4 "flipped" ["shape"] (spD (RF1 Wm.flip)) := by
  refine df_D D scF1 (fun _ _ _ _ _ _ us hl => match us, hl with | [_], _ => rfl) (fun ds d h => by obtain ⟨_, _, rfl, _⟩ := h; rfl) fun f cdv A outer s H E ds d hr h => ?_
  obtain ⟨ns, sh, rfl, rfl⟩ := h
  obtain ⟨t, ht⟩ := C
  exact q_expr (d_df D1 hr ⟨ns, sh.1, sh.2, rfl, rfl⟩ (a_cons (d_var 0) (a_cons (d_glob ht) a_nil))) (q_ret (d_df (D2.up (by decide)) hr ⟨ns, by have := sh.l; omega, by have := sh.g0 0; omega, rfl, rfl⟩ (a_cons (d_var 0) a_nil)) rfl)
theorem scF2 : FnScope ["outer", "inner"] ["outer", "inner"] (defScope (top 30)) := ⟨rfl, rfl, rfl, by decide +kernel, rfl, by decide +kernel, by decide +kernel⟩
def RHolds : List PyData → PyData → Prop := fun ds d => ∃ o a : List Nat, SHP o ∧ SHP a ∧ ds = [nT o, nT a] ∧ d = .bool (Wm.held a o)
theorem holds_df (C : Cn mg) (D : Dv K mg "holds" 30) (D1 : DChk P w K mg base) (D2 : Df P w K mg base CX0 1 "is_held" ["inner", "outer"] (spD RHeld)) : Df P w K mg base CX0 4 "holds" ["outer", "inner"] (spD RHolds) := by
  refine df_D D scF2 (fun _ _ _ _ _ _ us hl => match us, hl with | [_, _], _ => rfl) (fun ds d h => by obtain ⟨_, _, _, _, rfl, _⟩ := h; rfl) fun f cdv A outer s H E ds d hr h => ?_
  obtain ⟨o, a, sh, sa, rfl, rfl⟩ := h
  obtain ⟨t, ht⟩ := C
  exact q_expr (d_df D1 hr ⟨o, sh.1, sh.2, rfl, rfl⟩ (a_cons (d_var 0) (a_cons (d_glob ht) a_nil))) (q_expr (d_df D1 hr ⟨a, sa.1, sa.2, rfl, rfl⟩ (a_cons (d_var 1) (a_cons (d_glob ht) a_nil))) (q_ret (d_df (D2.up (by decide)) hr ⟨a, o, by have := sa.l; omega, rfl, rfl⟩ (a_cons (d_var 1) (a_cons (d_var 0) a_nil))) rfl))
theorem scF3 : FnScope ["shape"] ["shape"] (defScope (top 31)) := ⟨rfl, rfl, rfl, by decide +kernel, rfl, by decide +kernel, by decide +kernel⟩
theorem corner_rows_df (C : Cn mg) (D : Dv K mg "corner_rows" 31) (D1 : DChk P w K mg base) (D2 : Df P w K mg base CX0 1 "corners_of" ["shape"] (spD RCor)) : Df P w K mg base CX0 4 "corner_rows" ["shape"] (spD (RF1 Wm.corners)) := by
  refine df_D D scF3 (fun _ _ _ _ _ _ us hl => match us, hl with | [_], _ => rfl) (fun ds d h => by obtain ⟨_, _, rfl, _⟩ := h; rfl) fun f cdv A outer s H E ds d hr h => ?_
  obtain ⟨ns, sh, rfl, rfl⟩ := h
  obtain ⟨t, ht⟩ := C
  exact q_expr (d_df D1 hr ⟨ns, sh.1, sh.2, rfl, rfl⟩ (a_cons (d_var 0) (a_cons (d_glob ht) a_nil))) (q_ret (d_df (D2.up (by decide)) hr ⟨ns, by have := sh.l; omega, rfl, rfl⟩ (a_cons (d_var 0) a_nil)) rfl)
theorem scF4 : FnScope ["shape"] ["shape"] (defScope (top 32)) := ⟨rfl, rfl, rfl, by decide +kernel, rfl, by decide +kernel, by decide +kernel⟩
theorem outer_rows_df (C : Cn mg) (D : Dv K mg "outer_rows" 32) (D1 : DChk P w K mg base) (D2 : Df P w K mg base CX0 1 "outers_of" ["shape"] (spD ROut)) : Df P w K mg base CX0 4 "outer_rows" ["shape"] (spD (RF1 Wm.outers)) := by
  refine df_D D scF4 (fun _ _ _ _ _ _ us hl => match us, hl with | [_], _ => rfl) (fun ds d h => by obtain ⟨_, _, rfl, _⟩ := h; rfl) fun f cdv A outer s H E ds d hr h => ?_
  obtain ⟨ns, sh, rfl, rfl⟩ := h
  obtain ⟨t, ht⟩ := C
  exact q_expr (d_df D1 hr ⟨ns, sh.1, sh.2, rfl, rfl⟩ (a_cons (d_var 0) (a_cons (d_glob ht) a_nil))) (q_ret (d_df (D2.up (by decide)) hr ⟨ns, sh.1, by have := sh.l; omega, rfl, rfl⟩ (a_cons (d_var 0) a_nil)) rfl)
end
end Wd

set_option Elab.async false
set_option linter.all false
set_option maxRecDepth 100000
set_option maxHeartbeats 4000000
/-! with_box, without_box: they may raise InvalidRow. -/
namespace Wd
open PySem PySem.Spec PyProof.Rows L2 Evl Wx We
/-- the class InvalidRow as it stands -/
structure Rw (P : Program) (K : PySem.W.Frag) (mg : Str → Option Value) (C : Addr) : Prop where
  sup : ∃ f cc cda, SupC P K C f cc cda
  at_ : mg "InvalidRow" = some (.ref C)
  no : mg "super" = none
section
variable {P : Program} {w : World} {K : PySem.W.Frag} {mg : Str → Option Value} {base : Heap} {C : Addr}
theorem df_X {x : Str} {i k : Nat} {N ps : List Str} {R G : List PyData → PyData → Prop} (D : Dv K mg x i) (S : FnScope N ps (defScope (top i))) (bd : BindOk x i ps) (len : ∀ ds d, R ds d → ds.length = ps.length) (len2 : ∀ ds d, G ds d → ds.length = ps.length)
    (hb : ∀ (f : Addr) (cdv : Value) (A : Around) (outer : List Env) (s : Shared) (H : Hp) (E : XK) (ds : List PyData) (d : PyData), Room k (A.deeper (envOfC x (defScope (top i)) s.heap.objs.size f cdv)) → R ds d →
      SX (cxOf (L2.CX P w) P w K mg base N x (defScope (top i)) f cdv A outer s H E) C E (defBody (top i)) (ρ0 N ds) { N := fun _ => d = .none, R := fun d' => d' = d })
    (hx : ∀ (f : Addr) (cdv : Value) (A : Around) (outer : List Env) (s : Shared) (H : Hp) (E : XK) (ds : List PyData) (d : PyData), Room k (A.deeper (envOfC x (defScope (top i)) s.heap.objs.size f cdv)) → G ds d →
      SX (cxOf (L2.CX P w) P w K mg base N x (defScope (top i)) f cdv A outer s H E) C E (defBody (top i)) (ρ0 N ds) { G := fun d' => d' = d }) : Df P w K mg base (L2.CX P w) (k + 1) x ps (spX C R G) := by
  obtain ⟨f, fd, hm, F⟩ := D.ex
  exact ⟨f, fd, hm, fn_X F S len len2 (hb f) (hx f), F.kp, F.binds bd, F.own⟩
/-- raise InvalidRow(e) -/
theorem q_row {X : Cx} {E : XK} {ρ : Rho} {e : Expr} {rest : List Stmt} {d : PyData} {pos pp p2 : Pos} {o : Po} (T : Rw X.prog X.K X.mg C) (hr : Room 1 X.A) (hc : X.calm = true) (tk : Takes X fun cls d _ H => E cls d H) (he : ED X e ρ d) (hG : o.G d) (hg : Gl X "InvalidRow" := by rfl)
    (hst : starEach [e] X.env = (false, eval e X.env) :: starEach [] X.env := by rfl) : SX X C E (.Raise (some (.Call (.Name "InvalidRow" pp) [e] [] p2)) none pos :: rest) ρ o := by
  obtain ⟨f, cc, cda, S⟩ := T.sup
  exact q_raise hc tk (pmk_row S T.no hr hg T.at_ pe_RE hst) (fun cls d σ H h => h) (fun σ B H ex s Q k => he σ B H ex s _ fun v B1 H1 g1 e1 => ⟨v, rfl, fun x hx => k v B1 H1 x g1 e1 hx⟩) hG
theorem scWith : FnScope ["shape", "row"] ["shape", "row"] (defScope (top 33)) := ⟨rfl, rfl, rfl, by decide +kernel, rfl, by decide +kernel, by decide +kernel⟩
def RWith : List PyData → PyData → Prop := fun ds d => ∃ (ns : List Nat) (i : Nat), SHP ns ∧ ns.sum < 40 ∧ i ≤ ns.length ∧ Wm.isOuter ns i = true ∧ ds = [nT ns, .int (i : Nat)] ∧ d = nT (Wm.more ns i)
def GWith : List PyData → PyData → Prop := fun ds d => ∃ (ns : List Nat) (i : Nat), SHP ns ∧ ¬ (i ≤ ns.length ∧ Wm.isOuter ns i = true) ∧ ds = [nT ns, .int (i : Nat)] ∧ d = .int (i : Nat)
abbrev DNum (P : Program) (w : World) (K : PySem.W.Frag) (mg : Str → Option Value) (base : Heap) : Prop := Df P w K mg base CX0 1 "is_number" ["value", "low", "high"] (spD RNum)
theorem with_box_df (M : Bt mg) (Cc : Cn mg) (T : Rw P K mg C) (D : Dv K mg "with_box" 33) (D1 : DChk P w K mg base) (D2 : DNum P w K mg base) (D3 : Df P w K mg base CX0 1 "outers_of" ["shape"] (spD ROut)) (D4 : Df P w K mg base CX0 1 "more_of" ["shape", "row"] (spD RMore)) :
    Df P w K mg base (L2.CX P w) 4 "with_box" ["shape", "row"] (spX C RWith GWith) := by
  obtain ⟨t, ht⟩ := Cc
  refine df_X D scWith (fun _ _ _ _ _ _ us hl => match us, hl with | [_, _], _ => rfl) (fun ds d h => by obtain ⟨_, _, _, _, _, _, rfl, _⟩ := h; rfl) (fun ds d h => by obtain ⟨_, _, _, _, rfl, _⟩ := h; rfl) (fun f cdv A outer s H E ds d hr h => ?_) fun f cdv A outer s H E ds d hr h => ?_
  · obtain ⟨ns, i, sh, hs, hi, ho, rfl, rfl⟩ := h
    have hl := sh.l
    refine q_expr (d_df D1 hr ⟨ns, sh.1, sh.2, rfl, rfl⟩ (a_cons (d_var 0) (a_cons (d_glob ht) a_nil))) (q_when (p := false) (t_w (w_or (t_not (p := true) (t_val (d_eq (d_df (D2.up (by decide)) hr ⟨(i : Nat), 0, 40, rfl, rfl⟩ (a_cons (d_var 1) (a_cons d_int (a_cons (d_glob ht) a_nil)))) ?n))) fun _ =>
      w_or1 (t_eq (t_cmp r_niI (d_var 1) (d_df (D3.up (by decide)) hr ⟨ns, sh.1, by omega, rfl, rfl⟩ (a_cons (d_var 0) a_nil))) ?m))) (fun z => nomatch z) fun _ => q_when (p := false) (t_eq (t_cmp r_eqI (d_callB (c_sumT rfl) (a_cons (d_var 0) a_nil) M.sum) (d_glob ht)) ?s0) (fun z => nomatch z) fun _ =>
      q_ret (d_df (D4.up (by decide)) hr ⟨ns, i, by omega, hi, rfl, rfl⟩ (a_cons (d_var 0) (a_cons (d_var 1) a_nil))) rfl)
    case n => exact congrArg PyData.bool (by rw [Bool.and_eq_true]; exact ⟨decide_eq_true (by omega), decide_eq_true (by omega)⟩)
    case m => rw [any_zs, decide_eq_true (Wm.mem_outers.mpr ⟨hi, ho⟩)]; rfl
    case s0 => rw [sum_zs]; exact decide_eq_false (by omega)
  · obtain ⟨ns, i, sh, ho, rfl, rfl⟩ := h
    have hl := sh.l
    refine q_expr (d_df D1 hr ⟨ns, sh.1, sh.2, rfl, rfl⟩ (a_cons (d_var 0) (a_cons (d_glob ht) a_nil))) (q_when (p := true) (t_w (t_eq' (w_or (t_not (t_val (d_df (D2.up (by decide)) hr ⟨(i : Nat), 0, 40, rfl, rfl⟩ (a_cons (d_var 1) (a_cons d_int (a_cons (d_glob ht) a_nil)))))) fun _ =>
      w_or1 (t_eq (q := true) (t_cmp r_niI (d_var 1) (d_df (D3.up (by decide)) hr ⟨ns, sh.1, by omega, rfl, rfl⟩ (a_cons (d_var 0) a_nil))) ?m)) (Bool.or_true _))) (fun _ => q_row T (hr.mono (by decide)) rfl (takes_of rfl rfl rfl rfl) (d_var 1) rfl) fun z => nomatch z)
    case m => rw [any_zs, decide_eq_false (fun z => ho (Wm.mem_outers.mp z))]; rfl
theorem scWithout : FnScope ["shape", "row"] ["shape", "row"] (defScope (top 34)) := ⟨rfl, rfl, rfl, by decide +kernel, rfl, by decide +kernel, by decide +kernel⟩
def RWout : List PyData → PyData → Prop := fun ds d => ∃ (ns : List Nat) (i : Nat), SHP ns ∧ Wm.isCorner ns i = true ∧ ds = [nT ns, .int (i : Nat)] ∧ d = nT (Wm.less ns i)
def GWout : List PyData → PyData → Prop := fun ds d => ∃ (ns : List Nat) (i : Nat), SHP ns ∧ Wm.isCorner ns i = false ∧ ds = [nT ns, .int (i : Nat)] ∧ d = .int (i : Nat)
theorem without_box_df (Cc : Cn mg) (T : Rw P K mg C) (D : Dv K mg "without_box" 34) (D1 : DChk P w K mg base) (D2 : DNum P w K mg base) (D3 : Df P w K mg base CX0 1 "corners_of" ["shape"] (spD RCor)) (D4 : Df P w K mg base CX0 2 "less_of" ["shape", "row"] (spD RLess)) :
    Df P w K mg base (L2.CX P w) 4 "without_box" ["shape", "row"] (spX C RWout GWout) := by
  obtain ⟨t, ht⟩ := Cc
  refine df_X D scWithout (fun _ _ _ _ _ _ us hl => match us, hl with | [_, _], _ => rfl) (fun ds d h => by obtain ⟨_, _, _, _, rfl, _⟩ := h; rfl) (fun ds d h => by obtain ⟨_, _, _, _, rfl, _⟩ := h; rfl) (fun f cdv A outer s H E ds d hr h => ?_) fun f cdv A outer s H E ds d hr h => ?_
  · obtain ⟨ns, i, sh, ho, rfl, rfl⟩ := h
    have hl := sh.l
    have hi := Wm.corner_lt ho
    have hp := sh.1.pos i hi
    refine q_expr (d_df D1 hr ⟨ns, sh.1, sh.2, rfl, rfl⟩ (a_cons (d_var 0) (a_cons (d_glob ht) a_nil))) (q_when (p := false) (t_w (w_or (t_not (p := true) (t_val (d_eq (d_df (D2.up (by decide)) hr ⟨(i : Nat), 0, 40, rfl, rfl⟩ (a_cons (d_var 1) (a_cons d_int (a_cons (d_glob ht) a_nil)))) ?n))) fun _ =>
      w_or1 (t_eq (t_cmp r_niI (d_var 1) (d_df (D3.up (by decide)) hr ⟨ns, by omega, rfl, rfl⟩ (a_cons (d_var 0) a_nil))) ?m))) (fun z => nomatch z) fun _ =>
      q_ret (d_df (D4.up (by decide)) hr ⟨ns, i, by omega, hi, hp, rfl, rfl⟩ (a_cons (d_var 0) (a_cons (d_var 1) a_nil))) rfl)
    case n => exact congrArg PyData.bool (by rw [Bool.and_eq_true]; exact ⟨decide_eq_true (by omega), decide_eq_true (by omega)⟩)
    case m => rw [any_zs, decide_eq_true (Wm.mem_corners.mpr ⟨hi, ho⟩)]; rfl
  · obtain ⟨ns, i, sh, ho, rfl, rfl⟩ := h
    have hl := sh.l
    refine q_expr (d_df D1 hr ⟨ns, sh.1, sh.2, rfl, rfl⟩ (a_cons (d_var 0) (a_cons (d_glob ht) a_nil))) (q_when (p := true) (t_w (t_eq' (w_or (t_not (t_val (d_df (D2.up (by decide)) hr ⟨(i : Nat), 0, 40, rfl, rfl⟩ (a_cons (d_var 1) (a_cons d_int (a_cons (d_glob ht) a_nil)))))) fun _ =>
      w_or1 (t_eq (q := true) (t_cmp r_niI (d_var 1) (d_df (D3.up (by decide)) hr ⟨ns, by omega, rfl, rfl⟩ (a_cons (d_var 0) a_nil))) ?m)) (Bool.or_true _))) (fun _ => q_row T (hr.mono (by decide)) rfl (takes_of rfl rfl rfl rfl) (d_var 1) rfl) fun z => nomatch z)
    case m => rw [any_zs, decide_eq_false (fun z => by have := (Wm.mem_corners.mp z).2; rw [ho] at this; cases this)]; rfl
end
end Wd

set_option Elab.async false
set_option linter.all false
set_option maxRecDepth 100000
set_option maxHeartbeats 4000000
/-! Words and tables: the defs. -/
namespace Wd
open PySem PySem.Spec PyProof.Rows L2 Evl Wx We
structure Ck (mg : Str → Option Value) : Prop where
  letter : ∃ t, mg "MOST_LETTER" = some (.int 12 t)
  long : ∃ t, mg "MOST_LONG" = some (.int 12 t)
/-- rows as data -/
abbrev rT (rows : List (List Nat)) : PyData := .tuple (rows.map nT)
theorem rT_at {rows : List (List Nat)} {i : Nat} (h : i < rows.length) : (rows.map nT)[i]? = some (nT (rows.getD i [])) := by
  rw [List.getElem?_map, List.getD_eq_getElem?_getD, List.getElem?_eq_getElem h]; rfl
theorem rT_ix {rows : List (List Nat)} {i : Nat} (h : i < rows.length) : atI (rows.map nT) (i : Int) = some (nT (rows.getD i [])) := atI_nat (rT_at h)
theorem items_rows (rows : List (List Nat)) (p : List Nat → Bool) : itemsD rows.length (fun i => p (rows.getD i [])) (fun i => nT (rows.getD i [])) = (rows.filter p).map nT := items_list rows [] p nT
def oD : Option Nat → PyData
  | none => .none
  | some y => .int (y : Nat)
section
variable {P : Program} {w : World} {K : PySem.W.Frag} {mg : Str → Option Value} {base : Heap}
def RInt : List PyData → PyData → Prop := fun ds d => ∃ i : Int, ds = [.int i] ∧ d = .bool true
theorem scInt : FnScope ["value"] ["value"] (defScope (top 37)) := ⟨rfl, rfl, rfl, by decide +kernel, rfl, by decide +kernel, by decide +kernel⟩
theorem is_integer_df (M : Bt mg) (D : Dv K mg "is_integer" 37) : Df P w K mg base CX0 1 "is_integer" ["value"] (spD RInt) := by
  refine df_D D scInt (fun _ _ _ _ _ _ us hl => match us, hl with | [_], _ => rfl) (fun ds d h => by obtain ⟨_, rfl, _⟩ := h; rfl) fun f cdv A outer s H E ds d hr h => ?_
  obtain ⟨i, rfl, rfl⟩ := h
  exact q_ret (d_and (p := true) (d_isI (i := i) (d_var 0) M.isi M.int) fun _ => d_one (d_not (p := false) (d_isB (i := i) (d_var 0) M.isi M.bool))) rfl
theorem scWithin : FnScope ["value", "low", "high"] ["value", "low", "high"] (defScope (top 38)) := ⟨rfl, rfl, rfl, by decide +kernel, rfl, by decide +kernel, by decide +kernel⟩
theorem is_within_df (D : Dv K mg "is_within" 38) (D1 : Df P w K mg base CX0 1 "is_integer" ["value"] (spD RInt)) : Df P w K mg base CX0 2 "is_within" ["value", "low", "high"] (spD RNum) := by
  refine df_D D scWithin (fun _ _ _ _ _ _ us hl => match us, hl with | [_, _, _], _ => rfl) (fun ds d h => by obtain ⟨_, _, _, rfl, _⟩ := h; rfl) fun f cdv A outer s H E ds d hr h => ?_
  obtain ⟨i, lo, hi, rfl, rfl⟩ := h
  exact q_ret (d_and (p := true) (d_df D1 hr ⟨i, rfl, rfl⟩ (a_cons (d_var 0) a_nil)) fun _ => d_one (d_chain (d_var 1) (d_var 0) (d_var 2))) rfl
def RLet : List PyData → PyData → Prop := fun ds d => ∃ n : Nat, 1 ≤ n ∧ n ≤ 12 ∧ ds = [.int (n : Nat)] ∧ d = .bool true
theorem scLet : FnScope ["value"] ["value"] (defScope (top 39)) := ⟨rfl, rfl, rfl, by decide +kernel, rfl, by decide +kernel, by decide +kernel⟩
theorem is_letter_df (C : Ck mg) (D : Dv K mg "is_letter" 39) (D1 : Df P w K mg base CX0 2 "is_within" ["value", "low", "high"] (spD RNum)) : Df P w K mg base CX0 3 "is_letter" ["value"] (spD RLet) := by
  refine df_D D scLet (fun _ _ _ _ _ _ us hl => match us, hl with | [_], _ => rfl) (fun ds d h => by obtain ⟨_, _, _, rfl, _⟩ := h; rfl) fun f cdv A outer s H E ds d hr h => ?_
  obtain ⟨n, h1, h2, rfl, rfl⟩ := h
  obtain ⟨t, ht⟩ := C.letter
  exact q_ret (d_df D1 hr ⟨(n : Nat), 1, 12, rfl, rfl⟩ (a_cons (d_var 0) (a_cons d_int (a_cons (d_glob ht) a_nil)))) (congrArg PyData.bool (by rw [Bool.and_eq_true]; exact ⟨decide_eq_true (by omega), decide_eq_true (by omega)⟩))
abbrev LET (ns : List Nat) : Prop := ns.length ≤ 12 ∧ ∀ x ∈ ns, 1 ≤ x ∧ x ≤ 12
theorem LET.g {ns : List Nat} (h : LET ns) {i : Nat} (hi : i < ns.length) : 1 ≤ Wm.g ns i ∧ Wm.g ns i ≤ 12 := by
  rw [Wm.g_lt hi]; exact h.2 _ (List.getElem_mem hi)
def RWord : List PyData → PyData → Prop := fun ds d => ∃ ns : List Nat, LET ns ∧ ds = [nT ns] ∧ d = .bool true
theorem scWord : FnScope ["value", "letter"] ["value"] (defScope (top 40)) := ⟨rfl, rfl, rfl, by decide +kernel, rfl, by decide +kernel, by decide +kernel⟩
theorem is_word_df (M : Bt mg) (C : Ck mg) (D : Dv K mg "is_word" 40) (D1 : Df P w K mg base CX0 3 "is_letter" ["value"] (spD RLet)) : Df P w K mg base CX0 4 "is_word" ["value"] (spD RWord) := by
  refine df_D D scWord (fun _ _ _ _ _ _ us hl => match us, hl with | [_], _ => rfl) (fun ds d h => by obtain ⟨_, _, rfl, _⟩ := h; rfl) fun f cdv A outer s H E ds d hr h => ?_
  obtain ⟨ns, h1, rfl, rfl⟩ := h
  obtain ⟨t, ht⟩ := C.long
  exact q_ret (d_and (p := true) (d_isT (d_var 0) (nd_iT _) M.isi M.tuple) fun _ => d_and (p := true) (d_eq (d_cmp r_le (d_callB c_lenT (a_cons (d_var 0) a_nil) M.len) (d_glob ht)) (congrArg PyData.bool (by rw [nT_len]; have := h1.1; exact decide_eq_true (by omega)))) fun _ =>
    d_one (d_eq (d2 := .bool true) (d_callB (c_allI (n := ns.length) (b := fun _ => true) rfl) (a_cons (d_lc (own := [("letter", 1)]) rfl scWord.nd (blkOk_by (by kernel_rfl)) (i_tup (n := ns.length) (d_var 0) (fun i hi => nT_at hi) (nT_len ns)) rfl (js := [1]) (fun j hj => hj) (by have := h1.1; omega)
      (fun i _ _ _ _ _ _ => g_name 1 scWord.nd) (fun i _ _ _ _ _ _ => ts_nil) fun i hi _ _ _ _ _ _ => d_df D1 hr ⟨Wm.g ns i, (h1.g hi).1, (h1.g hi).2, rfl, rfl⟩ (a_cons (d_var 1) a_nil)) a_nil) M.all) (congrArg PyData.bool (List.all_eq_true.mpr fun _ _ => rfl)))) rfl
def RNone (Pd : PyData → Prop) : List PyData → PyData → Prop := fun ds d => ∃ x, Pd x ∧ ds = [x] ∧ d = .none
theorem scCW : FnScope ["value"] ["value"] (defScope (top 41)) := ⟨rfl, rfl, rfl, by decide +kernel, rfl, by decide +kernel, by decide +kernel⟩
theorem check_word_df (D : Dv K mg "check_word" 41) (D1 : Df P w K mg base CX0 4 "is_word" ["value"] (spD RWord)) : Df P w K mg base CX0 5 "check_word" ["value"] (spD (RNone fun x => ∃ ns, LET ns ∧ x = nT ns)) := by
  refine df_D D scCW (fun _ _ _ _ _ _ us hl => match us, hl with | [_], _ => rfl) (fun ds d h => by obtain ⟨_, _, rfl, _⟩ := h; rfl) fun f cdv A outer s H E ds d hr h => ?_
  obtain ⟨x, ⟨ns, h1, rfl⟩, rfl, rfl⟩ := h
  exact q_when (p := false) (t_not (p := true) (t_val (d_df D1 hr ⟨ns, h1, rfl, rfl⟩ (a_cons (d_var 0) a_nil)))) (fun z => nomatch z) fun _ => s_nil rfl
theorem scCL : FnScope ["value"] ["value"] (defScope (top 42)) := ⟨rfl, rfl, rfl, by decide +kernel, rfl, by decide +kernel, by decide +kernel⟩
theorem check_letter_df (D : Dv K mg "check_letter" 42) (D1 : Df P w K mg base CX0 3 "is_letter" ["value"] (spD RLet)) : Df P w K mg base CX0 5 "check_letter" ["value"] (spD (RNone fun x => ∃ n : Nat, 1 ≤ n ∧ n ≤ 12 ∧ x = .int (n : Nat))) := by
  refine (df_D (k := 3) D scCL (fun _ _ _ _ _ _ us hl => match us, hl with | [_], _ => rfl) (fun ds d h => by obtain ⟨_, _, rfl, _⟩ := h; rfl) fun f cdv A outer s H E ds d hr h => ?_).up (by decide)
  obtain ⟨x, ⟨n, h1, h2, rfl⟩, rfl, rfl⟩ := h
  exact q_when (p := false) (t_not (p := true) (t_val (d_df D1 hr ⟨n, h1, h2, rfl, rfl⟩ (a_cons (d_var 0) a_nil)))) (fun z => nomatch z) fun _ => s_nil rfl
theorem scCR : FnScope ["count"] ["count"] (defScope (top 55)) := ⟨rfl, rfl, rfl, by decide +kernel, rfl, by decide +kernel, by decide +kernel⟩
theorem check_room_df (C : Ck mg) (D : Dv K mg "check_room" 55) : Df P w K mg base CX0 1 "check_room" ["count"] (spD (RNone fun x => ∃ n : Nat, n ≤ 12 ∧ x = .int (n : Nat))) := by
  refine df_D D scCR (fun _ _ _ _ _ _ us hl => match us, hl with | [_], _ => rfl) (fun ds d h => by obtain ⟨_, _, rfl, _⟩ := h; rfl) fun f cdv A outer s H E ds d hr h => ?_
  obtain ⟨x, ⟨n, h1, rfl⟩, rfl, rfl⟩ := h
  obtain ⟨t, ht⟩ := C.long
  exact q_when (p := false) (t_eq (t_cmp r_gt (d_var 0) (d_glob ht)) (decide_eq_false (by omega))) (fun z => nomatch z) fun _ => s_nil rfl
def RRise : List PyData → PyData → Prop := fun ds d => ∃ u s : List Nat, u.length ≤ 1000 ∧ Wm.Rise u s ∧ ds = [nT u, nT s] ∧ d = .bool true
theorem scRise : FnScope ["upper", "lower", "up", "low"] ["upper", "lower"] (defScope (top 45)) := ⟨rfl, rfl, rfl, by decide +kernel, rfl, by decide +kernel, by decide +kernel⟩
theorem does_rise_df (M : Bt mg) (D : Dv K mg "does_rise" 45) : Df P w K mg base CX0 1 "does_rise" ["upper", "lower"] (spD RRise) := by
  refine df_D D scRise (fun _ _ _ _ _ _ us hl => match us, hl with | [_, _], _ => rfl) (fun ds d h => by obtain ⟨_, _, _, _, rfl, _⟩ := h; rfl) fun f cdv A outer s H E ds d hr h => ?_
  obtain ⟨u, v, hl, hri, rfl, rfl⟩ := h
  have l2 := hri.1
  refine q_ret (d_and (p := true) (d_eq (d_cmp r_le (d_callB c_lenT (a_cons (d_var 1) a_nil) M.len) (d_callB c_lenT (a_cons (d_var 0) a_nil) M.len)) (congrArg PyData.bool (by rw [nT_len, nT_len]; exact decide_eq_true (by omega)))) fun _ =>
    d_one (d_eq (d2 := .bool true) (d_callB (c_allI (n := v.length) (b := fun i => decide (Wm.g u i < Wm.g v i)) rfl) (a_cons (d_lc (own := [("up", 2), ("low", 3)]) rfl scRise.nd (blkOk_by (by kernel_rfl)) (i_zip (n := v.length) (y := fun i => .int (Wm.g u i : Nat)) (z := fun i => .int (Wm.g v i : Nat)) (d_var 0) (d_var 1) (fun i hi => nT_at (by omega)) (fun i hi => nT_at hi) (by rw [nT_len, nT_len]; omega) M.zip) rfl (fun j hj => hj) (by omega)
      (fun i _ _ _ _ _ _ => g_pair rfl (g_name 2 scRise.nd) (g_name 3 scRise.nd)) (fun i _ _ _ _ _ _ => ts_nil) fun i hi _ _ _ _ _ _ => d_eq (d_cmp r_gt (d_var 3) (d_var 2)) (congrArg PyData.bool (by rw [Bool.eq_iff_iff, decide_eq_true_eq, decide_eq_true_eq]; omega))) a_nil) M.all) ?al)) rfl
  case al => exact congrArg PyData.bool (List.all_eq_true.mpr fun i hi => decide_eq_true (hri.2 i (List.mem_range.mp hi)))
def RFill : List PyData → PyData → Prop := fun ds d => ∃ ns : List Nat, LET ns ∧ 1 ≤ ns.length ∧ Wm.Srt ns ∧ ds = [nT ns] ∧ d = .bool true
theorem scFill : FnScope ["value"] ["value"] (defScope (top 46)) := ⟨rfl, rfl, rfl, by decide +kernel, rfl, by decide +kernel, by decide +kernel⟩
theorem zs_srt {ns : List Nat} (h : Wm.Srt ns) : (zs ns).Pairwise (· ≤ ·) := by
  rw [List.pairwise_map]
  exact h.pairwise.imp fun z => by omega
end
end Wd

set_option Elab.async false
set_option linter.all false
set_option maxRecDepth 100000
set_option maxHeartbeats 4000000
/-! Equality of data; the tables' defs. -/
namespace Wd
open PySem PySem.Spec PyProof.Rows L2 Evl Wx We
/-- data of at most k floors -/
def okD : Nat → PyData → Bool
  | _, .none => true
  | _, .bool _ => true
  | _, .int _ => true
  | _, .str x => PyData.canLay0 (.str x)
  | k + 1, .list ds => ds.all (okD k)
  | k + 1, .tuple ds => ds.all (okD k)
  | _, _ => false
theorem okD_lay : ∀ (k : Nat) (d : PyData), okD k d = true → d.canLay0 = true ∧ d.depth ≤ k := by
  have all : ∀ (k : Nat), (∀ d : PyData, okD k d = true → d.canLay0 = true ∧ d.depth ≤ k) → ∀ ds : List PyData, ds.all (okD k) = true → PyData.canLayAll0 ds = true ∧ PyData.depthAll ds ≤ k := by
    intro k h ds
    induction ds with
    | nil => intro _; exact ⟨by simp [PyData.canLayAll0], by simp [PyData.depthAll]⟩
    | cons d ds ih =>
      intro q
      rw [List.all_cons, Bool.and_eq_true] at q
      have a := h d q.1
      have b := ih q.2
      exact ⟨by simp [PyData.canLayAll0, a.1, b.1], by simp only [PyData.depthAll]; omega⟩
  intro k
  induction k with
  | zero =>
    intro d h
    cases d with
    | none => exact ⟨by simp [PyData.canLay0], by simp [PyData.depth]⟩
    | bool b => exact ⟨by simp [PyData.canLay0], by simp [PyData.depth]⟩
    | int i => exact ⟨by simp [PyData.canLay0], by simp [PyData.depth]⟩
    | str x => exact ⟨h, by simp [PyData.depth]⟩
    | list ds => cases h
    | tuple ds => cases h
    | dict ds => cases h
  | succ k ih =>
    intro d h
    cases d with
    | none => exact ⟨by simp [PyData.canLay0], by simp [PyData.depth]⟩
    | bool b => exact ⟨by simp [PyData.canLay0], by simp [PyData.depth]⟩
    | int i => exact ⟨by simp [PyData.canLay0], by simp [PyData.depth]⟩
    | str x => exact ⟨h, by simp [PyData.depth]⟩
    | list ds =>
      have q := all k ih ds h
      exact ⟨by simp only [PyData.canLay0]; exact q.1, by simp only [PyData.depth]; omega⟩
    | tuple ds =>
      have q := all k ih ds h
      exact ⟨by simp only [PyData.canLay0]; exact q.1, by simp only [PyData.depth]; omega⟩
    | dict ds => cases h
theorem okD_sh {k : Nat} {d : PyData} (h : okD k d = true) (hk : k ≤ 60 := by decide) : SeqAt.shaped d = true := by
  have q := okD_lay k d h
  show (d.canLay0 && decide (d.depth ≤ 64)) = true
  rw [Bool.and_eq_true]
  exact ⟨q.1, decide_eq_true (by omega)⟩
theorem ok_ints (k : Nat) (ns : List Int) : (ns.map PyData.int).all (okD k) = true := by
  rw [List.all_map, List.all_eq_true]
  intro x _
  cases k <;> rfl
theorem ok_nT (k : Nat) (ns : List Nat) : okD (k + 1) (nT ns) = true := ok_ints k _
/-- no bool, no dict within -/
def nb : PyData → Bool
  | .bool _ => false
  | .dict _ => false
  | .list ds => go ds
  | .tuple ds => go ds
  | _ => true
where go : List PyData → Bool
  | [] => true
  | d :: ds => nb d && go ds
mutual
theorem eqv_nb : ∀ (d e : PyData), nb d = true → nb e = true → (PyData.eqv d e = true ↔ d = e)
  | .none, e, _, h => by cases e <;> simp_all [PyData.eqv, nb]
  | .bool _, _, h, _ => by cases h
  | .dict _, _, h, _ => by cases h
  | .int i, e, _, h => by cases e <;> simp_all [PyData.eqv, nb]
  | .str x, e, _, h => by cases e <;> simp_all [PyData.eqv, nb]
  | .list ds, e, h, h2 => by
    cases e with
    | list es =>
      have q := eqvAll_nb ds es (by simpa [nb] using h) (by simpa [nb] using h2)
      rw [show PyData.eqv (.list ds) (.list es) = PyData.eqvAll ds es by simp [PyData.eqv], q]
      exact ⟨fun z => by rw [z], fun z => by injection z⟩
    | none => simp [PyData.eqv]
    | int _ => simp [PyData.eqv]
    | str _ => simp [PyData.eqv]
    | tuple _ => simp [PyData.eqv]
    | bool _ => cases h2
    | dict _ => cases h2
  | .tuple ds, e, h, h2 => by
    cases e with
    | tuple es =>
      have q := eqvAll_nb ds es (by simpa [nb] using h) (by simpa [nb] using h2)
      rw [show PyData.eqv (.tuple ds) (.tuple es) = PyData.eqvAll ds es by simp [PyData.eqv], q]
      exact ⟨fun z => by rw [z], fun z => by injection z⟩
    | none => simp [PyData.eqv]
    | int _ => simp [PyData.eqv]
    | str _ => simp [PyData.eqv]
    | list _ => simp [PyData.eqv]
    | bool _ => cases h2
    | dict _ => cases h2
theorem eqvAll_nb : ∀ (ds es : List PyData), nb.go ds = true → nb.go es = true → (PyData.eqvAll ds es = true ↔ ds = es)
  | [], [], _, _ => by simp [PyData.eqvAll]
  | [], _ :: _, _, _ => by simp [PyData.eqvAll]
  | _ :: _, [], _, _ => by simp [PyData.eqvAll]
  | d :: ds, e :: es, h, h2 => by
    rw [nb.go, Bool.and_eq_true] at h h2
    have a := eqv_nb d e h.1 h2.1
    have b := eqvAll_nb ds es h.2 h2.2
    rw [show PyData.eqvAll (d :: ds) (e :: es) = (PyData.eqv d e && PyData.eqvAll ds es) by simp [PyData.eqvAll], Bool.and_eq_true, a, b]
    exact ⟨fun z => by rw [z.1, z.2], fun z => by injection z with z1 z2; exact ⟨z1, z2⟩⟩
end
theorem nb_go (ds : List PyData) : nb.go ds = ds.all nb := by
  induction ds with
  | nil => rfl
  | cons d ds ih => rw [nb.go, ih]; rfl
theorem nb_ints (ns : List Int) : nb.go (ns.map PyData.int) = true := by
  rw [nb_go, List.all_map, List.all_eq_true]
  intro x _
  rfl
theorem nb_nT (ns : List Nat) : nb (nT ns) = true := by show nb (.tuple _) = true; rw [nb]; exact nb_ints _
theorem zs_inj {a b : List Nat} (h : zs a = zs b) : a = b := (List.map_inj_right (f := fun n : Nat => (n : Int)) (fun x y z => by have z : (x : Int) = y := z; omega)).mp h
theorem int_inj {a b : List Int} (h : a.map PyData.int = b.map PyData.int) : a = b := List.map_inj_right (fun x y z => by injection z) |>.mp h
theorem nT_inj {a b : List Nat} (h : nT a = nT b) : a = b := by injection h with h; exact zs_inj (int_inj h)
theorem eqv_refl {d : PyData} (h : nb d = true) : PyData.eqv d d = true := (eqv_nb d d h h).mpr rfl
theorem eqv_no {d e : PyData} (h : nb d = true) (h2 : nb e = true) (n : d ≠ e) : PyData.eqv d e = false := by
  cases q : PyData.eqv d e with
  | false => rfl
  | true => exact absurd ((eqv_nb d e h h2).mp q) n
section
variable {P : Program} {w : World} {K : PySem.W.Frag} {mg : Str → Option Value} {base : Heap}
theorem is_filled_row_df (M : Bt mg) (D : Dv K mg "is_filled_row" 46) (D1 : Df P w K mg base CX0 4 "is_word" ["value"] (spD RWord)) : Df P w K mg base CX0 5 "is_filled_row" ["value"] (spD RFill) := by
  refine df_D D scFill (fun _ _ _ _ _ _ us hl => match us, hl with | [_], _ => rfl) (fun ds d h => by obtain ⟨_, _, _, _, rfl, _⟩ := h; rfl) fun f cdv A outer s H E ds d hr h => ?_
  obtain ⟨ns, h1, h2, h3, rfl, rfl⟩ := h
  have ok : okD 2 (.list ((zs ns).map PyData.int)) = true := ok_ints 1 _
  exact q_ret (d_and (p := true) (d_df D1 hr ⟨ns, h1, rfl, rfl⟩ (a_cons (d_var 0) a_nil)) fun _ => d_and (p := true) (d_eq (d_cmp r_gt (d_callB c_lenT (a_cons (d_var 0) a_nil) M.len) d_int) (congrArg PyData.bool (by rw [nT_len]; exact decide_eq_true (by omega)))) fun _ =>
    d_one (d_eq (d2 := .bool true) (d_cmp (r_eq hr.units (okD_sh ok) (okD_sh ok)) (d_callB (c_srtT (List.Perm.refl _) (zs_srt h3)) (a_cons (d_var 0) a_nil) M.sorted) (d_callTy c_lstT (a_cons (d_var 0) a_nil) M.list)) (congrArg PyData.bool (eqv_refl (by rw [nb]; exact nb_ints _))))) rfl
theorem scRows : FnScope ["value", "row", "place"] ["value"] (defScope (top 47)) := ⟨rfl, rfl, rfl, by decide +kernel, rfl, by decide +kernel, by decide +kernel⟩
/-- rows that a table may have -/
structure TAB (rows : List (List Nat)) : Prop where
  t : Wm.Tab rows
  s : (Wm.lens rows).sum ≤ 12
theorem TAB.len {rows : List (List Nat)} (h : TAB rows) : rows.length ≤ 12 := by
  have := h.t.shp.len_sum
  have e : (Wm.lens rows).length = rows.length := by unfold Wm.lens; rw [List.length_map]
  have := h.s
  omega
theorem lens_g (rows : List (List Nat)) (i : Nat) : Wm.g (Wm.lens rows) i = (rows.getD i []).length := by
  unfold Wm.g Wm.lens
  rw [List.getD_eq_getElem?_getD, List.getD_eq_getElem?_getD, List.getElem?_map]
  cases rows[i]? <;> rfl
theorem TAB.row {rows : List (List Nat)} (h : TAB rows) {i : Nat} (hi : i < rows.length) : LET (rows.getD i []) ∧ 1 ≤ (rows.getD i []).length ∧ Wm.Srt (rows.getD i []) := by
  have hm : rows.getD i [] ∈ rows := by rw [List.getD_eq_getElem?_getD, List.getElem?_eq_getElem hi]; exact List.getElem_mem hi
  refine ⟨⟨?_, h.t.ltr _ hm⟩, h.t.ne _ hm, h.t.srt _ hm⟩
  rw [← lens_g]
  exact Nat.le_trans (Wm.g_le_sum i) h.s
theorem ch_rise : ∀ {rows : List (List Nat)} (h : Wm.Ch rows) {i : Nat}, i + 1 < rows.length → Wm.Rise (rows.getD i []) (rows.getD (i + 1) [])
  | [], _, i, hi => absurd hi (by simp)
  | [_], _, i, hi => absurd hi (by simp)
  | u :: v :: rs, h, 0, _ => h.1
  | u :: v :: rs, h, i + 1, hi => ch_rise (rows := v :: rs) h.2 (by simpa using hi)
def RRows : List PyData → PyData → Prop := fun ds d => ∃ rows, TAB rows ∧ ds = [rT rows] ∧ d = .bool true
theorem lens_items (rows : List (List Nat)) : itemsD rows.length (fun _ => true) (fun i => .int ((rows.getD i []).length : Nat)) = (zs (Wm.lens rows)).map PyData.int := by
  have h := items_list rows [] (fun _ => true) fun r => .int (r.length : Nat)
  have e : rows.filter (fun _ => true) = rows := List.filter_eq_self.mpr fun _ _ => rfl
  rw [e] at h
  refine h.trans ?_
  unfold Wm.lens
  rw [List.map_map, List.map_map]
  rfl
theorem are_rows_df (M : Bt mg) (C : Ck mg) (D : Dv K mg "are_rows" 47) (D1 : Df P w K mg base CX0 5 "is_filled_row" ["value"] (spD RFill)) (D2 : Df P w K mg base CX0 1 "does_rise" ["upper", "lower"] (spD RRise)) : Df P w K mg base CX0 6 "are_rows" ["value"] (spD RRows) := by
  refine df_D D scRows (fun _ _ _ _ _ _ us hl => match us, hl with | [_], _ => rfl) (fun ds d h => by obtain ⟨_, _, rfl, _⟩ := h; rfl) fun f cdv A outer s H E ds d hr h => ?_
  obtain ⟨rows, tb, rfl, rfl⟩ := h
  obtain ⟨t, ht⟩ := C.long
  have hl := tb.len
  have lm : (rows.map nT).length = rows.length := List.length_map ..
  refine q_when (p := false) (t_w (w_or (t_not (p := true) (t_val (d_isT (d_var 0) (nd_all fun d hd => by obtain ⟨r, _, rfl⟩ := List.mem_map.mp hd; exact nd_iT _) M.isi M.tuple))) fun _ => w_or1 (t_not (p := true) (t_val (d_eq (d2 := .bool true) (d_callB (c_allI (n := rows.length) (b := fun _ => true) rfl) (a_cons (d_lc (own := [("row", 1)]) rfl scRows.nd (blkOk_by (by kernel_rfl))
    (i_tup (n := rows.length) (d_var 0) (fun i hi => rT_at hi) lm) rfl (js := [1]) (fun j hj => hj) (by omega) (fun i _ _ _ _ _ _ => g_name 1 scRows.nd) (fun i _ _ _ _ _ _ => ts_nil) fun i hi _ _ _ _ _ _ => d_df D1 hr ⟨rows.getD i [], (tb.row hi).1, (tb.row hi).2.1, (tb.row hi).2.2, rfl, rfl⟩ (a_cons (d_var 1) a_nil)) a_nil) M.all) (congrArg PyData.bool (List.all_eq_true.mpr fun _ _ => rfl)))))))
    (fun z => nomatch z) fun _ => ?_
  refine q_when (p := false) (t_eq (t_cmp r_gt (d_eq (d_callB (c_sumL (ns := zs (Wm.lens rows)) rfl) (a_cons (d_eq (d_lc (own := [("row", 1)]) (f := fun _ => true) (v := fun i => .int ((rows.getD i []).length : Nat)) rfl scRows.nd (blkOk_by (by kernel_rfl)) (i_tup (n := rows.length) (d_var 0) (fun i hi => rT_at hi) lm) rfl (js := [1]) (fun j hj => hj) (by omega)
    (fun i _ _ _ _ _ _ => g_name 1 scRows.nd) (fun i _ _ _ _ _ _ => ts_nil) fun i hi _ _ _ _ _ _ => d_eq (d_callB c_lenT (a_cons (d_var 1) a_nil) M.len) (by rw [nT_len])) (congrArg PyData.list (lens_items rows))) a_nil) M.sum) (congrArg PyData.int (sum_zs _))) (d_glob ht)) (decide_eq_false (by have := tb.s; omega))) (fun z => nomatch z) fun _ => ?_
  exact q_ret (d_eq (d2 := .bool true) (d_callB (c_allI (n := rows.length - 1) (b := fun _ => true) rfl) (a_cons (d_lc (own := [("place", 2)]) rfl scRows.nd (blkOk_by (by kernel_rfl)) (i_rng (n := rows.length - 1) (m := (rows.length : Int) - 1) (a_cons (d_eq (d_bin r_sub (d_callB c_lenT (a_cons (d_var 0) a_nil) M.len) d_int) (by rw [lm])) a_nil) (by omega) (by omega) (by omega) M.range) rfl (js := [2]) (fun j hj => hj) (by omega)
    (fun i _ _ _ _ _ _ => g_name 2 scRows.nd) (fun i _ _ _ _ _ _ => ts_nil) fun i hi _ _ _ _ _ _ => d_df (D2.up (by decide)) hr ⟨rows.getD i [], rows.getD (i + 1) [], by have := (tb.row (i := i) (by omega)).1.1; omega, ch_rise tb.t.ch (by omega), rfl, rfl⟩ (a_cons (d_ixT (rT_ix (by omega)) (d_var 0) (d_var 2)) (a_cons (d_ixT (rT_ix (i := i + 1) (by omega)) (d_var 0) (d_bin r_add (d_var 2) d_int)) a_nil))) a_nil) M.all) (congrArg PyData.bool (List.all_eq_true.mpr fun _ _ => rfl))) rfl
end
end Wd

set_option Elab.async false
set_option linter.all false
set_option maxRecDepth 100000
set_option maxHeartbeats 4000000
/-! Letters put in and taken out: the defs. -/
namespace Wd
open PySem PySem.Spec PyProof.Rows L2 Evl Wx We
section
variable {P : Program} {w : World} {K : PySem.W.Frag} {mg : Str → Option Value} {base : Heap}
theorem scSh : FnScope ["rows", "row"] ["rows"] (defScope (top 54)) := ⟨rfl, rfl, rfl, by decide +kernel, rfl, by decide +kernel, by decide +kernel⟩
def RSh : List PyData → PyData → Prop := fun ds d => ∃ rows : List (List Nat), rows.length ≤ 1000 ∧ ds = [rT rows] ∧ d = nT (Wm.lens rows)
theorem shape_of_df (M : Bt mg) (D : Dv K mg "shape_of" 54) : Df P w K mg base CX0 1 "shape_of" ["rows"] (spD RSh) := by
  refine df_D D scSh (fun _ _ _ _ _ _ us hl => match us, hl with | [_], _ => rfl) (fun ds d h => by obtain ⟨_, _, rfl, _⟩ := h; rfl) fun f cdv A outer s H E ds d hr h => ?_
  obtain ⟨rows, hl, rfl, rfl⟩ := h
  exact q_ret (d_callTy c_tupL (a_cons (d_lc (own := [("row", 1)]) (f := fun _ => true) (v := fun i => .int ((rows.getD i []).length : Nat)) rfl scSh.nd (blkOk_by (by kernel_rfl)) (i_tup (n := rows.length) (d_var 0) (fun i hi => rT_at hi) (List.length_map ..)) rfl (js := [1]) (fun j hj => hj) (by omega)
    (fun i _ _ _ _ _ _ => g_name 1 scSh.nd) (fun i _ _ _ _ _ _ => ts_nil) fun i hi _ _ _ _ _ _ => d_eq (d_callB c_lenT (a_cons (d_var 1) a_nil) M.len) (by rw [nT_len])) a_nil) M.tuple) (congrArg PyData.tuple (lens_items rows))
theorem scWR : FnScope ["rows", "found", "row"] ["rows"] (defScope (top 48)) := ⟨rfl, rfl, rfl, by decide +kernel, rfl, by decide +kernel, by decide +kernel⟩
def RWR : List PyData → PyData → Prop := fun ds d => ∃ rows : List (List Nat), rows.flatten.length ≤ 1000 ∧ ds = [rT rows] ∧ d = nT rows.reverse.flatten
theorem flat_take (rows : List (List Nat)) (i : Nat) : (rows.take i).flatten.length ≤ rows.flatten.length := by
  conv => rhs; rw [← List.take_append_drop i rows, List.flatten_append, List.length_append]
  omega
theorem word_of_rows_df (D : Dv K mg "word_of_rows" 48) : Df P w K mg base CX0 1 "word_of_rows" ["rows"] (spD RWR) := by
  refine df_D D scWR (fun _ _ _ _ _ _ us hl => match us, hl with | [_], _ => rfl) (fun ds d h => by obtain ⟨_, _, rfl, _⟩ := h; rfl) fun f cdv A outer s H E ds d hr h => ?_
  obtain ⟨rows, hl, rfl, rfl⟩ := h
  have hlr : rows.reverse.flatten.length ≤ 1000 := by
    refine Nat.le_trans (Nat.le_of_eq ?_) hl
    rw [List.length_flatten, List.length_flatten, List.map_reverse, List.sum_reverse]
  refine q_set 1 (d_eq (d2 := nT ((rows.reverse.take 0).flatten)) (d_tup a_nil) rfl) (q_for (fun i ρ => ∃ a, ρ = [some (rT rows), some (nT ((rows.reverse.take i).flatten)), a]) (fun i ρ => ρ.set 2 (some (nT (rows.reverse.getD i [])))) (n := rows.length) (y := fun i => nT (rows.reverse.getD i []))
    (i_tup (d_rev (d_var 0)) (fun i hi => by rw [← List.map_reverse]; exact rT_at (by rw [List.length_reverse]; exact hi)) (by rw [List.length_reverse, List.length_map])) ⟨_, rfl⟩ (fun i ρ hi h => by obtain ⟨a, rfl⟩ := h; exact g_name 2 scWR.nd) (fun i ρ hi h => ?_) (fun ρ h => ?_) rfl PassesOwn.never) scWR.nd
  · obtain ⟨a, rfl⟩ := h
    have et : (rows.reverse.take (i + 1)).flatten = (rows.reverse.take i).flatten ++ rows.reverse.getD i [] := by
      have hi' : i < rows.reverse.length := by rw [List.length_reverse]; exact hi
      rw [List.take_succ, List.getElem?_eq_getElem hi', List.flatten_append, List.getD_eq_getElem?_getD, List.getElem?_eq_getElem hi']
      simp
    have h1 := flat_take rows.reverse (i + 1)
    rw [et, List.length_append] at h1
    exact q_set 1 (d_eq (d_bin (r_catT (ds := (zs (rows.reverse.take i).flatten).map PyData.int) (ds2 := (zs (rows.reverse.getD i [])).map PyData.int) (by rw [nT_len, nT_len]; omega)) (d_var 1) (d_var 2)) (congrArg PyData.tuple (zs_app _ _))) (s_nil ⟨_, by rw [et]; rfl⟩) scWR.nd
  · obtain ⟨a, rfl⟩ := h
    exact q_ret (d_var 1) (by rw [List.take_of_length_le (by rw [List.length_reverse]; exact Nat.le_refl _)])
theorem scPR : FnScope ["row", "letter", "place", "other"] ["row", "letter"] (defScope (top 49)) := ⟨rfl, rfl, rfl, by decide +kernel, rfl, by decide +kernel, by decide +kernel⟩
def RPR : List PyData → PyData → Prop := fun ds d => ∃ (r : List Nat) (x : Nat), r.length ≤ 1000 ∧ ds = [nT r, .int (x : Nat)] ∧ d = .tuple [nT (Wm.putRow r x).1, oD (Wm.putRow r x).2]
theorem put_in_row_df (M : Bt mg) (D : Dv K mg "put_in_row" 49) : Df P w K mg base CX0 1 "put_in_row" ["row", "letter"] (spD RPR) := by
  refine df_D D scPR (fun _ _ _ _ _ _ us hl => match us, hl with | [_, _], _ => rfl) (fun ds d h => by obtain ⟨_, _, _, rfl, _⟩ := h; rfl) fun f cdv A outer s H E ds d hr h => ?_
  obtain ⟨r, x, hl, rfl, rfl⟩ := h
  refine q_for (fun i ρ => (∃ a b, ρ = [some (nT r), some (.int (x : Nat)), a, b]) ∧ ∀ j, j < i → Wm.g r j ≤ x) (fun i ρ => (ρ.set 2 (some (.int (i : Nat)))).set 3 (some (.int (Wm.g r i : Nat)))) (i_enum (n := r.length) (d_var 0) (fun i hi => nT_at hi) (nT_len r) M.enum) ⟨⟨_, _, rfl⟩, fun j h => absurd h (Nat.not_lt_zero _)⟩
    (fun i ρ hi h => by obtain ⟨⟨a, b, rfl⟩, _⟩ := h; exact g_pair rfl (g_name 2 scPR.nd) (g_name 3 scPR.nd)) (fun i ρ hi h => ?_) (fun ρ h => ?_) rfl PassesOwn.never
  · obtain ⟨⟨a, b, rfl⟩, hb⟩ := h
    refine q_when (p := decide (x < Wm.g r i)) (t_eq (t_cmp r_gt (d_var 3) (d_var 1)) (by rw [Bool.eq_iff_iff, decide_eq_true_eq, decide_eq_true_eq]; omega)) (fun z => ?_) fun z => s_nil ⟨⟨_, _, rfl⟩, fun j hj => ?_⟩
    · have hx := of_decide_eq_true z
      refine q_ret (d_tup (a_cons (d_tup (a_star (d_sl (d_var 0) o_none (o_some (d_var 2))) (a_cons (d_var 1) (a_star (d_sl (d_var 0) (o_some (d_bin r_add (d_var 2) d_int)) o_none) a_nil))) ?sz) (a_cons (d_var 3) a_nil))) ?e
      case sz => rw [cut_to (by rw [nT_len]; omega), show (i : Int) + 1 = ((i + 1 : Nat) : Int) from rfl, cut_frm, zs_take, zs_drop, List.length_append, List.length_cons, List.length_append, nT_len, nT_len, List.length_take, List.length_drop]; simp; omega
      case e =>
        show PyData.tuple _ = PyData.tuple _
        rw [cut_to (by rw [nT_len]; omega), show (i : Int) + 1 = ((i + 1 : Nat) : Int) from rfl, cut_frm, zs_take, zs_drop, List.append_nil, Wm.putRow_hit hi hb hx]
        congr 2
        show PyData.tuple _ = PyData.tuple ((zs _).map PyData.int)
        rw [← zs_app, ← zs_app, List.append_assoc]
        rfl
    · have hx := of_decide_eq_false z
      rcases Nat.lt_or_ge j i with q | q
      · exact hb j q
      · have : j = i := by omega
        rw [this]; omega
  · obtain ⟨⟨a, b, rfl⟩, hb⟩ := h
    refine q_ret (d_tup (a_cons (d_tup (a_star (d_var 0) (a_cons (d_var 1) a_nil)) (by rw [List.length_append, nT_len]; simp; omega)) (a_cons d_non a_nil))) ?_
    show PyData.tuple _ = PyData.tuple _
    rw [Wm.putRow_end hb]
    congr 2
    exact congrArg PyData.tuple (zs_app r [x])
end
end Wd

set_option Elab.async false
set_option linter.all false
set_option maxRecDepth 100000
set_option maxHeartbeats 4000000
/-! put_in_rows, rows_of_word, pushed_out, taken_from. -/
namespace Wd
open PySem PySem.Spec PyProof.Rows L2 Evl Wx We
theorem rT_drop (rows : List (List Nat)) (i : Nat) : (rows.map nT).drop i = (rows.drop i).map nT := (List.map_drop ..).symm
theorem drop_cons {rows : List (List Nat)} {i : Nat} (h : i < rows.length) : rows.drop i = rows.getD i [] :: rows.drop (i + 1) := by
  rw [List.drop_eq_getElem_cons h, List.getD_eq_getElem?_getD, List.getElem?_eq_getElem h]
  rfl
theorem imm_nT (ns : List Nat) : imm (nT ns) = true := by
  show imm (.tuple _) = true
  rw [imm_tup, List.all_map, List.all_eq_true]
  intro x _
  rfl
section
variable {P : Program} {w : World} {K : PySem.W.Frag} {mg : Str → Option Value} {base : Heap}
abbrev NPT : List Str := ["rows", "letter", "found", "index", "row", "fresh"]
theorem scPT : FnScope NPT ["rows", "letter"] (defScope (top 50)) := ⟨rfl, rfl, rfl, by decide +kernel, rfl, by decide +kernel, by decide +kernel⟩
def RPT : List PyData → PyData → Prop := fun ds d => ∃ (rows : List (List Nat)) (x : Nat), rows.length ≤ 100 ∧ (∀ r ∈ rows, r.length ≤ 100) ∧ ds = [rT rows, .int (x : Nat)] ∧ d = .tuple [rT (Wm.putRows rows x).1, .int ((Wm.putRows rows x).2 : Nat)]
theorem put_in_rows_df (M : Bt mg) (D : Dv K mg "put_in_rows" 50) (D1 : Df P w K mg base CX0 1 "put_in_row" ["row", "letter"] (spD RPR)) : Df P w K mg base CX0 2 "put_in_rows" ["rows", "letter"] (spD RPT) := by
  refine df_D D scPT (fun _ _ _ _ _ _ us hl => match us, hl with | [_, _], _ => rfl) (fun ds d h => by obtain ⟨_, _, _, _, rfl, _⟩ := h; rfl) fun f cdv A outer s H E ds d hr h => ?_
  obtain ⟨rows, x, hl, hw, rfl, rfl⟩ := h
  have lm : (rows.map nT).length = rows.length := List.length_map ..
  refine q_own 2 (fun B0 H0 p => ?_) (show 2 < 6 by decide) scPT.nd
  refine m_for (fun i ρ ds => ∃ (fnd : List (List Nat)) (xi : Nat) (a b c : Option PyData), ρ = [some (rT rows), some (.int (xi : Nat)), none, a, b, c] ∧ ds = fnd.map nT ∧ fnd.length = i ∧ Wm.putRows rows x = (fnd ++ (Wm.putRows (rows.drop i) xi).1, i + (Wm.putRows (rows.drop i) xi).2))
    (fun i ρ => (ρ.set 3 (some (.int (i : Nat)))).set 4 (some (nT (rows.getD i [])))) (i_enum (n := rows.length) (d_var 0) (fun i hi => rT_at hi) lm M.enum) ⟨[], x, none, none, none, rfl, rfl, rfl, by simp⟩ (js := [3] ++ [4]) (by decide)
    (fun i ρ ds hi h => by obtain ⟨fnd, xi, a, b, c, rfl, _⟩ := h; exact g_pair rfl (g_name 3 scPT.nd) (g_name 4 scPT.nd)) (fun i ρ ds hi h => ?_) (fun ρ ds h => ?_) rfl PassesOwn.never
  · obtain ⟨fnd, xi, a, b, c, rfl, rfl, rfl, hp⟩ := h
    have hm : rows.getD fnd.length [] ∈ rows := by rw [List.getD_eq_getElem?_getD, List.getElem?_eq_getElem hi]; exact List.getElem_mem hi
    have hlr := hw _ hm
    rw [drop_cons hi] at hp
    generalize rows.getD fnd.length [] = r at *
    refine m_asg (d_df D1 hr ⟨r, xi, by omega, rfl, rfl⟩ (a_cons (d_var 4) (a_cons (d_var 1) a_nil))) (g_pair rfl (g_name 5 scPT.nd) (g_name 1 scPT.nd)) (by decide) ?_
    refine m_app (x := "found") rfl (.inl rfl) (d_var 5) (by rw [List.length_map]; omega) ?_ (hpe := fun tf te hf he => pe_bm PySem.F.plainAttrs_list PySem.F.slot_list_append PySem.F.type_list_append mt_append hf (pa_cons he pa_nil))
    cases ho : (Wm.putRow r xi).2 with
    | none =>
      rw [Wm.putRows_none ho] at hp
      refine m_when (k := true) (t_cmp r_isN (d_var 1) d_non) (fun _ => q_ret (d_tup (a_cons (d_tup (a_starL (d_var 2) (a_star (d_sl (d_var 0) (o_some (d_bin r_add (d_var 3) d_int)) o_none) a_nil)) ?sz) (a_cons (d_var 3) a_nil))) ?e) fun z => nomatch z
      case sz => rw [show (fnd.length : Int) + 1 = ((fnd.length + 1 : Nat) : Int) from rfl, cut_frm, rT_drop]; simp; omega
      case e =>
        rw [hp]
        show PyData.tuple _ = PyData.tuple _
        rw [show (fnd.length : Int) + 1 = ((fnd.length + 1 : Nat) : Int) from rfl, cut_frm, rT_drop, List.append_nil]
        congr 2
        show PyData.tuple _ = PyData.tuple ((fnd ++ (Wm.putRow r xi).1 :: rows.drop (fnd.length + 1)).map nT)
        rw [List.map_append, List.map_cons, List.append_assoc]
        rfl
    | some y =>
      rw [Wm.putRows_some ho] at hp
      refine m_when (k := false) (t_cmp r_isN (d_var 1) d_non) (fun z => nomatch z) fun _ => m_nil ⟨fnd ++ [(Wm.putRow r xi).1], y, _, _, _, rfl, by rw [List.map_append]; rfl, by rw [List.length_append]; rfl, ?_⟩
      rw [hp, List.append_assoc]
      exact Prod.ext rfl (by show fnd.length + (_ + 1) = fnd.length + 1 + _; omega)
  · obtain ⟨fnd, xi, a, b, c, rfl, rfl, hn, hp⟩ := h
    rw [List.drop_of_length_le (Nat.le_refl _)] at hp
    refine m_end (q_ret (d_tup (a_cons (d_tup (a_starL (d_var 2) (a_cons (d_tup (a_cons (d_var 1) a_nil)) a_nil)) (by simp; omega)) (a_cons (d_callB c_lenT (a_cons (d_var 0) a_nil) M.len) a_nil))) ?_)
    rw [hp]
    show PyData.tuple _ = PyData.tuple _
    rw [lm]
    congr 2
    show PyData.tuple _ = PyData.tuple ((fnd ++ [[xi]]).map nT)
    rw [List.map_append]
    rfl
abbrev NRW : List Str := ["word", "rows", "letter"]
theorem scRW : FnScope NRW ["word"] (defScope (top 51)) := ⟨rfl, rfl, rfl, by decide +kernel, rfl, by decide +kernel, by decide +kernel⟩
def RRW : List PyData → PyData → Prop := fun ds d => ∃ ns : List Nat, LET ns ∧ ds = [nT ns] ∧ d = rT (Wm.rowsOf ns)
theorem LET.take {ns : List Nat} (h : LET ns) (i : Nat) : LET (ns.take i) := ⟨by rw [List.length_take]; have := h.1; omega, fun x hx => h.2 x (List.mem_of_mem_take hx)⟩
theorem TAB.of {ns : List Nat} (h : LET ns) : TAB (Wm.rowsOf ns) := by
  have q := Wm.rowsOf_ok ns h.2
  exact ⟨q.1, by rw [q.2]; exact h.1⟩
theorem TAB.wide {rows : List (List Nat)} (h : TAB rows) : ∀ r ∈ rows, r.length ≤ 12 := fun r hr => Nat.le_trans (Wm.mem_le_sum (List.mem_map.mpr ⟨r, hr, rfl⟩)) h.s
theorem rows_of_word_df (D : Dv K mg "rows_of_word" 51) (D1 : Df P w K mg base CX0 2 "put_in_rows" ["rows", "letter"] (spD RPT)) : Df P w K mg base CX0 3 "rows_of_word" ["word"] (spD RRW) := by
  refine df_D D scRW (fun _ _ _ _ _ _ us hl => match us, hl with | [_], _ => rfl) (fun ds d h => by obtain ⟨_, _, rfl, _⟩ := h; rfl) fun f cdv A outer s H E ds d hr h => ?_
  obtain ⟨ns, hL, rfl, rfl⟩ := h
  refine q_set 1 (d_eq (d2 := rT (Wm.rowsOf (ns.take 0))) (d_tup a_nil) rfl) (q_for (fun i ρ => ∃ a, ρ = [some (nT ns), some (rT (Wm.rowsOf (ns.take i))), a]) (fun i ρ => ρ.set 2 (some (.int (Wm.g ns i : Nat)))) (n := ns.length) (i_tup (d_var 0) (fun i hi => nT_at hi) (nT_len ns)) ⟨_, rfl⟩
    (fun i ρ hi h => by obtain ⟨a, rfl⟩ := h; exact g_name 2 scRW.nd) (fun i ρ hi h => ?_) (fun ρ h => ?_) rfl PassesOwn.never) scRW.nd
  · obtain ⟨a, rfl⟩ := h
    have tb := TAB.of (hL.take i)
    have et : ns.take (i + 1) = ns.take i ++ [Wm.g ns i] := by rw [List.take_succ, Wm.some_g hi]; rfl
    exact q_set 1 (d_ixT (i := 0) (ds := [rT (Wm.putRows (Wm.rowsOf (ns.take i)) (Wm.g ns i)).1, .int ((Wm.putRows (Wm.rowsOf (ns.take i)) (Wm.g ns i)).2 : Nat)]) rfl (d_df D1 hr ⟨Wm.rowsOf (ns.take i), Wm.g ns i, by have := tb.len; omega, fun r hr => by have := tb.wide r hr; omega, rfl, rfl⟩ (a_cons (d_var 1) (a_cons (d_var 2) a_nil))) d_int) (s_nil ⟨_, by rw [et, Wm.rowsOf_snoc]; rfl⟩) scRW.nd
  · obtain ⟨a, rfl⟩ := h
    exact q_ret (d_var 1) (by rw [List.take_of_length_le (Nat.le_refl _)])
abbrev NPO : List Str := ["row", "letter", "place", "at", "other"]
theorem scPO : FnScope NPO ["row", "letter"] (defScope (top 52)) := ⟨rfl, rfl, rfl, by decide +kernel, rfl, by decide +kernel, by decide +kernel⟩
def RPO : List PyData → PyData → Prop := fun ds d => ∃ (r : List Nat) (y q : Nat), r.length ≤ 1000 ∧ q < r.length ∧ Wm.g r q < y ∧ ds = [nT r, .int (y : Nat)] ∧ d = .tuple [nT (Wm.pushOut r y).1, .int ((Wm.pushOut r y).2 : Nat)]
theorem pushed_out_df (M : Bt mg) (D : Dv K mg "pushed_out" 52) : Df P w K mg base CX0 1 "pushed_out" ["row", "letter"] (spD RPO) := by
  refine df_D D scPO (fun _ _ _ _ _ _ us hl => match us, hl with | [_, _], _ => rfl) (fun ds d h => by obtain ⟨_, _, _, _, _, _, rfl, _⟩ := h; rfl) fun f cdv A outer s H E ds d hr h => ?_
  obtain ⟨r, y, q, hl, hq, hy, rfl, rfl⟩ := h
  obtain ⟨b1, b2, b3, b4⟩ := Wm.lastBelow_spec hq hy
  have im : itemsD r.length (fun i => decide (Wm.g r i < y)) (fun i => .int (i : Nat)) = (zs ((List.range r.length).filter fun i => decide (Wm.g r i < y))).map PyData.int := by
    have h := items_ix r.length fun i => decide (Wm.g r i < y)
    injection h
  refine q_set 2 (d_callB (c_maxL (ns := zs ((List.range r.length).filter fun i => decide (Wm.g r i < y))) (m := (Wm.lastBelow r y : Nat)) rfl (List.mem_map.mpr ⟨_, List.mem_filter.mpr ⟨List.mem_range.mpr b1, decide_eq_true b2⟩, rfl⟩) ?mx) (a_cons (d_eq (d_lc (own := [("at", 3), ("other", 4)]) (f := fun i => decide (Wm.g r i < y)) (v := fun i => .int (i : Nat)) rfl scPO.nd (blkOk_by (by kernel_rfl))
    (i_enum (n := r.length) (d_var 0) (fun i hi => nT_at hi) (nT_len r) M.enum) rfl (fun j hj => hj) (by omega) (fun i _ _ _ _ _ _ => g_pair rfl (g_name 3 scPO.nd) (g_name 4 scPO.nd)) (fun i hi _ _ _ _ _ => ts_one (t_eq (t_cmp r_lt (d_var 4) (d_var 1)) (by rw [Bool.eq_iff_iff, decide_eq_true_eq, decide_eq_true_eq]; omega))) fun i _ _ _ _ _ _ _ => d_var 3) (congrArg PyData.list im)) a_nil) M.max) (q_ret (d_tup (a_cons (d_tup (a_star (d_sl (d_var 0) o_none (o_some (d_var 2))) (a_cons (d_var 1) (a_star (d_sl (d_var 0) (o_some (d_bin r_add (d_var 2) d_int)) o_none) a_nil))) ?sz)
      (a_cons (d_ixT (nT_ix (ns := r) (i := Wm.lastBelow r y) b1) (d_var 0) (d_var 2)) a_nil))) ?e) scPO.nd
  case mx =>
    intro z hz
    obtain ⟨n, hn, rfl⟩ := List.mem_map.mp hz
    have hn2 := List.mem_filter.mp hn
    have l1 := List.mem_range.mp hn2.1
    have l2 := of_decide_eq_true hn2.2
    rcases Nat.lt_or_ge (Wm.lastBelow r y) n with c | c
    · have := b4 n c l1; omega
    · omega
  case sz => rw [cut_to (by rw [nT_len]; omega), show ((Wm.lastBelow r y : Nat) : Int) + 1 = ((Wm.lastBelow r y + 1 : Nat) : Int) from rfl, cut_frm, zs_take, zs_drop, List.length_append, List.length_cons, List.length_append, nT_len, nT_len, List.length_take, List.length_drop]; simp; omega
  case e =>
    show PyData.tuple _ = PyData.tuple _
    rw [cut_to (by rw [nT_len]; omega), show ((Wm.lastBelow r y : Nat) : Int) + 1 = ((Wm.lastBelow r y + 1 : Nat) : Int) from rfl, cut_frm, zs_take, zs_drop, List.append_nil]
    unfold Wm.pushOut
    rw [← set_parts b1]
    congr 2
    show PyData.tuple _ = PyData.tuple ((zs _).map PyData.int)
    rw [← zs_app, ← zs_app, List.append_assoc]
    rfl
end
end Wd

set_option Elab.async false
set_option linter.all false
set_option maxRecDepth 100000
set_option maxHeartbeats 4000000
/-! taken_from. -/
namespace Wd
open PySem PySem.Spec PyProof.Rows L2 Evl Wx We
abbrev lastOf (rows : List (List Nat)) (i : Nat) : Nat := Wm.g (rows.getD i []) ((rows.getD i []).length - 1)
/-- the rows that were pushed after t turns, the letter that left -/
abbrev pushd (rows : List (List Nat)) (i t : Nat) : List (List Nat) × Nat := Wm.pushAll ((rows.take i).drop (i - t)) (lastOf rows i)
theorem getD_take {rows : List (List Nat)} {i k : Nat} (h : k < i) : (rows.take i).getD k [] = rows.getD k [] := by
  rw [List.getD_eq_getElem?_getD, List.getD_eq_getElem?_getD, List.getElem?_take_of_lt h]
theorem mid_cons {rows : List (List Nat)} {i t : Nat} (hi : i ≤ rows.length) (ht : t < i) : (rows.take i).drop (i - (t + 1)) = rows.getD (i - 1 - t) [] :: (rows.take i).drop (i - t) := by
  have e1 : i - (t + 1) = i - 1 - t := by omega
  have e2 : i - 1 - t + 1 = i - t := by omega
  have h := drop_cons (rows := rows.take i) (i := i - 1 - t) (by rw [List.length_take]; omega)
  rw [e1, h, getD_take (by omega), e2]
theorem push_room {rows : List (List Nat)} (h : Wm.Tab rows) {i t : Nat} (hi : i < rows.length) (ht : t < i) :
    ∃ q, q < (rows.getD (i - 1 - t) []).length ∧ Wm.g (rows.getD (i - 1 - t) []) q < (pushd rows i t).2 := by
  have mem : ∀ k, k < rows.length → rows.getD k [] ∈ rows := fun k hk => by rw [List.getD_eq_getElem?_getD, List.getElem?_eq_getElem hk]; exact List.getElem_mem hk
  have hs := mem i hi
  have up := ch_rise h.ch (i := i - 1 - t) (by omega)
  rw [show i - 1 - t + 1 = i - t by omega] at up
  have key : ∃ q, q < (rows.getD (i - t) []).length ∧ Wm.g (rows.getD (i - t) []) q = (pushd rows i t).2 := by
    have c1 : Wm.Ch ((rows.take i).drop (i - t) ++ [rows.getD i []]) := by
      have hch := h.ch
      rw [Wm.split_at hi] at hch
      have e : rows.take i ++ rows.getD i [] :: rows.drop (i + 1) = (rows.take i ++ [rows.getD i []]) ++ rows.drop (i + 1) := by rw [List.append_assoc]; rfl
      rw [e] at hch
      have h2 := hch.left
      rw [← List.take_append_drop (i - t) (rows.take i), List.append_assoc] at h2
      exact h2.right
    obtain ⟨_, _, k3⟩ := Wm.push_chain (us := (rows.take i).drop (i - t)) (ds := []) (fun r hr => h.srt r (List.mem_of_mem_take (List.mem_of_mem_drop hr))) c1 (Wm.Rev.last (h.ne _ hs)) trivial
    rcases k3 with e | ⟨u, us', u', e, _, q, q1, q2, _⟩
    · have t0 : t = 0 := by
        have := congrArg List.length e
        rw [List.length_drop, List.length_take] at this
        simp at this
        omega
      subst t0
      have hn := h.ne _ hs
      refine ⟨(rows.getD i []).length - 1, by rw [Nat.sub_zero]; omega, ?_⟩
      unfold pushd
      rw [e, Nat.sub_zero]
      rfl
    · have eu : rows.getD (i - t) [] = u := by
        have e1 : ((rows.take i).drop (i - t))[0]? = some u := by rw [e]; rfl
        rw [List.getElem?_drop, Nat.add_zero] at e1
        have lt : i - t < i := by
          rcases Nat.lt_or_ge (i - t) i with z | z
          · exact z
          · rw [List.getElem?_eq_none (by rw [List.length_take]; omega)] at e1; cases e1
        rw [List.getElem?_take_of_lt lt] at e1
        rw [List.getD_eq_getElem?_getD, e1]; rfl
      exact ⟨q, by rw [eu]; exact q1, by rw [eu]; exact q2⟩
  obtain ⟨q, q1, q2⟩ := key
  exact ⟨q, Nat.lt_of_lt_of_le q1 up.1, by rw [← q2]; exact up.2 q q1⟩
/-- the list after t turns -/
abbrev stage (rows : List (List Nat)) (i t : Nat) : List (List Nat) := rows.take (i - t) ++ ((pushd rows i t).1 ++ (rows.getD i []).dropLast :: rows.drop (i + 1))
theorem stage_zero {rows : List (List Nat)} {i : Nat} (hi : i < rows.length) : stage rows i 0 = rows.set i (rows.getD i []).dropLast := by
  unfold stage pushd
  rw [Nat.sub_zero, List.drop_eq_nil_of_le (by rw [List.length_take]; omega), List.set_eq_take_append_cons_drop, if_pos hi]
  rfl
theorem stage_len {rows : List (List Nat)} {i t : Nat} (hi : i < rows.length) (ht : t ≤ i) : (stage rows i t).length = rows.length := by
  unfold stage
  rw [List.length_append, List.length_append, Wm.pushAll_len, List.length_cons, List.length_take, List.length_drop, List.length_take, List.length_drop]
  omega
theorem stage_get {rows : List (List Nat)} {i t : Nat} (hi : i < rows.length) (ht : t < i) : (stage rows i t).getD (i - 1 - t) [] = rows.getD (i - 1 - t) [] := by
  unfold stage
  rw [List.getD_eq_getElem?_getD, List.getElem?_append_left (by rw [List.length_take]; omega), List.getElem?_take_of_lt (by omega), List.getD_eq_getElem?_getD]
theorem stage_succ {rows : List (List Nat)} {i t : Nat} (hi : i < rows.length) (ht : t < i) :
    stage rows i (t + 1) = (stage rows i t).set (i - 1 - t) (Wm.pushOut (rows.getD (i - 1 - t) []) (pushd rows i t).2).1 ∧ (pushd rows i (t + 1)).2 = (Wm.pushOut (rows.getD (i - 1 - t) []) (pushd rows i t).2).2 := by
  have e : pushd rows i (t + 1) = ((Wm.pushOut (rows.getD (i - 1 - t) []) (pushd rows i t).2).1 :: (pushd rows i t).1, (Wm.pushOut (rows.getD (i - 1 - t) []) (pushd rows i t).2).2) := by
    unfold pushd
    rw [mid_cons (by omega) ht]
    rfl
  refine ⟨?_, by rw [e]⟩
  unfold stage
  rw [e]
  have l1 : (rows.take (i - 1 - t)).length = i - 1 - t := by rw [List.length_take]; omega
  have e2 : rows.take (i - t) = rows.take (i - 1 - t) ++ [rows.getD (i - 1 - t) []] := by
    rw [show i - t = i - 1 - t + 1 by omega, List.take_succ, List.getElem?_eq_getElem (by omega), List.getD_eq_getElem?_getD, List.getElem?_eq_getElem (by omega)]
    rfl
  rw [e2, show i - (t + 1) = i - 1 - t by omega, List.append_assoc, List.set_append_right _ _ (by omega), l1, Nat.sub_self]
  rfl
theorem last_ix {ns : List Nat} (h : 1 ≤ ns.length) : atI ((zs ns).map PyData.int) (-1) = some (.int (Wm.g ns (ns.length - 1) : Nat)) := by
  unfold atI ixN
  rw [if_neg (by decide), nT_len, if_pos (by omega)]
  have e : ((-1 : Int) + (ns.length : Int)).toNat = ns.length - 1 := by omega
  rw [e]
  exact nT_at (by omega)
section
variable {P : Program} {w : World} {K : PySem.W.Frag} {mg : Str → Option Value} {base : Heap}
abbrev NTF : List Str := ["rows", "index", "found", "letter", "place", "row"]
theorem scTF : FnScope NTF ["rows", "index"] (defScope (top 53)) := ⟨rfl, rfl, rfl, by decide +kernel, rfl, by decide +kernel, by decide +kernel⟩
def RTF : List PyData → PyData → Prop := fun ds d => ∃ (rows : List (List Nat)) (i : Nat), TAB rows ∧ Wm.isCorner (Wm.lens rows) i = true ∧ ds = [rT rows, .int (i : Nat)] ∧ d = .tuple [rT (Wm.takeRows rows i).1, .int ((Wm.takeRows rows i).2 : Nat)]
theorem ixN_rows {n i : Nat} (h : i < n) : ixN n (i : Int) = some i := ixN_nat h
theorem taken_from_df (M : Bt mg) (D : Dv K mg "taken_from" 53) (D1 : Df P w K mg base CX0 1 "pushed_out" ["row", "letter"] (spD RPO)) : Df P w K mg base CX0 2 "taken_from" ["rows", "index"] (spD RTF) := by
  refine df_D D scTF (fun _ _ _ _ _ _ us hl => match us, hl with | [_, _], _ => rfl) (fun ds d h => by obtain ⟨_, _, _, _, rfl, _⟩ := h; rfl) fun f cdv A outer s H E ds d hr h => ?_
  obtain ⟨rows, i, tb, hc, rfl, rfl⟩ := h
  have lm : (rows.map nT).length = rows.length := List.length_map ..
  have hl := tb.len
  have hi : i < rows.length := by have := Wm.corner_lt hc; unfold Wm.lens at this; rwa [List.length_map] at this
  have hrow := tb.row hi
  have it : itemsD rows.length (fun _ => true) (fun k => nT (rows.getD k [])) = rows.map nT := by
    have h := items_rows rows fun _ => true
    rw [List.filter_eq_self.mpr fun _ _ => rfl] at h
    exact h
  refine q_ownLc 2 (own := [("row", 5)]) (f := fun _ => true) (v := fun k => nT (rows.getD k [])) rfl scTF.nd (blkOk_by (by kernel_rfl)) (i_tup (n := rows.length) (d_var 0) (fun i hi => rT_at hi) lm) rfl (js := [5]) (fun j hj => hj) (by omega) (fun i _ _ _ _ _ _ => g_name 5 scTF.nd) (fun i _ _ _ _ _ _ => ts_nil) (fun i _ _ _ _ _ _ _ => d_var 5)
    rfl (sw_true rfl rfl rfl (by decide +kernel)) (fun B0 H0 p => ?_) (show 2 < 6 by decide)
  rw [it]
  refine m_set 3 (d := .int (lastOf rows i : Nat)) rfl (by decide) (d_ixT (last_ix hrow.2.1) (d_ixL (rT_ix hi) (d_var 2) (d_var 1)) (d_neg d_int)) ?_ scTF.nd
  refine m_put (x := "found") (d := nT (rows.getD i []).dropLast) (m := i) (imm_nT _) (d_eq (d_sl (d_ixL (rT_ix hi) (d_var 2) (d_var 1)) o_none (o_some (d_neg d_int))) ?dl) (d_var 1) (by rw [lm]; exact ixN_rows hi) ?_ rfl (.inl rfl)
  case dl =>
    show PyData.tuple (Wx.cutD _ none (some (-1))) = _
    rw [cut_last, ← List.map_dropLast, ← List.map_dropLast]
  rw [show (rows.map nT).set i (nT (rows.getD i []).dropLast) = (stage rows i 0).map nT by rw [stage_zero hi, List.map_set]]
  have p0 : (pushd rows i 0).2 = lastOf rows i := by
    unfold pushd
    rw [Nat.sub_zero, List.drop_eq_nil_of_le (by rw [List.length_take]; omega)]
    rfl
  refine m_for (fun t ρ ds => (∃ a b, ρ = [some (rT rows), some (.int (i : Nat)), none, some (.int ((pushd rows i t).2 : Nat)), a, b]) ∧ ds = (stage rows i t).map nT) (fun t ρ => ρ.set 4 (some (.int ((i - 1 - t : Nat) : Int)))) (i_rngD (m := i) (a_cons (d_bin r_sub (d_var 1) d_int) (a_cons (d_neg d_int) (a_cons (d_neg d_int) a_nil))) (by omega) M.range)
    ⟨⟨none, none, by rw [p0]; rfl⟩, rfl⟩ (js := [4]) (by decide) (fun t ρ ds ht h => by obtain ⟨⟨a, b, rfl⟩, _⟩ := h; exact g_name 4 scTF.nd) (fun t ρ ds ht h => ?_) (fun ρ ds h => ?_) rfl PassesOwn.never
  · obtain ⟨⟨a, b, rfl⟩, rfl⟩ := h
    obtain ⟨q, q1, q2⟩ := push_room tb.t hi ht
    have sl := stage_len hi (Nat.le_of_lt ht)
    have rl := (tb.row (i := i - 1 - t) (by omega)).1.1
    obtain ⟨n1, n2⟩ := stage_succ hi ht
    refine m_put2 (x := "found") (y := "letter") (i2 := 3) (m := i - 1 - t) (d1 := nT (Wm.pushOut (rows.getD (i - 1 - t) []) (pushd rows i t).2).1) (d2 := .int ((Wm.pushOut (rows.getD (i - 1 - t) []) (pushd rows i t).2).2 : Nat)) (imm_nT _) rfl
      (d_df D1 hr ⟨rows.getD (i - 1 - t) [], (pushd rows i t).2, q, by omega, q1, q2, rfl, rfl⟩ (a_cons (d_eq (d_ixL (rT_ix (rows := stage rows i t) (i := i - 1 - t) (by omega)) (d_var 2) (d_var 4)) (by rw [stage_get hi ht])) (a_cons (d_var 3) a_nil))) (d_var 4) (by rw [List.length_map, sl]; exact ixN_rows (by omega)) (m_nil ⟨⟨_, _, by rw [n2]; rfl⟩, by rw [n1, List.map_set]⟩) rfl rfl (.inl rfl) (by decide) scTF.nd rfl (.inl rfl) (.inl rfl)
  · obtain ⟨⟨a, b, rfl⟩, rfl⟩ := h
    have sl := stage_len hi (Nat.le_refl i)
    refine m_end (q_ret (d_tup (a_cons (d_callTy c_tupL (a_cons (d_lc (own := [("row", 5)]) (n := (stage rows i i).length) (y := fun k => nT ((stage rows i i).getD k [])) (f := fun k => decide (0 < ((stage rows i i).getD k []).length)) (v := fun k => nT ((stage rows i i).getD k [])) rfl scTF.nd (blkOk_by (by kernel_rfl)) (i_lst (d_var 2) (fun k hk => rT_at hk) (List.length_map ..)) rfl (js := [5]) (fun j hj => hj) (by omega)
      (fun k _ _ _ _ _ _ => g_name 5 scTF.nd) (fun k _ _ _ _ _ _ => ts_one (t_eq (t_cmp r_gt (d_callB c_lenT (a_cons (d_var 5) a_nil) M.len) d_int) (by rw [nT_len, Bool.eq_iff_iff, decide_eq_true_eq, decide_eq_true_eq]; omega))) fun k _ _ _ _ _ _ _ => d_var 5) a_nil) M.tuple) (a_cons (d_var 3) a_nil))) ?_)
    have h := items_rows (stage rows i i) fun r => decide (0 < r.length)
    show PyData.tuple _ = PyData.tuple _
    rw [h]
    unfold Wm.takeRows stage pushd
    rw [Nat.sub_self, List.take_zero, List.drop_zero, List.nil_append]
end
end Wd

set_option Elab.async false
set_option linter.all false
set_option maxRecDepth 100000
set_option maxHeartbeats 4000000
/-! Boxes: the law's own list of them, the shape of a list of boxes. -/
namespace Wd
open PySem PySem.Spec PyProof.Rows L2 Evl Wx We
abbrev zb (bs : List (Nat × Nat)) : List (Int × Int) := bs.map fun b => ((b.1 : Int), (b.2 : Int))
abbrev bD (b : Nat × Nat) : PyData := .tuple [.int (b.1 : Nat), .int (b.2 : Nat)]
abbrev bxD (bs : List (Nat × Nat)) : PyData := .list (bs.map bD)
theorem bx_at {bs : List (Nat × Nat)} {i : Nat} (h : i < bs.length) : (bs.map bD)[i]? = some (bD (bs.getD i (0, 0))) := by
  rw [List.getElem?_map, List.getD_eq_getElem?_getD, List.getElem?_eq_getElem h]; rfl
/-! ### counting -/
abbrev cE (k : Int × Int) : L2.Key × V := (Sum.inl k.1, V.int k.2)
structure Cnt (bs : List (Nat × Nat)) (ks : List (Int × Int)) : Prop where
  is : ∀ p ∈ ks, ∃ r : Nat, p = ((r : Int), ((Wm.rowCount bs r : Nat) : Int)) ∧ 0 < Wm.rowCount bs r
  has : ∀ r : Nat, 0 < Wm.rowCount bs r → ((r : Int), ((Wm.rowCount bs r : Nat) : Int)) ∈ ks
  nd : (ks.map (·.1)).Nodup
  len : ks.length ≤ bs.length
theorem Cnt.nil : Cnt [] [] := ⟨(fun p hp => nomatch hp), fun r h => absurd h (Nat.lt_irrefl 0), List.nodup_nil, Nat.le_refl _⟩
theorem Cnt.val {bs : List (Nat × Nat)} {ks : List (Int × Int)} (h : Cnt bs ks) (r : Nat) : valV (ks.map cE) (Sum.inl (r : Int)) = if 0 < Wm.rowCount bs r then some (V.int (Wm.rowCount bs r : Nat)) else none := by
  unfold valV
  by_cases hc : 0 < Wm.rowCount bs r
  · rw [if_pos hc]
    cases hf : (ks.map cE).find? fun kv => decide (kv.1 = Sum.inl (r : Int)) with
    | none =>
      rw [List.find?_eq_none] at hf
      exact absurd (decide_eq_true rfl) (hf (cE _) (List.mem_map.mpr ⟨_, h.has r hc, rfl⟩))
    | some q =>
      obtain ⟨p, hp, rfl⟩ := List.mem_map.mp (List.mem_of_find?_eq_some hf)
      have e0 := List.find?_some (p := fun kv : L2.Key × V => decide (kv.1 = Sum.inl (r : Int))) hf
      have e : (cE p).1 = Sum.inl (r : Int) := of_decide_eq_true e0
      injection e with e
      obtain ⟨r2, rfl, _⟩ := h.is p hp
      have e : (r2 : Int) = r := e
      have : r2 = r := by omega
      subst this
      rfl
  · rw [if_neg hc]
    have : (ks.map cE).find? (fun kv => decide (kv.1 = Sum.inl (r : Int))) = none := by
      rw [List.find?_eq_none]
      intro x hx z
      obtain ⟨p, hp, rfl⟩ := List.mem_map.mp hx
      have e : (cE p).1 = Sum.inl (r : Int) := of_decide_eq_true z
      injection e with e
      obtain ⟨r2, rfl, h2⟩ := h.is p hp
      have e : (r2 : Int) = r := e
      have : r2 = r := by omega
      rw [this] at h2
      exact hc h2
    rw [this]; rfl
theorem Cnt.step {bs : List (Nat × Nat)} {ks : List (Int × Int)} (h : Cnt bs ks) (b : Nat × Nat) : ∃ ks2, Cnt (bs ++ [b]) ks2 ∧ putK (ks.map cE) (Sum.inl (b.1 : Int)) (V.int ((Wm.rowCount bs b.1 + 1 : Nat) : Int)) = ks2.map cE := by
  have rc : ∀ r, Wm.rowCount (bs ++ [b]) r = Wm.rowCount bs r + if b.1 = r then 1 else 0 := fun r => by
    rw [Wm.rowCount_append]
    obtain ⟨i, j⟩ := b
    rw [Wm.rowCount_one]
  have anyI : ((ks.map cE).any fun kv => decide (kv.1 = Sum.inl (b.1 : Int))) = decide (0 < Wm.rowCount bs b.1) := by
    by_cases hc : 0 < Wm.rowCount bs b.1
    · rw [decide_eq_true hc]
      exact List.any_eq_true.mpr ⟨_, List.mem_map.mpr ⟨_, h.has _ hc, rfl⟩, decide_eq_true rfl⟩
    · rw [decide_eq_false hc]
      refine List.any_eq_false.mpr fun x hx z => ?_
      obtain ⟨p, hp, rfl⟩ := List.mem_map.mp hx
      have e : (cE p).1 = Sum.inl (b.1 : Int) := of_decide_eq_true z
      injection e with e
      obtain ⟨r2, rfl, h2⟩ := h.is p hp
      have e : (r2 : Int) = b.1 := e
      have : r2 = b.1 := by omega
      rw [this] at h2
      exact hc h2
  unfold putK
  rw [anyI]
  by_cases hc : 0 < Wm.rowCount bs b.1
  · rw [if_pos (decide_eq_true hc)]
    refine ⟨ks.map fun p => if p.1 = (b.1 : Int) then (p.1, ((Wm.rowCount bs b.1 + 1 : Nat) : Int)) else p, ⟨fun p hp => ?_, fun r hr => ?_, ?_, by rw [List.length_map, List.length_append]; exact Nat.le_succ_of_le h.len⟩, ?_⟩
    · obtain ⟨q, hq, rfl⟩ := List.mem_map.mp hp
      obtain ⟨r, rfl, h2⟩ := h.is q hq
      refine ⟨r, ?_, by rw [rc]; omega⟩
      by_cases e : b.1 = r
      · subst e
        rw [if_pos rfl, rc, if_pos rfl]
      · rw [if_neg (fun z : (r : Int) = b.1 => e (by omega)), rc, if_neg e]
        rfl
    · by_cases e : b.1 = r
      · subst e
        refine List.mem_map.mpr ⟨_, h.has _ hc, ?_⟩
        rw [if_pos rfl, rc, if_pos rfl]
      · rw [rc, if_neg e, Nat.add_zero] at hr
        rw [rc, if_neg e, Nat.add_zero]
        refine List.mem_map.mpr ⟨_, h.has _ hr, ?_⟩
        rw [if_neg (fun z : (r : Int) = b.1 => e (by omega))]
        rfl
    · have : (ks.map fun p => if p.1 = (b.1 : Int) then (p.1, ((Wm.rowCount bs b.1 + 1 : Nat) : Int)) else p).map (·.1) = ks.map (·.1) := by
        rw [List.map_map]
        refine List.map_congr_left fun p _ => ?_
        show (if p.1 = (b.1 : Int) then (p.1, ((Wm.rowCount bs b.1 + 1 : Nat) : Int)) else p).1 = p.1
        split <;> rfl
      rw [this]; exact h.nd
    · rw [List.map_map, List.map_map]
      refine List.map_congr_left fun p _ => ?_
      show (if (Sum.inl p.1 : L2.Key) = Sum.inl (b.1 : Int) then (_, _) else _) = cE (if p.1 = (b.1 : Int) then _ else _)
      by_cases e : p.1 = (b.1 : Int)
      · rw [if_pos (by rw [e]), if_pos e]
      · rw [if_neg (fun z => e (Sum.inl.inj z)), if_neg e]
  · rw [if_neg (fun z => hc (of_decide_eq_true z))]
    have c0 : Wm.rowCount bs b.1 = 0 := by omega
    refine ⟨ks ++ [((b.1 : Int), ((Wm.rowCount bs b.1 + 1 : Nat) : Int))], ⟨fun p hp => ?_, fun r hr => ?_, ?_, by rw [List.length_append, List.length_append]; exact Nat.add_le_add_right h.len 1⟩, by rw [List.map_append]; rfl⟩
    · rcases List.mem_append.mp hp with hq | hq
      · obtain ⟨r, rfl, h2⟩ := h.is p hq
        have e : b.1 ≠ r := fun e => by rw [← e] at h2; omega
        exact ⟨r, by rw [rc, if_neg e]; rfl, by rw [rc]; omega⟩
      · rw [List.mem_singleton] at hq
        subst hq
        exact ⟨b.1, by rw [rc, if_pos rfl], by rw [rc, if_pos rfl]; omega⟩
    · by_cases e : b.1 = r
      · subst e
        exact List.mem_append_right _ (by rw [rc, if_pos rfl]; exact List.mem_cons_self)
      · rw [rc, if_neg e, Nat.add_zero] at hr ⊢
        exact List.mem_append_left _ (h.has r hr)
    · rw [List.map_append, List.nodup_append]
      refine ⟨h.nd, by simp, fun x hx y hy z => ?_⟩
      have hy : y = (b.1 : Int) := by simpa using hy
      subst hy
      obtain ⟨p, hp, e⟩ := List.mem_map.mp hx
      obtain ⟨r, rfl, h2⟩ := h.is p hp
      have e : (r : Int) = x := e
      have : r = b.1 := by omega
      rw [this, c0] at h2
      exact absurd h2 (Nat.lt_irrefl 0)
abbrev dI (ks : List (Int × Int)) : PyData := .dict (ks.map fun k => (.int k.1, .int k.2))
section
variable {X : Cx} {ρ : Rho} {a b e : Expr} {d : PyData} {pos : Pos}
theorem dI_of {B : Hp} {v : V} {ks : List (Int × Int)} (h : Da B v (dI ks)) : ∃ a, v = .ref a ∧ B a = some (.dK (ks.map cE)) := by
  generalize hd : dI ks = dd at h
  cases h with
  | dkI h =>
    rename_i a ks2
    injection hd with hd
    have : ks = ks2 := by
      refine (List.map_inj_right (f := fun k : Int × Int => (PyData.int k.1, PyData.int k.2)) fun p q z => ?_).mp hd
      injection z with z1 z2
      injection z1 with z1
      injection z2 with z2
      exact Prod.ext z1 z2
    subst this
    exact ⟨a, rfl, h⟩
  | dkT h =>
    injection hd with hd
    cases ks with
    | nil => cases hd
    | cons k ks => injection hd with h1 _; injection h1 with h1 _; cases h1
  | rf a =>
    injection hd with hd
    cases ks with
    | nil => cases hd
    | cons k ks => injection hd with h1 _; injection h1 with h1 _; cases h1
  | exc h =>
    injection hd with hd
    cases ks with
    | nil => cases hd
    | cons k ks => injection hd with h1 _; injection h1 with h1 _; cases h1
  | obj h _ =>
    injection hd with hd
    cases ks with
    | nil => cases hd
    | cons k ks => injection hd with h1 _; injection h1 with h1 _; cases h1
  | _ => cases hd
theorem c_srtD {bs : List (Nat × Nat)} {ks : List (Int × Int)} {rs : List Nat} (hc : X.calm = true) (h : Cnt bs ks) (hl : ks.length < 64) (h1 : rs.Nodup) (h2 : rs.Pairwise (· ≤ ·)) (h3 : ∀ r, r ∈ rs ↔ 0 < Wm.rowCount bs r) :
    CalR X (.builtin "sorted") [dI ks] (.list ((zs rs).map PyData.int)) := ⟨_, call_sortedDI hc, fun vs B H ex e1 Q k => by
  cases e1 with
  | cons h0 t =>
    cases t
    obtain ⟨a, rfl, ha⟩ := dI_of h0
    refine ⟨a, ks.map cE, ks.map (·.1), rfl, .inl (ex _ _ ha), by rw [List.map_map, List.map_map]; rfl, by rw [List.length_map]; exact hl, fun ys p q1 q2 hp => ?_⟩
    have e : ys = zs rs := by
      refine sorted_one (q1.trans ?_) q2 ?_
      · refine (List.perm_ext_iff_of_nodup h.nd ?_).mpr fun x => ?_
        · exact List.Pairwise.map _ (fun x y hxy z => hxy (by have z : (x : Int) = y := z; omega)) h1
        · constructor
          · intro hx
            obtain ⟨p, hp, rfl⟩ := List.mem_map.mp hx
            obtain ⟨r, rfl, hr⟩ := h.is p hp
            exact List.mem_map.mpr ⟨r, (h3 r).mpr hr, rfl⟩
          · intro hx
            obtain ⟨r, hr, rfl⟩ := List.mem_map.mp hx
            exact List.mem_map.mpr ⟨_, h.has r ((h3 r).mp hr), rfl⟩
      · rw [List.pairwise_map]
        exact h2.imp fun z => by omega
    rw [e]
    exact k _ _ _ (Gr.new ex hp) (.lst upd_same (daInts _))⟩
theorem d_getD {bs : List (Nat × Nat)} {ks : List (Int × Int)} {r : Nat} (hu : X.A.units + 64 < cLine) (h : Cnt bs ks) (hr : 0 < Wm.rowCount bs r) (ha : ED X a ρ (dI ks)) (hb : ED X b ρ (.int (r : Nat))) (hs : NoSl b := by exact fun _ _ => rfl) : ED X (.Subscript a b pos) ρ (.int (Wm.rowCount bs r : Nat)) := fun σ B H ex s Q k =>
  (pe_dget (by omega) pe_RE pe_RE hs).re (ha σ B H ex s _ fun x B1 H1 g1 e1 => hb σ B1 H1 g1.s (s.mono g1.b) _ fun y B2 H2 g2 e2 => by
    obtain ⟨p, rfl, hp⟩ := dI_of e1
    obtain rfl := e2.int_of
    have g := DGet.k (k := Sum.inl (r : Int)) (g2.h _ _ (g1.s _ _ hp))
    rw [h.val r, if_pos hr] at g
    exact ⟨p, _, rfl, g, k _ B2 H2 (g1.trans g2) (.int _)⟩)
end
end Wd

set_option Elab.async false
set_option linter.all false
set_option maxRecDepth 100000
set_option maxHeartbeats 4000000
/-! _law_boxes, _law_form_of. -/
namespace Wd
open PySem PySem.Spec PyProof.Rows L2 Evl Wx We
theorem set_ne {α : Type} {l : List α} {i j : Nat} {x : α} (h : i ≠ j) : (l.set i x)[j]? = l[j]? := List.getElem?_set_ne h
theorem take_get {bs : List (Nat × Nat)} {i : Nat} (h : i < bs.length) : bs.take (i + 1) = bs.take i ++ [bs.getD i (0, 0)] := by
  rw [List.take_succ, List.getElem?_eq_getElem h, List.getD_eq_getElem?_getD, List.getElem?_eq_getElem h]
  rfl
section
variable {X : Cx} {C : Addr} {E : XK} {ρ : Rho} {o : Po} {e tg : Expr} {s1 : Stmt} {body rest : List Stmt} {pf : Pos} {bs : List (Nat × Nat)} {jf ji jj : Nat}
theorem q_count (hb : ED X e (ρ.set jf none) (bxD bs)) (h1 : PS X s1 (tAsg tDNewK (gName jf))) (hg : PG X tg (gTup X.K 2 (gCons (gName ji) (gCons (gName jj) gNil))))
    (h2 : PSs X body (sDPut (tVar jf) (tVar ji) (tOp (rI0 fun i j => .int (i + j)) (tDGet2 (tVar jf) (tVar ji) (tC (.int 0))) (tC (.int 1))))) (n1 : ji ≠ jf) (n2 : jj ≠ jf) (n3 : jj ≠ ji) (lf : jf < ρ.length) (li : ji < ρ.length) (lz : bs.length ≤ 1000)
    (k : ∀ ks, Cnt bs ks → SX X C E rest (((ρ.set jf (some (dI ks))).set ji none).set jj none) o) (hc : X.calm = true) (hp : PassesOwn (model X.prog X.w) X.A X.env X.xe) (hs : ∀ x, foldedSetIterable e X.env x = pure x := by intro _; rfl) :
    SX X C E (s1 :: .For tg e body [] pf :: rest) ρ o := by
  intro σ B H D ex s nx rt rz
  refine (pss_cons h1 (pss_cons (ps_for hp hc (pi_list pe_RE) hg h2 hs) pss_RSs)).rss ?_
  intro p hpn
  have ep : Ex B (upd H p (.dK [])) := ex.trans (Ex.new hpn)
  have s1' : StD B (σ.set jf (some (.ref p))) (ρ.set jf none) := s.free
  have bp : B p = none := fresh_back ex hpn
  refine hb _ B _ ep s1' _ fun v B1 H1 g1 e1 => ?_
  obtain ⟨l, xs, rfl, hl, hd⟩ := e1.lst_of
  have hlen : xs.length = bs.length := by rw [hd.len, List.length_map]
  refine ⟨l, rfl, ⟨xs, sq_of (g1.s _ _ hl)⟩, ?_⟩
  have b1p : B1 p = none := (g1.f p (by rw [upd_same]; intro z; cases z)).trans bp
  refine for_it (walk_list (K := X.K) (a := l) (xs := xs)) (σ := σ.set jf (some (.ref p))) (H := H1) (fun t σ2 H2 => ∃ B2 ks, Gr B H B2 H2 ∧ Ex B1 B2 ∧ StD B2 σ2 (((ρ.set jf none).set ji none).set jj none) ∧ σ2[jf]? = some (some (.ref p)) ∧ B2 p = none ∧ H2 p = some (.dK (ks.map cE)) ∧ Cnt (bs.take t) ks) ?_ ?_ ?_ ?_
  · refine ⟨B1, [], ⟨g1.b, (Ex.new hpn).trans g1.h, g1.s, fun a n => g1.f a ?_⟩, Ex.refl _, (s1'.mono g1.b).sub (by rw [List.length_set, List.length_set]) ?_, List.getElem?_set_self (by rw [s.len]; exact lf), b1p, g1.h _ _ upd_same, ?_⟩
    · intro z
      by_cases q : a = p
      · rw [q] at n; exact n hpn
      · rw [upd_ne q] at z; exact n z
    · intro i d q
      by_cases z : jj = i
      · subst z
        rw [List.getElem?_set, if_pos rfl] at q
        split at q <;> cases q
      · rw [set_ne z] at q
        by_cases z2 : ji = i
        · subst z2
          rw [List.getElem?_set, if_pos rfl] at q
          split at q <;> cases q
        · rw [set_ne z2] at q; exact q
    · rw [List.take_zero]; exact Cnt.nil
  · intro t σ2 H2 _ q
    obtain ⟨B2, ks, g2, eb, _⟩ := q
    exact sq_of (g2.s _ _ (eb _ _ hl))
  · intro t x σ2 H2 H3 ht q yd
    obtain ⟨B2, ks, g2, eb, s2, af, nb, hd2, cn⟩ := q
    obtain ⟨rfl, hx⟩ := yd
    have htb : t < bs.length := by rw [← hlen]; exact ht
    obtain ⟨d0, e3, e4⟩ := hd.at' hx
    rw [bx_at htb] at e3
    cases e3
    obtain ⟨a, ys, rfl, ha, hys⟩ := (e4.mono eb).tup_of
    cases hys with
    | cons y1 hys =>
      cases hys with
      | cons y2 hys =>
        cases hys
        obtain rfl := y1.int_of
        obtain rfl := y2.int_of
        refine ⟨a, _, rfl, st_of (g2.s _ _ ha), rfl, _, _, rfl, _, _, rfl, rfl, ?_⟩
        generalize hbb : bs.getD t (0, 0) = b at *
        have lσ : σ2.length = ρ.length := by rw [s2.len, List.length_set, List.length_set, List.length_set]
        have vf : ((σ2.set ji (some (.int (b.1 : Nat)))).set jj (some (.int (b.2 : Nat))))[jf]? = some (some (.ref p)) := by rw [set_ne n2, set_ne n1]; exact af
        have vi : ((σ2.set ji (some (.int (b.1 : Nat)))).set jj (some (.int (b.2 : Nat))))[ji]? = some (some (.int (b.1 : Nat))) := by rw [set_ne n3, List.getElem?_set_self (by rw [lσ]; exact li)]
        obtain ⟨ks2, cn2, put⟩ := cn.step b
        refine ⟨_, vf, p, rfl, .inl ⟨_, .inl hd2⟩, _, vi, _, DGet.k (k := Sum.inl (b.1 : Int)) hd2, (Wm.rowCount (bs.take t) b.1 : Nat), 1, ?_, rfl, _, vf, _, vi, p, _, rfl, DPut.k (k := Sum.inl (b.1 : Int)) hd2 ?_, ?_⟩
        · rw [cn.val b.1]
          by_cases c : 0 < Wm.rowCount (bs.take t) b.1
          · rw [if_pos c]; rfl
          · rw [if_neg c]
            have : Wm.rowCount (bs.take t) b.1 = 0 := by omega
            rw [this]; rfl
        · rw [List.length_map]
          have := cn.len
          rw [List.length_take] at this
          exact sz_lt (by omega)
        · have put2 : putK (ks.map cE) (Sum.inl (b.1 : Int)) ((fun i j : Int => V.int (i + j)) ((Wm.rowCount (bs.take t) b.1 : Nat) : Int) 1) = ks2.map cE := put
          rw [put2]
          refine ⟨B2, ks2, ⟨g2.b, Ex.mut g2.h hpn, Ex.mut g2.s nb, g2.f⟩, eb, ?_, vf, nb, upd_same, by rw [take_get htb, hbb]; exact cn2⟩
          have q1 := ((s2.free (i := ji) (o := some (.int (b.1 : Nat)))).free (i := jj) (o := some (.int (b.2 : Nat)))).sub (ρ' := ((ρ.set jf none).set ji none).set jj none) (by simp only [List.length_set]) fun i d q => by
            by_cases z : jj = i
            · subst z
              rw [List.getElem?_set, if_pos rfl] at q
              split at q <;> cases q
            · rw [set_ne z] at q
              by_cases z2 : ji = i
              · subst z2
                rw [List.getElem?_set, if_pos rfl] at q
                split at q <;> cases q
              · rw [set_ne z2] at q
                rw [set_ne z, set_ne z2, set_ne z, set_ne z2]; exact q
          exact q1
  · intro σ2 H2 q
    obtain ⟨B2, ks, g2, eb, s2, af, nb, hd2, cn⟩ := q
    rw [hlen, List.take_of_length_le (Nat.le_refl _)] at cn
    have gu : Gr B H (upd B2 p (.dK (ks.map cE))) H2 := by
      refine ⟨g2.b.trans (Ex.new nb), g2.h, fun a u q => ?_, fun a n => ?_⟩
      · by_cases z : a = p
        · rw [z, upd_same] at q; rw [z, hd2]; exact q
        · rw [upd_ne z] at q; exact g2.s a u q
      · rw [upd_ne fun z => n (by rw [z]; exact hpn)]; exact g2.f a n
    refine k ks cn σ2 _ H2 D gu.s ⟨by rw [s2.len]; simp only [List.length_set], fun i d q => ?_⟩ (fun σ' B' H' ρ' g' => nx σ' B' H' ρ' (gu.trans g')) (fun v B' H' d g' => rt v B' H' d (gu.trans g')) fun v B' H' d x g' => rz v B' H' d x (gu.trans g')
    by_cases z : jj = i
    · subst z
      rw [List.getElem?_set, if_pos rfl] at q
      split at q <;> cases q
    · rw [set_ne z] at q
      by_cases z2 : ji = i
      · subst z2
        rw [List.getElem?_set, if_pos rfl] at q
        split at q <;> cases q
      · rw [set_ne z2] at q
        by_cases z3 : jf = i
        · subst z3
          rw [List.getElem?_set_self lf] at q
          cases q
          exact ⟨_, af, .dkI upd_same⟩
        · rw [set_ne z3] at q
          obtain ⟨v, e1, e2⟩ := s2.at_ i d (by rw [set_ne z, set_ne z2, set_ne z3]; exact q)
          exact ⟨v, e1, e2.mono (Ex.new nb)⟩
end
section
variable {P : Program} {w : World} {K : PySem.W.Frag} {mg : Str → Option Value} {base : Heap}
abbrev NBx : List Str := ["_law_form_here", "_law_found", "_law_i", "_law_j"]
theorem scBx : FnScope NBx ["_law_form_here"] (defScope (top 61)) := ⟨rfl, rfl, rfl, by decide +kernel, rfl, by decide +kernel, by decide +kernel⟩
def RBx : List PyData → PyData → Prop := fun ds d => ∃ ns : List Nat, SHP ns ∧ ds = [nT ns] ∧ d = bxD (Wm.boxes ns)
theorem boxesTo_40 {ns : List Nat} (h : SHP ns) {i : Nat} (hi : i ≤ ns.length) : (Wm.boxesTo ns i).length ≤ 40 := by
  refine Nat.le_trans (Wm.boxesTo_len ns i) ?_
  have : (ns.take i).sum ≤ ns.sum := by
    conv => rhs; rw [← List.take_append_drop i ns, List.sum_append]
    omega
  have := h.2
  omega
theorem law_boxes_df (M : Bt mg) (D : Dv K mg "_law_boxes" 61) : Df P w K mg base CX0 1 "_law_boxes" ["_law_form_here"] (spD RBx) := by
  refine df_D D scBx (fun _ _ _ _ _ _ us hl => match us, hl with | [_], _ => rfl) (fun ds d h => by obtain ⟨_, _, rfl, _⟩ := h; rfl) fun f cdv A outer s H E ds d hr h => ?_
  obtain ⟨ns, sh, rfl, rfl⟩ := h
  have hl := sh.l
  refine q_set 1 (d_eq (d2 := bxD (Wm.boxesTo ns 0)) (d_lst a_nil) rfl) (q_for (fun i ρ => ∃ a b, ρ = [some (nT ns), some (bxD (Wm.boxesTo ns i)), a, b]) (fun i ρ => ρ.set 2 (some (.int (i : Nat)))) (n := ns.length) (i_rng (n := ns.length) (m := (ns.length : Nat)) (a_cons (d_eq (d_callB c_lenT (a_cons (d_var 0) a_nil) M.len) (by rw [nT_len])) a_nil) (by simp) (by omega) (by omega) M.range) ⟨_, _, rfl⟩
    (fun i ρ hi h => by obtain ⟨a, b, rfl⟩ := h; exact g_name 2 scBx.nd) (fun i ρ hi h => ?_) (fun ρ h => ?_) rfl PassesOwn.never) scBx.nd
  · obtain ⟨a, b, rfl⟩ := h
    have g0 := sh.g0 i
    have l0 := boxesTo_40 sh (Nat.le_of_lt hi)
    have l1 := itemsD_len (Wm.g ns i) (fun _ => true) fun j => bD (i, j)
    refine q_set 1 (d_eq (d2 := bxD (Wm.boxesTo ns (i + 1))) (d_bin (r_catL (ds := (Wm.boxesTo ns i).map bD) (ds2 := itemsD (Wm.g ns i) (fun _ => true) fun j => bD (i, j)) (by rw [List.length_map]; omega)) (d_var 1) (d_lc (own := [("_law_j", 3)]) (f := fun _ => true) (v := fun j => bD (i, j)) rfl scBx.nd (blkOk_by (by kernel_rfl))
      (i_rng (n := Wm.g ns i) (m := (Wm.g ns i : Nat)) (a_cons (d_ixT (nT_ix hi) (d_var 0) (d_var 2)) a_nil) (by simp) (by omega) (by omega) M.range) rfl (js := [3]) (fun j hj => hj) (by omega) (fun j _ _ _ _ _ _ => g_name 3 scBx.nd) (fun j _ _ _ _ _ _ => ts_nil) fun j _ _ _ _ _ _ _ => d_tup (a_cons (d_var 2) (a_cons (d_var 3) a_nil)))) ?_) (s_nil ⟨_, _, rfl⟩) scBx.nd
    rw [itemsD_all, Wm.boxesTo_succ]
    show PyData.list _ = PyData.list _
    rw [List.map_append, List.map_map]
    rfl
  · obtain ⟨a, b, rfl⟩ := h
    exact q_ret (d_var 1) rfl
abbrev NFo : List Str := ["_law_boxes_here", "_law_lots", "_law_i", "_law_j", "_law_found", "_law_each"]
theorem scFo : FnScope NFo ["_law_boxes_here"] (defScope (top 62)) := ⟨rfl, rfl, rfl, by decide +kernel, rfl, by decide +kernel, by decide +kernel⟩
def RFo : List PyData → PyData → Prop := fun ds d => ∃ bs : List (Nat × Nat), bs.Nodup ∧ bs.length < 60 ∧ ds = [bxD bs] ∧ ((Wm.formOk bs = false ∧ d = .list []) ∨
  (Wm.formOk bs = true ∧ ∃ rs : List Nat, rs.Nodup ∧ rs.Pairwise (· ≤ ·) ∧ (∀ r, r ∈ rs ↔ 0 < Wm.rowCount bs r) ∧ d = .list [nT (rs.map (Wm.rowCount bs))]))
theorem any_zb {bs : List (Nat × Nat)} {i j : Nat} : (zb bs).any (· == ((i : Int), (j : Int))) = bs.contains (i, j) := by
  rw [Bool.eq_iff_iff, List.any_eq_true, List.contains_iff_mem]
  constructor
  · rintro ⟨x, hx, e⟩
    obtain ⟨b, hb, rfl⟩ := List.mem_map.mp hx
    have e := eq_of_beq e
    injection e with e1 e2
    have : b = (i, j) := Prod.ext (by omega) (by omega)
    rw [← this]; exact hb
  · intro h
    exact ⟨_, List.mem_map.mpr ⟨_, h, rfl⟩, beq_self_eq_true _⟩
theorem law_form_of_df (M : Bt mg) (D : Dv K mg "_law_form_of" 62) : Df P w K mg base CX0 1 "_law_form_of" ["_law_boxes_here"] (spD RFo) := by
  refine df_D D scFo (fun _ _ _ _ _ _ us hl => match us, hl with | [_], _ => rfl) (fun ds d h => by obtain ⟨_, _, _, rfl, _⟩ := h; rfl) fun f cdv A outer s H E ds d hr h => ?_
  obtain ⟨bs, nd, hl, rfl, hres⟩ := h
  have ll : (bs.map bD).length = bs.length := List.length_map ..
  have hu := hr.units
  have im : itemsD bs.length (fun _ => true) (fun k => .tuple [bD (bs.getD k (0, 0)), .bool true]) = (zb bs).map fun k => .tuple [.tuple [.int k.1, .int k.2], .bool true] := by
    have h := items_list bs (0, 0) (fun _ => true) fun b => .tuple [bD b, .bool true]
    rw [List.filter_eq_self.mpr fun _ _ => rfl] at h
    rw [h, List.map_map]
    rfl
  have ndz : (zb bs).Nodup := List.Pairwise.map _ (fun x y hxy z => hxy (by
    have z : ((x.1 : Int), (x.2 : Int)) = ((y.1 : Int), (y.2 : Int)) := z
    injection z with z1 z2
    exact Prod.ext (by omega) (by omega))) nd
  refine q_set 1 (d_callTy (c_dictT (ks := zb bs) rfl hu ndz) (a_cons (d_eq (d_lc (own := [("_law_each", 5)]) (f := fun _ => true) (v := fun k => .tuple [bD (bs.getD k (0, 0)), .bool true]) rfl scFo.nd (blkOk_by (by kernel_rfl)) (i_lst (n := bs.length) (d_var 0) (fun i hi => bx_at hi) ll) rfl (js := [5]) (fun j hj => hj) (by omega) (fun i _ _ _ _ _ _ => g_name 5 scFo.nd) (fun i _ _ _ _ _ _ => ts_nil)
    fun i _ _ _ _ _ _ _ => d_tup (a_cons (d_var 5) (a_cons d_bl a_nil))) (congrArg PyData.list im)) a_nil) M.dict) ?_ scFo.nd
  refine q_for (fun t ρ => (∃ a b, ρ = [some (bxD bs), some (dT (zb bs)), a, b, none, none]) ∧ ∀ k, k < t → Wm.boxOk bs (bs.getD k (0, 0)) = true) (fun t ρ => (ρ.set 2 (some (.int ((bs.getD t (0, 0)).1 : Nat)))).set 3 (some (.int ((bs.getD t (0, 0)).2 : Nat)))) (n := bs.length) (i_lst (d_var 0) (fun i hi => bx_at hi) ll) ⟨⟨_, _, rfl⟩, fun k h => absurd h (Nat.not_lt_zero _)⟩
    (fun t ρ ht h => by obtain ⟨⟨a, b, rfl⟩, _⟩ := h; exact g_pair rfl (g_name 2 scFo.nd) (g_name 3 scFo.nd)) (fun t ρ ht h => ?_) (fun ρ h => ?_) rfl PassesOwn.never
  · obtain ⟨⟨a, b, rfl⟩, hall⟩ := h
    have hmem : bs.getD t (0, 0) ∈ bs := by rw [List.getD_eq_getElem?_getD, List.getElem?_eq_getElem ht]; exact List.getElem_mem ht
    generalize hb : bs.getD t (0, 0) = q at *
    obtain ⟨i, j⟩ := q
    refine q_when (p := !Wm.boxOk bs (i, j)) (t_eq (t_w (w_or (q := decide (0 < j) && !bs.contains (i, j - 1)) (t_w (w_and (q := !bs.contains (i - 1, j)) (t_cmp r_gt (d_var 2) d_int) fun z => w_and1 (t_eq (t_cmp (r_niD (ks := zb bs) hu) (d_tup (a_cons (d_eq (d2 := .int ((i - 1 : Nat) : Int)) (d_bin r_sub (d_var 2) d_int) (by have := of_decide_eq_true z; exact congrArg PyData.int (by omega))) (a_cons (d_var 3) a_nil))) (d_var 1)) (by rw [any_zb])))) fun _ =>
      w_or1 (t_w (t_eq' (w_and (q := !bs.contains (i, j - 1)) (t_cmp r_gt (d_var 3) d_int) fun z => w_and1 (t_eq (t_cmp (r_niD (ks := zb bs) hu) (d_tup (a_cons (d_var 2) (a_cons (d_eq (d2 := .int ((j - 1 : Nat) : Int)) (d_bin r_sub (d_var 3) d_int) (by have := of_decide_eq_true z; exact congrArg PyData.int (by omega))) a_nil))) (d_var 1)) (by rw [any_zb]))) (by congr 1; rw [Bool.eq_iff_iff, decide_eq_true_eq, decide_eq_true_eq]; omega))))) ?bx) (fun z => ?_) fun z => s_nil ⟨⟨_, _, rfl⟩, fun k hk => ?_⟩
    case bx =>
      unfold Wm.boxOk
      have e1 : decide ((0 : Int) < (i : Nat)) = !(i == 0) := by
        rw [Bool.eq_iff_iff, decide_eq_true_eq]
        cases i with
        | zero => simp
        | succ i => simp
      have e2 : decide (0 < j) = !(j == 0) := by
        rw [Bool.eq_iff_iff, decide_eq_true_eq]
        cases j with
        | zero => simp
        | succ j => simp
      rw [e1, e2]
      cases (i == 0) <;> cases bs.contains (i - 1, j) <;> cases (j == 0) <;> cases bs.contains (i, j - 1) <;> rfl
    · refine q_ret (d_lst a_nil) ?_
      have no : Wm.boxOk bs (i, j) = false := by simpa using z
      rcases hres with ⟨_, hd⟩ | ⟨ht2, _⟩
      · exact hd.symm
      · exfalso
        have := List.all_eq_true.mp ht2 _ hmem
        rw [no] at this
        cases this
    · rcases Nat.lt_or_ge k t with c | c
      · exact hall k c
      · have : k = t := by omega
        rw [this, hb]; simpa using z
  · obtain ⟨⟨a, b, rfl⟩, hall⟩ := h
    have fo : Wm.formOk bs = true := List.all_eq_true.mpr fun x hx => by
      obtain ⟨k, hk, e⟩ := List.getElem_of_mem hx
      have := hall k hk
      rw [List.getD_eq_getElem?_getD, List.getElem?_eq_getElem hk] at this
      rw [← e]; exact this
    rcases hres with ⟨hf, _⟩ | ⟨_, rs, r1, r2, r3, rfl⟩
    · rw [fo] at hf; cases hf
    · have hu1 : (A.deeper (envOfC "_law_form_of" (defScope (top 62)) s.heap.objs.size f cdv)).units + 1 < cLine := by omega
      refine q_count (jf := 4) (ji := 2) (jj := 3) (d_var 0) (ps_set scFo.nd rfl (.inr rfl) pe_dnewK) (pg_tup rfl (pgs_cons (pg_name scFo.nd rfl (.inl rfl)) (pgs_cons (pg_name scFo.nd rfl (.inl rfl)) pgs_nil)))
        (pss_one (ps_dput hu1 (pv 4) (pv 2) (pe_op op_add (pe_dget2 hu1 (pv 4) (pv 2) pe_int ⟨rfl, rfl, rfl, rfl⟩) pe_int) rfl)) (by decide) (by decide) (by decide) (show 4 < 6 by decide) (show 2 < 6 by decide) (by omega) (fun ks cn => ?_) rfl PassesOwn.never
      have lr : rs.length ≤ 60 := by
        have h1 : (rs.map fun r : Nat => ((r : Int), ((Wm.rowCount bs r : Nat) : Int))).length ≤ ks.length := List.Nodup.length_le_of_subset (List.Pairwise.map _ (fun x y hxy z => hxy (by
          have z : ((x : Int), _) = ((y : Int), _) := z
          injection z with z1 _
          omega)) r1) fun x hx => by
            obtain ⟨r, hr2, rfl⟩ := List.mem_map.mp hx
            exact cn.has r ((r3 r).mp hr2)
        rw [List.length_map] at h1
        have := cn.len
        omega
      refine q_ret (d_lst (a_cons (d_callTy c_tupL (a_cons (d_lc (own := [("_law_i", 2)]) (n := rs.length) (y := fun k => .int (Wm.g rs k : Nat)) (f := fun _ => true) (v := fun k => .int (Wm.rowCount bs (Wm.g rs k) : Nat)) rfl scFo.nd (blkOk_by (by kernel_rfl)) (i_lst (d_callB (c_srtD rfl cn (by have := cn.len; omega) r1 r2 r3) (a_cons (d_var 4) a_nil) M.sorted) (fun k hk => nT_at hk) (nT_len rs)) rfl (js := [2]) (fun j hj => hj) (by omega)
        (fun k _ _ _ _ _ _ => g_name 2 scFo.nd) (fun k _ _ _ _ _ _ => ts_nil) fun k hk _ _ _ _ _ _ => d_getD hu cn ((r3 _).mp (by rw [Wm.g_lt hk]; exact List.getElem_mem hk)) (d_var 4) (d_var 2)) a_nil) M.tuple) a_nil)) ?_
      show PyData.list _ = PyData.list _
      congr 2
      show PyData.tuple _ = PyData.tuple _
      have h := items_list rs 0 (fun _ => true) fun r => .int (Wm.rowCount bs r : Nat)
      rw [List.filter_eq_self.mpr fun _ _ => rfl] at h
      rw [List.map_map, List.map_map]
      exact congrArg _ h
end
end Wd

set_option Elab.async false
set_option linter.all false
set_option maxRecDepth 100000
set_option maxHeartbeats 4000000
/-! _law_rows, _law_lens. -/
namespace Wd
open PySem PySem.Spec PyProof.Rows L2 Evl Wx We
abbrev rV (r : List Nat) : List V := (zs r).map V.int
theorem nodup_at {l : List Addr} (h : l.Nodup) {i j : Nat} {x : Addr} (a : l[i]? = some x) (b : l[j]? = some x) : i = j := by
  obtain ⟨hi, ei⟩ := List.getElem?_eq_some_iff.mp a
  obtain ⟨hj, ej⟩ := List.getElem?_eq_some_iff.mp b
  have q := List.pairwise_iff_getElem.mp h
  rcases Nat.lt_trichotomy i j with c | c | c
  · exact absurd (ei.trans ej.symm) (q i j hi hj c)
  · exact c
  · exact absurd (ej.trans ei.symm) (q j i hj hi c)
/-- the law's own rows: the list at p of the lists at ps -/
structure LR (H0 : Hp) (wv : V) (rows : List (List Nat)) (p : Addr) (ps : List Addr) (σ : L2.St) (H : Hp) : Prop where
  g : Ex H0 H
  f : ∀ a, a = p ∨ a ∈ ps → H0 a = none
  nd : ps.Nodup
  np : p ∉ ps
  hp : H p = some (.lst (ps.map V.ref))
  len : ps.length = rows.length
  row : ∀ (k : Nat) (a : Addr), ps[k]? = some a → H a = some (.lst (rV (rows.getD k [])))
  s0 : σ[0]? = some (some wv)
  s1 : σ[1]? = some (some (.ref p))
  sl : σ.length = 7
section
variable {H0 H H' : Hp} {wv : V} {rows : List (List Nat)} {p : Addr} {ps : List Addr} {σ : L2.St}
theorem LR.ext (h : LR H0 wv rows p ps σ H) (e : Ex H H') : LR H0 wv rows p ps σ H' := ⟨h.g.trans e, h.f, h.nd, h.np, e _ _ h.hp, h.len, fun k a q => e _ _ (h.row k a q), h.s0, h.s1, h.sl⟩
theorem LR.slot (h : LR H0 wv rows p ps σ H) {i : Nat} {o : Option V} (h0 : i ≠ 0) (h1 : i ≠ 1) : LR H0 wv rows p ps (σ.set i o) H := ⟨h.g, h.f, h.nd, h.np, h.hp, h.len, h.row, by rw [List.getElem?_set_ne h0]; exact h.s0, by rw [List.getElem?_set_ne h1]; exact h.s1, by rw [List.length_set]; exact h.sl⟩
/-- the k-th row changes -/
theorem LR.put (h : LR H0 wv rows p ps σ H) {k : Nat} {a : Addr} {r : List Nat} (hk : ps[k]? = some a) : LR H0 wv (rows.set k r) p ps σ (upd H a (.lst (rV r))) := by
  have lt := (List.getElem?_eq_some_iff.mp hk).1
  have ma := List.mem_of_getElem? hk
  have pa : p ≠ a := fun z => h.np (by rw [z]; exact ma)
  refine ⟨fun b o q => ?_, h.f, h.nd, h.np, by rw [upd_ne pa]; exact h.hp, by rw [List.length_set]; exact h.len, fun j b q => ?_, h.s0, h.s1, h.sl⟩
  · rw [upd_ne fun z => by rw [z, h.f a (.inr ma)] at q; cases q]
    exact h.g b o q
  · by_cases e : j = k
    · subst e
      rw [hk] at q
      cases q
      rw [upd_same, List.getD_eq_getElem?_getD, List.getElem?_set_self (by rw [← h.len]; exact lt)]
      rfl
    · have ne : b ≠ a := fun z => e (by
        subst z
        exact nodup_at h.nd q hk)
      rw [upd_ne ne, List.getD_eq_getElem?_getD, List.getElem?_set_ne (Ne.symm e), ← List.getD_eq_getElem?_getD]
      exact h.row j b q
/-- a new empty row -/
theorem LR.add (h : LR H0 wv rows p ps σ H) {a : Addr} (ha : H a = none) : LR H0 wv (rows ++ [[]]) p (ps ++ [a]) σ (upd (upd H a (.lst [])) p (.lst ((ps ++ [a]).map V.ref))) := by
  have pa : p ≠ a := ne_of_none h.hp ha
  have h0a : H0 a = none := fresh_back h.g ha
  have na : a ∉ ps := fun z => by
    obtain ⟨k, hk⟩ := List.getElem?_of_mem z
    rw [h.row k a hk] at ha
    cases ha
  refine ⟨fun b o q => ?_, fun b q => ?_, ?_, ?_, upd_same, by rw [List.length_append, List.length_append, h.len]; rfl, fun k b q => ?_, h.s0, h.s1, h.sl⟩
  · have n1 : b ≠ p := fun z => by rw [z, h.f p (.inl rfl)] at q; cases q
    have n2 : b ≠ a := fun z => by rw [z, h0a] at q; cases q
    rw [upd_ne n1, upd_ne n2]
    exact h.g b o q
  · rcases q with q | q
    · exact h.f b (.inl q)
    · rcases List.mem_append.mp q with q | q
      · exact h.f b (.inr q)
      · rw [List.mem_singleton.mp q]; exact h0a
  · rw [List.nodup_append]
    exact ⟨h.nd, by simp, fun x hx y hy z => na (by rw [List.mem_singleton.mp hy] at z; rw [← z]; exact hx)⟩
  · intro z
    rcases List.mem_append.mp z with z | z
    · exact h.np z
    · exact pa (List.mem_singleton.mp z)
  · by_cases lt : k < ps.length
    · rw [List.getElem?_append_left lt] at q
      have bm := List.mem_of_getElem? q
      have n1 : b ≠ p := fun z => h.np (by rw [← z]; exact bm)
      have n2 : b ≠ a := fun z => na (by rw [← z]; exact bm)
      rw [upd_ne n1, upd_ne n2, List.getD_eq_getElem?_getD, List.getElem?_append_left (by rw [← h.len]; exact lt), ← List.getD_eq_getElem?_getD]
      exact h.row k b q
    · have e : k = ps.length := by
        have := (List.getElem?_eq_some_iff.mp q).1
        rw [List.length_append] at this
        simp at this
        omega
      subst e
      rw [List.getElem?_append_right (Nat.le_refl _), Nat.sub_self] at q
      cases q
      rw [upd_ne (Ne.symm pa), upd_same, List.getD_eq_getElem?_getD, h.len, List.getElem?_append_right (Nat.le_refl _), Nat.sub_self]
      rfl
end
section
variable {P : Program} {w : World} {K : PySem.W.Frag} {mg : Str → Option Value} {base : Heap}
abbrev NLR : List Str := ["_law_word_here", "_law_rows_here", "_law_letter_here", "_law_at", "_law_greater_here", "_law_spot", "_law_each"]
theorem scLR : FnScope NLR ["_law_word_here"] (defScope (top 67)) := ⟨rfl, rfl, rfl, by decide +kernel, rfl, by decide +kernel, by decide +kernel⟩
abbrev lD (r : List Nat) : PyData := .list ((zs r).map PyData.int)
def RLR : List PyData → PyData → Prop := fun ds d => ∃ ns : List Nat, LET ns ∧ ds = [nT ns] ∧ d = .list ((Wm.rowsOf ns).map lD)
theorem rV_len (r : List Nat) : (rV r).length = r.length := by rw [List.length_map, List.length_map]
theorem rV_at {r : List Nat} {i : Nat} (h : i < r.length) : (rV r)[i]? = some (.int (Wm.g r i : Nat)) := by
  rw [List.getElem?_map, List.getElem?_map, Wm.some_g h]; rfl
theorem given_filter (r : List Nat) (q : Nat → Bool) : Evl.given (rV r).length (fun i => q (Wm.g r i)) (fun i => .int (Wm.g r i : Nat)) = rV (r.filter q) := by
  rw [rV_len]
  unfold Evl.given
  have e : (List.range r.length).map (Wm.g r) = r := by
    refine List.ext_getElem (by rw [List.length_map, List.length_range]) fun i h1 h2 => ?_
    rw [List.getElem_map, List.getElem_range, Wm.g_lt h2]
  conv => rhs; rw [← e, List.filter_map]
  show _ = List.map V.int (List.map _ (List.map _ _))
  rw [List.map_map, List.map_map]
  rfl
theorem first_of {r : List Nat} {x : Nat} (h : (r.filter fun n => decide (x < n)) ≠ []) : ∃ q, q < r.length ∧ (∀ j, j < q → Wm.g r j ≤ x) ∧ x < Wm.g r q ∧ Wm.g (r.filter fun n => decide (x < n)) 0 = Wm.g r q := by
  induction r with
  | nil => exact absurd rfl h
  | cons y r ih =>
    by_cases c : x < y
    · refine ⟨0, by simp, fun j hj => absurd hj (Nat.not_lt_zero _), c, ?_⟩
      rw [List.filter_cons, if_pos (decide_eq_true c)]
      rfl
    · have e : ((y :: r).filter fun n => decide (x < n)) = r.filter fun n => decide (x < n) := by rw [List.filter_cons, if_neg (fun z => c (of_decide_eq_true z))]
      rw [e] at h ⊢
      obtain ⟨q, h1, h2, h3, h4⟩ := ih h
      refine ⟨q + 1, by simpa using h1, fun j hj => ?_, h3, h4⟩
      cases j with
      | zero => show y ≤ x; omega
      | succ j => exact h2 j (by omega)
theorem none_of {r : List Nat} {x : Nat} (h : (r.filter fun n => decide (x < n)) = []) : ∀ j, j < r.length → Wm.g r j ≤ x := fun j hj => by
  rw [List.filter_eq_nil_iff] at h
  have := h (Wm.g r j) (by rw [Wm.g_lt hj]; exact List.getElem_mem hj)
  have : ¬ x < Wm.g r j := fun z => this (decide_eq_true z)
  omega
/-- the turns of the inner loop -/
def LW (H0 : Hp) (wv : V) (target : List (List Nat)) (p : Addr) (m : Nat) (σ : L2.St) (H : Hp) : Prop := ∃ cur ps, LR H0 wv cur p ps σ H ∧
  ((m = 0 ∧ cur = target ∧ σ[2]? = some (some .non) ∧ ∃ k : Nat, σ[3]? = some (some (.int (k : Nat)))) ∨
    ∃ k x : Nat, k ≤ cur.length ∧ m = cur.length - k + 1 ∧ σ[2]? = some (some (.int (x : Nat))) ∧ σ[3]? = some (some (.int (k : Nat))) ∧ target = cur.take k ++ (Wm.putRows (cur.drop k) x).1 ∧ (∀ r ∈ cur, r.length ≤ 1000) ∧ cur.length ≤ 1000)
def tGr (K : PySem.W.Frag) : TS := tAsg (tLc (iList K (tOp (rIxL K) (tVar 1) (tVar 3))) (gName 6) (tTest (tOp (rI0 fun i j => .bl (decide (j < i))) (tVar 6) (tVar 2))) (tVar 6) [6]) (gName 4)
def tApX (K : PySem.W.Frag) : TS := tSeq (tDrop (tBM K "list" rAppend (tOp (rIxL K) (tVar 1) (tVar 3)) (tCons (tVar 2) tNil))) (tAsg (tC .non) (gName 2))
def tSwX (K : PySem.W.Frag) : TS := tSeq (tAsg (tBM K "list" (rIndex K) (tOp (rIxL K) (tVar 1) (tVar 3)) (tCons (tOp (rIxL K) (tVar 4) (tC (.int 0))) tNil)) (gName 5)) (tAsg (tTup (tCons (tVar 2) (tCons (tOp (rIxL K) (tVar 4) (tC (.int 0))) tNil))) (gTup K 2 (gCons (gSub (tOp (rIxL K) (tVar 1) (tVar 3)) (tVar 5) rSetL) (gCons (gName 2) gNil))))
def tPutX (K : PySem.W.Frag) : TS := tIfS (tTest (tOp (rEqD K) (tVar 4) (tLst tNil))) (tApX K) (tSwX K)
def tInc : TS := tAsg (tOp (rI0 fun i j => .int (i + j)) (tVar 3) (tC (.int 1))) (gName 3)
theorem daAll_of {H : Hp} : ∀ {vs : List V} {ds : List PyData}, vs.length = ds.length → (∀ (k : Nat) v d, vs[k]? = some v → ds[k]? = some d → Da H v d) → DaAll H vs ds
  | [], [], _, _ => .nil
  | [], _ :: _, h, _ => by cases h
  | _ :: _, [], h, _ => by cases h
  | v :: vs, d :: ds, h, k => .cons (k 0 v d rfl rfl) (daAll_of (Nat.succ.inj h) fun i v d a b => k (i + 1) v d a b)
theorem dpInts {K : PySem.W.Frag} {H : Hp} : ∀ (ns : List Int), DpAll K H (ns.map V.int) (ns.map PyData.int)
  | [] => .nil
  | n :: ns => .cons (.int n) (dpInts ns)
theorem at_nat {α : Type} {xs : List α} {k : Nat} {v : α} (h : xs[k]? = some v) : atI xs (k : Int) = some v := atI_nat h
theorem rest_ok {H0 : Hp} {wv : V} {target cur : List (List Nat)} {p : Addr} {ps : List Addr} {k x : Nat} {σ : L2.St} {H : Hp} {D : Ends} (h : LR H0 wv cur p ps σ H) (h2 : σ[2]? = some (some (.int (x : Nat)))) (h3 : σ[3]? = some (some (.int (k : Nat)))) (hk : k < cur.length)
    (ht : target = cur.take k ++ (Wm.putRows (cur.drop k) x).1) (hr : ∀ r ∈ cur, r.length ≤ 1000) (hz : cur.length ≤ 1000 ∨ cur.getD k [] = []) (nx : ∀ m' σ' H', (m' = 0 ∨ (m' = cur.length - k ∧ cur.getD k [] ≠ [])) → LW H0 wv target p m' σ' H' → D.nx σ' H') :
    tSeq (tGr K) (tSeq (tPutX K) tInc) D σ H := by
  have lk : k < ps.length := by rw [h.len]; exact hk
  obtain ⟨a, ha⟩ : ∃ a, ps[k]? = some a := ⟨_, List.getElem?_eq_getElem lk⟩
  have hrow := h.row k a ha
  have hmem : cur.getD k [] ∈ cur := by rw [List.getD_eq_getElem?_getD, List.getElem?_eq_getElem hk]; exact List.getElem_mem hk
  have hrl := hr _ hmem
  rw [drop_cons hk] at ht
  generalize hrr : cur.getD k [] = r at *
  have atp : atI (ps.map V.ref) (k : Int) = some (.ref a) := at_nat (by rw [List.getElem?_map, ha]; rfl)
  -- the row at k
  have evRow : ∀ {σ' : L2.St} {H' : Hp}, LR H0 wv cur p ps σ' H' → σ'[3]? = some (some (.int (k : Nat))) → Ev (tOp (rIxL K) (tVar 1) (tVar 3)) σ' H' (.ref a) := fun {σ' H'} L e3 H1 e Q q =>
    ⟨.ref p, L.s1, .int (k : Nat), e3, p, _, _, _, rfl, rfl, sq_of (e _ _ L.hp), atp, q H1 (Ex.refl H1)⟩
  have gr := el_lcL (K := K) (tl := tOp (rIxL K) (tVar 1) (tVar 3)) (t := tTest (tOp (rI0 fun i j => .bl (decide (j < i))) (tVar 6) (tVar 2))) (te := tVar 6) (j := 6) (vs := [6]) (σ := σ) (H := H) (xs := rV r) (fun i => decide (x < Wm.g r i)) (fun i => .int (Wm.g r i : Nat)) (evRow h h3) (sq_of hrow) (by rw [rV_len]; omega) (fun z => by rw [wipe_set (List.mem_cons_self), wipe_wipe]) (fun i y H1 e hy => ?_) (fun i y H1 e hy hf => ?_)
  rotate_left
  · have hi : i < r.length := by have := (List.getElem?_eq_some_iff.mp hy).1; rwa [rV_len] at this
    rw [rV_at hi] at hy
    cases hy
    intro H2 e2 Q q
    have a6 : ((wipe σ [6]).set 6 (some (V.int (Wm.g r i : Nat))))[6]? = some (some (.int (Wm.g r i : Nat))) := List.getElem?_set_self (by rw [wipe_length, h.sl]; decide)
    have a2 : ((wipe σ [6]).set 6 (some (V.int (Wm.g r i : Nat))))[2]? = some (some (.int (x : Nat))) := by rw [List.getElem?_set_ne (by decide)]; show (σ.set 6 none)[2]? = _; rw [List.getElem?_set_ne (by decide)]; exact h2
    refine ⟨_, a6, _, a2, _, _, rfl, rfl, decide (x < Wm.g r i), ?_, q H2 (Ex.refl H2)⟩
    show V.bl (decide ((x : Int) < (Wm.g r i : Nat))) = _
    congr 1
    rw [Bool.eq_iff_iff, decide_eq_true_eq, decide_eq_true_eq]
    omega
  · have hi : i < r.length := by have := (List.getElem?_eq_some_iff.mp hy).1; rwa [rV_len] at this
    rw [rV_at hi] at hy
    cases hy
    intro H2 e2 Q q
    exact ⟨_, List.getElem?_set_self (by rw [wipe_length, h.sl]; decide), q H2 (Ex.refl H2)⟩
  refine (gr H (Ex.refl H) (fun v H1 => tSeq (tPutX K) tInc D (σ.set 4 (some v)) H1) fun l H1 hl e1 hl1 => ?_ : _)
  rw [given_filter r fun n => decide (x < n)] at hl1
  have L1 := (h.ext e1).slot (i := 4) (o := some (.ref l)) (by decide) (by decide)
  have b2 : (σ.set 4 (some (.ref l)))[2]? = some (some (.int (x : Nat))) := by rw [List.getElem?_set_ne (by decide)]; exact h2
  have b3 : (σ.set 4 (some (.ref l)))[3]? = some (some (.int (k : Nat))) := by rw [List.getElem?_set_ne (by decide)]; exact h3
  have b4 : (σ.set 4 (some (.ref l)))[4]? = some (some (.ref l)) := List.getElem?_set_self (by rw [h.sl]; decide)
  show tSeq (tPutX K) tInc D (σ.set 4 (some (.ref l))) H1
  generalize σ.set 4 (some (.ref l)) = σ1 at L1 b2 b3 b4
  have la : l ≠ a := fun z => by rw [z, hrow] at hl; cases hl
  have lp : l ≠ p := fun z => by rw [z, h.hp] at hl; cases hl
  -- greater == []
  refine ⟨.ref l, b4, Nat.zero_le _, fun q hq => ⟨lD (r.filter fun n => decide (x < n)), .list [], .lst (sq_of (by rw [upd_ne (ne_of_none hl1 hq)]; exact hl1)) (dpInts _), .lst (sq_of upd_same) .nil, okD_sh (k := 2) (ok_ints 1 _), okD_sh (k := 2) rfl, _, rfl, ?_⟩⟩
  have e2 : Ex H1 (upd H1 q (.lst [])) := Ex.new hq
  have L2' := L1.ext e2
  have hl2 : upd H1 q (.lst []) l = some (.lst (rV (r.filter fun n => decide (x < n)))) := e2 _ _ hl1
  have hp0 := Wm.putRow_end (r := r) (x := x)
  generalize upd H1 q (.lst []) = H2 at L2' hl2
  by_cases hg : (r.filter fun n => decide (x < n)) = []
  · have ev : PyData.eqv (lD (r.filter fun n => decide (x < n))) (.list []) = true := by rw [hg]; exact eqv_refl rfl
    rw [ev]
    refine iteT ?_
    have hno := none_of hg
    have pr := Wm.putRow_end hno
    rw [Wm.putRows_none (by rw [pr]), pr] at ht
    refine evRow L2' b3 H2 (Ex.refl _) _ fun H3 e3 => ⟨Or.inl ⟨rfl, _, sq_of (e3 _ _ (L2'.row k a ha))⟩, _, b2, a, _, _, rfl, rfl, e3 _ _ (L2'.row k a ha), sz_lt ?_, ?_⟩
    · rw [hrr, rV_len]; omega
    · rw [hrr]
      have L3 := (L2'.ext e3).put (r := r ++ [x]) ha
      have er : rV r ++ [V.int (x : Nat)] = rV (r ++ [x]) := by
        show _ = List.map _ (List.map _ _)
        rw [List.map_append, List.map_append]
        rfl
      rw [er]
      refine ⟨.int (k : Nat), by rw [List.getElem?_set_ne (by decide)]; exact b3, (k : Nat), 1, rfl, rfl, ?_⟩
      refine nx 0 _ _ (.inl rfl) ⟨_, ps, (L3.slot (by decide) (by decide)).slot (by decide) (by decide), .inl ⟨rfl, ?_, ?_, k + 1, ?_⟩⟩
      · rw [ht, List.set_eq_take_append_cons_drop, if_pos hk]
      · rw [List.getElem?_set_ne (by decide), List.getElem?_set_self (by rw [L3.sl]; decide)]
      · rw [List.getElem?_set_self (by rw [List.length_set, L3.sl]; decide)]
        rfl
  · have ev : PyData.eqv (lD (r.filter fun n => decide (x < n))) (.list []) = false := eqv_no (by show nb (.list _) = true; rw [nb]; exact nb_ints _) rfl (fun z => hg (by
      injection z with z
      exact List.map_eq_nil_iff.mp (List.map_eq_nil_iff.mp z)))
    rw [ev]
    refine iteF ?_
    obtain ⟨q1, f1, f2, f3, f4⟩ := first_of hg
    have pr := Wm.putRow_hit f1 f2 f3
    rw [Wm.put_set f1] at pr
    rw [Wm.putRows_some (by rw [pr]), pr] at ht
    have g0 : atI (rV (r.filter fun n => decide (x < n))) (0 : Int) = some (.int (Wm.g r q1 : Nat)) := by
      have hpos : 0 < (r.filter fun n => decide (x < n)).length := List.length_pos_iff.mpr hg
      rw [show (0 : Int) = ((0 : Nat) : Int) from rfl, at_nat (rV_at hpos), f4]
    refine evRow L2' b3 H2 (Ex.refl _) _ fun H3 e3 => ⟨Or.inl ⟨rfl, _, sq_of (e3 _ _ (L2'.row k a ha))⟩, _, b4, l, _, _, _, rfl, rfl, sq_of (e3 _ _ hl2), g0, a, _, _, q1, .int (Wm.g r q1 : Nat), rfl, rfl, sq_of (e3 _ _ (L2'.row k a ha)), rfl, ?_, ?_, ?_, ?_, ?_⟩
    · rw [List.all_map, List.all_eq_true]; intro z _; rfl
    · rw [hrr]; exact rV_at f1
    · show ((Wm.g r q1 : Nat) : Int) == ((Wm.g r q1 : Nat) : Int)
      exact beq_self_eq_true _
    · intro j z hj hz2
      rw [hrr, rV_at (by omega)] at hz2
      cases hz2
      have := f2 j hj
      show ((((Wm.g r j : Nat) : Int)) == ((Wm.g r q1 : Nat) : Int)) = false
      exact beq_eq_false_iff_ne.mpr (by omega)
    · have L3 := (L2'.ext e3).slot (i := 5) (o := some (.int (q1 : Nat))) (by decide) (by decide)
      have c2 : (σ1.set 5 (some (V.int (q1 : Nat))))[2]? = some (some (.int (x : Nat))) := by rw [List.getElem?_set_ne (by decide)]; exact b2
      have c3 : (σ1.set 5 (some (V.int (q1 : Nat))))[3]? = some (some (.int (k : Nat))) := by rw [List.getElem?_set_ne (by decide)]; exact b3
      have c4 : (σ1.set 5 (some (V.int (q1 : Nat))))[4]? = some (some (.ref l)) := by rw [List.getElem?_set_ne (by decide)]; exact b4
      have c5 : (σ1.set 5 (some (V.int (q1 : Nat))))[5]? = some (some (.int (q1 : Nat))) := List.getElem?_set_self (by rw [L1.sl]; decide)
      have hl3 := e3 _ _ hl2
      show tAsg (tTup (tCons (tVar 2) (tCons (tOp (rIxL K) (tVar 4) (tC (.int 0))) tNil))) (gTup K 2 (gCons (gSub (tOp (rIxL K) (tVar 1) (tVar 3)) (tVar 5) rSetL) (gCons (gName 2) gNil))) { D with nx := tInc D } (σ1.set 5 (some (V.int (q1 : Nat)))) H3
      generalize σ1.set 5 (some (V.int (q1 : Nat))) = σ5 at L3 c2 c3 c4 c5
      clear gr
      refine (⟨.int (x : Nat), c2, .ref l, c4, l, _, _, _, rfl, rfl, sq_of hl3, g0, sz_of (show 2 ≤ 100000 by decide), fun t htn => ⟨t, _, rfl, st_of upd_same, rfl, _, _, rfl, ?_⟩⟩ : tAsg (tTup (tCons (tVar 2) (tCons (tOp (rIxL K) (tVar 4) (tC (.int 0))) tNil))) (gTup K 2 (gCons (gSub (tOp (rIxL K) (tVar 1) (tVar 3)) (tVar 5) rSetL) (gCons (gName 2) gNil))) { D with nx := tInc D } σ5 H3)
      have L4 := L3.ext (Ex.new (o := .tup [V.int (x : Nat), V.int (Wm.g r q1 : Nat)]) htn)
      refine evRow L4 c3 _ (Ex.refl _) _ fun H5 e5 => ⟨_, c5, a, rV r, (q1 : Nat), q1, rfl, rfl, ?_, ixN_nat (by rw [rV_len]; exact f1), ?_⟩
      · have := (L4.ext e5).row k a ha
        rw [hrr] at this
        exact this
      · have er : (rV r).set q1 (V.int (x : Nat)) = rV (r.set q1 x) := by
          show _ = List.map _ (List.map _ _)
          rw [List.map_set, List.map_set]
        rw [er]
        have L5 := (L4.ext e5).put (r := r.set q1 x) ha
        refine ⟨_, _, rfl, rfl, ?_⟩
        show tInc D _ _
        refine ⟨.int (k : Nat), by rw [List.getElem?_set_ne (by decide)]; exact c3, (k : Nat), 1, rfl, rfl, ?_⟩
        refine nx (cur.length - k) _ _ (.inr ⟨rfl, fun z => by rw [z] at f1; cases f1⟩) ⟨cur.set k (r.set q1 x), ps, (L5.slot (by decide) (by decide)).slot (by decide) (by decide), .inr ⟨k + 1, Wm.g r q1, by rw [List.length_set]; omega, by rw [List.length_set]; omega, ?_, ?_, ?_, fun z hz2 => ?_, ?_⟩⟩
        · rw [List.getElem?_set_ne (by decide), List.getElem?_set_self (by rw [L5.sl]; decide)]
        · rw [List.getElem?_set_self (by rw [List.length_set, L5.sl]; decide)]
          rfl
        · have sc : cur.set k (r.set q1 x) = cur.take k ++ r.set q1 x :: cur.drop (k + 1) := by rw [List.set_eq_take_append_cons_drop, if_pos hk]
          rw [ht, sc]
          have l1 : (cur.take k).length = k := by rw [List.length_take]; omega
          have e6 : (cur.take k ++ r.set q1 x :: cur.drop (k + 1)).take (k + 1) = cur.take k ++ [r.set q1 x] := by
            rw [List.take_append, l1, List.take_of_length_le (by rw [l1]; omega), show k + 1 - k = 1 by omega]
            rfl
          have e7 : (cur.take k ++ r.set q1 x :: cur.drop (k + 1)).drop (k + 1) = cur.drop (k + 1) := by
            rw [List.drop_append, l1, List.drop_of_length_le (by rw [l1]; omega), show k + 1 - k = 1 by omega]
            rfl
          rw [e6, e7, List.append_assoc]
          rfl
        · rcases List.mem_or_eq_of_mem_set hz2 with c | c
          · exact hr z c
          · rw [c, List.length_set]; exact hrl
        · rw [List.length_set]
          rcases hz with c | c
          · exact c
          · rw [c] at f1; cases f1
theorem law_rows_df (M : Bt mg) (D : Dv K mg "_law_rows" 67) : Df P w K mg base CX0 1 "_law_rows" ["_law_word_here"] (spD RLR) := by
  obtain ⟨f, fd, hm, F⟩ := D.ex
  refine ⟨f, fd, hm, ?_, F.kp, F.binds (fun _ _ _ _ _ _ us hl => match us, hl with | [_], _ => rfl), F.own⟩
  refine Fun.ok F scLR (fun vs H Q E h => by obtain ⟨B, ds, d, _, h1, ⟨ns, _, rfl, _⟩, _⟩ := h; rw [h1.len]; rfl) fun cdv A outer s H vs Q E hr h => ?_
  obtain ⟨B, ds, d, ex, h1, ⟨ns, hL, rfl, rfl⟩, hQ⟩ := h
  cases h1 with
  | cons h1 hn =>
  cases hn
  obtain ⟨wa, xs, rfl, hw, hxs⟩ := h1.tup_of
  obtain rfl := hxs.ints
  have hu := hr.units
  refine ⟨_, pss_cons (ps_set (i := 1) scLR.nd rfl (Or.inl rfl) (pe_lst pa_nil)) (pss_cons (ps_for PassesOwn.never rfl (pi_tup (pv 0)) (pg_name (i := 2) scLR.nd rfl (Or.inr rfl)) (pss_cons (ps_set (i := 3) scLR.nd rfl (Or.inl rfl) pe_int) (pss_one (ps_while PassesOwn.never (pt_cmpR op_notN (pv 2) pe_non (nobehind _ (by decide) (by decide)))
    (pss_cons (ps_if (pt_cmpR op_eq (pv 3) (pe_callB call_len_seq rfl M.len PySem.boot_len (pa_cons (pv 1) pa_nil)) (nobehind _ (by decide) (by decide))) (pss_one (ps_expr (pe_bm PySem.F.plainAttrs_list PySem.F.slot_list_append PySem.F.type_list_append mt_append (pv 1) (pa_cons (pe_lst pa_nil) pa_nil)))) pss_nil)
    (pss_cons (ps_setLc (i := 4) (own := [("_law_each", 6)]) rfl scLR.nd rfl rfl (sw_true rfl rfl rfl (by decide +kernel)) (pi_list (pe_ix ix_list (pv 1) (pv 3) (fun _ _ => rfl))) (blkOk_by (by kernel_rfl)) (fun _ _ _ _ _ => pg_name (i := 6) scLR.nd rfl (Or.inl rfl)) (fun _ _ _ _ _ => pts_one (pt_cmpR op_gt (pv 6) (pv 2) (nobehind _ (by decide) (by decide)))) (fun _ _ _ _ _ => pv 6))
    (pss_cons (ps_if (pt_cmpR (op_eqD hu) (pv 4) (pe_lst pa_nil) (nobehind _ (by decide) (by decide)))
      (pss_cons (ps_expr (pe_bm PySem.F.plainAttrs_list PySem.F.slot_list_append PySem.F.type_list_append mt_append (pe_ix ix_list (pv 1) (pv 3) (fun _ _ => rfl)) (pa_cons (pv 2) pa_nil))) (pss_one (ps_set (i := 2) scLR.nd rfl (Or.inr rfl) pe_non)))
      (pss_cons (ps_set (i := 5) scLR.nd rfl (Or.inl rfl) (pe_bm PySem.F.plainAttrs_list PySem.F.slot_list_index PySem.F.type_list_index mt_index (pe_ix ix_list (pv 1) (pv 3) (fun _ _ => rfl)) (pa_cons (pe_ix ix_list (pv 4) pe_int (fun _ _ => rfl)) pa_nil)))
        (pss_one (ps_asg (pe_tup (pa_cons (pv 2) (pa_cons (pe_ix ix_list (pv 4) pe_int (fun _ _ => rfl)) pa_nil))) (pg_tup rfl (pgs_cons (pg_sub (pe_ix ix_list (pv 1) (pv 3) (fun _ _ => rfl)) (pv 5) set_list) (pgs_cons (pg_name (i := 2) scLR.nd rfl (Or.inr rfl)) pgs_nil)))))))
    (pss_one (ps_set (i := 3) scLR.nd rfl (Or.inl rfl) (pe_op op_add (pv 3) pe_int))))))))))  (pss_one (ps_ret (pv 1)))), ?_⟩
  refine ⟨Nat.zero_le _, fun p hp => ?_⟩
  have e1 : Ex H (upd H p (.lst [])) := Ex.new hp
  have L0 : LR H (.ref wa) (Wm.rowsOf (ns.take 0)) p [] ((L2.start NLR [.ref wa]).set 1 (some (.ref p))) (upd H p (.lst [])) :=
    ⟨e1, (fun a q => q.elim (fun z => by rw [z]; exact hp) (fun z => nomatch z)), List.nodup_nil, (fun z => nomatch z), upd_same, rfl, (fun k a q => nomatch q), rfl, rfl, rfl⟩
  refine ⟨.ref wa, rfl, wa, rfl, ⟨_, st_of (e1 _ _ (ex _ _ hw))⟩, for_tup (xs := (zs ns).map V.int) (fun i σ H2 => ∃ ps, LR H (.ref wa) (Wm.rowsOf (ns.take i)) p ps σ H2) ⟨[], L0⟩ (fun i σ H2 _ q => by obtain ⟨ps, L⟩ := q; exact st_of (L.g _ _ (ex _ _ hw))) (fun i x σ H2 hx q => ?_) fun σ H2 q => ?_⟩
  · obtain ⟨ps, L⟩ := q
    have hi : i < ns.length := by have := (List.getElem?_eq_some_iff.mp hx).1; rwa [rV_len] at this
    rw [rV_at hi] at hx
    cases hx
    have tb := TAB.of (hL.take i)
    have et : Wm.rowsOf (ns.take (i + 1)) = (Wm.putRows (Wm.rowsOf (ns.take i)) (Wm.g ns i)).1 := by rw [List.take_succ, Wm.some_g hi]; exact Wm.rowsOf_snoc _ _
    have L1 := (L.slot (i := 2) (o := some (.int (Wm.g ns i : Nat))) (by decide) (by decide)).slot (i := 3) (o := some (.int 0)) (by decide) (by decide)
    refine s_while (LW H (.ref wa) (Wm.rowsOf (ns.take (i + 1))) p) ((Wm.rowsOf (ns.take i)).length - 0 + 1) ⟨_, ps, L1, .inr ⟨0, Wm.g ns i, Nat.zero_le _, rfl, ?_, ?_, by rw [et]; rfl, fun r hr => by have := tb.wide r hr; omega, by have := tb.len; omega⟩⟩ fun m σ2 H3 hw2 => ?_
    · rw [List.getElem?_set_ne (by decide), List.getElem?_set_self (by rw [L.sl]; decide)]
    · rw [List.getElem?_set_self (by rw [List.length_set, L.sl]; decide)]
      rfl
    · obtain ⟨cur, ps2, L2, ⟨rfl, rfl, v2, k, v3⟩ | ⟨k, x, hk, rfl, v2, v3, ht, hr1, hr2⟩⟩ := hw2
      · refine ⟨false, fun H4 e4 Q q => ⟨_, v2, rfl, false, rfl, q H4 (Ex.refl _)⟩, (fun z => nomatch z), fun _ H4 e4 => ⟨ps2, L2.ext e4⟩⟩
      · refine ⟨true, fun H4 e4 Q q => ⟨_, v2, rfl, true, rfl, q H4 (Ex.refl _)⟩, fun _ H4 e4 => ⟨fun σ5 H5 => ∃ m', m' < cur.length - k + 1 ∧ LW H (.ref wa) (Wm.rowsOf (ns.take (i + 1))) p m' σ5 H5, fun σ5 H5 z => z, ?_⟩, fun z => nomatch z⟩
        have L3 := L2.ext e4
        refine ⟨_, v3, .ref p, L3.s1, p, _, rfl, .inl (sq_of L3.hp), rfl, _, rfl, ?_⟩
        have ed : decide (V.int (k : Nat) = V.int (((ps2.map V.ref).length : Nat) : Int)) = decide (k = cur.length) := by
          rw [List.length_map, L3.len, Bool.eq_iff_iff, decide_eq_true_eq, decide_eq_true_eq]
          constructor
          · intro z; injection z with z; omega
          · intro z; rw [z]
        rw [ed]
        by_cases c : k = cur.length
        · rw [decide_eq_true c]
          refine iteT ⟨.ref p, L3.s1, Or.inl ⟨rfl, _, sq_of L3.hp⟩, Nat.zero_le _, fun a hn => ⟨p, ps2.map V.ref, _, rfl, rfl, ?_, ?_, ?_⟩⟩
          · rw [upd_ne (ne_of_none L3.hp hn)]; exact L3.hp
          · rw [List.length_map, L3.len]; exact sz_lt (by omega)
          · have L4 := L3.add hn
            rw [List.map_append] at L4
            have dc : cur.drop k = [] := List.drop_of_length_le (by omega)
            have tc : cur.take k = cur := List.take_of_length_le (by omega)
            rw [dc, tc] at ht
            refine rest_ok (k := k) L4 v2 v3 (by rw [List.length_append]; simp; omega) ?_ (fun r hr => ?_) (.inr ?_) fun m' σ5 H5 hm hw3 => ⟨m', ?_, hw3⟩
            · rw [ht, c, List.take_left', List.drop_left']
              · rfl
              · rfl
              · rfl
            · rcases List.mem_append.mp hr with z | z
              · exact hr1 r z
              · rw [List.mem_singleton.mp z]; exact Nat.zero_le _
            · rw [c, List.getD_eq_getElem?_getD, List.getElem?_append_right (Nat.le_refl _), Nat.sub_self]; rfl
            · rcases hm with z | ⟨_, z⟩
              · omega
              · exfalso
                exact z (by rw [c, List.getD_eq_getElem?_getD, List.getElem?_append_right (Nat.le_refl _), Nat.sub_self]; rfl)
        · rw [decide_eq_false c]
          refine iteF ?_
          exact rest_ok L3 v2 v3 (by omega) ht hr1 (.inl hr2) fun m' σ5 H5 hm hw3 => ⟨m', by omega, hw3⟩
  · obtain ⟨ps, L⟩ := q
    rw [List.take_of_length_le (by rw [rV_len]; exact Nat.le_refl _)] at L
    refine ⟨_, L.s1, hQ _ (fun a => if a = p ∨ a ∈ ps then H2 a else B a) H2 ⟨fun a o z => ?_, L.g, fun a o z => ?_, fun a n => ?_⟩ (.lst (xs := ps.map V.ref) ?_ ?_)⟩
    · have nn : ¬ (a = p ∨ a ∈ ps) := fun c => by
        have := L.f a c
        rw [ex a o z] at this
        cases this
      rw [if_neg nn]; exact z
    · by_cases c : a = p ∨ a ∈ ps
      · rw [if_pos c] at z; exact z
      · rw [if_neg c] at z; exact L.g a o (ex a o z)
    · rw [if_neg fun c => n (L.f a c)]
    · show (if p = p ∨ p ∈ ps then H2 p else B p) = _
      rw [if_pos (.inl rfl)]; exact L.hp
    · refine daAll_of (by rw [List.length_map, List.length_map, L.len]) fun k v d hv hd => ?_
      rw [List.getElem?_map] at hv hd
      cases hk : ps[k]? with
      | none => rw [hk] at hv; cases hv
      | some a =>
        rw [hk] at hv
        cases hv
        cases hk2 : (Wm.rowsOf ns)[k]? with
        | none => rw [hk2] at hd; cases hd
        | some r =>
          rw [hk2] at hd
          cases hd
          have q := L.row k a hk
          rw [List.getD_eq_getElem?_getD, hk2] at q
          refine .lst (xs := rV r) ?_ (daInts _)
          show (if a = p ∨ a ∈ ps then H2 a else B a) = _
          rw [if_pos (.inr (List.mem_of_getElem? hk))]
          exact q
end
end Wd

set_option Elab.async false
set_option linter.all false
set_option maxRecDepth 100000
set_option maxHeartbeats 4000000
/-! The class Table. -/
namespace Wd
open PySem PySem.Spec PyProof.Rows L2 Evl Wx We
theorem et_go {X : Cx} {c : Expr} {ρ : Rho} {b : Bool} {σ : L2.St} {B H : Hp} {Q : Bool → Hp → Prop} (h : ET X c ρ b) (ex : Ex B H) (s : StD B σ ρ) (k : ∀ B' H', Gr B H B' H' → Q b H') : RT X c σ H Q := h σ B H ex s Q k
abbrev mt (j : Nat) : Stmt := inClass (top 56) j
structure TC (K : PySem.W.Frag) (mg : Str → Option Value) (C : Addr) : Prop where
  cls : Cls K C
  nof : NoAttr K C "filled"
  at_ : mg "Table" = some (.ref C)
  kp : PySem.W.keepIn K (.ref C) = true
  ini : ∃ f fd, Mk K C f ∧ Fun K "__init__" "Table.__init__" (mt 0) f fd
  of_ : ∃ mc p g fd, ClX.CRead K C mc ∧ SMet K C mc "of" p g ∧ Fun K "of" "Table.of" (mt 1) g fd
  rows : ∃ p g fd, PropOf K C "rows" p g ∧ Fun K "rows" "Table.rows" (mt 2) g fd
  shape : ∃ p g fd, PropOf K C "shape" p g ∧ Fun K "shape" "Table.shape" (mt 3) g fd
  word : ∃ p g fd, PropOf K C "word" p g ∧ Fun K "word" "Table.word" (mt 4) g fd
  put : ∃ g fd, Meth K C "put" g ∧ Fun K "put" "Table.put" (mt 10) g fd
  taken : ∃ g fd, Meth K C "taken" g ∧ Fun K "taken" "Table.taken" (mt 12) g fd
section
variable (P : Program) (w : World) (K : PySem.W.Frag) (mg : Str → Option Value) (base : Heap)
/-- a property's getter, a method, __init__, the static method: with what they promise -/
structure Gp (C : Addr) (f : Str) (k : Nat) (R : List PyData → PyData → Prop) : Prop where
  ex : ∃ p g fd, PropOf K C f p g ∧ FnOk P w K mg base CX0 k g fd ["self"] (spD R) ∧ L2.Binds K fd ["self"] []
structure Gm (C : Addr) (f : Str) (CX : CXT) (k : Nat) (ps : List Str) (sp : Sp) : Prop where
  ex : ∃ g fd, Meth K C f g ∧ FnOk P w K mg base CX k g fd ps sp ∧ L2.Binds K fd ps []
structure Gi (C : Addr) (k : Nat) (Pd : PyData → Prop) : Prop where
  ex : ∃ g fd, Mk K C g ∧ FnOk P w K mg base CX0 k g fd ["self", "rows"] (spI C Pd) ∧ L2.Binds K fd ["self", "rows"] []
structure Gs (C : Addr) (k : Nat) (sp : Sp) : Prop where
  ex : ∃ mc p g fd, ClX.CRead K C mc ∧ SMet K C mc "of" p g ∧ FnOk P w K mg base CX0 k g fd ["word"] sp ∧ L2.Binds K fd ["word"] []
end
section
variable {P : Program} {w : World} {K : PySem.W.Frag} {mg : Str → Option Value} {base : Heap} {C : Addr}
def RG (C : Addr) (q : List (List Nat) → PyData) : List PyData → PyData → Prop := fun ds d => ∃ rows, TAB rows ∧ ds = [oT C (rT rows)] ∧ d = q rows
theorem scT2 : FnScope ["self"] ["self"] (defScope (mt 2)) := ⟨rfl, rfl, rfl, by decide +kernel, rfl, by decide +kernel, by decide +kernel⟩
theorem rows_gp (T : TC K mg C) : Gp P w K mg base C "rows" 1 (RG C rT) := by
  obtain ⟨p, g, fd, hp, F⟩ := T.rows
  refine ⟨p, g, fd, hp, fn_D F scT2 (fun ds d h => by obtain ⟨_, _, rfl, _⟩ := h; rfl) fun cdv A outer s H E ds d hr h => ?_, F.binds (fun _ _ _ _ _ _ us hl => match us, hl with | [_], _ => rfl)⟩
  obtain ⟨rows, tb, rfl, rfl⟩ := h
  exact q_ret (d_fld T.cls T.nof (d_var 0)) rfl
theorem scT3 : FnScope ["self"] ["self"] (defScope (mt 3)) := ⟨rfl, rfl, rfl, by decide +kernel, rfl, by decide +kernel, by decide +kernel⟩
theorem shape_gp (T : TC K mg C) (D1 : Df P w K mg base CX0 1 "shape_of" ["rows"] (spD RSh)) : Gp P w K mg base C "shape" 2 (RG C fun rows => nT (Wm.lens rows)) := by
  obtain ⟨p, g, fd, hp, F⟩ := T.shape
  refine ⟨p, g, fd, hp, fn_D F scT3 (fun ds d h => by obtain ⟨_, _, rfl, _⟩ := h; rfl) fun cdv A outer s H E ds d hr h => ?_, F.binds (fun _ _ _ _ _ _ us hl => match us, hl with | [_], _ => rfl)⟩
  obtain ⟨rows, tb, rfl, rfl⟩ := h
  exact q_ret (d_df D1 hr ⟨rows, by have := tb.len; omega, rfl, rfl⟩ (a_cons (d_fld T.cls T.nof (d_var 0)) a_nil)) rfl
theorem scT4 : FnScope ["self"] ["self"] (defScope (mt 4)) := ⟨rfl, rfl, rfl, by decide +kernel, rfl, by decide +kernel, by decide +kernel⟩
theorem flat_len (rows : List (List Nat)) : rows.flatten.length = (Wm.lens rows).sum := List.length_flatten ..
theorem word_gp (T : TC K mg C) (D1 : Df P w K mg base CX0 1 "word_of_rows" ["rows"] (spD RWR)) : Gp P w K mg base C "word" 2 (RG C fun rows => nT rows.reverse.flatten) := by
  obtain ⟨p, g, fd, hp, F⟩ := T.word
  refine ⟨p, g, fd, hp, fn_D F scT4 (fun ds d h => by obtain ⟨_, _, rfl, _⟩ := h; rfl) fun cdv A outer s H E ds d hr h => ?_, F.binds (fun _ _ _ _ _ _ us hl => match us, hl with | [_], _ => rfl)⟩
  obtain ⟨rows, tb, rfl, rfl⟩ := h
  exact q_ret (d_df D1 hr ⟨rows, by rw [flat_len]; have := tb.s; omega, rfl, rfl⟩ (a_cons (d_fld T.cls T.nof (d_var 0)) a_nil)) rfl
abbrev PdT : PyData → Prop := fun d => ∃ rows, TAB rows ∧ d = rT rows
theorem scT0 : FnScope ["self", "rows"] ["self", "rows"] (defScope (mt 0)) := ⟨rfl, rfl, rfl, by decide +kernel, rfl, by decide +kernel, by decide +kernel⟩
theorem init_gi (T : TC K mg C) (D1 : Df P w K mg base CX0 6 "are_rows" ["value"] (spD RRows)) : Gi P w K mg base C 7 PdT := by
  obtain ⟨g, fd, hk, F⟩ := T.ini
  refine ⟨g, fd, hk, ?_, F.binds (fun _ _ _ _ _ _ us hl => match us, hl with | [_, _], _ => rfl)⟩
  refine Fun.ok F scT0 (fun vs H Q E h => by obtain ⟨_, _, _, _, _, rfl, _⟩ := h; rfl) fun cdv A outer s H vs Q E hr h => ?_
  obtain ⟨x, dx, v, B, d, rfl, hx, ex, nb, hd, ⟨rows, tb, rfl⟩, hQ⟩ := h
  have st : StD B (L2.start ["self", "rows"] [.ref x, v]) (ρ0 ["self", "rows"] [rD x, rT rows]) := StD.start (.cons (.rf x) (.cons hd .nil))
  refine ⟨_, pss_cons (ps_if pt_RT pss_RSs pss_RSs) (pss_one (ps_fld (pv 0) (pv 1) rfl)), ?_⟩
  refine et_go (t_not (p := true) (t_val (d_df D1 hr ⟨rows, tb, rfl, rfl⟩ (a_cons (d_var 1) a_nil)))) ex st fun B1 H1 g1 => iteF (pss_nil.rss ?_)
  refine ⟨v, rfl, .ref x, rfl, x, C, dx, [], rfl, g1.h _ _ hx, T.cls, T.nof, by decide, ?_⟩
  exact hQ B1 H1 g1
theorem scT1 : FnScope ["word"] ["word"] (defScope (mt 1)) := ⟨rfl, rfl, rfl, by decide +kernel, rfl, by decide +kernel, by decide +kernel⟩
def ROf (C : Addr) : List PyData → PyData → Prop := fun ds d => ∃ ns : List Nat, LET ns ∧ ds = [nT ns] ∧ d = oT C (rT (Wm.rowsOf ns))
theorem d_mk {X : Cx} {ρ : Rho} {e : Expr} {rows : List (List Nat)} {pos p : Pos} {k : Nat} (T : TC X.K X.mg C) (I : Gi X.prog X.w X.K X.mg X.base C k PdT) (hr : Room (k + 1) X.A) (tb : TAB rows) (he : ED X e ρ (rT rows)) (hg : Gl X "Table" := by rfl)
    (hst : starEach [e] X.env = (false, eval e X.env) :: starEach [] X.env := by rfl) : ED X (.Call (.Name "Table" p) [e] [] pos) ρ (oT C (rT rows)) := by
  obtain ⟨g, fd, hk, F, b⟩ := I.ex
  exact d_make hk F hr T.at_ b ⟨rows, tb, rfl⟩ he hg (by decide) hst
theorem of_gs (T : TC K mg C) (I : Gi P w K mg base C 7 PdT) (D1 : Df P w K mg base CX0 5 "check_word" ["value"] (spD (RNone fun x => ∃ ns, LET ns ∧ x = nT ns))) (D2 : Df P w K mg base CX0 3 "rows_of_word" ["word"] (spD RRW)) : Gs P w K mg base C 9 (spD (ROf C)) := by
  obtain ⟨mc, p, g, fd, cr, sm, F⟩ := T.of_
  refine ⟨mc, p, g, fd, cr, sm, fn_D F scT1 (fun ds d h => by obtain ⟨_, _, rfl, _⟩ := h; rfl) fun cdv A outer s H E ds d hr h => ?_, F.binds (fun _ _ _ _ _ _ us hl => match us, hl with | [_], _ => rfl)⟩
  obtain ⟨ns, hL, rfl, rfl⟩ := h
  exact q_expr (d_df (D1.up (by decide)) hr ⟨_, ⟨ns, hL, rfl⟩, rfl, rfl⟩ (a_cons (d_var 0) a_nil)) (q_ret (d_mk T I hr (TAB.of hL) (d_df (D2.up (by decide)) hr ⟨ns, hL, rfl, rfl⟩ (a_cons (d_var 0) a_nil))) rfl)
theorem d_pp {X : Cx} {ρ : Rho} {a : Expr} {f : Str} {rows : List (List Nat)} {q : List (List Nat) → PyData} {pos : Pos} {k : Nat} (T : TC X.K X.mg C) (G : Gp X.prog X.w X.K X.mg X.base C f k (RG C q)) (hr : Room (k + 1) X.A) (tb : TAB rows) (ha : ED X a ρ (oT C (rT rows)))
    (hab : attributeBase a f X.env (eval a X.env) = eval a X.env := by rfl) : ED X (.Attribute a f pos) ρ (q rows) := by
  obtain ⟨p, g, fd, hp, F, b⟩ := G.ex
  exact d_prop T.cls hp F hr b ⟨rows, tb, rfl, rfl⟩ ha hab
theorem scT10 : FnScope ["self", "letter"] ["self", "letter"] (defScope (mt 10)) := ⟨rfl, rfl, rfl, by decide +kernel, rfl, by decide +kernel, by decide +kernel⟩
def RPut (C : Addr) : List PyData → PyData → Prop := fun ds d => ∃ (rows : List (List Nat)) (x : Nat), TAB rows ∧ (Wm.lens rows).sum < 12 ∧ 1 ≤ x ∧ x ≤ 12 ∧ ds = [oT C (rT rows), .int (x : Nat)] ∧ d = oT C (rT (Wm.putRows rows x).1)
theorem TAB.put {rows : List (List Nat)} (h : TAB rows) (hs : (Wm.lens rows).sum < 12) {x : Nat} (h1 : 1 ≤ x) (h2 : x ≤ 12) : TAB (Wm.putRows rows x).1 := by
  refine ⟨Wm.putRows_tab h.t ⟨h1, h2⟩, ?_⟩
  have q := Wm.putRows_lens rows x
  rw [q.1, Wm.more_sum (by unfold Wm.lens; rw [List.length_map]; exact q.2)]
  exact hs
theorem put_gm (M : Bt mg) (T : TC K mg C) (I : Gi P w K mg base C 7 PdT) (Gr' : Gp P w K mg base C "rows" 1 (RG C rT)) (Gw : Gp P w K mg base C "word" 2 (RG C fun rows => nT rows.reverse.flatten)) (D1 : Df P w K mg base CX0 5 "check_letter" ["value"] (spD (RNone fun x => ∃ n : Nat, 1 ≤ n ∧ n ≤ 12 ∧ x = .int (n : Nat))))
    (D2 : Df P w K mg base CX0 1 "check_room" ["count"] (spD (RNone fun x => ∃ n : Nat, n ≤ 12 ∧ x = .int (n : Nat)))) (D3 : Df P w K mg base CX0 2 "put_in_rows" ["rows", "letter"] (spD RPT)) : Gm P w K mg base C "put" CX0 9 ["self", "letter"] (spD (RPut C)) := by
  obtain ⟨g, fd, hp, F⟩ := T.put
  refine ⟨g, fd, hp, fn_D F scT10 (fun ds d h => by obtain ⟨_, _, _, _, _, _, rfl, _⟩ := h; rfl) fun cdv A outer s H E ds d hr h => ?_, F.binds (fun _ _ _ _ _ _ us hl => match us, hl with | [_, _], _ => rfl)⟩
  obtain ⟨rows, x, tb, hs, h1, h2, rfl, rfl⟩ := h
  have fl : rows.reverse.flatten.length = (Wm.lens rows).sum := by rw [List.length_flatten, List.map_reverse, List.sum_reverse]; rfl
  refine q_expr (d_df (D1.up (by decide)) hr ⟨_, ⟨x, h1, h2, rfl⟩, rfl, rfl⟩ (a_cons (d_var 1) a_nil)) (q_expr (d_df (D2.up (by decide)) hr ⟨_, ⟨(Wm.lens rows).sum + 1, by omega, rfl⟩, rfl, rfl⟩ (a_cons (d_eq (d_bin r_add (d_callB c_lenT (a_cons (d_pp (q := fun rows => nT rows.reverse.flatten) (rows := rows) T Gw (hr.mono (by decide)) tb (d_var 0)) a_nil) M.len) d_int) ?e) a_nil)) (q_ret (d_mk T I hr (tb.put hs h1 h2)
    (d_ixT (i := 0) (ds := [rT (Wm.putRows rows x).1, .int ((Wm.putRows rows x).2 : Nat)]) rfl (d_df (D3.up (by decide)) hr ⟨rows, x, by have := tb.len; omega, fun r hr => by have := tb.wide r hr; omega, rfl, rfl⟩ (a_cons (d_pp (q := rT) (rows := rows) T Gr' (hr.mono (by decide)) tb (d_var 0)) (a_cons (d_var 1) a_nil))) d_int)) rfl))
  case e => rw [nT_len, fl]; rfl
abbrev NTk : List Str := ["self", "row", "rows", "letter"]
theorem scT12 : FnScope NTk ["self", "row"] (defScope (mt 12)) := ⟨rfl, rfl, rfl, by decide +kernel, rfl, by decide +kernel, by decide +kernel⟩
def RTk (C : Addr) : List PyData → PyData → Prop := fun ds d => ∃ (rows : List (List Nat)) (i : Nat), TAB rows ∧ Wm.isCorner (Wm.lens rows) i = true ∧ ds = [oT C (rT rows), .int (i : Nat)] ∧ d = .tuple [oT C (rT (Wm.takeRows rows i).1), .int ((Wm.takeRows rows i).2 : Nat)]
def GTk (C : Addr) : List PyData → PyData → Prop := fun ds d => ∃ (rows : List (List Nat)) (i : Nat), TAB rows ∧ Wm.isCorner (Wm.lens rows) i = false ∧ ds = [oT C (rT rows), .int (i : Nat)] ∧ d = .int (i : Nat)
theorem TAB.take {rows : List (List Nat)} (h : TAB rows) {i : Nat} (hc : Wm.isCorner (Wm.lens rows) i = true) : TAB (Wm.takeRows rows i).1 := by
  refine ⟨(Wm.takeRows_ok h.t hc).1, ?_⟩
  have := Wm.takeRows_sum h.t hc
  have := h.s
  omega
theorem taken_gm {Cr : Addr} (T : TC K mg C) (Tr : Rw P K mg Cr) (I : Gi P w K mg base C 7 PdT) (Gr' : Gp P w K mg base C "rows" 1 (RG C rT)) (Gs' : Gp P w K mg base C "shape" 2 (RG C fun rows => nT (Wm.lens rows))) (D1 : Df P w K mg base CX0 1 "is_integer" ["value"] (spD RInt))
    (D2 : Df P w K mg base CX0 1 "corners_of" ["shape"] (spD RCor)) (D3 : Df P w K mg base CX0 2 "taken_from" ["rows", "index"] (spD RTF)) : Gm P w K mg base C "taken" (L2.CX P w) 9 ["self", "row"] (spX Cr (RTk C) (GTk C)) := by
  obtain ⟨g, fd, hp, F⟩ := T.taken
  refine ⟨g, fd, hp, fn_X F scT12 (fun ds d h => by obtain ⟨_, _, _, _, rfl, _⟩ := h; rfl) (fun ds d h => by obtain ⟨_, _, _, _, rfl, _⟩ := h; rfl) (fun cdv A outer s H E ds d hr h => ?_) (fun cdv A outer s H E ds d hr h => ?_), F.binds (fun _ _ _ _ _ _ us hl => match us, hl with | [_, _], _ => rfl)⟩
  · obtain ⟨rows, i, tb, hc, rfl, rfl⟩ := h
    have ll : (Wm.lens rows).length ≤ 12 := by unfold Wm.lens; rw [List.length_map]; exact tb.len
    refine q_when (p := false) (t_w (w_or (t_not (p := true) (t_val (d_df (D1.up (by decide)) hr ⟨(i : Nat), rfl, rfl⟩ (a_cons (d_var 1) a_nil)))) fun _ => w_or1 (t_eq (t_cmp r_niI (d_var 1) (d_df (D2.up (by decide)) hr ⟨Wm.lens rows, by omega, rfl, rfl⟩ (a_cons (d_pp (q := fun rows => nT (Wm.lens rows)) (rows := rows) T Gs' (hr.mono (by decide)) tb (d_var 0)) a_nil))) ?m))) (fun z => nomatch z) fun _ =>
      q_asg (d_df (D3.up (by decide)) hr ⟨rows, i, tb, hc, rfl, rfl⟩ (a_cons (d_pp (q := rT) (rows := rows) T Gr' (hr.mono (by decide)) tb (d_var 0)) (a_cons (d_var 1) a_nil))) (g_pair rfl (g_name 2 scT12.nd) (g_name 3 scT12.nd)) (q_ret (d_tup (a_cons (d_mk T I hr (tb.take hc) (d_var 2)) (a_cons (d_var 3) a_nil))) rfl)
    case m => rw [any_zs, decide_eq_true (Wm.mem_corners.mpr ⟨Wm.corner_lt hc, hc⟩)]; rfl
  · obtain ⟨rows, i, tb, hc, rfl, rfl⟩ := h
    have ll : (Wm.lens rows).length ≤ 12 := by unfold Wm.lens; rw [List.length_map]; exact tb.len
    refine q_when (p := true) (t_w (w_or (t_not (p := true) (t_val (d_df (D1.up (by decide)) hr ⟨(i : Nat), rfl, rfl⟩ (a_cons (d_var 1) a_nil)))) fun _ => w_or1 (t_eq (q := true) (t_cmp r_niI (d_var 1) (d_df (D2.up (by decide)) hr ⟨Wm.lens rows, by omega, rfl, rfl⟩ (a_cons (d_pp (q := fun rows => nT (Wm.lens rows)) (rows := rows) T Gs' (hr.mono (by decide)) tb (d_var 0)) a_nil))) ?m))) (fun _ => q_row Tr (hr.mono (by decide)) rfl (takes_of rfl rfl rfl rfl) (d_var 1) rfl) fun z => nomatch z
    case m => rw [any_zs, decide_eq_false (fun z => by have := (Wm.mem_corners.mp z).2; rw [hc] at this; cases this)]; rfl
end
end Wd

set_option Elab.async false
set_option linter.all false
set_option maxRecDepth 100000
set_option maxHeartbeats 4000000
/-! _law_lens, _law_two_right. -/
namespace Wd
open PySem PySem.Spec PyProof.Rows L2 Evl Wx We
section
variable {X : Cx} {a b : Str} {d e : PyData}
theorem r_eqS : BinR X (compareOp .Eq) (.str a) (.str b) (.bool (decide (a = b))) := ⟨_, op_eq, fun x y B H ex e1 e2 Q k => by
  obtain rfl := e1.str_of
  obtain rfl := e2.str_of
  refine ⟨rfl, ?_⟩
  rw [show decide (V.str a = V.str b) = decide (a = b) by simp]
  exact k _ B H (Gr.refl ex) (.bl _)⟩
theorem r_neS : BinR X (compareOp .NotEq) (.str a) (.str b) (.bool (!decide (a = b))) := ⟨_, op_ne, fun x y B H ex e1 e2 Q k => by
  obtain rfl := e1.str_of
  obtain rfl := e2.str_of
  refine ⟨rfl, ?_⟩
  rw [show decide (V.str a = V.str b) = decide (a = b) by simp]
  exact k _ B H (Gr.refl ex) (.bl _)⟩
end
section
variable {P : Program} {w : World} {K : PySem.W.Frag} {mg : Str → Option Value} {base : Heap}
theorem scLn : FnScope ["_law_word_here", "_law_row"] ["_law_word_here"] (defScope (top 68)) := ⟨rfl, rfl, rfl, by decide +kernel, rfl, by decide +kernel, by decide +kernel⟩
def RLn : List PyData → PyData → Prop := fun ds d => ∃ ns : List Nat, LET ns ∧ ds = [nT ns] ∧ d = nT (Wm.lens (Wm.rowsOf ns))
theorem rows_12 {ns : List Nat} (h : LET ns) : (Wm.rowsOf ns).length ≤ 12 := by
  obtain ⟨h1, h2⟩ := Wm.rowsOf_ok ns h.2
  have h3 : (Wm.lens (Wm.rowsOf ns)).length ≤ (Wm.lens (Wm.rowsOf ns)).sum := h1.shp.len_sum
  have h4 : (Wm.lens (Wm.rowsOf ns)).length = (Wm.rowsOf ns).length := List.length_map ..
  have := h.1
  omega
theorem law_lens_df (M : Bt mg) (D : Dv K mg "_law_lens" 68) (D1 : Df P w K mg base CX0 1 "_law_rows" ["_law_word_here"] (spD RLR)) : Df P w K mg base CX0 2 "_law_lens" ["_law_word_here"] (spD RLn) := by
  refine df_D D scLn (fun _ _ _ _ _ _ us hl => match us, hl with | [_], _ => rfl) (fun ds d h => by obtain ⟨_, _, rfl, _⟩ := h; rfl) fun f cdv A outer s H E ds d hr h => ?_
  obtain ⟨ns, hl, rfl, rfl⟩ := h
  have l12 := rows_12 hl
  have hat : ∀ i, i < (Wm.rowsOf ns).length → ((Wm.rowsOf ns).map lD)[i]? = some (lD ((Wm.rowsOf ns).getD i [])) := fun i hi => by
    rw [List.getElem?_map, List.getD_eq_getElem?_getD, List.getElem?_eq_getElem hi]; rfl
  refine q_ret (d_callTy c_tupL (a_cons (d_lc (own := [("_law_row", 1)]) (n := (Wm.rowsOf ns).length) (f := fun _ => true) (v := fun i => .int (((Wm.rowsOf ns).getD i []).length : Nat)) rfl scLn.nd (blkOk_by (by kernel_rfl)) (i_lst (d_df D1 hr ⟨ns, hl, rfl, rfl⟩ (a_cons (d_var 0) a_nil)) hat (List.length_map ..)) rfl (js := [1]) (fun j hj => hj) (by omega)
    (fun i _ _ _ _ _ _ => g_name 1 scLn.nd) (fun i _ _ _ _ _ _ => ts_nil) fun i hi _ _ _ _ _ _ => d_eq (d_callB c_lenL (a_cons (d_var 1) a_nil) M.len) (by rw [nT_len])) a_nil) M.tuple) ?_
  show PyData.tuple _ = PyData.tuple _
  have h := items_list (Wm.rowsOf ns) [] (fun _ => true) fun r => .int (r.length : Nat)
  rw [List.filter_eq_self.mpr fun _ _ => rfl] at h
  rw [h]
  refine congrArg PyData.tuple ?_
  show _ = ((Wm.lens (Wm.rowsOf ns)).map fun n : Nat => (n : Int)).map PyData.int
  unfold Wm.lens
  rw [List.map_map, List.map_map]
  rfl
theorem sh_flip {ns : List Nat} (h : SHP ns) : SHP (Wm.flip ns) := ⟨Wm.flip_shp h.1, by rw [Wm.flip_sum h.1]; exact h.2⟩
abbrev N2R : List Str := ["_law_form_here", "_law_other_form", "_law_one", "_law_two", "_law_due", "_law_told", "_law_each"]
theorem sc2R : FnScope N2R ["_law_form_here", "_law_other_form"] (defScope (top 70)) := ⟨rfl, rfl, rfl, by decide +kernel, rfl, by decide +kernel, by decide +kernel⟩
def R2R : List PyData → PyData → Prop := fun ds d => ∃ a o : List Nat, SHP a ∧ SHP o ∧ ds = [nT a, nT o] ∧ d = .bool true
abbrev b3 (b : Bool) : PyData := .list [.bool b, .bool b, .bool b]
theorem b3_ok (b : Bool) : (b3 b).showable = true ∧ (b3 b).hasDict = false ∧ (b3 b).shown.length ≤ sizeLine ∧ (b3 b).depth ≤ 60 := by
  cases b <;> refine ⟨by decide +kernel, by decide +kernel, by decide +kernel, by decide +kernel⟩
theorem boxes_nodup {ns : List Nat} : (Wm.boxes ns).Nodup := by
  have key : ∀ k, (Wm.boxesTo ns k).Nodup := by
    intro k
    induction k with
    | zero => simp [Wm.boxesTo]
    | succ k ih =>
      rw [Wm.boxesTo_succ, List.nodup_append]
      refine ⟨ih, List.Pairwise.map _ (fun x y hxy z => hxy (by injection z)) List.nodup_range, fun x hx y hy z => ?_⟩
      obtain ⟨j, _, rfl⟩ := List.mem_map.mp hy
      have := (Wm.mem_boxesTo.mp hx).1
      rw [z] at this
      exact absurd this (Nat.lt_irrefl _)
  exact key _
theorem zb_nodup {bs : List (Nat × Nat)} (nd : bs.Nodup) : (zb bs).Nodup := List.Pairwise.map _ (fun x y hxy z => hxy (by
    have z : ((x.1 : Int), (x.2 : Int)) = ((y.1 : Int), (y.2 : Int)) := z
    injection z with z1 z2
    exact Prod.ext (by omega) (by omega))) nd
theorem items_bx (bs : List (Nat × Nat)) (p : Nat × Nat → Bool) : PyData.list (itemsD bs.length (fun i => p (bs.getD i (0, 0))) (fun i => bD (bs.getD i (0, 0)))) = bxD (bs.filter p) := congrArg PyData.list (items_list bs (0, 0) p bD)
theorem ok_bD (k : Nat) (b : Nat × Nat) : okD (k + 1) (bD b) = true := by
  show [PyData.int (b.1 : Nat), .int (b.2 : Nat)].all (okD k) = true
  rw [List.all_cons, List.all_cons, List.all_nil]
  cases k <;> rfl
theorem ok_bx (k : Nat) (bs : List (Nat × Nat)) : okD (k + 2) (bxD bs) = true := by
  show (bs.map bD).all (okD (k + 1)) = true
  rw [List.all_map, List.all_eq_true]
  exact fun b _ => ok_bD k b
/-- a list of boxes, whether it is empty -/
theorem eqv_bx (bs : List (Nat × Nat)) : PyData.eqv (bxD bs) (.list []) = bs.isEmpty := by
  cases bs with
  | nil => exact eqv_refl rfl
  | cons b bs => show PyData.eqv (.list (bD b :: bs.map bD)) (.list []) = false; simp [PyData.eqv, PyData.eqvAll]
theorem two_right_df (M : Bt mg) (D : Dv K mg "_law_two_right" 70) (D1 : Df P w K mg base CX0 1 "_law_boxes" ["_law_form_here"] (spD RBx)) (D2 : Df P w K mg base CX0 4 "holds" ["outer", "inner"] (spD RHolds)) (V2 : Dv K mg "holds" 30)
    (D3 : Df P w K mg base CX0 4 "flipped" ["shape"] (spD (RF1 Wm.flip))) : DfG P w K mg base 5 "_law_two_right" ["_law_form_here", "_law_other_form"] (spD R2R) := by
  refine df_G D sc2R (fun _ _ _ _ _ _ us hl => match us, hl with | [_, _], _ => rfl) (fun ds d h => by obtain ⟨_, _, _, _, rfl, _⟩ := h; rfl) fun f cdv A outer s H E ds d hgd hr h => ?_
  obtain ⟨a, o, sa, so, rfl, rfl⟩ := h
  have hu := hr.units
  have la := boxesTo_40 sa (Nat.le_refl _)
  have lo := boxesTo_40 so (Nat.le_refl _)
  have la : (Wm.boxes a).length ≤ 40 := la
  have lo : (Wm.boxes o).length ≤ 40 := lo
  have im : itemsD (Wm.boxes o).length (fun _ => true) (fun k => .tuple [bD ((Wm.boxes o).getD k (0, 0)), .bool true]) = (zb (Wm.boxes o)).map fun k => .tuple [.tuple [.int k.1, .int k.2], .bool true] := by
    have h := items_list (Wm.boxes o) (0, 0) (fun _ => true) fun b => .tuple [bD b, .bool true]
    rw [List.filter_eq_self.mpr fun _ _ => rfl] at h
    rw [h, List.map_map]
    rfl
  have due : ((Wm.boxes a).filter fun b => !(Wm.boxes o).contains b).isEmpty = Wm.held a o := by
    rw [← Wm.due_eq sa.1 so.1]
    unfold Wm.dueB
    rw [Bool.eq_iff_iff, List.isEmpty_iff, List.filter_eq_nil_iff, List.all_eq_true]
    refine forall_congr' fun b => forall_congr' fun _ => ?_
    cases (Wm.boxes o).contains b <;> simp
  have hfl : Wm.held (Wm.flip a) (Wm.flip o) = Wm.held a o := Wm.held_flip sa.1 so.1
  refine q_asg (d := .tuple [bxD (Wm.boxes a), dT (zb (Wm.boxes o))]) (d_tup (a_cons (d_df (D1.up (by decide)) hr ⟨a, sa, rfl, rfl⟩ (a_cons (d_var 0) a_nil)) (a_cons (d_callTy (c_dictT (ks := zb (Wm.boxes o)) rfl hu (zb_nodup boxes_nodup)) (a_cons (d_eq (d_lc (own := [("_law_each", 6)]) (n := (Wm.boxes o).length) (f := fun _ => true) (v := fun k => .tuple [bD ((Wm.boxes o).getD k (0, 0)), .bool true]) rfl sc2R.nd (blkOk_by (by kernel_rfl))
    (i_lst (d_df (D1.up (by decide)) hr ⟨o, so, rfl, rfl⟩ (a_cons (d_var 1) a_nil)) (fun i hi => bx_at hi) (List.length_map ..)) rfl (js := [6]) (fun j hj => hj) (by omega) (fun i _ _ _ _ _ _ => g_name 6 sc2R.nd) (fun i _ _ _ _ _ _ => ts_nil) fun i _ _ _ _ _ _ _ => d_tup (a_cons (d_var 6) (a_cons d_bl a_nil))) (congrArg PyData.list im)) a_nil) M.dict) a_nil)))
    (g_pair rfl (g_name 2 sc2R.nd) (g_name 3 sc2R.nd)) ?_
  refine q_set 4 (d := .bool (Wm.held a o)) (d_eq (d_cmp (r_eq hu (okD_sh (ok_bx 0 _)) (okD_sh (k := 1) rfl)) (d_eq (d_lc (own := [("_law_each", 6)]) (n := (Wm.boxes a).length) (f := fun k => !(Wm.boxes o).contains ((Wm.boxes a).getD k (0, 0))) (v := fun k => bD ((Wm.boxes a).getD k (0, 0))) rfl sc2R.nd (blkOk_by (by kernel_rfl))
    (i_lst (d_var 2) (fun i hi => bx_at hi) (List.length_map ..)) rfl (js := [6]) (fun j hj => hj) (by omega) (fun i _ _ _ _ _ _ => g_name 6 sc2R.nd) (fun i _ _ _ _ _ _ => ts_one (t_eq (t_cmp (r_niD (ks := zb (Wm.boxes o)) hu) (d_var 6) (d_var 3)) (by rw [any_zb]))) fun i _ _ _ _ _ _ _ => d_var 6) (items_bx (Wm.boxes a) fun b => !(Wm.boxes o).contains b)) (d_lst a_nil)) (congrArg PyData.bool (by rw [eqv_bx]; exact due))) ?_ sc2R.nd
  refine q_set 5 (d := b3 (Wm.held a o)) (d_lst (a_cons (d_df D2 hr ⟨o, a, so, sa, rfl, rfl⟩ (a_cons (d_var 1) (a_cons (d_var 0) a_nil))) (a_cons (d_kw2 (ds := [nT a, nT o]) D2 V2 ?bd hr ⟨o, a, so, sa, rfl, rfl⟩ (k_cons (d_var 0) (k_cons (d_var 1) k_nil))) (a_cons (d_eq (d_df D2 hr ⟨Wm.flip o, Wm.flip a, sh_flip so, sh_flip sa, rfl, rfl⟩ (a_cons (d_df D3 hr ⟨o, so, rfl, rfl⟩ (a_cons (d_var 1) a_nil)) (a_cons (d_df D3 hr ⟨a, sa, rfl, rfl⟩ (a_cons (d_var 0) a_nil)) a_nil))) (congrArg PyData.bool hfl)) a_nil)))) ?_ sc2R.nd
  case bd => exact fun _ _ _ _ _ _ ws hl => have hl2 : ws.length = 2 := (List.length_reverse ..).symm.trans hl; match ws, hl2 with | [_, _], _ => rfl
  obtain ⟨q1, q2, q3, q4⟩ := b3_ok (Wm.held a o)
  exact q_ret (d_eq (d_cmp r_eqS (d_callB (c_repr hgd hu q1 q2 q3 q4) (a_cons (d_var 5) a_nil) M.repr) (d_callB (c_repr hgd hu q1 q2 q3 q4) (a_cons (d_eq (d_bin (r_rep (n := 3) (ds := [.bool (Wm.held a o)]) (by decide) (show 1 ≤ 1000 by decide)) (d_lst (a_cons (d_var 4) a_nil)) d_int) rfl) a_nil) M.repr)) (congrArg PyData.bool (decide_eq_true rfl))) rfl
end
end Wd

set_option Elab.async false
set_option linter.all false
set_option maxRecDepth 100000
set_option maxHeartbeats 4000000
/-! _law_sort of an InvalidRow. -/
namespace Wd
open PySem PySem.Spec PyProof.Rows L2 Evl Wx We
theorem countP_eqU {x : V} : ∀ {xs : List V} {us : List Value}, Vals xs us → xs.all flatV = true → us.countP (eqU x) = xs.countP fun y => eqV y x
  | _, _, .nil, _ => rfl
  | y :: xs, u :: us, .cons r t, f => by
    rw [List.all_cons, Bool.and_eq_true] at f
    rw [List.countP_cons, List.countP_cons, eqU_of r f.1, countP_eqU t f.2]
/-- xs.count(y), flat items -/
def rCntF (K : PySem.W.Frag) : V → List V → Hp → VK → Prop := fun x xs H Q => ∃ (p : Addr) (ys : List V) (y : V), x = .ref p ∧ xs = [y] ∧ SqL K H p ys ∧ flatV y = true ∧ ys.all flatV = true ∧ Q (.int ((ys.countP fun z => eqV z y : Nat) : Int)) H
theorem mt_cntF {X : Cx} : MtR X "list.count" (rCntF X.K) := by
  intro pins s σ H x xs v us Q I rx rxs h
  obtain ⟨p, ys, y, rfl, rfl, hs, fy, fys, q⟩ := h
  cases rx
  cases rxs with
  | cons ry rt =>
    rename_i uy ut
    cases rt
    obtain ⟨its, rv, ⟨⟨cls, dd, data, sl⟩, n, ho, hc, hdn, hd⟩, hlen⟩ := I.list hs
    simp only at hc hd
    subst hc hd
    refine call_meets PySem.F.slot_list_count ⟨_, ho, rfl⟩ PySem.F.entry_list_count (PySem.F.args_list_count_2 _ _)
      (SeqAt.list_countAt p its.toArray n dd sl uy (eqU y)) ⟨ho, fun u' hu' => mem_eqAt ry fy rv fys u' (by simpa using hu'), ?_⟩
    have ec : its.toArray.toList.countP (eqU y) = ys.countP fun z => eqV z y := by
      rw [show its.toArray.toList = its by simp]
      exact countP_eqU rv fys
    refine ⟨.int ((ys.countP fun z => eqV z y : Nat) : Int), H, I.tok _, ⟨s.toks, ?_⟩, q⟩
    show Value.int ((its.toArray.toList.countP (eqU y) : Nat) : Int) s.toks = Value.int ((ys.countP fun z => eqV z y : Nat) : Int) s.toks
    rw [ec]
theorem flat_bls (bs : List Bool) : (bs.map V.bl).all flatV = true := by
  rw [List.all_map, List.all_eq_true]
  intro b _; rfl
section
variable {X : Cx} {ρ : Rho} {o e : Expr} {bs : List Bool} {b : Bool} {apos cpos : Pos}
theorem d_countB (ho : ED X o ρ (.list (bs.map PyData.bool))) (he : ED X e ρ (.bool b)) (hbase : attributeBase o "count" X.env (eval o X.env) = eval o X.env := by rfl)
    (hfew : ((backTo cpos (starEach [e] X.env)).all (fun x => !x.1) && (backToKw cpos (keywordEach [] X.env)).all (fun x => x.1.isSome) && decide ([e].length + ([] : List Keyword).length + (if ([] : List Keyword).isEmpty then 0 else 1) < 30)) = true := by rfl)
    (hline : (apos.endLine == cpos.line) = true := by rfl) (hs : starEach [e] X.env = (false, eval e X.env) :: starEach [] X.env := by rfl) : ED X (.Call (.Attribute o "count" apos) [e] [] cpos) ρ (.int ((bs.countP fun z => z == b : Nat) : Int)) := fun σ B H ex s Q k =>
  (pe_bm PySem.F.plainAttrs_list PySem.F.slot_list_count PySem.F.type_list_count mt_cntF pe_RE (pa_cons pe_RE pa_nil hs) hbase hfew hline hs rfl).re (ho σ B H ex s _ fun x B1 H1 g1 e1 => by
    obtain ⟨l, xs, rfl, hl, hd⟩ := e1.lst_of
    obtain rfl := hd.bools
    refine ⟨.inl ⟨rfl, _, sq_of (g1.s _ _ hl)⟩, he σ B1 H1 g1.s (s.mono g1.b) _ fun y B2 H2 g2 e2 => ?_⟩
    obtain rfl := e2.bl_of
    refine ⟨l, _, _, rfl, rfl, sq_of (g2.s _ _ (g2.b _ _ hl)), rfl, flat_bls bs, ?_⟩
    rw [List.countP_map]
    exact k _ B2 H2 (g1.trans g2) (.int _))
theorem d_indexB {j : Nat} (hj : bs[j]? = some b) (hm : ∀ m, m < j → bs[m]? ≠ some b) (ho : ED X o ρ (.list (bs.map PyData.bool))) (he : ED X e ρ (.bool b)) (hbase : attributeBase o "index" X.env (eval o X.env) = eval o X.env := by rfl)
    (hfew : ((backTo cpos (starEach [e] X.env)).all (fun x => !x.1) && (backToKw cpos (keywordEach [] X.env)).all (fun x => x.1.isSome) && decide ([e].length + ([] : List Keyword).length + (if ([] : List Keyword).isEmpty then 0 else 1) < 30)) = true := by rfl)
    (hline : (apos.endLine == cpos.line) = true := by rfl) (hs : starEach [e] X.env = (false, eval e X.env) :: starEach [] X.env := by rfl) : ED X (.Call (.Attribute o "index" apos) [e] [] cpos) ρ (.int (j : Nat)) := fun σ B H ex s Q k =>
  (pe_bm PySem.F.plainAttrs_list PySem.F.slot_list_index PySem.F.type_list_index mt_index pe_RE (pa_cons pe_RE pa_nil hs) hbase hfew hline hs rfl).re (ho σ B H ex s _ fun x B1 H1 g1 e1 => by
    obtain ⟨l, xs, rfl, hl, hd⟩ := e1.lst_of
    obtain rfl := hd.bools
    refine ⟨.inl ⟨rfl, _, sq_of (g1.s _ _ hl)⟩, he σ B1 H1 g1.s (s.mono g1.b) _ fun y B2 H2 g2 e2 => ?_⟩
    obtain rfl := e2.bl_of
    refine ⟨l, _, _, j, .bl b, rfl, rfl, sq_of (g2.s _ _ (g2.b _ _ hl)), rfl, flat_bls bs, by rw [List.getElem?_map, hj]; rfl, beq_self_eq_true b, fun m z' hmj hz => ?_, k _ B2 H2 (g1.trans g2) (.int _)⟩
    rw [List.getElem?_map] at hz
    cases hb : bs[m]? with
    | none => rw [hb] at hz; cases hz
    | some c =>
      rw [hb] at hz
      cases hz
      exact beq_eq_false_iff_ne.mpr fun z => hm m hmj (by rw [hb, z]))
/-- an exception at a, its dict at d, its field i -/
abbrev eD (a d : Addr) (i : Int) : PyData := .dict [(.str "e", .int (a : Nat)), (.none, .int (d : Nat)), (.none, .int i)]
theorem eD_of {B : Hp} {v : V} {a d : Addr} {i : Int} (h : Da B v (eD a d i)) : v = .ref a ∧ B d = some (.xd [("given", .int i)]) := by
  generalize hd : eD a d i = dd at h
  cases h with
  | exc h =>
    rename_i a2 d2 i2
    injection hd with hd
    injection hd with h1 h2
    injection h2 with h2 h3
    injection h3 with h3 _
    injection h1 with _ h1
    injection h2 with _ h2
    injection h3 with _ h3
    injection h1 with h1
    injection h2 with h2
    injection h3 with h3
    have e1 : a = a2 := Int.ofNat.inj h1
    have e2 : d = d2 := Int.ofNat.inj h2
    subst e1 e2 h3
    exact ⟨rfl, h⟩
  | dkI h => rename_i a2 ks; injection hd with hd; cases ks with
    | nil => cases hd
    | cons k ks => injection hd with h1 _; injection h1 with h1 _; cases h1
  | dkT h => injection hd with hd; injection hd with h1 _; injection h1 with h1 _; cases h1
  | rf a => injection hd with hd; injection hd with h1 h2; cases h2
  | obj h _ => injection hd with hd; injection hd with h1 h2; injection h2 with _ h2; cases h2
  | _ => cases hd
/-- isinstance(e, T), e the held error -/
theorem d_isJ {i : Int} {p : Addr × Obj} {D d : Addr} {T : Str} {c : V} {cv : Value} {r : Bool} {q pos np : Pos} (hp : p ∈ X.pn) (C : ExcC X.K D) (hc : p.2.cls = .ref D) (hd : p.2.dict = some d) (hf : ∃ vs, p.2.data = .fields vs)
    (hT : PE X (.Name T q) (tC c)) (hcv : ∀ u, RelV c u → u = cv) (hk : PySem.W.kitOne X.K (.ref D) cv = some r) (he : ED X e ρ (eD p.1 d i)) (hm : X.mg "isinstance" = none) (hg : Gl X "isinstance" := by rfl)
    (he1 : starEach [e, .Name T q] X.env = (false, eval e X.env) :: starEach [.Name T q] X.env := by rfl) (he2 : starEach [.Name T q] X.env = (false, eval (.Name T q) X.env) :: starEach [] X.env := by rfl) (hpl : (backTo pos (starEach [.Name T q] X.env)).any (·.1) = false := by rfl) :
    ED X (.Call (.Name "isinstance" np) [e, .Name T q] [] pos) ρ (.bool r) := fun σ B H ex s Q k =>
  (pe_callB (call_isJ hp C hc hd hf) hg hm (by decide +kernel) (pa_cons pe_RE (pa_cons hT pa_nil he2) he1) (by decide) (by decide) he1 hpl).re (he σ B H ex s _ fun v B1 H1 g1 e1 => by
    obtain ⟨rfl, hb⟩ := eD_of e1
    exact ⟨c, cv, r, rfl, hcv, hk, ⟨_, g1.s _ _ hb⟩, k _ B1 H1 g1 (.bl r)⟩)
/-- a low bound ≤ b < c of ints -/
theorem d_chainL {a b c : Expr} {pos : Pos} {i j k0 : Int} (ha : ED X a ρ (.int i)) (hb : ED X b ρ (.int j)) (hc : ED X c ρ (.int k0)) (hm : lastMarks [.LtE, .Lt] [b, c] = false := by with_unfolding_all rfl) :
    ED X (.Compare a [.LtE, .Lt] [b, c] pos) ρ (.bool (decide (i ≤ j) && decide (j < k0))) := fun σ B H ex s Q k =>
  (pe_chain op_le op_lt pe_RE pe_RE pe_RE hm).re (ha σ B H ex s _ fun x B1 H1 g1 e1 => hb σ B1 H1 g1.s (s.mono g1.b) _ fun y B2 H2 g2 e2 => ⟨i, j, e1.int_of, e2.int_of, decide (i ≤ j), rfl, by
    generalize decide (i ≤ j) = z at k
    cases z with
    | true => exact iteT (hc σ B2 H2 g2.s ((s.mono g1.b).mono g2.b) _ fun z B3 H3 g3 e3 => ⟨j, k0, e2.int_of, e3.int_of, k _ B3 H3 ((g1.trans g2).trans g3) (.bl _)⟩)
    | false => exact iteF (k _ B2 H2 (g1.trans g2) (.bl _))⟩)
end
def skNames : List (Str × Bool) := [("InvalidShape", false), ("InvalidNumber", false), ("InvalidRow", true), ("InvalidPlace", false), ("InvalidWord", false), ("UnlikeSizes", false), ("TooMany", false), ("NoMove", false), ("WrongValue", true), ("NoAnswer", false), ("WrongName", false)]
/-- the classes of the errors, against InvalidRow at C -/
structure Sk (K : PySem.W.Frag) (mg : Str → Option Value) (C : Addr) : Prop where
  exc : ExcC K C
  own : ∀ p ∈ skNames, ∃ c : Addr, mg p.1 = some (.ref c) ∧ PySem.W.kitOne K (.ref C) (.ref c) = some p.2
  ve : mg "ValueError" = none
  ae : mg "ArithmeticError" = none
  kv : PySem.W.kitOne K (.ref C) (.type "ValueError") = some true
  ka : PySem.W.kitOne K (.ref C) (.type "ArithmeticError") = some false
section
variable {X : Cx} {ρ : Rho} {e : Expr} {C d : Addr} {p : Addr × Obj} {i : Int}
theorem d_isU {T : Str} {r : Bool} {q pos np : Pos} (S : Sk X.K X.mg C) (hp : p ∈ X.pn) (hc : p.2.cls = .ref C) (hd : p.2.dict = some d) (hf : ∃ vs, p.2.data = .fields vs) (hmem : (T, r) ∈ skNames) (he : ED X e ρ (eD p.1 d i)) (hm : X.mg "isinstance" = none) (hg : Gl X "isinstance" := by rfl) (hgT : Gl X T := by rfl) (hdT : (T == ("__debug__" : Str)) = false := by decide)
    (he1 : starEach [e, .Name T q] X.env = (false, eval e X.env) :: starEach [.Name T q] X.env := by rfl) (he2 : starEach [.Name T q] X.env = (false, eval (.Name T q) X.env) :: starEach [] X.env := by rfl) (hpl : (backTo pos (starEach [.Name T q] X.env)).any (·.1) = false := by rfl) :
    ED X (.Call (.Name "isinstance" np) [e, .Name T q] [] pos) ρ (.bool r) := by
  obtain ⟨c, hmc, hk⟩ := S.own _ hmem
  exact d_isJ hp S.exc hc hd hf (pe_glob (v := .ref c) hgT hmc rfl hdT) (fun u hu => hu) hk he hm hg he1 he2 hpl
theorem d_isV {T : Str} {tn : String} {r : Bool} {q pos np : Pos} (S : Sk X.K X.mg C) (hp : p ∈ X.pn) (hc : p.2.cls = .ref C) (hd : p.2.dict = some d) (hf : ∃ vs, p.2.data = .fields vs) (hk : PySem.W.kitOne X.K (.ref C) (.type tn) = some r) (hT : X.mg T = none) (he : ED X e ρ (eD p.1 d i)) (hm : X.mg "isinstance" = none) (hv : bootBuiltins T = some (.type tn) := by decide +kernel)
    (hg : Gl X "isinstance" := by rfl) (hgT : Gl X T := by rfl) (hn : T ≠ "__name__" := by decide) (hdT : (T == ("__debug__" : Str)) = false := by decide)
    (he1 : starEach [e, .Name T q] X.env = (false, eval e X.env) :: starEach [.Name T q] X.env := by rfl) (he2 : starEach [.Name T q] X.env = (false, eval (.Name T q) X.env) :: starEach [] X.env := by rfl) (hpl : (backTo pos (starEach [.Name T q] X.env)).any (·.1) = false := by rfl) :
    ED X (.Call (.Name "isinstance" np) [e, .Name T q] [] pos) ρ (.bool r) :=
  d_isJ hp S.exc hc hd hf (pe_bltn (v := .ty tn) hgT hT hv rfl hn hdT) (fun u hu => hu) hk he hm hg he1 he2 hpl
end
section
variable {P : Program} {w : World} {K : PySem.W.Frag} {mg : Str → Option Value} {base : Heap} {C : Addr}
abbrev NSt : List Str := ["_law_e", "_law_own", "_law_under", "_law_plain", "_law_at"]
theorem scSt : FnScope NSt ["_law_e"] (defScope (top 64)) := ⟨rfl, rfl, rfl, by decide +kernel, rfl, by decide +kernel, by decide +kernel⟩
def spSt (C : Addr) : Addr × Obj → Sp := fun p vs H Q E => ∃ (d : Addr) (i : Int), vs = [.ref p.1] ∧ p.2.cls = .ref C ∧ p.2.dict = some d ∧ (∃ vs, p.2.data = .fields vs) ∧ H d = some (.xd [("given", .int i)]) ∧ ∀ H', Ex H H' → Q (.str "row") H'
structure DfJ (P : Program) (w : World) (K : PySem.W.Frag) (mg : Str → Option Value) (base : Heap) (k : Nat) (x a : Str) (sp : Addr × Obj → Sp) : Prop where
  ex : ∃ (f : Addr) (fd : FuncData), mg x = some (.ref f) ∧ FnJ P w K mg base k f fd [a] sp ∧ PySem.W.keepIn K (.ref f) = true ∧ Binds K fd [a] []
theorem ok_bools (k : Nat) (bs : List Bool) : okD (k + 1) (.list (bs.map PyData.bool)) = true := by
  show (bs.map PyData.bool).all (okD k) = true
  rw [List.all_map, List.all_eq_true]
  intro b _
  cases k <;> rfl
abbrev bL (bs : List Bool) : PyData := .list (bs.map PyData.bool)
abbrev own8 : List Bool := [false, false, true, false, false, false, false, false]
theorem sort_SX (M : Bt mg) (S : Sk K mg C) {f : Addr} {cdv : Value} {A : Around} {outer : List Env} {s : Shared} {H : Hp} {E : XK} {p : Addr × Obj} {d : Addr} {i : Int} (hu : (A.deeper (envOfC "_law_sort" (defScope (top 64)) s.heap.objs.size f cdv)).units + 64 < cLine)
    (hc : p.2.cls = .ref C) (hd : p.2.dict = some d) (hf : ∃ vs, p.2.data = .fields vs) : SX (L2H.cxH CX0 P w K mg base NSt "_law_sort" (defScope (top 64)) f cdv A outer s H E p) 0 E0 (defBody (top 64)) (ρ0 NSt [eD p.1 d i]) { R := fun d' => d' = .str "row" } := by
  have hp : p ∈ [p] := List.mem_cons_self
  refine q_set 1 (d := bL [false, false, true]) (d_lst (a_cons (d_isU S hp hc hd hf (by decide +kernel) (d_var 0) M.isi) (a_cons (d_isU S hp hc hd hf (by decide +kernel) (d_var 0) M.isi) (a_cons (d_isU S hp hc hd hf (by decide +kernel) (d_var 0) M.isi) a_nil)))) ?_ scSt.nd
  refine q_set 1 (d := bL [false, false, true, false, false, false]) (d_bin (r_catL (ds := [.bool false, .bool false, .bool true]) (ds2 := [.bool false, .bool false, .bool false]) (by decide)) (d_var 1) (d_lst (a_cons (d_isU S hp hc hd hf (by decide +kernel) (d_var 0) M.isi) (a_cons (d_isU S hp hc hd hf (by decide +kernel) (d_var 0) M.isi) (a_cons (d_isU S hp hc hd hf (by decide +kernel) (d_var 0) M.isi) a_nil))))) ?_ scSt.nd
  refine q_set 1 (d := bL own8) (d_bin (r_catL (ds := [.bool false, .bool false, .bool true, .bool false, .bool false, .bool false]) (ds2 := [.bool false, .bool false]) (by decide)) (d_var 1) (d_lst (a_cons (d_isU S hp hc hd hf (by decide +kernel) (d_var 0) M.isi) (a_cons (d_isU S hp hc hd hf (by decide +kernel) (d_var 0) M.isi) a_nil)))) ?_ scSt.nd
  refine q_set 2 (d := bL [true, false]) (d_lst (a_cons (d_isU S hp hc hd hf (by decide +kernel) (d_var 0) M.isi) (a_cons (d_isU S hp hc hd hf (by decide +kernel) (d_var 0) M.isi) a_nil))) ?_ scSt.nd
  refine q_set 3 (d := bL [true, false]) (d_lst (a_cons (d_isV S hp hc hd hf S.kv S.ve (d_var 0) M.isi) (a_cons (d_isV S hp hc hd hf S.ka S.ae (d_var 0) M.isi) a_nil))) ?_ scSt.nd
  refine q_set 4 (d := .int 2) (d_ifE (p := true) (t_eq (t_cmp r_eqI (d_countB (bs := own8) (b := true) (d_var 1) d_bl) d_int) (by decide)) (fun _ => d_indexB (bs := own8) (b := true) (j := 2) rfl (by decide) (d_var 1) d_bl) fun z => nomatch z) ?_ scSt.nd
  refine q_when (p := false) (t_w (w_or (p := false) (q := false) (t_eq (t_cmp (r_ne hu (okD_sh (ok_bools 0 _)) (okD_sh (ok_bools 0 _))) (d_var 2) (d_var 3)) (by decide +kernel)) fun _ => t_eq' (w_or (p := false) (q := false) (t_eq (t_cmp (r_ne hu (okD_sh (ok_bools 0 _)) (okD_sh (k := 1) rfl)) (d_var 2) (d_lst (a_cons (d_cmp r_lt (d_var 4) d_int) (a_cons (d_chainL d_int (d_var 4) d_int) a_nil)))) (by decide +kernel)) fun _ =>
    w_or1 (t_val (d_isU S hp hc hd hf (by decide +kernel) (d_var 0) M.isi))) rfl)) (fun z => nomatch z) fun _ => ?_
  exact q_ret (d_ixL (ds := [.str "shape", .str "number", .str "row", .str "place", .str "word", .str "sizes", .str "many", .str "move"]) (i := 2) rfl (d_lst (a_cons d_str (a_cons d_str (a_cons d_str (a_cons d_str (a_cons d_str (a_cons d_str (a_cons d_str (a_cons d_str a_nil))))))))) (d_var 4)) rfl
theorem law_sort_df (M : Bt mg) (S : Sk K mg C) (D : Dv K mg "_law_sort" 64) : DfJ P w K mg base 1 "_law_sort" "_law_e" (spSt C) := by
  obtain ⟨f, fd, hm, F⟩ := D.ex
  refine ⟨f, fd, hm, Fun.okJ F scSt (fun p vs H Q E h => by obtain ⟨_, _, rfl, _⟩ := h; rfl) (fun cdv A outer s H vs Q E p hr h => ?_), F.kp, F.binds (fun _ _ _ _ _ _ us hl => match us, hl with | [_], _ => rfl)⟩
  obtain ⟨d, i, rfl, hc, hd, hf, hH, k⟩ := h
  have hu := hr.un
  refine ⟨_, pss_RSs, sort_SX M S (by omega) hc hd hf _ (fun a => if a = d then some (.xd [("given", .int i)]) else none) H _ (fun a o z => ?_) (StD.start (.cons (.exc (by rw [if_pos rfl])) .nil)) (fun σ' B' H' ρ' g _ z => z.elim) (fun v B' H' d' g e z => ?_) fun v B' H' d' x' g e z => z.elim⟩
  · have z : (if a = d then some (HO.xd [("given", .int i)]) else none) = some o := z
    by_cases c : a = d
    · rw [if_pos c] at z; cases z; rw [c]; exact hH
    · rw [if_neg c] at z; cases z
  · subst z
    obtain rfl := e.str_of
    exact k H' g.h
end
end Wd

set_option Elab.async false
set_option linter.all false
set_option maxRecDepth 100000
set_option maxHeartbeats 4000000
/-! _law_caught: what it makes of a lambda that gives, or raises InvalidRow. -/
namespace Wd
open PySem PySem.Spec PyProof.Rows L2 L2H Evl Wx We
section
variable {Y : Cx} {ρ : Rho} {e : Expr} {C d : Addr} {p : Addr × Obj} {i : Int} {k : Nat} {q pos : Pos}
theorem d_sort (F : DfJ Y.prog Y.w Y.K Y.mg Y.base k "_law_sort" "_law_e" (spSt C)) (hr : RoomH k Y.A) (hp : p ∈ Y.pn) (hc : p.2.cls = .ref C) (hd : p.2.dict = some d) (hf : ∃ vs, p.2.data = .fields vs) (he : ED Y e ρ (eD p.1 d i)) (hg : Gl Y "_law_sort" := by rfl)
    (hst : starEach [e] Y.env = (false, eval e Y.env) :: starEach [] Y.env := by rfl) : ED Y (.Call (.Name "_law_sort" q) [e] [] pos) ρ (.str "row") := by
  obtain ⟨f, fd, hm, F, kp, b⟩ := F.ex
  exact fun σ B H ex s Q kk => (pe_callJ F hr hp hg hm kp b pe_RE (by decide) hst).re (he σ B H ex s _ fun v B1 H1 g1 e1 => by
    obtain ⟨rfl, hb⟩ := eD_of e1
    exact ⟨d, i, rfl, hc, hd, hf, g1.s _ _ hb, fun H' e2 => kk _ B1 H' (g1.trans ⟨Ex.refl _, e2, g1.s.trans e2, fun _ _ => rfl⟩) (.str _)⟩)
theorem d_given {X : Cx} {a : Addr} {oe : Obj} {cls : Value} {pn : List (Addr × Obj)} (T : XfC X.K C) (hno : PySem.W.findIn X.K (.ref C) "given" = some none) (hz : Zc cls (some d) oe) (hcl : cls = .ref C) (hf : ∃ vs, oe.data = .fields vs) (he : ED (X.suite a ((a, oe) :: pn)) e ρ (eD a d i))
    (hb : attributeBase e "given" X.env (eval e X.env) = eval e X.env := by rfl) : ED (X.suite a ((a, oe) :: pn)) (.Attribute e "given" pos) ρ (.int i) := fun σ B H ex s Q kk =>
  (pe_xf T hno hz hf pe_RE hb).re (he σ B H ex s _ fun v B1 H1 g1 e1 => by
    obtain ⟨rfl, h⟩ := eD_of e1
    exact ⟨rfl, hcl, d, _, .int i, rfl, g1.s _ _ h, rfl, kk _ B1 H1 g1 (.int i)⟩)
end
abbrev NCt : List Str := ["_law_act_here", "_law_gave", "_law_e", "_law_word_here"]
theorem scCt : FnScope NCt ["_law_act_here"] (defScope (top 65)) := ⟨rfl, rfl, rfl, by decide +kernel, rfl, by decide +kernel, by decide +kernel⟩
/-- the handler's suite -/
def ctSuite : List Stmt := match defBody (top 65) with
  | .Try _ [.ExceptHandler _ _ s _] _ _ _ :: _ => s
  | _ => []
/-- the classes that the clause names, and what is told of InvalidRow at C -/
structure Ct (K : PySem.W.Frag) (mg : Str → Option Value) (C : Addr) : Prop where
  sk : Sk K mg C
  xf : XfC K C
  no : PySem.W.findIn K (.ref C) "given" = some none
  cl : ∃ c1 c2 c3 : Addr, mg "WrongValue" = some (.ref c1) ∧ mg "WrongName" = some (.ref c2) ∧ mg "NoAnswer" = some (.ref c3) ∧ PySem.W.exmAny K (.ref C) [.ref c1, .ref c2, .ref c3] = some true
section
variable {P : Program} {w : World} {K : PySem.W.Frag} {mg : Str → Option Value} {base : Heap} {g : Addr} {cdg : Value} {A : Around} {outer : List Env} {s : Shared} {H0 : Hp} {C d a : Addr} {oe : Obj} {i : Int} {pn : List (Addr × Obj)} {k : Nat}
abbrev XCt (P : Program) (w : World) (K : PySem.W.Frag) (mg : Str → Option Value) (base : Heap) (g : Addr) (cdg : Value) (A : Around) (outer : List Env) (s : Shared) (H0 : Hp) : Cx := (cxOf CX0 P w K mg base NCt "_law_caught" (defScope (top 65)) g cdg A outer s H0 E0).nox
theorem suite_SX (M : Bt mg) (T : Ct K mg C) (F : DfJ P w K mg base k "_law_sort" "_law_e" (spSt C)) (hr : RoomH k (XCt P w K mg base g cdg A outer s H0).A) (hz : Zc (.ref C) (some d) oe) (hf : ∃ vs, oe.data = .fields vs) (hi : i.natAbs.log2 < 1920) :
    SX ((XCt P w K mg base g cdg A outer s H0).suite a ((a, oe) :: pn)) 0 E0 ctSuite [none, none, some (eD a d i), none] { R := fun d' => d' = .tuple [.str "row", .str (toString i)] } := by
  have hu := hr.un
  have hu2 : ((XCt P w K mg base g cdg A outer s H0).suite a ((a, oe) :: pn)).A.units + 65 < cLine := by
    show (XCt P w K mg base g cdg A outer s H0).A.units + 65 < cLine
    omega
  refine q_set 3 (d_sort F ⟨hr.dp, hr.un⟩ List.mem_cons_self hz.1 hz.2 hf (d_var 2)) ?_ scCt.nd
  refine q_when (p := false) (t_eq (t_cmp (r_inL (d := .str "row") (ds := [.str "sizes", .str "odd", .str "move"]) hu2 (okD_sh (k := 0) (by decide +kernel)) (okD_sh (k := 1) (by decide +kernel))) (d_var 3) (d_lst (a_cons d_str (a_cons d_str (a_cons d_str a_nil))))) (by decide +kernel)) (fun z => nomatch z) fun _ => ?_
  refine q_ret (d_tup (a_cons (d_var 3) (a_cons (d_callB (c_reprI hi) (a_cons (d_ifE (p := false) (t_eq (t_cmp r_eqS (d_var 3) d_str) (by decide +kernel)) (fun z => nomatch z) fun _ => d_given T.xf T.no hz rfl hf (d_var 2)) a_nil) M.repr) a_nil))) rfl
/-- the lambda's reading, told of what _law_caught makes of it -/
def EcC (C : Addr) (Q : VK) : XK := fun cls d H' => cls = .ref C ∧ ∃ (x : Addr) (i : Int), d = some x ∧ H' x = some (.xd [("given", .int i)]) ∧ i.natAbs.log2 < 1920 ∧ ∀ p H'', Ex H' H'' → H'' p = some (.tup [.str "row", .str (toString i)]) → Q (.ref p) H''
def TTc (C : Addr) : (XK → Hp → VK → Prop) → Hp → VK → Prop := fun tl H Q => tl (EcC C Q) H fun v H' => ∀ p H'', Ex H' H'' → H'' p = some (.tup [.str "gave", v]) → Q (.ref p) H''
end
section
variable {X : Cx} {C g : Addr} {cdg : Value} {q : Str} {k : Nat}
theorem pe_weak {X : Cx} {e : Expr} {te : TE} (h : PE X e te) : PE X e fun σ H Q => ∃ Q2 : VK, (∀ v H', Q2 v H' → Q v H') ∧ te σ H Q2 := ⟨fun pins s σ H Q I ⟨Q2, hm, hq⟩ => wpAny_mono (h.run pins s σ H Q2 I hq) (fun v s' hh => by
  obtain ⟨x, H1, I1, r, q⟩ := hh
  exact ⟨x, H1, I1, r, hm x H1 q⟩) fun e s' hh => hh⟩
theorem caught_gives (M : Bt X.mg) (T : Ct X.K X.mg C) (F : DfJ X.prog X.w X.K X.mg X.base k "_law_sort" "_law_e" (spSt C)) (hr : ∀ (s : Shared) (H : Hp), RoomH k (XCt X.prog X.w X.K X.mg X.base g cdg X.A X.stack s H).A) :
    LamX.GivesTo X NCt "_law_caught" (defScope (top 65)) g cdg (defBody (top 65)) "_law_act_here" q (TTc C) := by
  intro f c' s H Q tl act hc h
  obtain ⟨c1, c2, c3, m1, m2, m3, ex3⟩ := T.cl
  refine ⟨_, pss_cons (ps_try_tup (X := XCt X.prog X.w X.K X.mg X.base g cdg X.A X.stack s H) (i := 2)
    (tb := fun W D σ H => ∃ (Ech : XK) (Q2 : VK), (∀ cls d σ' H', Ech cls d H' → W cls d σ' H') ∧ (∀ v H', Q2 v H' → D.nx (σ.set 1 (some v)) H') ∧ σ[0]? = some (some (.ref f)) ∧ H c' = some (LamX.CodeO c' q) ∧ tl Ech H Q2)
    (ts := fun a cls d D σ2 H2 => ∀ (oe : Obj) (pn : List (Addr × Obj)), Zc cls d oe → (∃ vs, oe.data = .fields vs) → RSs ((XCt X.prog X.w X.K X.mg X.base g cdg X.A X.stack s H).suite a ((a, oe) :: pn)) ctSuite D σ2 H2)
    rfl rfl scCt.nd rfl rfl rfl rfl rfl m1 m2 m3 (fun W pn xe tk _ => ?_) (fun a oe cls d pn hz hf => ⟨fun pins s2 σ2 H2 D I h => h oe pn hz hf pins s2 I⟩)) pss_RSs, ?_⟩
  · refine ⟨fun pins s' σ H' D I h' => ?_⟩
    obtain ⟨Ech, Q2, hW, hQ, h1, h2, h3⟩ := h'
    exact (pss_one (ps_set (i := 1) scCt.nd rfl (.inl rfl) (pe_weak (act W pn xe Ech _ _ tk hW)))).run pins s' σ H' D I ⟨Q2, hQ, h1, h2, h3⟩
  · refine ⟨EcC C Q, _, fun cls d σ' H' hE => ?_, fun v H' hq => ?_, rfl, hc, h⟩
    · obtain ⟨rfl, x, i, rfl, hx, hi, hk⟩ := hE
      refine ⟨ex3, fun a na oe pn hz hf pins s2 I => ?_⟩
      have hl : (σ'.set 2 (some (V.ref a))).length = 4 := I.len
      refine suite_SX M T F (hr s H) hz hf hi _ (fun b => if b = x then some (.xd [("given", .int i)]) else none) H' _ (fun b o z => ?_) ⟨hl, fun j d z => ?_⟩ (fun σ2 B2 H2 ρ2 g2 _ z => z.elim) (fun v B2 H2 d2 g2 e2 z => ?_) (fun v B2 H2 d2 x2 g2 e2 z => z.elim) pins s2 I
      · have z : (if b = x then some (HO.xd [("given", .int i)]) else none) = some o := z
        by_cases c : b = x
        · rw [if_pos c] at z; cases z; rw [c]; exact hx
        · rw [if_neg c] at z; cases z
      · match j, z with
        | 2, z =>
          have z : some (some (eD a x i)) = some (some d) := z
          injection z with z
          injection z with z
          subst z
          exact ⟨.ref a, List.getElem?_set_self (by rw [List.length_set] at hl; omega), .exc (by rw [if_pos rfl])⟩
        | 0, z => exact nomatch z
        | 1, z => exact nomatch z
        | 3, z => exact nomatch z
        | n + 4, z => exact nomatch z
      · subst z
        obtain ⟨p, xs, rfl, hp, hd⟩ := e2.tup_of
        cases hd with
        | cons q1 hd =>
          cases hd with
          | cons q2 hd =>
            cases hd
            obtain rfl := q1.str_of
            obtain rfl := q2.str_of
            exact hk p H2 g2.h (g2.s _ _ hp)
    · refine (pss_one (ps_ret (pe_tup (pa_cons pe_str (pa_cons (pe_var (i := 1) rfl (.inl rfl) (by decide) (by decide)) pa_nil))))).rss ?_
      exact ⟨v, rfl, (show 2 ≤ sizeLine by decide), fun p hp => hq p _ (Ex.new hp) upd_same⟩
end
end Wd

set_option Elab.async false
set_option linter.all false
set_option maxRecDepth 100000
set_option maxHeartbeats 4000000
/-! Rules over data where a list of three numbers (the tub, at t) and tables of code objects change. -/
namespace Wx
open PySem PySem.Spec PyProof.Rows L2 Evl
section
variable {H H' : Hp}
mutual
theorem Da.monoN (e : LamX.ExtN H H') : ∀ {v : V} {d : PyData}, Da H v d → Da H' v d
  | _, _, .non => .non
  | _, _, .bl b => .bl b
  | _, _, .int i => .int i
  | _, _, .str x => .str x
  | _, _, .lst h a => .lst (e _ _ h (fun _ z => nomatch z)) (DaAll.monoN e a)
  | _, _, .tup h a => .tup (e _ _ h (fun _ z => nomatch z)) (DaAll.monoN e a)
  | _, _, .dkI h => .dkI (e _ _ h (fun _ z => nomatch z))
  | _, _, .dkT h => .dkT (e _ _ h (fun _ z => nomatch z))
  | _, _, .rf a => .rf a
  | _, _, .exc h => .exc (e _ _ h (fun _ z => nomatch z))
  | _, _, .obj h a => .obj (e _ _ h (fun _ z => nomatch z)) (Da.monoN e a)
theorem DaAll.monoN (e : LamX.ExtN H H') : ∀ {vs : List V} {ds : List PyData}, DaAll H vs ds → DaAll H' vs ds
  | _, _, .nil => .nil
  | _, _, .cons h a => .cons (Da.monoN e h) (DaAll.monoN e a)
end
theorem StD.monoN {σ : L2.St} {ρ : Rho} (h : StD H σ ρ) (e : LamX.ExtN H H') : StD H' σ ρ := ⟨h.len, fun i d q => let ⟨v, a, b⟩ := h.at_ i d q; ⟨v, a, b.monoN e⟩⟩
end
end Wx
namespace Wd
open PySem PySem.Spec PyProof.Rows L2 L2H Evl Wx We
abbrev tubV (u v c : Int) : List V := [.int u, .int v, .int c]
structure Wt (T : List (Addr × Str)) (t : Addr) (H : Hp) : Prop where
  tabs : LamX.Tabs T H
  tub : ∃ u v c : Int, H t = some (.lst (tubV u v c)) ∧ 0 ≤ u ∧ 0 ≤ v ∧ v < 2147482877
theorem Wt.ext {T : List (Addr × Str)} {t : Addr} {H H' : Hp} (h : Wt T t H) (e : Ex H H') : Wt T t H' := ⟨h.tabs.ext e, let ⟨u, v, c, a, b⟩ := h.tub; ⟨u, v, c, e _ _ a, b⟩⟩
/-- all is kept but the tub and the tables -/
def Kp (t : Addr) (H H' : Hp) : Prop := ∀ a o, a ≠ t → (∀ ps, o ≠ .tbl ps) → H a = some o → H' a = some o
theorem Kp.of {t : Addr} {H H' : Hp} (e : Ex H H') : Kp t H H' := fun a o _ _ h => e a o h
theorem Kp.trans {t : Addr} {H H1 H2 : Hp} (a : Kp t H H1) (b : Kp t H1 H2) : Kp t H H2 := fun x o n m h => b x o n m (a x o n m h)
structure JS (T : List (Addr × Str)) (t : Addr) (B H : Hp) : Prop where
  ex : Ex B H
  w : Wt T t H
  bt : B t = none
  nt : ∀ a ps, B a ≠ some (.tbl ps)
structure GJ (T : List (Addr × Str)) (t : Addr) (B H B' H' : Hp) : Prop where
  b : Ex B B'
  h : Kp t H H'
  s : JS T t B' H'
  f : ∀ a xs, H a = some (.lst xs) → B a = none → B' a = none
section
variable {T : List (Addr × Str)} {t : Addr} {B H B1 H1 B2 H2 : Hp}
theorem GJ.refl (s : JS T t B H) : GJ T t B H B H := ⟨Ex.refl _, Kp.of (Ex.refl _), s, fun _ _ _ z => z⟩
theorem GJ.trans (a : GJ T t B H B1 H1) (b : GJ T t B1 H1 B2 H2) : GJ T t B H B2 H2 := ⟨a.b.trans b.b, a.h.trans b.h, b.s, fun x xs h z => by
  by_cases c : x = t
  · rw [c]; exact b.s.bt
  · exact b.f x xs (a.h x _ c (fun _ z => nomatch z) h) (a.f x xs h z)⟩
def nob (B : Hp) : Hp := fun a => match B a with
  | some (.tbl _) => none
  | o => o
theorem nob_nt (B : Hp) : ∀ a ps, nob B a ≠ some (.tbl ps) := fun a ps z => by
  unfold nob at z
  split at z
  · cases z
  · rename_i h; exact h ps z
theorem nob_ex (B : Hp) : Ex (nob B) B := fun a o z => by
  unfold nob at z
  split at z
  · cases z
  · exact z
theorem ex_nob {B B' : Hp} (e : Ex B B') (n : ∀ a ps, B a ≠ some (.tbl ps)) : Ex B (nob B') := fun a o z => by
  have q := e a o z
  unfold nob
  split
  · rename_i ps h; rw [q] at h; cases h; exact absurd z (n a _)
  · exact q
theorem nob_n (B : Hp) : LamX.ExtN B (nob B) := fun a o z n => by
  unfold nob
  split
  · rename_i ps h; rw [z] at h; cases h; exact absurd rfl (n _)
  · exact z
theorem nob_none {B : Hp} {a : Addr} (h : B a = none) : nob B a = none := by
  unfold nob
  rw [h]
theorem GJ.of (s : JS T t B H) (g : Gr B H B1 H1) : GJ T t B H (nob B1) H1 := by
  refine ⟨ex_nob g.b s.nt, Kp.of g.h, ⟨(nob_ex B1).trans g.s, s.w.ext g.h, ?_, nob_nt B1⟩, fun a xs h z => nob_none ((g.f a (by rw [h]; exact fun z => nomatch z)).trans z)⟩
  obtain ⟨u, v, c, q, _⟩ := s.w.tub
  exact nob_none ((g.f t (by rw [q]; exact fun z => nomatch z)).trans s.bt)
/-- a thing outside of the data joins them -/
theorem JS.put (s : JS T t B H) {p : Addr} {o : HO} (hp : H p = some o) (hb : ∀ ps, o ≠ .tbl ps) (ht : p ≠ t) : JS T t (upd B p o) H ∧ Ex B (upd B p o) := by
  have e : Ex B (upd B p o) := fun a u z => by
    by_cases c : a = p
    · rw [c, upd_same]; rw [c] at z; rw [← s.ex _ _ z, hp]
    · rw [upd_ne c]; exact z
  refine ⟨⟨fun a u z => ?_, s.w, by rw [upd_ne (Ne.symm ht)]; exact s.bt, fun a ps z => ?_⟩, e⟩
  · by_cases c : a = p
    · rw [c, upd_same] at z; cases z; rw [c]; exact hp
    · rw [upd_ne c] at z; exact s.ex _ _ z
  · by_cases c : a = p
    · rw [c, upd_same] at z; cases z; exact hb _ rfl
    · rw [upd_ne c] at z; exact s.nt _ _ z
end
section
variable (X : Cx) (T : List (Addr × Str)) (t : Addr)
def EJ (e : Expr) (ρ : Rho) (P : PyData → Prop) : Prop := ∀ σ B H, JS T t B H → StD B σ ρ → ∀ Q : VK, (∀ v B' H' d, GJ T t B H B' H' → Da B' v d → P d → Q v H') → RE X e σ H Q
def AJ (es : List Expr) (ρ : Rho) (P : List PyData → Prop) : Prop := ∀ σ B H, JS T t B H → StD B σ ρ → ∀ Q : List V → Hp → Prop, (∀ vs B' H' ds, GJ T t B H B' H' → DaAll B' vs ds → P ds → Q vs H') → RA X es σ H Q
def TJ (e : Expr) (ρ : Rho) (P : Bool → Prop) : Prop := ∀ σ B H, JS T t B H → StD B σ ρ → ∀ Q : Bool → Hp → Prop, (∀ p B' H', GJ T t B H B' H' → P p → Q p H') → RT X e σ H Q
def WJ (e : Expr) (ρ : Rho) (P : Bool → Prop) : Prop := ∀ σ B H, JS T t B H → StD B σ ρ → ∀ Q : Bool → Hp → Prop, (∀ p B' H', GJ T t B H B' H' → P p → Q p H') → Wx.RW X e σ H Q
def SJ (sts : List Stmt) (ρ : Rho) (N : Rho → Prop) (R : PyData → Prop) : Prop := ∀ σ B H (D : Ends), JS T t B H → StD B σ ρ → (∀ σ' B' H' ρ', GJ T t B H B' H' → StD B' σ' ρ' → N ρ' → D.nx σ' H') → (∀ v B' H' d, GJ T t B H B' H' → Da B' v d → R d → D.rt v H') → RSs X sts D σ H
def OJ (st : Stmt) (ρ : Rho) (N : Rho → Prop) (R : PyData → Prop) : Prop := ∀ σ B H (D : Ends), JS T t B H → StD B σ ρ → (∀ σ' B' H' ρ', GJ T t B H B' H' → StD B' σ' ρ' → N ρ' → D.nx σ' H') → (∀ v B' H' d, GJ T t B H B' H' → Da B' v d → R d → D.rt v H') → RS X st D σ H
end
section
variable {X : Cx} {T : List (Addr × Str)} {t : Addr} {ρ ρ2 : Rho} {e a b c : Expr} {es rest1 : List Expr} {d : PyData} {ds : List PyData} {P P1 P2 : PyData → Prop} {Ps Ps2 : List PyData → Prop} {N : Rho → Prop} {R : PyData → Prop} {st : Stmt} {rest s1 s2 : List Stmt} {pos : Pos} {p : Bool}
theorem j_ed (h : ED X e ρ d) (hP : P d) : EJ X T t e ρ P := fun σ B H s st Q k => h σ B H s.ex st Q fun v B1 H1 g e => k v _ H1 d (GJ.of s g) (e.monoN (nob_n B1)) hP
theorem j_imp (h : EJ X T t e ρ P) (hP : ∀ d, P d → P1 d) : EJ X T t e ρ P1 := fun σ B H s st Q k => h σ B H s st Q fun v B1 H1 d g e p => k v B1 H1 d g e (hP d p)
theorem j_et {p : Bool} {P : Bool → Prop} (h : ET X e ρ p) (hP : P p) : TJ X T t e ρ P := fun σ B H s st Q k => h σ B H s.ex st _ fun B1 H1 g => k p _ H1 (GJ.of s g) hP
theorem aj_nil (h : Ps []) : AJ X T t [] ρ Ps := fun σ B H s st Q k => pa_nil.ra (k [] B H [] (GJ.refl s) .nil h)
theorem aj_cons (h : EJ X T t e ρ P) (hr : AJ X T t es ρ Ps) (hP : ∀ d ds, P d → Ps ds → Ps2 (d :: ds)) (hs : starEach (e :: es) X.env = (false, eval e X.env) :: starEach es X.env := by rfl) : AJ X T t (e :: es) ρ Ps2 := fun σ B H s st Q k =>
  (pa_cons pe_RE pa_RA hs).ra (h σ B H s st _ fun v B1 H1 d g1 e1 p1 => hr σ B1 H1 g1.s (st.mono g1.b) _ fun vs B2 H2 ds g2 e2 p2 => k _ B2 H2 _ (g1.trans g2) (.cons (e1.mono g2.b) e2) (hP d ds p1 p2))
theorem j_val {P : Bool → Prop} (h : EJ X T t e ρ fun d => ∃ p, d = .bool p ∧ P p) (he : ∀ whole, isTrue e X.env whole = (do let v ← whole; standAt e.pos; holding [v] (truthy v)) := by intro _; rfl) : TJ X T t e ρ P := fun σ B H s st Q k =>
  (pt_val pe_RE he).rt (h σ B H s st _ fun v B1 H1 d g1 e1 hp => by
    obtain ⟨p, rfl, hp⟩ := hp
    exact ⟨p, e1.bl_of, k p B1 H1 g1 hp⟩)
theorem jt_not {P : Bool → Prop} (h : TJ X T t a ρ fun p => P (!p)) : TJ X T t (.UnaryOp .Not a pos) ρ P := fun σ B H s st Q k => (pt_not pt_RT).rt (h σ B H s st _ fun p B1 H1 g hp => k (!p) B1 H1 g hp)
theorem jt_w {P : Bool → Prop} (h : WJ X T t e ρ P) : TJ X T t e ρ P := fun σ B H s st Q k => (pw_RW.pt).rt (h σ B H s st Q k)
theorem jw_or1 {P : Bool → Prop} (h : TJ X T t a ρ P) : WJ X T t (.BoolOp .Or [a] pos) ρ P := fun σ B H s st Q k => (pw_or1 pt_RT).rw (h σ B H s st Q k)
theorem jw_or {es : List Expr} {P P2 : Bool → Prop} (ha : TJ X T t a ρ P) (hb : P false → WJ X T t (.BoolOp .Or (b :: es) pos) ρ P2) (ht : P true → P2 true) : WJ X T t (.BoolOp .Or (a :: b :: es) pos) ρ P2 := fun σ B H s st Q k => (pw_or pt_RT pw_RW).rw (ha σ B H s st _ fun p B1 H1 g1 hp => by
  cases p with
  | false => exact iteF (hb hp σ B1 H1 g1.s (st.mono g1.b) Q fun p2 B2 H2 g2 h2 => k p2 B2 H2 (g1.trans g2) h2)
  | true => exact iteT (k true B1 H1 g1 (ht hp)))
theorem jw_and1 {P : Bool → Prop} (h : TJ X T t a ρ P) : WJ X T t (.BoolOp .And [a] pos) ρ P := fun σ B H s st Q k => (pw_and1 pt_RT).rw (h σ B H s st Q k)
theorem jw_and {es : List Expr} {P P2 : Bool → Prop} (ha : TJ X T t a ρ P) (hb : P true → WJ X T t (.BoolOp .And (b :: es) pos) ρ P2) (ht : P false → P2 false) : WJ X T t (.BoolOp .And (a :: b :: es) pos) ρ P2 := fun σ B H s st Q k => (pw_and pt_RT pw_RW).rw (ha σ B H s st _ fun p B1 H1 g1 hp => by
  cases p with
  | true => exact iteT (hb hp σ B1 H1 g1.s (st.mono g1.b) Q fun p2 B2 H2 g2 h2 => k p2 B2 H2 (g1.trans g2) h2)
  | false => exact iteF (k false B1 H1 g1 (ht hp)))
/-! statements -/
theorem z_nil (h : N ρ) : SJ X T t [] ρ N R := fun σ B H D s st n r => pss_nil.rss (n σ B H ρ (GJ.refl s) st h)
theorem z_ofX (h : SX X 0 E0 s1 ρ { N := N, R := R }) : SJ X T t s1 ρ N R := fun σ B H D s st n r => h σ B H D s.ex st (fun σ' B' H' ρ' g s' m => n σ' _ H' ρ' (GJ.of s g) (s'.monoN (nob_n B')) m) (fun v B' H' d g e m => r v _ H' d (GJ.of s g) (e.monoN (nob_n B')) m) fun v B' H' d x g e z => z.elim
theorem z_cons {M : Rho → Prop} (h1 : OJ X T t st ρ M R) (h2 : ∀ ρ', M ρ' → SJ X T t rest ρ' N R) : SJ X T t (st :: rest) ρ N R := fun σ B H D s sd n r =>
  (pss_cons ps_RS pss_RSs).rss (h1 σ B H _ s sd (fun σ' B' H' ρ' g1 s' m => h2 ρ' m σ' B' H' D g1.s s' (fun σ2 B2 H2 ρ2 g2 => n σ2 B2 H2 ρ2 (g1.trans g2)) fun v B2 H2 d g2 => r v B2 H2 d (g1.trans g2)) r)
/-- x = e -/
theorem z_set (i : Nat) {x : Str} {pos' : Pos} (he : EJ X T t e ρ P) (k : ∀ d, P d → SJ X T t rest (ρ.set i (some d)) N R) (hN : X.N.Nodup) (hi : X.N[i]? = some x := by rfl) (hx : Loc X.env.scope x := by first | exact Or.inl rfl | exact Or.inr rfl)
    (hs : swapsWith e (some (.Name x pos')) pos.line X.env = pure false := by rfl) (hf : X.fn x = true ∨ X.env.scope.names.lookup x = some .local := by first | exact .inl rfl | exact .inr rfl) :
    SJ X T t (.Assign [.Name x pos'] e pos :: rest) ρ N R := z_cons (M := fun ρ' => ∃ d, P d ∧ ρ' = ρ.set i (some d)) (fun σ B H D s sd n r => (ps_set hN hi hx pe_RE hs hf).rs (he σ B H s sd _ fun v B1 H1 d g1 e1 p1 => n _ B1 H1 _ g1 ((sd.mono g1.b).set e1) ⟨d, p1, rfl⟩)) fun ρ' z => by
  obtain ⟨d, p, rfl⟩ := z
  exact k d p
theorem z_ret (he : EJ X T t e ρ P) (hR : ∀ d, P d → R d) : SJ X T t (.Return (some e) pos :: rest) ρ N R := z_cons (M := fun _ => False) (fun σ B H D s sd n r => (ps_ret pe_RE).rs (he σ B H s sd _ fun v B1 H1 d g1 e1 p1 => r v B1 H1 d g1 e1 (hR d p1))) fun ρ' z => z.elim
theorem z_if {M : Rho → Prop} {P : Bool → Prop} (hc : TJ X T t c ρ P) (h1 : P true → SJ X T t s1 ρ M R) (h2 : P false → SJ X T t s2 ρ M R) (k : ∀ ρ', M ρ' → SJ X T t rest ρ' N R) : SJ X T t (.If c s1 s2 pos :: rest) ρ N R :=
  z_cons (fun σ B H D s sd n r => (ps_if pt_RT pss_RSs pss_RSs).rs (hc σ B H s sd _ fun p B1 H1 g1 hp => by
    cases p with
    | true => exact iteT (h1 hp σ B1 H1 D g1.s (sd.mono g1.b) (fun σ2 B2 H2 ρ2 g2 => n σ2 B2 H2 ρ2 (g1.trans g2)) fun v B2 H2 d g2 => r v B2 H2 d (g1.trans g2))
    | false => exact iteF (h2 hp σ B1 H1 D g1.s (sd.mono g1.b) (fun σ2 B2 H2 ρ2 g2 => n σ2 B2 H2 ρ2 (g1.trans g2)) fun v B2 H2 d g2 => r v B2 H2 d (g1.trans g2)))) k
/-- if c: return ..; the rest where c may be false -/
theorem z_when {P : Bool → Prop} (hc : TJ X T t c ρ P) (h1 : P true → SJ X T t s1 ρ (fun _ => False) R) (k : P false → SJ X T t rest ρ N R) : SJ X T t (.If c s1 [] pos :: rest) ρ N R :=
  z_if (M := fun ρ' => ρ' = ρ ∧ P false) hc (fun h σ B H D s sd n r => h1 h σ B H D s sd (fun _ _ _ _ _ _ z => z.elim) r) (fun h => z_nil ⟨rfl, h⟩) fun ρ' z => by
    obtain ⟨rfl, h⟩ := z
    exact k h
theorem z_rng {tg : Expr} {body : List Stmt} {n : Nat} {m : Int} {js : List Nat} {pp : Pos} (I : Nat → Rho → Prop) (Tt : Nat → Rho → Rho) (ha : EA X [a] ρ [.int m]) (hn : m.toNat = n) (b1 : -(2 ^ 62) ≤ m) (b2 : m < 2 ^ 62) (hm : X.mg "range" = none) (h0 : I 0 ρ) (hg : ∀ i ρ', i < n → I i ρ' → GT X tg js (.int (i : Nat)) ρ' (Tt i ρ'))
    (hb : ∀ i ρ', i < n → I i ρ' → SJ X T t body (Tt i ρ') (I (i + 1)) R) (k : ∀ ρ', I n ρ' → SJ X T t rest ρ' N R) (hc : X.calm = true) (hp : PassesOwn (model X.prog X.w) X.A X.env X.xe) (hgr : Gl X "range" := by rfl) (hs1 : starEach [a] X.env = [(false, eval a X.env)] := by rfl) {pos2 : Pos} (hs : ∀ x, foldedSetIterable (.Call (.Name "range" pp) [a] [] pos2) X.env x = pure x := by intro _; rfl) :
    SJ X T t (.For tg (.Call (.Name "range" pp) [a] [] pos2) body [] pos :: rest) ρ N R := z_cons (M := I n) (fun σ B H D s sd n' r => (ps_for hp hc (pi_range1 hgr hm pa_RA hs1) pg_RG pss_RSs hs).rs (ha σ B H s.ex sd _ fun vs B0 H1 g0 e1 => by
  have g1 := GJ.of s g0
  generalize hB1 : nob B0 = B1 at *
  have sd1 := sd.mono g1.b
  cases e1 with
  | cons hh tl =>
    cases tl
    obtain rfl := hh.int_of
    refine ⟨m, rfl, b1, b2, ?_⟩
    rw [hn]
    refine for_it (walk_range (lo := 0) (n := n)) (D := D) (g := Wx.RG X tg) (tb := RSs X body) (σ := σ) (H := H1) (fun i σ2 H2 => ∃ B2 ρ', GJ T t B1 H1 B2 H2 ∧ StD B2 σ2 ρ' ∧ I i ρ') ⟨B1, ρ, GJ.refl g1.s, sd1, h0⟩ (fun i σ2 H2 _ p => trivial) (fun i x σ2 H2 H3 hlt p yd => ?_) fun σ2 H2 p => ?_
    · obtain ⟨B2, ρ', g2, s2, i2⟩ := p
      obtain ⟨rfl, rfl⟩ := yd
      have hx : Da B2 (V.int (0 + (i : Int))) (.int (i : Nat)) := by rw [Int.zero_add]; exact .int _
      refine hg i ρ' hlt i2 _ σ2 B2 H3 _ g2.s.ex s2 hx fun σ4 s4 _ => hb i ρ' hlt i2 σ4 B2 H3 _ g2.s s4 (fun σ5 B5 H5 ρ5 g5 s5 i5 => ⟨B5, ρ5, g2.trans g5, s5, i5⟩) fun v B5 H5 d g5 => r v B5 H5 d ((g1.trans g2).trans g5)
    · obtain ⟨B2, ρ', g2, s2, i2⟩ := p
      exact n' σ2 B2 H2 ρ' (g1.trans g2) s2 i2)) k
/-! ### more expressions -/
theorem j_tup {k1} (h : AJ X T t es ρ Ps) (hP : ∀ ds, Ps ds → ds.length ≤ 100000 ∧ P (.tuple ds)) : EJ X T t (.Tuple es k1 pos) ρ P := fun σ B H s sd Q k =>
  (pe_tup pa_RA).re (h σ B H s sd _ fun vs B1 H1 ds g1 e1 hp => ⟨sz_of (by rw [e1.len]; exact (hP ds hp).1), fun x hx => by
    have hne : x ≠ t := fun z => by obtain ⟨u, v, c, q, _⟩ := g1.s.w.tub; rw [z, q] at hx; cases hx
    have w2 : Wt T t (upd H1 x (.tup vs)) := g1.s.w.ext (Ex.new hx)
    have s2 : JS T t B1 (upd H1 x (.tup vs)) := ⟨g1.s.ex.trans (Ex.new hx), w2, g1.s.bt, g1.s.nt⟩
    obtain ⟨s3, e3⟩ := s2.put (o := .tup vs) upd_same (fun _ z => nomatch z) hne
    exact k _ _ _ _ (g1.trans ⟨e3, Kp.of (Ex.new hx), s3, fun a ys h z => by rw [upd_ne fun q => by rw [q, hx] at h; cases h]; exact z⟩) (.tup upd_same (e1.mono e3)) (hP ds hp).2⟩)
theorem j_bin {op : Operator} {f : Int → Int → Int} (h : OpR X (binaryOp op) (rI0 fun i j => .int (f i j))) (ha : EJ X T t a ρ fun d => ∃ i, d = .int i ∧ P1 d) (hb : EJ X T t b ρ fun d => ∃ i, d = .int i ∧ P2 d) (hP : ∀ i j, P1 (.int i) → P2 (.int j) → P (.int (f i j))) : EJ X T t (.BinOp a op b pos) ρ P := fun σ B H s sd Q k =>
  (pe_op h pe_RE pe_RE).re (ha σ B H s sd _ fun x B1 H1 d1 g1 e1 p1 => hb σ B1 H1 g1.s (sd.mono g1.b) _ fun y B2 H2 d2 g2 e2 p2 => by
    obtain ⟨i, rfl, p1⟩ := p1
    obtain ⟨j, rfl, p2⟩ := p2
    exact ⟨i, j, e1.int_of, e2.int_of, k _ B2 H2 _ (g1.trans g2) (.int _) (hP i j p1 p2)⟩)
/-- xs[e], xs a list -/
theorem j_ixL {ds : List PyData} (ha : ED X a ρ (.list ds)) (hb : EJ X T t b ρ fun d => ∃ i : Nat, d = .int (i : Nat) ∧ i < ds.length ∧ ∀ d, ds[i]? = some d → P d) (hp : PlainIx b := by exact fun _ _ => rfl) : EJ X T t (.Subscript a b pos) ρ P := fun σ B H s sd Q k =>
  (pe_ix ix_list pe_RE pe_RE hp).re (j_ed (P := fun d => d = .list ds) ha rfl σ B H s sd _ fun x B1 H1 d1 g1 e1 p1 => hb σ B1 H1 g1.s (sd.mono g1.b) _ fun y B2 H2 d2 g2 e2 p2 => by
    subst p1
    obtain ⟨i, rfl, hi, hd⟩ := p2
    obtain ⟨l, xs, rfl, hl, hda⟩ := e1.lst_of
    obtain rfl := e2.int_of
    have hdi : ds[i]? = some ds[i] := List.getElem?_eq_getElem hi
    obtain ⟨v, e3, e4⟩ := hda.at hdi
    exact ⟨l, xs, (i : Nat), v, rfl, rfl, sq_of (g2.s.ex _ _ (g2.b _ _ hl)), atI_nat e3, k v B2 H2 _ (g1.trans g2) (e4.mono g2.b) (hd _ hdi)⟩)
end
/-! ### defs -/
/-- a def's promise in such a heap: given these data it gives one of those -/
def spJ (T : List (Addr × Str)) (R : Addr → List PyData → (PyData → Prop) → Prop) : Sp := fun vs H Q _ => ∃ t B ds P, JS T t B H ∧ DaAll B vs ds ∧ R t ds P ∧ ∀ v B' H' d, GJ T t B H B' H' → Da B' v d → P d → Q v H'
section
variable {P : Program} {w : World} {K : PySem.W.Frag} {mg : Str → Option Value} {base : Heap} {T : List (Addr × Str)}
theorem df_J {x : Str} {i k : Nat} {N ps : List Str} {R : Addr → List PyData → (PyData → Prop) → Prop} (D : Dv K mg x i) (S : FnScope N ps (defScope (top i))) (bd : BindOk x i ps) (len : ∀ t ds P, R t ds P → ds.length = ps.length)
    (hb : ∀ (f : Addr) (cdv : Value) (A : Around) (outer : List Env) (s : Shared) (H : Hp) (E : XK) (t : Addr) (ds : List PyData) (Pd : PyData → Prop), A.guards = some [] → Room k (A.deeper (envOfC x (defScope (top i)) s.heap.objs.size f cdv)) → R t ds Pd →
      SJ (cxOf CX0 P w K mg base N x (defScope (top i)) f cdv A outer s H E).nox T t (defBody (top i)) (ρ0 N ds) (fun _ => False) Pd) : DfG P w K mg base (k + 1) x ps (spJ T R) := by
  obtain ⟨f, fd, hm, F⟩ := D.ex
  refine ⟨f, fd, hm, Fun.okG F S (fun vs H Q E h => by obtain ⟨t, B, ds, Pd, _, h1, h2, _⟩ := h; rw [h1.len]; exact len _ _ _ h2) (fun cdv A outer s H vs Q E hgd hr h => ?_), F.kp, F.binds bd⟩
  obtain ⟨t, B, ds, Pd, js, h1, h2, h3⟩ := h
  exact ⟨_, pss_RSs, hb f cdv A outer s H E t ds Pd hgd hr h2 (L2.start N vs) B H _ js (StD.start h1) (fun σ' B' H' ρ' g _ z => z.elim) fun v B' H' d' g e z => h3 _ _ _ _ g e z⟩
end
section
variable {X : Cx} {T : List (Addr × Str)} {t : Addr} {ρ : Rho} {e : Expr} {es : List Expr} {P : PyData → Prop} {Ps : List PyData → Prop} {pos p : Pos} {x : Str} {k : Nat} {ps : List Str} {R : Addr → List PyData → (PyData → Prop) → Prop}
theorem j_df (D : DfG X.prog X.w X.K X.mg X.base k x ps (spJ T R)) (hgd : X.A.guards = some []) (hr : Room k X.A) (ha : AJ X T t (e :: es) ρ Ps) (h : ∀ ds, Ps ds → ∃ P2, R t ds P2 ∧ ∀ d, P2 d → P d) (hg : Gl X x := by rfl)
    (hdb : (x == ("__debug__" : Str)) = false := by decide) (hst : starEach (e :: es) X.env = (false, eval e X.env) :: starEach es X.env := by rfl) (hpl : (backTo pos (starEach es X.env)).any (·.1) = false := by rfl) : EJ X T t (.Call (.Name x p) (e :: es) [] pos) ρ P := by
  obtain ⟨f, fd, hm, F, kp, b⟩ := D.ex
  exact fun σ B H s sd Q kk => (pe_callG F hgd hr hg hm kp b pa_RA hdb hst hpl).re (ha σ B H s sd _ fun vs B1 H1 ds g1 e1 p1 => by
    obtain ⟨P2, hR, hP⟩ := h ds p1
    exact ⟨t, B1, ds, P2, g1.s, e1, hR, fun v B2 H2 d g2 e2 p2 => kk v B2 H2 d (g1.trans g2) e2 (hP d p2)⟩)
end
end Wd

set_option Elab.async false
set_option linter.all false
set_option maxRecDepth 100000
set_option maxHeartbeats 4000000
/-! The tub: _law_dip, _law_of. -/
namespace Wd
open PySem PySem.Spec PyProof.Rows L2 L2H Evl Wx We
section
variable {P : Program} {w : World} {K : PySem.W.Frag} {mg : Str → Option Value} {base : Heap} {T : List (Addr × Str)}
abbrev NDp : List Str := ["_law_tub_here", "_law_top", "_law_old", "_law_digit"]
theorem scDp : FnScope NDp ["_law_tub_here", "_law_top"] (defScope (top 59)) := ⟨rfl, rfl, rfl, by decide +kernel, rfl, by decide +kernel, by decide +kernel⟩
def RDp : Addr → List PyData → (PyData → Prop) → Prop := fun t ds P => ∃ n : Nat, 1 ≤ n ∧ n < 1073741824 ∧ ds = [rD t, .int (n : Nat)] ∧ P = fun d => ∃ r : Nat, r < n ∧ d = .int (r : Nat)
theorem rD_of {B : Hp} {v : V} {t : Addr} (h : Da B v (rD t)) : v = .ref t := by
  generalize hd : rD t = dd at h
  cases h with
  | rf a =>
    injection hd with hd
    injection hd with h1 _
    injection h1 with _ h1
    injection h1 with h1
    have : t = a := Int.ofNat.inj h1
    rw [this]
  | dkI h => rename_i a2 ks; injection hd with hd; cases ks with
    | nil => cases hd
    | cons k ks => injection hd with h1 _; injection h1 with h1 _; cases h1
  | dkT h => injection hd with hd; injection hd with h1 _; injection h1 with h1 _; cases h1
  | exc h => injection hd with hd; injection hd with h1 h2; cases h2
  | obj h _ => injection hd with hd; injection hd with h1 h2; cases h2
  | _ => cases hd
/-- the tub changes -/
theorem JS.tub {t : Addr} {B H : Hp} (s : JS T t B H) {u v c : Int} (hu : 0 ≤ u) (hv : 0 ≤ v ∧ v < 2147482877) : GJ T t B H B (upd H t (.lst (tubV u v c))) := by
  obtain ⟨u0, v0, c0, h0, _⟩ := s.w.tub
  refine ⟨Ex.refl _, fun a o n _ h => by rw [upd_ne n]; exact h, ⟨fun a o z => ?_, ⟨fun p hp => ?_, u, v, c, upd_same, hu, hv.1, hv.2⟩, s.bt, s.nt⟩, fun _ _ _ z => z⟩
  · rw [upd_ne fun e => by rw [e, s.bt] at z; cases z]
    exact s.ex _ _ z
  · obtain ⟨ps, h1, h2, h3⟩ := s.w.tabs p hp
    have n1 : p.1 ≠ t := fun e => by rw [e, h0] at h1; cases h1
    refine ⟨ps, by rw [upd_ne n1]; exact h1, h2, fun pos cv hc => ?_⟩
    obtain ⟨c1, e1, e2⟩ := h3 pos cv hc
    refine ⟨c1, e1, ?_⟩
    rw [upd_ne fun e => by rw [e, h0] at e2; cases e2]
    exact e2
/-- a new thing -/
theorem GJ.fresh {t : Addr} {B H : Hp} (s : JS T t B H) {p : Addr} {o : HO} (hp : H p = none) : GJ T t B H B (upd H p o) := ⟨Ex.refl _, Kp.of (Ex.new hp), ⟨s.ex.trans (Ex.new hp), s.w.ext (Ex.new hp), s.bt, s.nt⟩, fun _ _ _ z => z⟩
theorem law_dip_df (M : Bt mg) (D : Dv K mg "_law_dip" 59) : DfG P w K mg base 1 "_law_dip" ["_law_tub_here", "_law_top"] (spJ T RDp) := by
  obtain ⟨f, fd, hm, F⟩ := D.ex
  refine ⟨f, fd, hm, Fun.okG F scDp (fun vs H Q E h => by obtain ⟨t, B, ds, Pd, _, h1, ⟨n, _, _, rfl, _⟩, _⟩ := h; rw [h1.len]; rfl) (fun cdv A outer s H vs Q E hgd hr h => ?_), F.kp, F.binds (fun _ _ _ _ _ _ us hl => match us, hl with | [_, _], _ => rfl)⟩
  obtain ⟨t, B, ds, Pd, js, h1, ⟨n, n1, n2, rfl, rfl⟩, hQ⟩ := h
  cases h1 with
  | cons h1 hn =>
  cases hn with
  | cons h2 hn =>
  cases hn
  obtain rfl := rD_of h1
  obtain rfl := h2.int_of
  have ix : ∀ {X : Cx} {p1 p2 p3 : Pos} {i : Int} {j}, X.N[0]? = some ("_law_tub_here" : Str) → Vis X.env.scope "_law_tub_here" → PE X (.Subscript (.Name "_law_tub_here" p1) (.Constant (.int i) j p2) p3) (tOp (rIxL X.K) (tVar 0) (tC (.int i))) := fun hN hv => pe_ix ix_list (pe_var hN hv (by decide) (by decide)) pe_int (fun _ _ => rfl)
  refine ⟨_, pss_cons (ps_asg (pe_op op_add (ix rfl (.inl rfl)) pe_int) (pg_sub (pv 0) pe_int set_list)) (pss_cons (ps_set (i := 2) scDp.nd rfl (.inl rfl) (pe_callTy call_int1 rfl M.int (by decide +kernel) (pa_cons (ix rfl (.inl rfl)) pa_nil) (by decide) (by decide) rfl rfl))
    (pss_cons (ps_asg (pe_op op_mod (pe_callTy call_int1 rfl M.int (by decide +kernel) (pa_cons (pe_op op_add (pe_op op_add (pe_op op_mul (pv 2) (pe_op op_add (pe_op op_mod (pe_callTy call_int1 rfl M.int (by decide +kernel) (pa_cons (pv 2) pa_nil) (by decide) (by decide) rfl rfl) pe_int) pe_int)) (pe_op op_mul pe_int (ix rfl (.inl rfl)))) pe_int) pa_nil) (by decide) (by decide) rfl rfl) pe_int) (pg_sub (pv 0) pe_int set_list))
    (pss_cons (ps_if (pt_cmpR op_gt (ix rfl (.inl rfl)) pe_int (nobehind _ (by decide) (by decide))) (pss_cons (ps_asg (pe_callB call_divmod rfl M.divmod (by decide +kernel) (pa_cons (ix rfl (.inl rfl)) (pa_cons (pv 1) pa_nil)) (by decide) (by decide) rfl rfl) (pg_tup rfl (pgs_cons (pg_sub (pv 0) pe_int set_list) (pgs_cons (pg_name (i := 3) scDp.nd rfl (.inl rfl)) pgs_nil)))) (pss_one (ps_ret (pv 3)))) pss_nil)
    (pss_one (ps_ret (pe_op op_mod (pe_callTy call_int1 rfl M.int (by decide +kernel) (pa_cons (pe_op op_fdiv (ix rfl (.inl rfl)) pe_int) pa_nil) (by decide) (by decide) rfl rfl) (pv 1))))))), ?_⟩
  obtain ⟨u, v, c, hH, hu, hv0, hv1⟩ := js.w.tub
  have hz : ∀ x : Int, (0 ≤ x % 2147482877 ∧ x % 2147482877 < 2147482877) := fun x => ⟨Int.emod_nonneg _ (by decide), Int.emod_lt_of_pos _ (by decide)⟩
  refine ⟨.ref t, rfl, t, _, 2, .int c, rfl, rfl, sq_of hH, rfl, c, 1, rfl, rfl, .ref t, rfl, t, _, 2, 2, rfl, rfl, hH, rfl, ?_⟩
  refine ⟨.ref t, rfl, t, _, 1, .int v, rfl, rfl, sq_of upd_same, rfl, .inl ⟨v, rfl, ?_⟩⟩
  refine ⟨.int v, rfl, .int v, rfl, .inl ⟨v, rfl, v, 23003, rfl, rfl, (show (0 : Int) < 23003 by decide), _, 20011, rfl, rfl, v, _, rfl, rfl, .inl ⟨by omega, by omega⟩, .ref t, rfl, t, _, 2, .int (c + 1), rfl, rfl, sq_of upd_same, rfl, 57041, c + 1, rfl, rfl, .inl ⟨by decide, by decide⟩, _, _, rfl, rfl, _, 71, rfl, rfl, .inl ⟨_, rfl, _, 2147482877, rfl, rfl, (show (0 : Int) < 2147482877 by decide), .ref t, rfl, t, _, 1, 1, rfl, rfl, upd_same, rfl, ?_⟩⟩⟩
  obtain ⟨v2, hx⟩ : ∃ v2, v2 = (v * (v % 23003 + 20011) + 57041 * (c + 1) + 71) % 2147482877 := ⟨_, rfl⟩
  have hv2 := hz (v * (v % 23003 + 20011) + 57041 * (c + 1) + 71)
  rw [← hx] at hv2
  have e : ((tubV u v c).set 2 (V.int (c + 1))).set 1 (V.int ((v * (v % 23003 + 20011) + 57041 * (c + 1) + 71) % 2147482877)) = tubV u v2 (c + 1) := by rw [hx]; rfl
  rw [upd_upd, e]
  refine ⟨.ref t, rfl, t, _, 0, .int u, rfl, rfl, sq_of upd_same, rfl, u, 0, rfl, rfl, decide (0 < u), rfl, ?_⟩
  by_cases hu0 : 0 < u
  · rw [decide_eq_true hu0]
    refine iteT ⟨.ref t, rfl, t, _, 0, .int u, rfl, rfl, sq_of upd_same, rfl, .int (n : Nat), rfl, u, (n : Nat), rfl, ⟨by omega, by omega⟩, fun p hp => ?_⟩
    refine ⟨p, _, rfl, st_of upd_same, rfl, _, _, rfl, .ref t, rfl, t, tubV u v2 (c + 1), 0, 0, rfl, rfl, ?_, rfl, _, _, rfl, rfl, _, rfl, ?_⟩
    · rw [upd_ne (fun e => by rw [← e, upd_same] at hp; cases hp)]
      exact upd_same
    · have g1 := js.tub (u := u) (v := v2) (c := c + 1) hu hv2
      have g2 := g1.trans (GJ.fresh g1.s (o := .tup [.int (u / (n : Nat)), .int (u % (n : Nat))]) hp)
      have h1 := Int.emod_lt_of_pos u (show (0 : Int) < (n : Nat) by omega)
      have h2 := Int.emod_nonneg u (show ((n : Nat) : Int) ≠ 0 by omega)
      have g3 := g2.trans (g2.s.tub (u := u / (n : Nat)) (v := v2) (c := c + 1) (Int.ediv_nonneg hu (by omega)) hv2)
      exact hQ _ _ _ _ g3 (.int _) ⟨(u % (n : Nat)).toNat, by omega, congrArg PyData.int (by omega)⟩
  · rw [decide_eq_false hu0]
    refine iteF ⟨.ref t, rfl, t, _, 1, .int v2, rfl, rfl, sq_of upd_same, rfl, v2, 151, rfl, rfl, ⟨by decide, by decide⟩, .inl ⟨_, rfl, .int (n : Nat), rfl, _, (n : Nat), rfl, rfl, (show (0 : Int) < (n : Nat) by omega), ?_⟩⟩
    have g1 := js.tub (u := u) (v := v2) (c := c + 1) hu hv2
    refine hQ _ _ _ _ g1 (.int _) ⟨(v2 / 151 % (n : Nat)).toNat, ?_, ?_⟩
    · have := Int.emod_lt_of_pos (v2 / 151) (show (0 : Int) < (n : Nat) by omega)
      have := Int.emod_nonneg (v2 / 151) (show ((n : Nat) : Int) ≠ 0 by omega)
      omega
    · have := Int.emod_nonneg (v2 / 151) (show ((n : Nat) : Int) ≠ 0 by omega)
      exact congrArg PyData.int (by omega)
end
end Wd

set_option Elab.async false
set_option linter.all false
set_option maxRecDepth 100000
set_option maxHeartbeats 4000000
/-! _law_of; comprehensions over a range in the J layer; _law_word. -/
namespace Wd
open PySem PySem.Spec PyProof.Rows L2 L2H Evl Wx We
section
variable {X : Cx} {T : List (Addr × Str)} {t : Addr} {ρ : Rho} {a e elt : Expr} {P : PyData → Prop} {pos : Pos}
/-- [elt for tg in range(a)] -/
theorem j_lcR {tg : Expr} {scope : Scope} {own : List (Str × Nat)} {js : List Nat} {ρw : Rho} {ρi : Nat → Rho} {Pn : Nat → Prop} {Pv : PyData → Prop} {pp pos2 : Pos} (hc : X.calm = true) (hN : X.N.Nodup) (ok : BlkOk X.N X.env.scope scope own)
    (ha : AJ X T t [a] ρ fun ds => ∃ n : Nat, ds = [.int (n : Nat)] ∧ n ≤ 90000 ∧ Pn n) (hw : wipeD ρ (own.map (·.2)) = ρw) (hjs : ∀ j ∈ js, j ∈ own.map (·.2)) (hg : ∀ i, InBlk X scope fun Y => GT Y tg js (.int (i : Nat)) ρw (ρi i))
    (he : ∀ i, InBlk X scope fun Y => EJ Y T t elt (ρi i) Pv) (hP : ∀ n ds, Pn n → ds.length = n → (∀ d ∈ ds, Pv d) → P (.list ds)) (hm : X.mg "range" = none) (hgr : Gl X "range" := by rfl) (hs1 : starEach [a] X.env = [(false, eval a X.env)] := by rfl)
    (hs : ∀ x, foldedSetIterable (.Call (.Name "range" pp) [a] [] pos2) X.env x = pure x := by intro _; rfl) : EJ X T t (.ListComp elt [⟨tg, .Call (.Name "range" pp) [a] [] pos2, [], 0⟩] scope pos) ρ P := fun σ B H s sd Q k =>
  (pe_lc (g := bG X scope tg) (tt := bT X scope []) (te := bE X scope elt) hc hN (pi_range1 hgr hm pa_RA hs1) ok (fun s H C cl fp => ⟨fun pins s1 σ H v u Q I r h => h _ _ _ _ _ pins s1 u I r⟩) (fun s H C cl fp => ⟨fun pins s1 σ H Q I h => h _ _ _ _ _ pins s1 I⟩) (fun s H C cl fp => ⟨fun pins s1 σ H Q I h => h _ _ _ _ _ pins s1 I⟩) hs).re
    (by
      show RA X [a] σ H _
      refine ha σ B H s sd _ fun vs B1 H1 ds g1 e1 p1 => ?_
      obtain ⟨n, rfl, hn, hpn⟩ := p1
      cases e1 with
      | cons hh tl =>
      cases tl
      obtain rfl := hh.int_of
      refine ⟨(n : Nat), rfl, by omega, by omega, ?_⟩
      rw [Int.toNat_natCast]
      intro D hD
      have Dt : D ≠ t := fun z => by obtain ⟨u, v, c, q, _⟩ := g1.s.w.tub; rw [z, q] at hD; cases hD
      have sw := (sd.mono g1.b).wipe (own.map (·.2))
      rw [hw] at sw
      refine lc_it (walk_range (lo := 0) (n := n)) (g := bG X scope tg) (tt := bT X scope []) (te := bE X scope elt) (vs := own.map (·.2)) (σ := σ) (H1 := H1) (D := D) (Qd := fun H2 => Q (.ref D) H2)
        (fun i H2 => ∃ B2 acc ds, GJ T t B1 H1 B2 H2 ∧ B2 D = none ∧ H2 D = some (.lst acc) ∧ DaAll B2 acc ds ∧ ds.length = i ∧ ∀ d ∈ ds, Pv d) ⟨B1, [], [], GJ.fresh g1.s hD, fresh_back g1.s.ex hD, upd_same, .nil, rfl, fun d hd => nomatch hd⟩ (fun i H2 hle p => trivial) (fun i x H2 H3 hlt p yd => ?_) fun H2 p => ?_
      · obtain ⟨B2, acc, ds, g2, nD, hacc, hda, hlen, hall⟩ := p
        obtain ⟨rfl, rfl⟩ := yd
        have hx : Da B2 (V.int (0 + (i : Int))) (.int (i : Nat)) := by rw [Int.zero_add]; exact .int _
        intro s0 H0 C cl fp
        refine hg i s0 H0 C cl fp _ _ B2 H3 _ g2.s.ex (sw.mono g2.b) hx fun σ2 s2 w2 => ⟨(w2 _ hjs).trans (wipe_wipe σ _), fun s0 H0 C cl fp => ts_nil σ2 B2 H3 g2.s.ex s2 _ fun B4 H4 g4 => ?_⟩
        rw [if_pos rfl]
        have g24 := g2.trans (GJ.of g2.s g4)
        have n4 : nob B4 D = none := (GJ.of g2.s g4).f D _ hacc nD
        have h4 : H4 D = some (.lst acc) := g4.h _ _ hacc
        intro s0 H0 C cl fp
        refine he i s0 H0 C cl fp σ2 (nob B4) H4 g24.s (s2.mono (GJ.of g2.s g4).b) _ fun v5 B5 H5 d5 g5 e5 p5 => ?_
        have h5 : H5 D = some (.lst acc) := g5.h D _ Dt (fun _ z => nomatch z) h4
        have n5 : B5 D = none := g5.f D _ h4 n4
        have gg := g24.trans g5
        have hl : acc.length ≤ 90000 := by have := hda.len; omega
        refine ⟨acc, h5, sz_lt (by omega), B5, acc ++ [v5], ds ++ [d5], ⟨gg.b, fun a o nt nb h => ?_, ⟨Ex.mut gg.s.ex n5, ⟨?_, ?_⟩, gg.s.bt, gg.s.nt⟩, gg.f⟩, n5, upd_same, (hda.mono ((GJ.of g2.s g4).b.trans g5.b)).app (.cons e5 .nil), by rw [List.length_append, hlen]; rfl, fun d hd => ?_⟩
        · rw [upd_ne fun z => by rw [z, hD] at h; cases h]
          exact gg.h a o nt nb h
        · intro p hp
          obtain ⟨ps, q1, q2, q3⟩ := gg.s.w.tabs p hp
          refine ⟨ps, by rw [upd_ne fun z => by rw [z, h5] at q1; cases q1]; exact q1, q2, fun pos cv hc => ?_⟩
          obtain ⟨c1, z1, z2⟩ := q3 pos cv hc
          refine ⟨c1, z1, ?_⟩
          rw [upd_ne fun z => by rw [z, h5] at z2; cases z2]
          exact z2
        · obtain ⟨u, v, c, q1, q2⟩ := gg.s.w.tub
          exact ⟨u, v, c, by rw [upd_ne (Ne.symm Dt)]; exact q1, q2⟩
        · rcases List.mem_append.mp hd with z | z
          · exact hall d z
          · rw [List.mem_singleton.mp z]; exact p5
      · obtain ⟨B2, acc, ds, g2, nD, hacc, hda, hlen, hall⟩ := p
        obtain ⟨s3, e3⟩ := g2.s.put hacc (fun _ z => nomatch z) Dt
        refine k _ (upd B2 D (.lst acc)) H2 _ (g1.trans ⟨g2.b.trans e3, g2.h, s3, fun a ys h z => ?_⟩) (.lst upd_same (hda.mono e3)) (hP n ds hpn hlen hall)
        rw [upd_ne fun q => by rw [q, hD] at h; cases h]
        exact g2.f a ys h z)
end
section
variable {P : Program} {w : World} {K : PySem.W.Frag} {mg : Str → Option Value} {base : Heap} {T : List (Addr × Str)}
theorem scOf : FnScope ["_law_tub_here", "_law_things"] ["_law_tub_here", "_law_things"] (defScope (top 60)) := ⟨rfl, rfl, rfl, by decide +kernel, rfl, by decide +kernel, by decide +kernel⟩
def RLo : Addr → List PyData → (PyData → Prop) → Prop := fun t ds P => ∃ xs : List PyData, 1 ≤ xs.length ∧ xs.length ≤ 1000 ∧ ds = [rD t, .list xs] ∧ P = fun d => d ∈ xs
theorem law_of_df (M : Bt mg) (D : Dv K mg "_law_of" 60) (D1 : DfG P w K mg base 1 "_law_dip" ["_law_tub_here", "_law_top"] (spJ T RDp)) : DfG P w K mg base 2 "_law_of" ["_law_tub_here", "_law_things"] (spJ T RLo) := by
  refine df_J D scOf (fun _ _ _ _ _ _ us hl => match us, hl with | [_, _], _ => rfl) (fun t ds Pd h => by obtain ⟨_, _, _, rfl, _⟩ := h; rfl) fun f cdv A outer s H E t ds Pd hgd hr h => ?_
  obtain ⟨xs, h1, h2, rfl, rfl⟩ := h
  exact z_ret (j_ixL (ds := xs) (d_var 1) (j_df (Ps := fun ds => ds = [rD t, .int (xs.length : Nat)]) D1 hgd hr (aj_cons (j_ed (P := fun d => d = rD t) (d_var 0) rfl) (aj_cons (Ps := fun ds => ds = []) (P := fun d => d = .int (xs.length : Nat)) (j_ed (d_callB c_lenL (a_cons (d_var 1) a_nil) M.len) rfl) (aj_nil rfl) (Ps2 := fun ds => ds = [.int (xs.length : Nat)]) (fun d ds z1 z2 => by rw [z1, z2])) (fun d ds z1 z2 => by rw [z1, z2]))
    (fun ds z => ⟨_, ⟨xs.length, h1, by omega, z, rfl⟩, fun d hd => by
      obtain ⟨r, hr1, rfl⟩ := hd
      exact ⟨r, rfl, hr1, fun d2 hd2 => List.mem_of_getElem? hd2⟩⟩))) fun d hd => hd
end
end Wd

set_option Elab.async false
set_option linter.all false
set_option maxRecDepth 100000
set_option maxHeartbeats 4000000
/-! _law_word. -/
namespace Wd
open PySem PySem.Spec PyProof.Rows L2 L2H Evl Wx We
section
variable {X : Cx} {T : List (Addr × Str)} {t : Addr} {ρ : Rho} {e : Expr} {P : PyData → Prop} {p pos : Pos}
/-- tuple(e), e a list -/
theorem j_tupL (he : EJ X T t e ρ fun d => ∃ ds, d = .list ds ∧ P (.tuple ds)) (hm : X.mg "tuple" = none) (hg : Gl X "tuple" := by rfl) (h1 : starEach [e] X.env = (false, eval e X.env) :: starEach [] X.env := by rfl) : EJ X T t (.Call (.Name "tuple" p) [e] [] pos) ρ P := fun σ B H s sd Q k =>
  (pe_callTy call_tuple_of hg hm (by decide +kernel) (pa_cons pe_RE pa_nil h1) (by decide) (by decide) h1 rfl).re (he σ B H s sd _ fun v B1 H1 d g1 e1 p1 => by
    obtain ⟨ds, rfl, hP⟩ := p1
    obtain ⟨x, xs, rfl, hx, hd⟩ := e1.lst_of
    refine ⟨x, xs, rfl, .inl ⟨sq_of (g1.s.ex _ _ hx), fun l hl => ?_⟩⟩
    have lt : l ≠ t := fun z => by obtain ⟨u, v, c, q, _⟩ := g1.s.w.tub; rw [z, q] at hl; cases hl
    have g2 := g1.trans (GJ.fresh g1.s (o := .tup xs) hl)
    obtain ⟨s3, e3⟩ := g2.s.put (o := .tup xs) upd_same (fun _ z => nomatch z) lt
    exact k _ _ _ _ ⟨g2.b.trans e3, g2.h, s3, fun a ys h z => by
      rw [upd_ne fun q => by
        by_cases c : a = t
        · exact lt (q.symm.trans c)
        · have := g1.h a (.lst ys) c (fun _ z => nomatch z) h
          rw [q, hl] at this
          cases this]
      exact g2.f a ys h z⟩ (.tup upd_same (hd.mono e3)) hP)
end
section
variable {P : Program} {w : World} {K : PySem.W.Frag} {mg : Str → Option Value} {base : Heap} {T : List (Addr × Str)}
abbrev NWd : List Str := ["_law_tub_here", "_law_most", "_law_top", "_law_lap"]
theorem scWd : FnScope NWd ["_law_tub_here", "_law_most"] (defScope (top 66)) := ⟨rfl, rfl, rfl, by decide +kernel, rfl, by decide +kernel, by decide +kernel⟩
def RWd : Addr → List PyData → (PyData → Prop) → Prop := fun t ds P => ∃ m : Nat, m ≤ 12 ∧ ds = [rD t, .int (m : Nat)] ∧ P = fun d => ∃ ns : List Nat, LET ns ∧ ns.length ≤ m ∧ d = nT ns
theorem a2 {X : Cx} {T : List (Addr × Str)} {t : Addr} {ρ : Rho} {a b : Expr} {d1 : PyData} {P2 : PyData → Prop} (h1 : EJ X T t a ρ fun d => d = d1) (h2 : EJ X T t b ρ P2) (hs1 : starEach [a, b] X.env = (false, eval a X.env) :: starEach [b] X.env := by rfl) (hs2 : starEach [b] X.env = (false, eval b X.env) :: starEach [] X.env := by rfl) : AJ X T t [a, b] ρ fun ds => ∃ d2, P2 d2 ∧ ds = [d1, d2] :=
  aj_cons (P := fun d => d = d1) h1 (aj_cons (Ps := fun ds => ds = []) (P := P2) h2 (aj_nil rfl) (Ps2 := fun ds => ∃ d2, P2 d2 ∧ ds = [d2]) (fun d ds z1 z2 => ⟨d, z1, by rw [z2]⟩) hs2) (fun d ds z1 z2 => by
    obtain ⟨d2, z2, rfl⟩ := z2
    exact ⟨d2, z2, by rw [z1]⟩) hs1
/-- a pile of letters -/
theorem lets_of {ds : List PyData} (h : ∀ d ∈ ds, ∃ r : Nat, 1 ≤ r ∧ r ≤ 12 ∧ d = .int (r : Nat)) : ∃ ns : List Nat, ds = (zs ns).map PyData.int ∧ ∀ x ∈ ns, 1 ≤ x ∧ x ≤ 12 := by
  induction ds with
  | nil => exact ⟨[], rfl, fun x hx => nomatch hx⟩
  | cons d ds ih =>
    obtain ⟨r, h1, h2, rfl⟩ := h d List.mem_cons_self
    obtain ⟨ns, rfl, h3⟩ := ih fun x hx => h x (List.mem_cons_of_mem _ hx)
    exact ⟨r :: ns, rfl, fun x hx => by
      rcases List.mem_cons.mp hx with e | e
      · rw [e]; exact ⟨h1, h2⟩
      · exact h3 x e⟩
theorem law_word_df (M : Bt mg) (D : Dv K mg "_law_word" 66) (D1 : DfG P w K mg base 1 "_law_dip" ["_law_tub_here", "_law_top"] (spJ T RDp)) (D2 : DfG P w K mg base 2 "_law_of" ["_law_tub_here", "_law_things"] (spJ T RLo)) : DfG P w K mg base 3 "_law_word" ["_law_tub_here", "_law_most"] (spJ T RWd) := by
  obtain ⟨f1, fd1, hm1, F1, kp1, b1⟩ := id D1.ex
  refine df_J D scWd (fun _ _ _ _ _ _ us hl => match us, hl with | [_, _], _ => rfl) (fun t ds Pd h => by obtain ⟨_, _, rfl, _⟩ := h; rfl) fun f cdv A outer s H E t ds Pd hgd hr h => ?_
  obtain ⟨m, hm, rfl, rfl⟩ := h
  have hr1 := hr.mono (j := 1) (by decide)
  refine z_set 2 (P := fun d => ∃ r : Nat, 1 ≤ r ∧ r ≤ 12 ∧ d = .int (r : Nat)) (j_df (k := 2) D2 hgd hr (a2 (j_ed (d_var 0) rfl) (P2 := fun d => d = .list [.int 1, .int 2, .int 3, .int 3, .int 4, .int 6, .int 12]) (j_ed (d_lst (a_cons d_int (a_cons d_int (a_cons d_int (a_cons d_int (a_cons d_int (a_cons d_int (a_cons d_int a_nil)))))))) rfl)) fun ds z => ?_) (fun d hd => ?_) scWd.nd
  · obtain ⟨d2, rfl, rfl⟩ := z
    refine ⟨_, ⟨_, by decide, by decide, rfl, rfl⟩, fun d hd => ?_⟩
    simp only [List.mem_cons, List.not_mem_nil, or_false] at hd
    rcases hd with e | e | e | e | e | e | e
    · exact ⟨1, by decide, by decide, e⟩
    · exact ⟨2, by decide, by decide, e⟩
    · exact ⟨3, by decide, by decide, e⟩
    · exact ⟨3, by decide, by decide, e⟩
    · exact ⟨4, by decide, by decide, e⟩
    · exact ⟨6, by decide, by decide, e⟩
    · exact ⟨12, by decide, by decide, e⟩
  · obtain ⟨r, r1, r2, rfl⟩ := hd
    refine z_ret (j_tupL (P := fun d => ∃ ns : List Nat, LET ns ∧ ns.length ≤ m ∧ d = nT ns) (j_lcR (own := [("_law_lap", 3)]) (js := [3]) (Pn := fun n => n ≤ m) (Pv := fun d => ∃ r : Nat, 1 ≤ r ∧ r ≤ 12 ∧ d = .int (r : Nat)) rfl scWd.nd (blkOk_by (by kernel_rfl))
      (aj_cons (P := fun d => ∃ n : Nat, n ≤ m ∧ d = .int (n : Nat)) (Ps := fun ds => ds = []) (j_df D1 hgd hr1 (a2 (j_ed (d_var 0) rfl) (P2 := fun d => d = .int ((m + 1 : Nat) : Int)) (j_ed (d_bin r_add (d_var 1) d_int) rfl)) fun ds z => ?_) (aj_nil rfl) fun d ds z1 z2 => ?_) rfl (fun j hj => hj) (fun i _ _ _ _ _ => g_name 3 scWd.nd)
      (fun i _ _ _ _ _ => j_bin (f := fun i j => i + j) (P1 := fun d => d = .int 1) (P2 := fun d => ∃ q : Nat, q < r ∧ d = .int (q : Nat)) op_add (j_ed d_int ⟨1, rfl, rfl⟩) (j_df D1 hgd hr1 (a2 (j_ed (d_var 0) rfl) (P2 := fun d => d = .int (r : Nat)) (j_ed (d_var 2) rfl)) fun ds z => ?_) fun i j z1 z2 => ?_) (fun n ds hn hl hall => ?_) M.range) M.tuple) fun d hd => hd
    · obtain ⟨d2, rfl, rfl⟩ := z
      exact ⟨_, ⟨m + 1, by omega, by omega, rfl, rfl⟩, fun d hd => by
        obtain ⟨q, h1, rfl⟩ := hd
        exact ⟨q, by omega, rfl⟩⟩
    · obtain ⟨n, h1, rfl⟩ := z1
      exact ⟨n, by rw [z2], by omega, h1⟩
    · obtain ⟨d2, rfl, rfl⟩ := z
      exact ⟨_, ⟨r, r1, by omega, rfl, rfl⟩, fun d hd => by
        obtain ⟨q, h1, rfl⟩ := hd
        exact ⟨(q : Nat), rfl, q, h1, rfl⟩⟩
    · obtain ⟨q, h1, z2⟩ := z2
      injection z1 with z1
      injection z2 with z2
      exact ⟨q + 1, by omega, by omega, congrArg PyData.int (by rw [z1, z2]; omega)⟩
    · obtain ⟨ns, rfl, h3⟩ := lets_of hall
      have hl2 : ns.length = n := by rw [← hl, nT_len]
      exact ⟨_, rfl, ns, ⟨by omega, h3⟩, by omega, rfl⟩
end
end Wd

set_option Elab.async false
set_option linter.all false
set_option maxRecDepth 100000
set_option maxHeartbeats 4000000
/-! _law_form. -/
namespace Wd
open PySem PySem.Spec PyProof.Rows L2 L2H Evl Wx We
theorem shp_snoc {ns : List Nat} (h : Wm.Shp ns) {x : Nat} (h1 : 1 ≤ x) (h2 : ns = [] ∨ x ≤ Wm.g ns (ns.length - 1)) : Wm.Shp (ns ++ [x]) := by
  refine ⟨fun i => ?_, fun i hi => ?_⟩
  · rw [Wm.g_append_one, Wm.g_append_one]
    by_cases c : i + 1 = ns.length
    · rw [if_pos c, if_neg (by omega)]
      rcases h2 with e | e
      · rw [e] at c; exact absurd c (by simp)
      · rw [show ns.length - 1 = i by omega] at e; exact e
    · rw [if_neg c]
      by_cases c2 : i = ns.length
      · rw [if_pos c2, Wm.g_ge (by omega)]; exact Nat.zero_le _
      · rw [if_neg c2]; exact h.dec i
  · rw [Wm.g_append_one]
    by_cases c : i = ns.length
    · rw [if_pos c]; exact h1
    · rw [if_neg c]
      rw [List.length_append] at hi
      exact h.pos i (by simp at hi; omega)
section
variable {X : Cx} {T : List (Addr × Str)} {t : Addr} {ρ : Rho} {a b c : Expr} {pos : Pos}
/-- min(a, b, c), ints -/
theorem j_min3 {i k : Int} {Pb : Int → Prop} {P : PyData → Prop} {p : Pos} (hc : X.calm = true) (ha : EJ X T t a ρ fun d => d = .int i) (hb : EJ X T t b ρ fun d => ∃ j, Pb j ∧ d = .int j) (hc2 : EJ X T t c ρ fun d => d = .int k) (hm : X.mg "min" = none)
    (hP2 : ∀ j m, Pb j → (m = i ∨ m = j ∨ m = k) → m ≤ i → m ≤ j → m ≤ k → P (.int m)) (hg : Gl X "min" := by rfl) (h1 : starEach [a, b, c] X.env = (false, eval a X.env) :: starEach [b, c] X.env := by rfl) (h2 : starEach [b, c] X.env = (false, eval b X.env) :: starEach [c] X.env := by rfl) (h3 : starEach [c] X.env = (false, eval c X.env) :: starEach [] X.env := by rfl) (hpl : (backTo pos (starEach [b, c] X.env)).any (·.1) = false := by rfl) :
    EJ X T t (.Call (.Name "min" p) [a, b, c] [] pos) ρ P := fun σ B H s sd Q k2 =>
  (pe_callB (call_min3Nu hc) hg hm (by decide +kernel) (pa_cons pe_RE (pa_cons pe_RE (pa_cons pe_RE pa_nil h3) h2) h1) (by decide) (by decide) h1 hpl).re (ha σ B H s sd _ fun v1 B1 H1 d1 g1 e1 p1 => hb σ B1 H1 g1.s (sd.mono g1.b) _ fun v2 B2 H2 d2 g2 e2 p2 => hc2 σ B2 H2 g2.s ((sd.mono g1.b).mono g2.b) _ fun v3 B3 H3 d3 g3 e3 p3 => by
    subst p1
    obtain ⟨j, hj, rfl⟩ := p2
    subst p3
    obtain rfl := e1.int_of
    obtain rfl := e2.int_of
    obtain rfl := e3.int_of
    refine ⟨_, _, _, .int (if k < (if j < i then j else i) then k else if j < i then j else i), rfl, ?_, k2 _ B3 H3 _ ((g1.trans g2).trans g3) (.int _) (hP2 j _ hj ?_ ?_ ?_ ?_)⟩
    · show nuMin3 (V.int i) (V.int j) (V.int k) = _
      by_cases c1 : j < i
      · by_cases c2 : k < j <;> simp [nuMin3, nuMin2, nuLt, nuCB, c1, c2]
      · by_cases c2 : k < i <;> simp [nuMin3, nuMin2, nuLt, nuCB, c1, c2]
    · split <;> split <;> simp
    · split <;> split <;> omega
    · split <;> split <;> omega
    · split <;> split <;> omega)
end
section
variable {P : Program} {w : World} {K : PySem.W.Frag} {mg : Str → Option Value} {base : Heap} {T : List (Addr × Str)}
abbrev NFm : List Str := ["_law_tub_here", "_law_size", "_law_found", "_law_left", "_law_lap", "_law_top"]
theorem scFm : FnScope NFm ["_law_tub_here", "_law_size"] (defScope (top 63)) := ⟨rfl, rfl, rfl, by decide +kernel, rfl, by decide +kernel, by decide +kernel⟩
def RFm : Addr → List PyData → (PyData → Prop) → Prop := fun t ds P => ∃ m : Nat, m ≤ 40 ∧ ds = [rD t, .int (m : Nat)] ∧ P = fun d => ∃ ns : List Nat, Wm.Shp ns ∧ ns.sum ≤ m ∧ d = nT ns
/-- the pile alone -/
def onlyP (p : Addr) (ns : List Nat) : Hp := fun a => if a = p then some (.lst (rV ns)) else none
theorem onlyP_js {t p : Addr} {ns : List Nat} {H : Hp} (hw : Wt T t H) (hp : H p = some (.lst (rV ns))) (hpt : p ≠ t) : JS T t (onlyP p ns) H := by
  refine ⟨fun a o z => ?_, hw, if_neg (Ne.symm hpt), fun a ps z => ?_⟩
  · unfold onlyP at z
    split at z
    · rename_i c; cases z; rw [c]; exact hp
    · cases z
  · unfold onlyP at z
    split at z <;> cases z
/-- the state in the loop -/
structure LF (T : List (Addr × Str)) (t : Addr) (H0 : Hp) (m : Nat) (p : Addr) (σ : L2.St) (H : Hp) (ns : List Nat) (left : Nat) : Prop where
  w : Wt T t H
  k : Kp t H0 H
  n0 : H0 p = none
  nt : p ≠ t
  hp : H p = some (.lst (rV ns))
  sl : σ.length = 6
  s0 : σ[0]? = some (some (.ref t))
  s1 : σ[1]? = some (some (.int (m : Nat)))
  s2 : σ[2]? = some (some (.ref p))
  s3 : σ[3]? = some (some (.int (left : Nat)))
  shp : Wm.Shp ns
  sum : ns.sum + left = m
theorem LF.slot {t : Addr} {H0 : Hp} {m : Nat} {p : Addr} {σ : L2.St} {H : Hp} {ns : List Nat} {left : Nat} (L : LF T t H0 m p σ H ns left) {i : Nat} {o : Option V} (h : 4 ≤ i) : LF T t H0 m p (σ.set i o) H ns left :=
  ⟨L.w, L.k, L.n0, L.nt, L.hp, by rw [List.length_set]; exact L.sl, by rw [List.getElem?_set_ne (by omega)]; exact L.s0, by rw [List.getElem?_set_ne (by omega)]; exact L.s1, by rw [List.getElem?_set_ne (by omega)]; exact L.s2, by rw [List.getElem?_set_ne (by omega)]; exact L.s3, L.shp, L.sum⟩
theorem LF.std {t : Addr} {H0 : Hp} {m : Nat} {p : Addr} {σ : L2.St} {H : Hp} {ns : List Nat} {left : Nat} (L : LF T t H0 m p σ H ns left) {Bx : Hp} (hx : Bx p = some (.lst (rV ns))) : StD Bx σ [some (rD t), some (.int (m : Nat)), some (.list ((zs ns).map PyData.int)), some (.int (left : Nat)), none, none] := ⟨L.sl, fun i d q => by
  match i, q with
  | 0, q => cases q; exact ⟨_, L.s0, .rf t⟩
  | 1, q => cases q; exact ⟨_, L.s1, .int _⟩
  | 2, q => cases q; exact ⟨_, L.s2, .lst (xs := rV ns) hx (daInts _)⟩
  | 3, q => cases q; exact ⟨_, L.s3, .int _⟩
  | 4, q => exact nomatch q
  | 5, q => exact nomatch q
  | n + 6, q => exact nomatch q⟩
theorem Wt.pile {t p : Addr} {H : Hp} {xs ys : List V} (h : Wt T t H) (hp : H p = some (.lst xs)) (hpt : p ≠ t) : Wt T t (upd H p (.lst ys)) := ⟨fun q hq => by
  obtain ⟨ps, q1, q2, q3⟩ := h.tabs q hq
  refine ⟨ps, by rw [upd_ne fun z => by rw [z, hp] at q1; cases q1]; exact q1, q2, fun pos cv hc => ?_⟩
  obtain ⟨c1, z1, z2⟩ := q3 pos cv hc
  refine ⟨c1, z1, ?_⟩
  rw [upd_ne fun z => by rw [z, hp] at z2; cases z2]
  exact z2, by
  obtain ⟨u, v, c, q1, q2⟩ := h.tub
  exact ⟨u, v, c, by rw [upd_ne (Ne.symm hpt)]; exact q1, q2⟩⟩
theorem law_form_df (M : Bt mg) (D : Dv K mg "_law_form" 63) (D1 : DfG P w K mg base 1 "_law_dip" ["_law_tub_here", "_law_top"] (spJ T RDp)) (D2 : DfG P w K mg base 2 "_law_of" ["_law_tub_here", "_law_things"] (spJ T RLo)) : DfG P w K mg base 3 "_law_form" ["_law_tub_here", "_law_size"] (spJ T RFm) := by
  obtain ⟨f, fd, hm, F⟩ := D.ex
  refine ⟨f, fd, hm, Fun.okG F scFm (fun vs H Q E h => by obtain ⟨t, B, ds, Pd, _, h1, ⟨n, _, rfl, _⟩, _⟩ := h; rw [h1.len]; rfl) (fun cdv A outer s H vs Q E hgd hr h => ?_), F.kp, F.binds (fun _ _ _ _ _ _ us hl => match us, hl with | [_, _], _ => rfl)⟩
  obtain ⟨t, B, ds, Pd, js, h1, ⟨m, hm, rfl, rfl⟩, hQ⟩ := h
  cases h1 with
  | cons h1 hn =>
  cases hn with
  | cons h2 hn =>
  cases hn
  obtain rfl := rD_of h1
  obtain rfl := h2.int_of
  have hr1 := hr.mono (j := 1) (by decide)
  have hu := hr.units
  refine ⟨_, pss_cons (ps_par (i := 2) (j := 3) rfl scFm.nd rfl rfl (by decide) rfl rfl (pa_cons (pe_lst pa_nil) (pa_cons (pv 1) pa_nil)) rfl) (pss_cons (ps_for PassesOwn.never rfl (pi_range1 rfl M.range (pa_cons (pv 1) pa_nil) rfl) (pg_name (i := 4) scFm.nd rfl (.inl rfl))
    (pss_one (ps_if (pt_cmpR op_gt (pv 3) pe_int (nobehind _ (by decide) (by decide))) (pss_cons (ps_set (i := 5) scFm.nd rfl (.inl rfl) pe_RE) (pss_cons (ps_expr (pe_bm PySem.F.plainAttrs_list PySem.F.slot_list_append PySem.F.type_list_append mt_append (pv 2) (pa_cons pe_RE pa_nil))) (pss_one (ps_set (i := 3) scFm.nd rfl (.inl rfl) pe_RE)))) pss_nil)))
    (pss_one (ps_ret pe_RE))), ?_⟩
  refine ⟨Nat.zero_le _, fun p hp => ⟨.int (m : Nat), rfl, _, _, rfl, ?_⟩⟩
  refine ⟨.int (m : Nat), rfl, (m : Nat), rfl, by omega, by omega, ?_⟩
  rw [Int.toNat_natCast]
  have hpt : p ≠ t := fun z => by obtain ⟨u, v, c, q, _⟩ := js.w.tub; rw [z, q] at hp; cases hp
  refine for_it (walk_range (lo := 0) (n := m)) (fun i σ2 H2 => ∃ ns left, LF T t H m p σ2 H2 ns left) ⟨[], m, ⟨js.w.ext (Ex.new hp), Kp.of (Ex.new hp), hp, hpt, upd_same, rfl, rfl, rfl, rfl, rfl, ⟨fun i => Nat.zero_le _, fun i hi => absurd hi (Nat.not_lt_zero _)⟩, by simp⟩⟩ (fun i σ2 H2 _ p => trivial) (fun i x σ2 H2 H3 hlt p yd => ?_) fun σ2 H2 p => ?_
  · obtain ⟨ns, left, L⟩ := p
    obtain ⟨rfl, rfl⟩ := yd
    have L1 := L.slot (i := 4) (o := some (V.int (0 + (i : Int)))) (by decide)
    generalize hσ : σ2.set 4 (some (V.int (0 + (i : Int)))) = σ3 at L1
    show tIfS _ _ _ _ (σ2.set 4 (some (V.int (0 + (i : Int))))) H3
    rw [hσ]
    refine ⟨.int (left : Nat), L1.s3, left, 0, rfl, rfl, decide ((0 : Int) < (left : Nat)), rfl, ?_⟩
    by_cases c : 0 < left
    · rw [decide_eq_true (show (0 : Int) < (left : Nat) by omega)]
      refine iteT ?_
      have hu64 : (A.deeper (envOfC "_law_form" (defScope (top 63)) s.heap.objs.size f cdv)).units + 64 < cLine := by omega
      have ok1 : okD 1 (.list ((zs ns).map PyData.int)) = true := ok_ints 0 _
      have evn : (!PyData.eqv (.list ((zs ns).map PyData.int)) (.list [])) = decide (ns ≠ []) := by
        cases ns with
        | nil => rw [show PyData.eqv (.list ((zs []).map PyData.int)) (.list []) = true from eqv_refl (d := .list []) rfl]; rfl
        | cons x xs => simp [PyData.eqv, PyData.eqvAll]
      have lastD : ns ≠ [] → atI ((zs ns).map PyData.int) (-1 : Int) = some (.int (Wm.g ns (ns.length - 1) : Nat)) := fun hn => by
        have hl : 0 < ns.length := List.length_pos_iff.mpr hn
        have e0 : ixN ((zs ns).map PyData.int).length (-1 : Int) = some (ns.length - 1) := by
          rw [nT_len]
          unfold ixN
          rw [if_neg (by decide), if_pos (by omega)]
          exact congrArg some (by omega)
        unfold atI
        rw [e0]
        exact nT_at (by omega)
      refine (?_ : EJ _ T t _ _ fun d => ∃ q : Nat, 1 ≤ q ∧ q ≤ left ∧ (ns = [] ∨ q ≤ Wm.g ns (ns.length - 1)) ∧ d = .int (q : Nat)) σ3 _ H3 (onlyP_js L1.w L1.hp hpt) (L1.std (if_pos rfl)) _ fun v B3 H4 d g3 e3 z3 => ?_
      · refine j_min3 (i := (left : Nat)) (k := if ns = [] then ((left : Nat) : Int) else ((Wm.g ns (ns.length - 1) : Nat) : Int)) (Pb := fun j => ∃ q : Nat, 1 ≤ q ∧ j = (q : Nat)) rfl (j_ed (d_var 3) rfl) (j_df (k := 2) D2 hgd hr (a2 (j_ed (d_var 0) rfl) (P2 := fun d => d = .list [.int (left : Nat), .int 2, .int 4, .int 7]) (j_ed (d_lst (a_cons (d_var 3) (a_cons d_int (a_cons d_int (a_cons d_int a_nil))))) rfl)) fun ds z => ?_)
          (j_ed (d_ifE (p := decide (ns ≠ [])) (t_eq (t_cmp (r_ne hu64 (okD_sh ok1) (okD_sh (k := 1) rfl)) (d_var 2) (d_lst a_nil)) evn) (fun z => d_eq (d_ixL (lastD (of_decide_eq_true z)) (d_var 2) (d_neg d_int)) (by rw [if_neg (of_decide_eq_true z)])) (fun z => d_eq (d_var 3) (by rw [if_pos (by simpa using z)]))) rfl) M.min fun j mm hj h1 h2 h3 h4 => ?_
        · obtain ⟨d2, rfl, rfl⟩ := z
          refine ⟨_, ⟨[.int (left : Nat), .int 2, .int 4, .int 7], (show 1 ≤ 4 by decide), (show 4 ≤ 1000 by decide), rfl, rfl⟩, fun d hd => ?_⟩
          simp only [List.mem_cons, List.not_mem_nil, or_false] at hd
          rcases hd with e | e | e | e
          · exact ⟨_, ⟨left, by omega, rfl⟩, e⟩
          · exact ⟨_, ⟨2, by decide, rfl⟩, e⟩
          · exact ⟨_, ⟨4, by decide, rfl⟩, e⟩
          · exact ⟨_, ⟨7, by decide, rfl⟩, e⟩
        · obtain ⟨q, hq, rfl⟩ := hj
          by_cases hn : ns = []
          · rw [if_pos hn] at h1 h4
            exact ⟨mm.toNat, by omega, by omega, .inl hn, congrArg PyData.int (by omega)⟩
          · rw [if_neg hn] at h1 h4
            have hpos := L1.shp.pos (ns.length - 1) (by have : 0 < ns.length := List.length_pos_iff.mpr hn; omega)
            exact ⟨mm.toNat, by omega, by omega, .inr (by omega), congrArg PyData.int (by omega)⟩
      · obtain ⟨q, q1, q2, q3, rfl⟩ := z3
        have hq40 : q ≤ 40 := by have := L1.sum; omega
        obtain rfl := e3.int_of
        have L2 : LF T t H m p σ3 H4 ns left := ⟨g3.s.w, L1.k.trans g3.h, L1.n0, L1.nt, g3.h p _ hpt (fun _ z => nomatch z) L1.hp, L1.sl, L1.s0, L1.s1, L1.s2, L1.s3, L1.shp, L1.sum⟩
        have L3 := L2.slot (i := 5) (o := some (V.int (q : Nat))) (by decide)
        refine ⟨.ref p, L3.s2, .inl ⟨rfl, _, sq_of L3.hp⟩, ?_⟩
        refine (?_ : EJ _ T t _ _ fun d => ∃ y : Nat, 1 ≤ y ∧ y ≤ q ∧ d = .int (y : Nat)) (σ3.set 5 (some (V.int (q : Nat)))) _ H4 (onlyP_js L2.w L2.hp hpt) ((L2.std (if_pos rfl)).set (i := 5) (.int (q : Nat))) _ fun v B4 H5 d g4 e4 z4 => ?_
        · refine j_bin (f := fun i j => i + j) (P1 := fun d => d = .int 1) (P2 := fun d => ∃ y : Nat, y < q ∧ d = .int (y : Nat)) op_add (j_ed d_int ⟨1, rfl, rfl⟩) (j_df D1 hgd hr1 (a2 (j_ed (d_var 0) rfl) (P2 := fun d => d = .int (q : Nat)) (j_ed (d_var 5) rfl)) fun ds z => ?_) fun i j z1 z2 => ?_
          · obtain ⟨d2, rfl, rfl⟩ := z
            exact ⟨_, ⟨q, q1, by omega, rfl, rfl⟩, fun d hd => by
              obtain ⟨y, h1, rfl⟩ := hd
              exact ⟨(y : Nat), rfl, y, h1, rfl⟩⟩
          · obtain ⟨y, h1, z2⟩ := z2
            injection z1 with z1
            injection z2 with z2
            exact ⟨y + 1, by omega, by omega, congrArg PyData.int (by rw [z1, z2]; omega)⟩
        · obtain ⟨y, y1, y2, rfl⟩ := z4
          obtain rfl := e4.int_of
          have hp5 := g4.h p (.lst (rV ns)) hpt (fun _ z => nomatch z) L3.hp
          have ln : ns.length ≤ 40 := by have := L1.shp.len_sum; have := L1.sum; omega
          refine ⟨p, rV ns, .int (y : Nat), rfl, rfl, hp5, sz_lt (by rw [rV_len]; omega), ?_⟩
          have e5 : rV ns ++ [V.int (y : Nat)] = rV (ns ++ [y]) := by simp [rV, zs]
          rw [e5]
          have w6 := g4.s.w.pile (ys := rV (ns ++ [y])) hp5 hpt
          have k6 : Kp t H (upd H5 p (.lst (rV (ns ++ [y])))) := fun a o n1 n2 h => by
            rw [upd_ne fun z => by rw [z, hp] at h; cases h]
            exact (L3.k.trans g4.h) a o n1 n2 h
          have sy : Wm.Shp (ns ++ [y]) := shp_snoc L1.shp y1 (q3.imp id fun z => by omega)
          have std6 : StD (onlyP p (ns ++ [y])) (σ3.set 5 (some (V.int (q : Nat)))) [some (rD t), some (.int (m : Nat)), some (.list ((zs (ns ++ [y])).map PyData.int)), some (.int (left : Nat)), none, none] := ⟨L3.sl, fun i d q => by
            match i, q with
            | 0, q => cases q; exact ⟨_, L3.s0, .rf t⟩
            | 1, q => cases q; exact ⟨_, L3.s1, .int _⟩
            | 2, q => cases q; exact ⟨_, L3.s2, .lst (xs := rV (ns ++ [y])) (if_pos rfl) (daInts _)⟩
            | 3, q => cases q; exact ⟨_, L3.s3, .int _⟩
            | 4, q => exact nomatch q
            | 5, q => exact nomatch q
            | n + 6, q => exact nomatch q⟩
          have lasty : atI ((zs (ns ++ [y])).map PyData.int) (-1 : Int) = some (.int (y : Nat)) := by
            have e0 : ixN ((zs (ns ++ [y])).map PyData.int).length (-1 : Int) = some ns.length := by
              rw [nT_len, List.length_append, List.length_singleton]
              unfold ixN
              rw [if_neg (by decide), if_pos (by omega)]
              exact congrArg some (by omega)
            unfold atI
            rw [e0]
            have := nT_at (ns := ns ++ [y]) (i := ns.length) (by simp)
            rw [Wm.g_append_one, if_pos rfl] at this
            exact this
          refine (?_ : EJ _ T t _ _ fun d => d = .int ((left - y : Nat) : Int)) (σ3.set 5 (some (V.int (q : Nat)))) _ _ (onlyP_js w6 upd_same hpt) std6 _ fun v B6 H7 d g6 e6 z6 => ?_
          · exact j_ed (d_eq (d_bin r_sub (d_var 3) (d_ixL lasty (d_var 2) (d_neg d_int))) (congrArg PyData.int (show ((left : Nat) : Int) - (y : Nat) = ((left - y : Nat) : Int) by omega))) rfl
          · subst z6
            obtain rfl := e6.int_of
            have hp7 := g6.h p (.lst (rV (ns ++ [y]))) hpt (fun _ z => nomatch z) upd_same
            have l6 : (σ3.set 5 (some (V.int (q : Nat)))).length = 6 := L3.sl
            refine ⟨ns ++ [y], left - y, g6.s.w, k6.trans g6.h, hp, hpt, hp7, by rw [List.length_set]; exact l6, by rw [List.getElem?_set_ne (by decide)]; exact L3.s0, by rw [List.getElem?_set_ne (by decide)]; exact L3.s1, by rw [List.getElem?_set_ne (by decide)]; exact L3.s2, List.getElem?_set_self (by rw [l6]; decide), sy, ?_⟩
            have := L1.sum
            rw [List.sum_append, List.sum_singleton]
            omega
    · rw [decide_eq_false (show ¬ (0 : Int) < (left : Nat) by omega)]
      exact iteF ⟨ns, left, L1⟩
  · obtain ⟨ns, left, L⟩ := p
    have bp : B p = none := fresh_back js.ex hp
    have nBp : ∀ a, a ≠ p → upd B p (.lst (rV ns)) a = B a := fun a z => upd_ne z
    have s2 : JS T t (upd B p (.lst (rV ns))) H2 := by
      refine ⟨fun a o z => ?_, L.w, by rw [nBp t (Ne.symm hpt)]; exact js.bt, fun a ps z => ?_⟩
      · by_cases c : a = p
        · rw [c, upd_same] at z; cases z; rw [c]; exact L.hp
        · rw [nBp a c] at z
          exact L.k a o (fun e => by rw [e, js.bt] at z; cases z) (fun ps e => js.nt a ps (by rw [z, e])) (js.ex a o z)
      · by_cases c : a = p
        · rw [c, upd_same] at z; cases z
        · rw [nBp a c] at z; exact js.nt a ps z
    have g2 : GJ T t B H (upd B p (.lst (rV ns))) H2 := ⟨Ex.new bp, L.k, s2, fun a xs h z => by rw [nBp a fun e => by rw [e, hp] at h; cases h]; exact z⟩
    refine (?_ : EJ _ T t _ _ fun d => d = nT ns) σ2 _ H2 s2 (L.std upd_same) _ fun v B' H' d g e z => hQ v B' H' d (g2.trans g) e ⟨ns, L.shp, by have := L.sum; omega, z⟩
    exact j_tupL (j_ed (d_var 2) ⟨_, rfl, rfl⟩) M.tuple
end
end Wd

set_option Elab.async false
set_option linter.all false
set_option maxRecDepth 100000
set_option maxHeartbeats 4000000
/-! _law_tub. -/
namespace Wd
open PySem PySem.Spec PyProof.Rows L2 L2H Evl Wx We
theorem cut_ints {ns : List Int} {lo hi : Option Int} {x : V} (h : x ∈ cutV (ns.map V.int) lo hi) : ∃ i, x = V.int i := by
  have := List.mem_of_mem_drop (List.mem_of_mem_take h)
  obtain ⟨i, _, e⟩ := List.mem_map.mp this
  exact ⟨i, e.symm⟩
section
variable {P : Program} {w : World} {K : PySem.W.Frag} {mg : Str → Option Value} {base : Heap}
abbrev NTb : List Str := ["_law_cells", "_law_k", "_law_cell", "_law_stirred", "_law_each"]
theorem scTb : FnScope NTb ["_law_cells", "_law_k"] (defScope (top 58)) := ⟨rfl, rfl, rfl, by decide +kernel, rfl, by decide +kernel, by decide +kernel⟩
def spTb (K : PySem.W.Frag) : Sp := fun vs H Q _ => ∃ (a : Addr) (ns : List Int) (k : Nat), vs = [.ref a, .int (k : Nat)] ∧ SqL K H a (ns.map V.int) ∧ ns.length ≤ 16000000 ∧ k ≤ 1000 ∧
  ∀ p H' u v, Ex H H' → H p = none → H' p = some (.lst (tubV u v 0)) → 0 ≤ u → 0 ≤ v → v < 2147482877 → Q (.ref p) H'
theorem law_tub_df (M : Bt mg) (D : Dv K mg "_law_tub" 58) : Df P w K mg base CX0 1 "_law_tub" ["_law_cells", "_law_k"] (spTb K) := by
  obtain ⟨f, fd, hm, F⟩ := D.ex
  refine ⟨f, fd, hm, Fun.ok F scTb (fun vs H Q E h => by obtain ⟨_, _, _, rfl, _⟩ := h; rfl) (fun cdv A outer s H vs Q E hr h => ?_), F.kp, F.binds (fun _ _ _ _ _ _ us hl => match us, hl with | [_, _], _ => rfl), F.own⟩
  obtain ⟨a, ns, k, rfl, hS, hl, hk, hQ⟩ := h
  have hz : ∀ x : Int, (0 ≤ x % 2147482877 ∧ x % 2147482877 < 2147482877) := fun x => ⟨Int.emod_nonneg _ (by decide), Int.emod_lt_of_pos _ (by decide)⟩
  obtain ⟨t2, p2, q2⟩ : ∃ t2, PSs (cxOf CX0 P w K mg base NTb "_law_tub" (defScope (top 58)) f cdv A outer s H E).nox (defBody (top 58)).tail t2 ∧ ∀ cell : Int, t2 { nx := fun _ H' => Q .non H', rt := Q } ((L2.start NTb [V.ref a, V.int (k : Nat)]).set 2 (some (.int cell))) H := by
    refine ⟨_, pss_cons (ps_set (i := 3) scTb.nd rfl (.inl rfl) (pe_op op_add pe_int (pe_op op_mul pe_int (pv 1))))
      (pss_cons (ps_for PassesOwn.never rfl (pi_list (pe_op op_cat (pe_slice sl_list (pv 0) po_none (po_some pe_int)) (pe_lst (pa_cons (pv 2) pa_nil)))) (pg_name (i := 4) scTb.nd rfl (.inl rfl)) (pss_one (ps_set (i := 3) scTb.nd rfl (.inl rfl) (pe_op op_mod (pe_callTy call_int1 rfl M.int (by decide +kernel) (pa_cons (pe_op op_add (pe_op op_mul (pv 3) pe_int) (pe_callTy call_int1 rfl M.int (by decide +kernel) (pa_cons (pv 4) pa_nil) (by decide) (by decide) rfl rfl)) pa_nil) (by decide) (by decide) rfl rfl) pe_int))))
      (pss_one (ps_ret (pe_lst (pa_cons (pe_ifExp (pw_or (pt_cmpR op_lt (pv 2) pe_int (nobehind _ (by decide) (by decide))) (pw_or1 (pt_cmpR op_ge (pv 2) (pe_op op_pow pe_int pe_int) (nobehind _ (by decide) (by decide))))).pt (pe_callB call_abs rfl M.abs (by decide +kernel) (pa_cons (pv 2) pa_nil) (by decide) (by decide) rfl rfl) pe_int) (pa_cons (pv 3) (pa_cons pe_int pa_nil))))))), fun cell => ?_⟩
    refine ⟨.int (k : Nat), rfl, 659, (k : Nat), rfl, rfl, .inl ⟨by decide, by decide⟩, 99017, 659 * (k : Nat), rfl, rfl, ?_⟩
    refine ⟨.ref a, rfl, 5, rfl, a, ns.map V.int, rfl, hS, fun p1 hp1 => ⟨.int cell, rfl, Nat.le_of_ble_eq_true rfl, fun p2 hp2 => ⟨p1, p2, cutV (ns.map V.int) none (some 5), [.int cell], rfl, rfl, ?_, upd_same, ?_, fun p3 hp3 => ?_⟩⟩⟩
    · rw [upd_ne fun e => by rw [e, upd_same] at hp2; cases hp2]
      exact upd_same
    · have := cutV_length (ns.map V.int) none (some 5)
      rw [List.length_map] at this
      have e : sizeLine = 16777216 := sizeLine_eq
      rw [List.length_singleton]; omega
    have hx : ∀ x ∈ cutV (ns.map V.int) none (some 5) ++ [V.int cell], ∃ i, x = V.int i := fun x hx => by
      rcases List.mem_append.mp hx with h | h
      · exact cut_ints h
      · exact ⟨cell, List.mem_singleton.mp h⟩
    have e3 : Ex H (upd (upd (upd H p1 (HO.lst (cutV (ns.map V.int) none (some 5)))) p2 (HO.lst [V.int cell])) p3 (HO.lst (cutV (ns.map V.int) none (some 5) ++ [V.int cell]))) := ((Ex.new hp1).trans (Ex.new hp2)).trans (Ex.new hp3)
    generalize hH3 : upd (upd (upd H p1 (HO.lst (cutV (ns.map V.int) none (some 5)))) p2 (HO.lst [V.int cell])) p3 (HO.lst (cutV (ns.map V.int) none (some 5) ++ [V.int cell])) = H3 at e3
    have h3 : H3 p3 = some (.lst (cutV (ns.map V.int) none (some 5) ++ [V.int cell])) := by rw [← hH3]; exact upd_same
    generalize cutV (ns.map V.int) none (some 5) ++ [V.int cell] = xs at hx h3 hH3
    refine ⟨p3, rfl, ⟨xs, sq_of h3⟩, ?_⟩
    refine for_list (xs := xs) (fun i σ H2 => H2 = H3 ∧ σ.length = 5 ∧ σ[2]? = some (some (.int cell)) ∧ ∃ v : Int, σ[3]? = some (some (.int v)) ∧ 0 ≤ v ∧ v < 2147482877) ⟨rfl, rfl, rfl, 99017 + 659 * (k : Nat), rfl, by omega, by omega⟩ (fun i σ H2 _ h => by obtain ⟨rfl, _⟩ := h; exact sq_of h3) (fun i x σ H2 hxi h => ?_) fun σ H2 h => ?_
    · obtain ⟨rfl, l5, s2, v, s3, v0, v1⟩ := h
      obtain ⟨j, rfl⟩ := hx x (List.mem_of_getElem? hxi)
      have l6 : (σ.set 4 (some (V.int j))).length = 5 := by rw [List.length_set]; exact l5
      have b1 := hz (v * 54001 + j)
      refine ⟨.int v, by rw [List.getElem?_set_ne (by decide)]; exact s3, v, 54001, rfl, rfl, .inr ⟨by decide, by decide⟩, .int j, List.getElem?_set_self (by omega), .inl ⟨j, rfl, _, j, rfl, rfl, .inl ⟨_, rfl, _, 2147482877, rfl, rfl, (show (0 : Int) < 2147482877 by decide), ?_⟩⟩⟩
      exact ⟨rfl, by rw [List.length_set]; exact l6, by rw [List.getElem?_set_ne (by decide), List.getElem?_set_ne (by decide)]; exact s2, (v * 54001 + j) % 2147482877, List.getElem?_set_self (by rw [l6]; decide), b1.1, b1.2⟩
    · obtain ⟨rfl, l5, s2, v, s3, v0, v1⟩ := h
      have fin : ∀ u : Int, 0 ≤ u → tCons (tVar 3) (tCons (tC (.int 0)) tNil) σ H2 fun xs H1 => (V.int u :: xs).length ≤ sizeLine ∧ ∀ p, H1 p = none → Q (.ref p) (upd H1 p (.lst (V.int u :: xs))) := fun u hu =>
        ⟨.int v, s3, (show 3 ≤ sizeLine by decide), fun p hp => hQ p _ u v (e3.trans (Ex.new hp)) (by
          cases q : H p with
          | none => rfl
          | some o => rw [e3 _ _ q] at hp; cases hp) upd_same hu v0 v1⟩
      refine ⟨.int cell, s2, cell, 0, rfl, rfl, decide (cell < 0), rfl, ?_⟩
      by_cases c1 : cell < 0
      · rw [decide_eq_true c1]
        refine iteT (iteT ⟨.int cell, s2, cell, rfl, ?_⟩)
        rw [if_pos c1]
        exact fin _ (by omega)
      · rw [decide_eq_false c1]
        refine iteF ⟨.int cell, s2, 10, 18, rfl, rfl, ⟨by decide, by decide, by decide⟩, cell, _, rfl, rfl, decide (_ ≤ cell), rfl, ?_⟩
        by_cases c2 : (10 : Int) ^ (18 : Int).toNat ≤ cell
        · rw [decide_eq_true c2]
          refine iteT ⟨.int cell, s2, cell, rfl, ?_⟩
          rw [if_neg c1]
          exact fin _ (by omega)
        · rw [decide_eq_false c2]
          exact iteF (fin 0 (by decide))
  refine ⟨_, pss_cons (ps_set (i := 2) scTb.nd rfl (.inl rfl) (pe_ifExp (pt_cmpR op_lt (pv 1) (pe_callB call_len_seq rfl M.len PySem.boot_len (pa_cons (pv 0) pa_nil)) (nobehind _ (by decide) (by decide))) (pe_callTy call_int1 rfl M.int (by decide +kernel) (pa_cons (pe_ix ix_list (pv 0) (pv 1) (fun _ _ => rfl)) pa_nil) (by decide) (by decide) rfl rfl) (pe_op op_add (pe_op op_mul pe_int (pv 1)) pe_int))) p2, ?_⟩
  refine ⟨.int (k : Nat), rfl, .ref a, rfl, a, _, rfl, .inl hS, k, (ns.map V.int).length, rfl, rfl, decide ((k : Int) < ((ns.map V.int).length : Nat)), rfl, ?_⟩
  by_cases c : (k : Int) < ((ns.map V.int).length : Nat)
  · rw [decide_eq_true c]
    have hk2 : k < (ns.map V.int).length := by omega
    have e : (ns.map V.int)[k]? = some (V.int (ns[k]'(by rw [List.length_map] at hk2; exact hk2))) := by rw [List.getElem?_map, List.getElem?_eq_getElem (by rw [List.length_map] at hk2; exact hk2)]; rfl
    exact iteT ⟨.ref a, rfl, .int (k : Nat), rfl, ⟨a, _, (k : Nat), _, rfl, rfl, hS, atI_nat e, .inl ⟨_, rfl, q2 _⟩⟩⟩
  · rw [decide_eq_false c]
    exact iteF ⟨.int (k : Nat), rfl, 9151, (k : Nat), rfl, rfl, .inl ⟨by decide, by decide⟩, _, 109, rfl, rfl, q2 _⟩
end
end Wd

set_option Elab.async false
set_option linter.all false
set_option maxRecDepth 100000
set_option maxHeartbeats 4000000
/-! _law_caught(lambda: ..) over data; defs whose code object is known. -/
namespace Wd
open PySem PySem.Spec PyProof.Rows L2 L2H Evl Wx We LamX
/-- the i-th statement of the text is that def, its code object stands at c -/
structure Dc (K : PySem.W.Frag) (mg : Str → Option Value) (x : Str) (i : Nat) (c : Addr) : Prop where
  ex : ∃ (f : Addr) (oc : Value) (od : Option Addr) (kV doc pm : Value) (an : Option Addr) (ct : Value) (osl : Array (Option Value)), mg x = some (.ref f) ∧
    K.lookup f = some ⟨oc, od, .func (PySem.W.fnOf x x (defArgs (top i)) (defBody (top i)) (defScope (top i)) .none kV doc pm an (.ref c) ct), osl⟩ ∧ PySem.W.codeIn K (.ref c) x = true ∧ PySem.W.keepIn K (.ref f) = true
section
variable {P : Program} {w : World} {K : PySem.W.Frag} {mg : Str → Option Value} {base : Heap}
theorem okGc {x : Str} {i k : Nat} {c : Addr} {N ps : List Str} {sp : Sp} (D : Dc K mg x i c) (S : FnScope N ps (defScope (top i))) (bd : BindOk x i ps) (len : ∀ vs H Q E, sp vs H Q E → vs.length = ps.length)
    (hbody : ∀ (f : Addr) (A : Around) (outer : List Env) (s : Shared) (H : Hp) (vs : List V) (Q : VK) (E : XK), A.guards = some [] → Room k (A.deeper (envOfC x (defScope (top i)) s.heap.objs.size f (.ref c))) → sp vs H Q E →
      ∃ t, PSs (cxOf CX0 P w K mg base N x (defScope (top i)) f (.ref c) A outer s H E).nox (defBody (top i)) t ∧ t { nx := fun _ H' => Q .non H', rt := Q } (L2.start N vs) H) : DfG P w K mg base (k + 1) x ps sp := by
  obtain ⟨f, oc, od, kV, doc, pm, an, ct, osl, hm, lk, hcd, kp⟩ := D.ex
  have F : Fun K x x (top i) f (PySem.W.fnOf x x (defArgs (top i)) (defBody (top i)) (defScope (top i)) .none kV doc pm an (.ref c) ct) := ⟨⟨oc, od, kV, doc, pm, an, .ref c, ct, osl, rfl, lk, hcd⟩, kp⟩
  refine ⟨f, _, hm, ⟨len, fun A outer s H args us vs Q E hgd hr e0 hb r hsp => ?_⟩, kp, F.binds bd⟩
  have KX : K.In s.heap := e0.mod.kin.keeps fun b o e => (e0.bs b o e).1
  have par : ∀ y ∈ ps.zip us, (defScope (top i)).names.lookup y.1 = some .local ∨ ((defScope (top i)).names.lookup y.1 = some .cell ∧ ((cellsFrom (s.heap.objs.size + 1) (defScope (top i)).names []).lookup y.1).isSome = true) := by
    rintro ⟨n, v⟩ hy
    exact (S.par n (List.of_mem_zip hy).1).imp id fun q => ⟨q, PySem.W.cellsFrom_some _ _ _ (.inl q)⟩
  refine codeAny_call_function hr.depth (KX _ _ lk) rfl S.co S.gen rfl (PySem.W.codeRec_of KX hcd) (hb _ _ _ _ (wpAny_newFunctionEnv_cells S.kind par fun env he s1 x => ?_))
  subst he
  refine ⟨(e0.mod.nolimit.keeps fun b o e => (e0.bs b o e).1).keeps x.toInCall.keep, codeAny_func ?_⟩
  obtain ⟨t, ht, hq⟩ := hbody f A outer s H vs Q E hgd (hr.deeper _) hsp
  have I := inv_start (CX := CX0) (P := P) (w := w) (K := K) (mg := mg) (base := base) (f := f) (cd := .ref c) (A := A) (outer := outer) (E := E) S hr.hd e0 (len _ _ _ _ hsp) r x
  refine wpAny_mono (ht.nox.run [] s1 _ H _ I hq) (fun fl s' hs => ?_) fun e s' hs => hs
  cases fl with
  | ret u => obtain ⟨v, σ', H', J, rv, q⟩ := hs; exact ⟨v, H', J.os, J.bare, J.base, J.hok, rv, q⟩
  | next => obtain ⟨σ', H', J, q⟩ := hs; exact ⟨.non, H', J.os, J.bare, J.base, J.hok, rfl, q⟩
  | brk => obtain ⟨_, _, _, q⟩ := hs; exact False.elim q
  | cont => obtain ⟨_, _, _, q⟩ := hs; exact False.elim q
theorem df_Jc {T : List (Addr × Str)} {x : Str} {i k : Nat} {c : Addr} {N ps : List Str} {R : Addr → List PyData → (PyData → Prop) → Prop} (D : Dc K mg x i c) (S : FnScope N ps (defScope (top i))) (bd : BindOk x i ps) (len : ∀ t ds P, R t ds P → ds.length = ps.length)
    (hb : ∀ (f : Addr) (A : Around) (outer : List Env) (s : Shared) (H : Hp) (E : XK) (t : Addr) (ds : List PyData) (Pd : PyData → Prop), A.guards = some [] → Room k (A.deeper (envOfC x (defScope (top i)) s.heap.objs.size f (.ref c))) → R t ds Pd →
      SJ (cxOf CX0 P w K mg base N x (defScope (top i)) f (.ref c) A outer s H E).nox T t (defBody (top i)) (ρ0 N ds) (fun _ => False) Pd) : DfG P w K mg base (k + 1) x ps (spJ T R) :=
  okGc D S bd (fun vs H Q E h => by obtain ⟨t, B, ds, Pd, _, h1, h2, _⟩ := h; rw [h1.len]; exact len _ _ _ h2) fun f A outer s H vs Q E hgd hr h => by
    obtain ⟨t, B, ds, Pd, js, h1, h2, h3⟩ := h
    exact ⟨_, pss_RSs, hb f A outer s H E t ds Pd hgd hr h2 (L2.start N vs) B H _ js (StD.start h1) (fun σ' B' H' ρ' g _ z => z.elim) fun v B' H' d' g e z => h3 _ _ _ _ g e z⟩
end
/-- what a lambda does: it gives d, or raises InvalidRow with i -/
inductive Oc
  | gv (d : PyData)
  | rw (i : Int)
def Oc.d : Oc → PyData
  | .gv d => .tuple [.str "gave", d]
  | .rw i => .tuple [.str "row", .str (toString i)]
def LB (X : Cx) (k : Nat) (C : Addr) (scope : Scope) (body : Expr) (ρ : Rho) : Oc → Prop
  | .gv d => ∀ (A : Around) (outer : List Env) (s : Shared) (HZ : Hp) (E : XK) (f c' : Addr), Room k (A.deeper (lamEnv X scope s.heap.objs.size f c')) → ED (lamCx X A outer s HZ E scope f c') body ρ d
  | .rw i => i.natAbs.log2 < 1920 ∧ ∀ (A : Around) (outer : List Env) (s : Shared) (HZ : Hp) (E : XK) (f c' : Addr), Room k (A.deeper (lamEnv X scope s.heap.objs.size f c')) → ∀ (σ : L2.St) (B H : Hp), Ex B H → StD B σ ρ →
      (∀ H' x, Ex H H' → H' x = some (.xd [("given", .int i)]) → E (.ref C) (some x) H') → ∀ Q : VK, RE (lamCx X A outer s HZ E scope f c') body σ H Q
abbrev tB (X : Cx) (k : Nat) (scope : Scope) (body : Expr) : XK → TE := fun E σ H Q => ∀ (A : Around) (outer : List Env) (s : Shared) (HZ : Hp) (f c' : Addr), Room k (A.deeper (lamEnv X scope s.heap.objs.size f c')) → RE (lamCx X A outer s HZ E scope f c') body σ H Q
theorem Wt.extN {T : List (Addr × Str)} {t : Addr} {H H' : Hp} (h : Wt T t H) (e : ExtN H H') (hT : Tabs T H') : Wt T t H' := ⟨hT, let ⟨u, v, c, a, b⟩ := h.tub; ⟨u, v, c, e _ _ a (fun _ z => nomatch z), b⟩⟩
theorem GJ.extN {T : List (Addr × Str)} {t : Addr} {B H H' : Hp} (js : JS T t B H) (e : ExtN H H') (hT : Tabs T H') : GJ T t B H B H' :=
  ⟨Ex.refl _, fun a o _ n h => e a o h n, ⟨fun a o z => e a o (js.ex a o z) (fun ps q => js.nt a ps (by rw [z, q])), js.w.extN e hT, js.bt, js.nt⟩, fun _ _ _ z => z⟩
section
variable {X : Cx} {T : List (Addr × Str)} {t : Addr} {ρ : Rho} {C c Pt : Addr} {k : Nat} {params : Arguments} {body : Expr} {scope : Scope} {p lpos pos : Pos} {oc : Oc} {P : PyData → Prop}
theorem j_caught (M : Bt X.mg) (Tc : Ct X.K X.mg C) (V : Dv X.K X.mg "_law_caught" 65) (F : DfJ X.prog X.w X.K X.mg X.base 1 "_law_sort" "_law_e" (spSt C)) (hr : Room (k + 2) X.A) (TB : TabB X.base X.mg c Pt) (hcode : X.env.code = .ref c) (hmT : (Pt, X.env.qual ++ "<lambda>") ∈ T) (hu : ∀ p ∈ T, p.1 = Pt → p.2 = X.env.qual ++ "<lambda>")
    (L : LamS X.env.scope scope) (hb : LB X k C scope body ρ oc) (hP : P oc.d) (hdef : defaultsOf params X.env = ([], []) := by rfl) (hg : Gl X "_law_caught" := by rfl)
    (hbind : ∀ (q : Str) (cl : List (Str × Addr)) (pm cv ctv : Value), bindArgs (PySem.W.kla_fn "<lambda>" q params body scope cl pm cv ctv) ⟨[], []⟩ = pure [] := by intros; rfl) : EJ X T t (.Call (.Name "_law_caught" p) [.Lambda params body scope lpos] [] pos) ρ P := fun σ B H js sd Q kk => by
  obtain ⟨g, fd, hm, Fg⟩ := V.ex
  obtain ⟨oc1, od, kV, doc, pm, an, cdv, ct, osl, rfl, lk, hcg⟩ := Fg.ex
  have hbd := Fg.binds (ps := ["_law_act_here"]) (fun _ _ _ _ _ _ us hl => match us, hl with | [_], _ => rfl)
  have hG := caught_gives (X := X) (g := g) (cdg := cdv) (q := X.env.qual ++ "<lambda>") M Tc F fun s H => roomH_of ((hr.mono (j := 2) (by omega)).deeper (envOfC "_law_caught" (defScope (top 65)) s.heap.objs.size g cdv))
  refine (pe_lamcall (t := tB X k scope body) hg hm Fg.kp lk hcg hbd scCt rfl (.inl rfl) hG TB hcode hmT hu hr L hdef hbind (fun A outer s H E f c' hr2 => ⟨fun pins s σ H Q I h => h _ _ _ _ _ _ hr2 pins s I⟩)).re ?_
  refine ⟨js.w.tabs, fun H1 eN hT => ?_⟩
  have g1 := GJ.extN js eN hT
  have sd1 := sd
  cases oc with
  | gv d =>
    refine fun A outer s HZ f c' hr2 => hb A outer s HZ _ f c' hr2 σ B H1 g1.s.ex sd1 _ fun v B2 H2 g2 e2 p2 H3 e3 h3 => ?_
    have gj := GJ.of g1.s g2
    have e4 : Da (nob B2) v d := e2.monoN (nob_n B2)
    have w3 := gj.s.w.ext e3
    have s3 : JS T t (nob B2) H3 := ⟨gj.s.ex.trans e3, w3, gj.s.bt, gj.s.nt⟩
    have pt : p2 ≠ t := fun z => by obtain ⟨u, v, c, q, _⟩ := w3.tub; rw [← z, h3] at q; cases q
    obtain ⟨s4, e5⟩ := s3.put h3 (fun _ z => nomatch z) pt
    refine kk _ _ H3 _ ((g1.trans gj).trans ⟨e5, Kp.of e3, s4, fun a xs h z => ?_⟩) (.tup upd_same (.cons (.str _) (.cons (e4.mono e5) .nil))) hP
    rw [upd_ne fun z => by rw [z] at h; rw [e3 _ _ h] at h3; cases h3]
    exact z
  | rw i =>
    obtain ⟨hi, hb⟩ := hb
    refine fun A outer s HZ f c' hr2 => hb A outer s HZ _ f c' hr2 σ B H1 g1.s.ex sd1 (fun H2 x e2 hx => ?_) _
    refine ⟨rfl, x, i, rfl, hx, hi, fun p2 H3 e3 h3 => ?_⟩
    have e23 := e2.trans e3
    have w3 := g1.s.w.ext e23
    have s3 : JS T t B H3 := ⟨g1.s.ex.trans e23, w3, g1.s.bt, g1.s.nt⟩
    have pt : p2 ≠ t := fun z => by obtain ⟨u, v, c, q, _⟩ := w3.tub; rw [← z, h3] at q; cases q
    obtain ⟨s4, e5⟩ := s3.put h3 (fun _ z => nomatch z) pt
    refine kk _ _ H3 _ (g1.trans ⟨e5, Kp.of e23, s4, fun a xs h z => ?_⟩) (.tup upd_same (.cons (.str _) (.cons (.str _) .nil))) hP
    rw [upd_ne fun z => by rw [z] at h; rw [e23 _ _ h] at h3; cases h3]
    exact z
end
section
variable {X : Cx} {C : Addr} {k : Nat} {ps : List Str} {R G : List PyData → PyData → Prop} {scope : Scope} {f c' : Addr} {A : Around} {outer : List Env} {s : Shared} {HZ : Hp} {E : XK} {ρ : Rho} {ds : List PyData} {i : Int} {x : Str} {e : Expr} {es : List Expr} {p pos : Pos}
theorem lam_passes : Passes (L2.CX X.prog X.w) (lamCx X A outer s HZ E scope f c') E := passes_call (takes_of rfl rfl rfl rfl) fun _ _ _ _ h => h
theorem lam_raise (D : Df X.prog X.w X.K X.mg X.base (L2.CX X.prog X.w) k x ps (spX C R G)) (hr : Room k (A.deeper (lamEnv X scope s.heap.objs.size f c'))) (hG : G ds (.int i)) (ha : EA (lamCx X A outer s HZ E scope f c') (e :: es) ρ ds) (hg : Gl (lamCx X A outer s HZ E scope f c') x := by rfl)
    (hdb : (x == ("__debug__" : Str)) = false := by decide) (hst : starEach (e :: es) (lamCx X A outer s HZ E scope f c').env = (false, eval e (lamCx X A outer s HZ E scope f c').env) :: starEach es (lamCx X A outer s HZ E scope f c').env := by rfl) (hpl : (backTo pos (starEach es (lamCx X A outer s HZ E scope f c').env)).any (·.1) = false := by rfl) :
    ∀ (σ : L2.St) (B H : Hp), Ex B H → StD B σ ρ → (∀ H' x, Ex H H' → H' x = some (.xd [("given", .int i)]) → E (.ref C) (some x) H') → ∀ Q : VK, RE (lamCx X A outer s HZ E scope f c') (.Call (.Name x p) (e :: es) [] pos) σ H Q := fun σ B H ex sd hE Q => by
  obtain ⟨f, fd, hm, F, kp, b, own⟩ := D.ex
  refine (pe_call (X := lamCx X A outer s HZ E scope _ _) (E := E) F hr hg hm kp b .nil lam_passes pa_RA hdb hst hpl).re (ha σ B H ex sd _ fun vs B1 H1 g1 e1 => ?_)
  rw [List.append_nil]
  refine ⟨B1, ds, g1.s, e1, .inr ⟨.int i, hG, fun v B2 H2 x g2 e2 hx => ?_⟩⟩
  obtain rfl := e2.int_of
  exact hE _ x ((g1.h.trans g2.h).trans (Ex.new hx)) upd_same
end
section
variable {X : Cx} {T : List (Addr × Str)} {t : Addr} {ρ : Rho} {N : Rho → Prop} {R : PyData → Prop} {rest s1 : List Stmt} {c e : Expr} {pos : Pos} {d : PyData}
theorem z_no (hc : ET X c ρ false) (k : SJ X T t rest ρ N R) : SJ X T t (.If c s1 [] pos :: rest) ρ N R := z_when (P := fun p => p = false) (j_et hc rfl) (fun z => nomatch z) fun _ => k
theorem z_let (i : Nat) {x : Str} {pos' : Pos} (he : ED X e ρ d) (k : SJ X T t rest (ρ.set i (some d)) N R) (hN : X.N.Nodup) (hi : X.N[i]? = some x := by rfl) (hx : Loc X.env.scope x := by first | exact Or.inl rfl | exact Or.inr rfl)
    (hs : swapsWith e (some (.Name x pos')) pos.line X.env = pure false := by rfl) (hf : X.fn x = true ∨ X.env.scope.names.lookup x = some .local := by first | exact .inl rfl | exact .inr rfl) :
    SJ X T t (.Assign [.Name x pos'] e pos :: rest) ρ N R := z_set i (P := fun d' => d' = d) (j_ed he rfl) (fun d' z => z ▸ k) hN hi hx hs hf
end
end Wd

set_option Elab.async false
set_option linter.all false
set_option maxRecDepth 100000
set_option maxHeartbeats 4000000
/-! What _law_one_right leans on: the forms that _law_form_of finds, the lists it compares. -/
namespace Wd
open PySem PySem.Spec PyProof.Rows L2 L2H Evl Wx We LamX
theorem range_le (n : Nat) : (List.range n).Pairwise (· ≤ ·) := List.pairwise_lt_range.imp Nat.le_of_lt
theorem rfo_yes {bs : List (Nat × Nat)} {t : List Nat} (nd : bs.Nodup) (hl : bs.length < 60) (ok : Wm.formOk bs = true) (ht : Wm.Shp t) (hc : ∀ r, Wm.rowCount bs r = Wm.g t r) : RFo [bxD bs] (.list [nT t]) := by
  have hm : ∀ r, r ∈ List.range t.length ↔ 0 < Wm.rowCount bs r := fun r => by
    rw [List.mem_range, hc]
    exact ⟨ht.pos r, Wm.Shp.lt_len⟩
  have e := Wm.form_is (bs := bs) (t := t) (ks := List.range t.length) ht hc List.nodup_range (range_le _) fun r => (hm r).trans Wm.mem_rows.symm
  exact ⟨bs, nd, hl, rfl, .inr ⟨ok, List.range t.length, List.nodup_range, range_le _, hm, by rw [e]⟩⟩
theorem bx_len {ns : List Nat} (sh : SHP ns) : (Wm.boxes ns).length ≤ 40 := Nat.le_trans (Wm.boxes_len ns) sh.2
theorem rfo_boxes {ns : List Nat} (sh : SHP ns) : RFo [bxD (Wm.boxes ns)] (.list [nT ns]) := rfo_yes boxes_nodup (by have := bx_len sh; omega) (Wm.ok_boxes sh.1) sh.1 (Wm.rowCount_boxes ns)
theorem more_nd {ns : List Nat} (i : Nat) : (Wm.boxes ns ++ [(i, Wm.g ns i)]).Nodup := by
  rw [List.nodup_append]
  refine ⟨boxes_nodup, List.pairwise_singleton _ _, fun x hx y hy z => ?_⟩
  rw [List.mem_singleton.mp hy] at z
  have := Wm.mem_boxes.mp hx
  rw [z] at this
  exact absurd this (Nat.lt_irrefl _)
theorem rfo_more {ns : List Nat} (sh : SHP ns) {i : Nat} (ho : Wm.isOuter ns i = true) (hi : i ≤ ns.length) : RFo [bxD (Wm.boxes ns ++ [(i, Wm.g ns i)])] (.list [nT (Wm.more ns i)]) := by
  refine rfo_yes (more_nd i) (by have := bx_len sh; rw [List.length_append, List.length_singleton]; omega) (by rw [Wm.ok_more sh.1]; exact ho) (Wm.more_shp sh.1 hi ho) fun r => ?_
  rw [Wm.rowCount_append, Wm.rowCount_boxes, Wm.rowCount_one, Wm.g_more hi]
  by_cases c : i = r
  · rw [if_pos c, if_pos c.symm, c]
  · rw [if_neg c, if_neg (Ne.symm c)]; rfl
theorem rfo_moreN {ns : List Nat} (sh : SHP ns) {i : Nat} (ho : Wm.isOuter ns i = false) : RFo [bxD (Wm.boxes ns ++ [(i, Wm.g ns i)])] (.list []) :=
  ⟨_, more_nd i, by have := bx_len sh; rw [List.length_append, List.length_singleton]; omega, rfl, .inl ⟨by rw [Wm.ok_more sh.1]; exact ho, rfl⟩⟩
theorem wo_nd {ns : List Nat} (c : Nat × Nat) : (Wm.without ns c).Nodup := boxes_nodup.sublist List.filter_sublist
theorem wo_len {ns : List Nat} (sh : SHP ns) (c : Nat × Nat) : (Wm.without ns c).length < 60 := by
  have := bx_len sh
  have : (Wm.without ns c).length ≤ (Wm.boxes ns).length := List.length_filter_le _ _
  omega
theorem rfo_less {ns : List Nat} (sh : SHP ns) {i : Nat} (hc : Wm.isCorner ns i = true) : RFo [bxD (Wm.without ns (i, Wm.g ns i - 1))] (.list [nT (Wm.less ns i)]) := by
  have hi := Wm.corner_lt hc
  refine rfo_yes (wo_nd _) (wo_len sh _) (by rw [Wm.ok_less sh.1 hi]; exact hc) (Wm.less_shp sh.1 hc) fun r => ?_
  rw [Wm.rowCount_without (sh.1.pos i hi), Wm.g_less sh.1 hc]
theorem rfo_lessN {ns : List Nat} (sh : SHP ns) {i : Nat} (hi : i < ns.length) (hc : Wm.isCorner ns i = false) : RFo [bxD (Wm.without ns (i, Wm.g ns i - 1))] (.list []) :=
  ⟨_, wo_nd _, wo_len sh _, rfl, .inl ⟨by rw [Wm.ok_less sh.1 hi]; exact hc, rfl⟩⟩
theorem outer_le {ns : List Nat} (sh : Wm.Shp ns) {i : Nat} (ho : Wm.isOuter ns i = true) : i ≤ ns.length := by
  unfold Wm.isOuter at ho
  rw [Bool.or_eq_true] at ho
  rcases ho with h | h
  · have := eq_of_beq h; omega
  · have h := of_decide_eq_true h
    have := Wm.Shp.lt_len (ns := ns) (i := i - 1) (by omega)
    omega
theorem pad_at {ns : List Nat} {i m : Nat} (h : i < ns.length + m) : atI ((zs ns).map PyData.int ++ List.replicate m (.int 0)) (i : Int) = some (.int (Wm.g ns i : Nat)) := by
  refine atI_nat ?_
  by_cases c : i < ns.length
  · rw [List.getElem?_append_left (by rw [nT_len]; exact c)]
    exact nT_at c
  · rw [List.getElem?_append_right (by rw [nT_len]; omega), List.getElem?_replicate, nT_len, if_pos (by omega), Wm.g_ge (by omega)]
    rfl
/-- x != (i, c) of a box x -/
theorem eqv_box (b : Nat × Nat) (i : Nat) (c : Int) : PyData.eqv (bD b) (.tuple [.int (i : Nat), .int c]) = (b.1 == i && decide ((b.2 : Int) = c)) := by
  have e : PyData.eqv (bD b) (.tuple [.int (i : Nat), .int c]) = (decide ((b.1 : Int) = (i : Nat)) && decide ((b.2 : Int) = c)) := by
    simp [PyData.eqv, PyData.eqvAll]
    rfl
  rw [e]
  congr 1
  rw [Bool.eq_iff_iff, decide_eq_true_iff, beq_iff_eq]
  omega
theorem wo_filter {ns : List Nat} {i : Nat} (hp : 1 ≤ Wm.g ns i) : ((Wm.boxes ns).filter fun b => !(b.1 == i && decide ((b.2 : Int) = (Wm.g ns i : Nat) - 1))) = Wm.without ns (i, Wm.g ns i - 1) := by
  unfold Wm.without
  refine List.filter_congr fun b _ => ?_
  have e : (b != (i, Wm.g ns i - 1)) = !(b.1 == i && b.2 == Wm.g ns i - 1) := rfl
  rw [e]
  congr 2
  rw [Bool.eq_iff_iff, decide_eq_true_iff, beq_iff_eq]
  omega
theorem wo_all {ns : List Nat} {i : Nat} : ((Wm.boxes ns).filter fun b => !(b.1 == i && decide ((b.2 : Int) = -1))) = Wm.boxes ns := List.filter_eq_self.mpr fun b _ => by
  rw [decide_eq_false (by omega), Bool.and_false]
  rfl
theorem list_ix (n : Nat) (p : Nat → Bool) : PyData.list (itemsD n p fun i => .int (i : Nat)) = lD ((List.range n).filter p) := congrArg PyData.list (PyData.tuple.inj (items_ix n p))
theorem eqv_one (d : PyData) : PyData.eqv (.list [d]) (.list []) = false := by simp [PyData.eqv, PyData.eqvAll]
theorem eqv_none : PyData.eqv (.list []) (.list []) = true := by simp [PyData.eqv, PyData.eqvAll]
/-! ### shown lists of numbers -/
theorem log_small {n : Nat} (h : n < 1000) : n.log2 ≤ 10 := by
  by_cases z : n = 0
  · rw [z]; decide
  · exact Nat.le_of_lt ((Nat.log2_lt z).mpr (by omega))
theorem ints_all : ∀ {ns : List Nat}, (∀ x ∈ ns, x < 1000) → PyData.showableAll ((zs ns).map PyData.int) = true ∧ PyData.leavesShortAll 13 ((zs ns).map PyData.int) = true ∧ PyData.weightAll ((zs ns).map PyData.int) ≤ 12 * ns.length
  | [], _ => ⟨rfl, rfl, Nat.le_refl _⟩
  | n :: ns, h => by
    obtain ⟨h1, h2, h3⟩ := ints_all (ns := ns) fun x hx => h x (List.mem_cons_of_mem _ hx)
    have hn := h n List.mem_cons_self
    have hlog := log_small hn
    have hw : PyData.weight (.int (n : Nat)) ≤ 11 := by
      unfold PyData.weight
      split
      · omega
      · rw [Int.natAbs_natCast]; omega
    have hs : PyData.showable (.int (n : Nat)) = true := by
      unfold PyData.showable
      rw [Int.natAbs_natCast]
      exact decide_eq_true (by omega)
    have hf : PyData.leavesShort 13 (.int (n : Nat)) = true := by
      unfold PyData.leavesShort
      exact decide_eq_true (PyData.shown_int_le (by rw [Int.natAbs_natCast]; exact Nat.lt_trans hn (by decide)))
    refine ⟨?_, ?_, ?_⟩
    · show (PyData.showable (.int (n : Nat)) && PyData.showableAll ((zs ns).map PyData.int)) = true
      rw [hs, h1]; rfl
    · show (PyData.leavesShort 13 (.int (n : Nat)) && PyData.leavesShortAll 13 ((zs ns).map PyData.int)) = true
      rw [hf, h2]; rfl
    · show PyData.weight (.int (n : Nat)) + 1 + PyData.weightAll ((zs ns).map PyData.int) ≤ _
      rw [List.length_cons]; omega
theorem d_ints (ns : List Nat) : PyData.depthAll ((zs ns).map PyData.int) = 0 := by
  induction ns with
  | nil => rfl
  | cons n ns ih =>
    show max (PyData.depth (.int (n : Nat))) (PyData.depthAll ((zs ns).map PyData.int)) = 0
    rw [ih]; rfl
theorem t4_ok {a b : List Nat} (la : a.length ≤ 100) (lb : b.length ≤ 100) (ha : ∀ x ∈ a, x < 1000) (hb : ∀ x ∈ b, x < 1000) :
    (PyData.list [nT a, nT a, nT b, nT b]).showable = true ∧ (PyData.list [nT a, nT a, nT b, nT b]).hasDict = false ∧ (PyData.list [nT a, nT a, nT b, nT b]).shown.length ≤ sizeLine ∧ (PyData.list [nT a, nT a, nT b, nT b]).depth ≤ 60 := by
  obtain ⟨a1, a2, a3⟩ := ints_all ha
  obtain ⟨b1, b2, b3⟩ := ints_all hb
  refine ⟨?_, ?_, PyData.shown_fits (B := 13) (by decide) (by decide) ?_ ?_, ?_⟩
  · simp only [PyData.showable, PyData.showableAll, a1, b1, Bool.and_self]
  · simp only [PyData.hasDict, PyData.hasDictAll, nd_ints, Bool.or_self]
  · simp only [PyData.leavesShort, PyData.leavesShortAll, a2, b2, Bool.and_self]
  · simp only [PyData.weight, PyData.weightAll]
    omega
  · simp only [PyData.depth, PyData.depthAll, d_ints]
    decide
end Wd

set_option Elab.async false
set_option linter.all false
set_option maxRecDepth 100000
set_option maxHeartbeats 8000000
/-! _law_one_right. -/
namespace Wd
open PySem PySem.Spec PyProof.Rows L2 L2H Evl Wx We LamX
section
variable {X : Cx} {T : List (Addr × Str)} {t : Addr} {ρ : Rho} {N : Rho → Prop} {R : PyData → Prop} {rest : List Stmt} {pos : Pos}
/-- x = [..] on one line -/
theorem z_lc (i0 : Nat) {x : Str} {py : Pos} {elt tg iter : Expr} {ifs : List Expr} {scope : Scope} {own : List (Str × Nat)} {n : Nat} {y v : Nat → PyData} {js : List Nat} {ρw : Rho} {ρi : Nat → Rho} {f : Nat → Bool} {pos2 : Pos} (hc : X.calm = true) (hN : X.N.Nodup) (ok : BlkOk X.N X.env.scope scope own) (hi : EI X tg iter ρ n y)
    (hw : wipeD ρ (own.map (·.2)) = ρw) (hjs : ∀ j ∈ js, j ∈ own.map (·.2)) (hz : n ≤ 90000) (hg : ∀ i, i < n → InBlk X scope fun Y => GT Y tg js (y i) ρw (ρi i)) (ht : ∀ i, i < n → InBlk X scope fun Y => ETs Y ifs (ρi i) (f i))
    (he : ∀ i, i < n → f i = true → InBlk X scope fun Y => ED Y elt (ρi i) (v i)) (hyl : X.env.scope.names.lookup x = some .local) (hsw : swapsWith (.ListComp elt [⟨tg, iter, ifs, 0⟩] scope pos2) (some (.Name x py)) pos.line X.env = pure true)
    (k : SJ X T t rest (ρ.set i0 (some (.list (itemsD n f v)))) N R) (hy : X.N[i0]? = some x := by rfl) (hs : ∀ x, foldedSetIterable iter X.env x = pure x := by intro _; rfl) :
    SJ X T t (.Assign [.Name x py] (.ListComp elt [⟨tg, iter, ifs, 0⟩] scope pos2) pos :: rest) ρ N R := z_cons (M := fun ρ' => ρ' = ρ.set i0 (some (.list (itemsD n f v)))) (fun σ B H D s sd n' r =>
  (ps_setLc (wi := RI X tg iter) (g := bG X scope tg) (tt := bT X scope ifs) (te := bE X scope elt) hc hN hy hyl hsw pi_RI ok (fun s H C cl fp => ⟨fun pins s1 σ H v u Q I r h => h _ _ _ _ _ pins s1 u I r⟩) (fun s H C cl fp => ⟨fun pins s1 σ H Q I h => h _ _ _ _ _ pins s1 I⟩) (fun s H C cl fp => ⟨fun pins s1 σ H Q I h => h _ _ _ _ _ pins s1 I⟩) hs).rs
    (show tAsg (tLc _ _ _ _ _) (gName i0) D σ H from lc_read hc hN ok hi hw hjs hz hg ht he s.ex sd fun v B1 H1 g1 e1 => n' _ _ H1 _ (GJ.of s g1) (((sd.mono g1.b).set e1).monoN (nob_n B1)) rfl)) fun ρ' z => z ▸ k
end
abbrev qL (x : Str) : Str := (x ++ ".<locals>.") ++ "<lambda>"
abbrev forBody : Stmt → List Stmt
  | .For _ _ b _ _ => b
  | _ => []
abbrev lamScope : Stmt → Scope
  | .Assign _ (.Call _ [.Lambda _ _ s _] _ _) _ => s
  | _ => defScope (top 19)
theorem rowOk (i : Nat) (hi : i < 100) : okD 1 (.tuple [.str "row", .str (toString ((i : Nat) : Int))]) = true := by
  have : ∀ i, i < 100 → okD 1 (.tuple [.str "row", .str (toString ((i : Nat) : Int))]) = true := by decide +kernel
  exact this i hi
theorem okGave (m : List Nat) : okD 2 (.tuple [.str "gave", nT m]) = true := by
  show (okD 1 (.str "gave") && (okD 1 (nT m) && true)) = true
  rw [ok_nT 0 m]; decide +kernel
theorem nbGave (m : List Nat) : nb (.tuple [.str "gave", nT m]) = true := by
  rw [nb, nb.go, nb.go, nb.go, nb_nT]; rfl
theorem nbRow (x : Str) : nb (.tuple [.str "row", .str x]) = true := rfl
abbrev NOn : List Str := ["_law_form_here", "_law_boxes_here", "_law_outer_ones", "_law_i", "_law_corner_ones", "_law_x", "_law_told", "_law_came", "_law_more", "_law_less_form"]
theorem scOn : FnScope NOn ["_law_form_here"] (defScope (top 69)) := ⟨rfl, rfl, rfl, by decide +kernel, rfl, by decide +kernel, by decide +kernel⟩
section
variable {P : Program} {w : World} {K : PySem.W.Frag} {mg : Str → Option Value} {base : Heap} {T : List (Addr × Str)}
def ROn : Addr → List PyData → (PyData → Prop) → Prop := fun t ds P => ∃ ns : List Nat, Wm.Shp ns ∧ ns.sum < 40 ∧ ds = [nT ns] ∧ P = fun d => d = .bool true
theorem law_one_right_df {C c Pt : Addr} (M : Bt mg) (Tc : Ct K mg C) (D : Dc K mg "_law_one_right" 69 c) (TB : TabB base mg c Pt) (hmT : (Pt, qL "_law_one_right") ∈ T) (hu : ∀ p ∈ T, p.1 = Pt → p.2 = qL "_law_one_right") (Vc : Dv K mg "_law_caught" 65) (F : DfJ P w K mg base 1 "_law_sort" "_law_e" (spSt C))
    (DB : Df P w K mg base CX0 1 "_law_boxes" ["_law_form_here"] (spD RBx)) (DF : Df P w K mg base CX0 1 "_law_form_of" ["_law_boxes_here"] (spD RFo)) (DO : Df P w K mg base CX0 4 "outer_rows" ["shape"] (spD (RF1 Wm.outers))) (DC : Df P w K mg base CX0 4 "corner_rows" ["shape"] (spD (RF1 Wm.corners)))
    (DW : Df P w K mg base (L2.CX P w) 4 "with_box" ["shape", "row"] (spX C RWith GWith)) (DN : Df P w K mg base (L2.CX P w) 4 "without_box" ["shape", "row"] (spX C RWout GWout)) (VO : Dv K mg "outer_rows" 32) (VC : Dv K mg "corner_rows" 31) (VW : Dv K mg "with_box" 33) (VN : Dv K mg "without_box" 34) :
    DfG P w K mg base 7 "_law_one_right" ["_law_form_here"] (spJ T ROn) := by
  refine df_Jc D scOn (fun _ _ _ _ _ _ us hl => match us, hl with | [_], _ => rfl) (fun t ds Pd h => by obtain ⟨_, _, _, rfl, _⟩ := h; rfl) fun f A outer s H E t ds Pd hgd hr h => ?_
  obtain ⟨ns, sh1, hs, rfl, rfl⟩ := h
  have sh : SHP ns := ⟨sh1, by omega⟩
  have hu64 : (A.deeper (envOfC "_law_one_right" (defScope (top 69)) s.heap.objs.size f (.ref c))).units + 64 < cLine := hr.units
  have ll := sh.l
  have lb := bx_len sh
  have bd2 : ∀ {x : Str} {i : Nat} {ps : List Str}, True := trivial
  have h1 : Room 1 (A.deeper (envOfC "_law_one_right" (defScope (top 69)) s.heap.objs.size f (.ref c))) := hr.mono (by decide)
  have h4 : Room 4 (A.deeper (envOfC "_law_one_right" (defScope (top 69)) s.heap.objs.size f (.ref c))) := hr.mono (by decide)
  -- the form of the boxes and one more, and one less
  have okL : ∀ m : List Nat, okD 2 (.list [nT m]) = true := fun m => by
    show [nT m].all (okD 1) = true
    rw [List.all_cons, ok_nT 0 m]; rfl
  have mo : ∀ i, ∃ d, RFo [bxD (Wm.boxes ns ++ [(i, Wm.g ns i)])] d ∧ okD 2 d = true ∧ (!PyData.eqv d (.list [])) = Wm.isOuter ns i ∧ (Wm.isOuter ns i = true → d = .list [nT (Wm.more ns i)]) := fun i => by
    cases ho : Wm.isOuter ns i with
    | true => exact ⟨_, rfo_more sh ho (outer_le sh.1 ho), okL _, by rw [eqv_one]; rfl, fun _ => rfl⟩
    | false => exact ⟨_, rfo_moreN sh ho, rfl, by rw [eqv_none]; rfl, fun z => nomatch z⟩
  have le : ∀ i, i < ns.length → ∃ d, RFo [bxD (Wm.without ns (i, Wm.g ns i - 1))] d ∧ okD 2 d = true ∧ (!PyData.eqv d (.list [])) = Wm.isCorner ns i ∧ (Wm.isCorner ns i = true → d = .list [nT (Wm.less ns i)]) := fun i hi => by
    cases ho : Wm.isCorner ns i with
    | true => exact ⟨_, rfo_less sh ho, okL _, by rw [eqv_one]; rfl, fun _ => rfl⟩
    | false => exact ⟨_, rfo_lessN sh hi ho, rfl, by rw [eqv_none]; rfl, fun z => nomatch z⟩
  have cat1 : ∀ i, PyData.list ((Wm.boxes ns).map bD ++ [.tuple [.int (i : Nat), .int (Wm.g ns i : Nat)]]) = bxD (Wm.boxes ns ++ [(i, Wm.g ns i)]) := fun i => congrArg PyData.list (by rw [List.map_append]; rfl)
  have catn : ((Wm.boxes ns).map bD).length + 1 ≤ 100000 := by rw [List.length_map]; omega
  have catm : ∀ m : Nat, m ≤ 2 → ((zs ns).map PyData.int).length + m ≤ 100000 := fun m hm => by rw [nT_len]; omega
  refine z_let 1 (d_df DB h1 ⟨ns, sh, rfl, rfl⟩ (a_cons (d_var 0) a_nil)) ?_ scOn.nd
  refine z_lc 2 (own := [("_law_i", 3)]) (n := ns.length + 1) (f := Wm.isOuter ns) (v := fun i => .int (i : Nat)) rfl scOn.nd (blkOk_by (by kernel_rfl)) (i_rng (n := ns.length + 1) (m := ((ns.length + 1 : Nat) : Int)) (a_cons (d_eq (d_bin r_add (d_callB c_lenT (a_cons (d_var 0) a_nil) M.len) d_int) (by rw [nT_len]; rfl)) a_nil) (by simp) (by omega) (by omega) M.range) rfl (js := [3]) (fun j hj => hj) (by omega)
    (fun i _ _ _ _ _ _ => g_name 3 scOn.nd) (fun i hi _ _ _ _ _ => ts_one ?t1) (fun i _ _ _ _ _ _ _ => d_var 3) rfl rfl ?_
  case t1 =>
    obtain ⟨d, hR, hk, he, _⟩ := mo i
    exact t_eq (t_cmp (r_ne hu64 (okD_sh hk) (okD_sh (k := 1) rfl)) (d_df DF h1 hR (a_cons (d_eq (d_bin (r_catL (ds := (Wm.boxes ns).map bD) (ds2 := [.tuple [.int (i : Nat), .int (Wm.g ns i : Nat)]]) catn) (d_var 1) (d_lst (a_cons (d_tup (a_cons (d_var 3) (a_cons (d_ixT (ds := (zs ns).map PyData.int ++ [.int 0]) (pad_at (m := 1) hi) (d_bin (r_catT (ds2 := [.int 0]) (catm 1 (by decide))) (d_var 0) (d_tup (a_cons d_int a_nil))) (d_var 3)) a_nil))) a_nil))) (cat1 i)) a_nil)) (d_lst a_nil)) he
  rw [list_ix, show (List.range (ns.length + 1)).filter (Wm.isOuter ns) = Wm.outers ns from rfl]
  refine z_lc 4 (own := [("_law_i", 3)]) (n := ns.length) (f := Wm.isCorner ns) (v := fun i => .int (i : Nat)) rfl scOn.nd (blkOk_by (by kernel_rfl)) (i_rng (n := ns.length) (m := ((ns.length : Nat) : Int)) (a_cons (d_eq (d_callB c_lenT (a_cons (d_var 0) a_nil) M.len) (by rw [nT_len])) a_nil) (by simp) (by omega) (by omega) M.range) rfl (js := [3]) (fun j hj => hj) (by omega)
    (fun i _ _ _ _ _ _ => g_name 3 scOn.nd) (fun i hi _ _ _ _ _ => ts_one ?t2) (fun i _ _ _ _ _ _ _ => d_var 3) rfl rfl ?_
  case t2 =>
    obtain ⟨d, hR, hk, he, _⟩ := le i hi
    refine t_eq (t_cmp (r_ne hu64 (okD_sh hk) (okD_sh (k := 1) rfl)) (d_df DF h1 hR (a_cons (d_eq (d_lc (own := [("_law_x", 5)]) (n := (Wm.boxes ns).length) (f := fun j => !(((Wm.boxes ns).getD j (0, 0)).1 == i && decide ((((Wm.boxes ns).getD j (0, 0)).2 : Int) = (Wm.g ns i : Nat) - 1))) (v := fun j => bD ((Wm.boxes ns).getD j (0, 0))) rfl scOn.nd (blkOk_by (by kernel_rfl))
      (i_lst (d_var 1) (fun i hi => bx_at hi) (List.length_map ..)) rfl (js := [5]) (fun j hj => hj) (by omega) (fun j _ _ _ _ _ _ => g_name 5 scOn.nd) (fun j _ _ _ _ _ _ => ts_one (t_eq (t_cmp (r_ne hu64 (okD_sh (ok_bD 0 _)) (okD_sh (k := 1) (d := .tuple [.int (i : Nat), .int ((Wm.g ns i : Nat) - 1)]) rfl)) (d_var 5) (d_tup (a_cons (d_var 3) (a_cons (d_bin r_sub (d_ixT (nT_ix hi) (d_var 0) (d_var 3)) d_int) a_nil)))) (by rw [eqv_box]))) fun j _ _ _ _ _ _ _ => d_var 5) ?b) a_nil)) (d_lst a_nil)) he
    rw [items_bx (Wm.boxes ns) fun b => !(b.1 == i && decide ((b.2 : Int) = (Wm.g ns i : Nat) - 1)), wo_filter (sh.1.pos i hi)]
  rw [list_ix, show (List.range ns.length).filter (Wm.isCorner ns) = Wm.corners ns from rfl]
  have lo : (Wm.outers ns).length ≤ 100 := by
    have : (Wm.outers ns).length ≤ (List.range (ns.length + 1)).length := List.length_filter_le _ _
    rw [List.length_range] at this; omega
  have lc : (Wm.corners ns).length ≤ 100 := by
    have : (Wm.corners ns).length ≤ (List.range ns.length).length := List.length_filter_le _ _
    rw [List.length_range] at this; omega
  obtain ⟨q1, q2, q3, q4⟩ := t4_ok lo lc (fun x hx => by have := (Wm.mem_outers.mp hx).1; omega) (fun x hx => by have := (Wm.mem_corners.mp hx).1; omega)
  refine z_let 6 (d := .list [nT (Wm.outers ns), nT (Wm.outers ns), nT (Wm.corners ns), nT (Wm.corners ns)]) (d_lst (a_cons (d_df DO h4 ⟨ns, sh, rfl, rfl⟩ (a_cons (d_var 0) a_nil)) (a_cons (d_kw1 (ds := [nT ns]) DO VO ?bd1 h4 ⟨ns, sh, rfl, rfl⟩ (k_cons (d_var 0) k_nil)) (a_cons (d_df DC h4 ⟨ns, sh, rfl, rfl⟩ (a_cons (d_var 0) a_nil)) (a_cons (d_kw1 (ds := [nT ns]) DC VC ?bd2 h4 ⟨ns, sh, rfl, rfl⟩ (k_cons (d_var 0) k_nil)) a_nil))))) ?_ scOn.nd
  case bd1 => exact fun _ _ _ _ _ _ ws hl => match ws, hl with | [_], _ => rfl
  case bd2 => exact fun _ _ _ _ _ _ ws hl => match ws, hl with | [_], _ => rfl
  refine z_no (t_eq (t_cmp r_neS (d_callB (c_repr hgd hu64 q1 q2 q3 q4) (a_cons (d_var 6) a_nil) M.repr) (d_callB (c_repr hgd hu64 q1 q2 q3 q4) (a_cons (d_bin (r_catL (ds := [nT (Wm.outers ns), nT (Wm.outers ns)]) (ds2 := [nT (Wm.corners ns), nT (Wm.corners ns)]) (show 2 + 2 ≤ 100000 by decide))
    (d_bin (r_rep (n := 2) (ds := [nT (Wm.outers ns)]) (by decide) (show 1 ≤ 1000 by decide)) (d_lst (a_cons (d_callTy c_tupL (a_cons (d_var 2) a_nil) M.tuple) a_nil)) d_int) (d_bin (r_rep (n := 2) (ds := [nT (Wm.corners ns)]) (by decide) (show 1 ≤ 1000 by decide)) (d_lst (a_cons (d_callTy c_tupL (a_cons (d_var 4) a_nil) M.tuple) a_nil)) d_int)) a_nil) M.repr)) (by rw [decide_eq_true rfl]; rfl)) ?_
  refine z_no (t_eq (t_cmp r_neI (d_callB c_lenL (a_cons (d_var 2) a_nil) M.len) (d_bin r_add (d_callB c_lenL (a_cons (d_var 4) a_nil) M.len) d_int)) (by rw [nT_len, nT_len, Wm.outers_len, decide_eq_true (by omega)]; rfl)) ?_
  have kB : ∀ (i : Nat) (x7 x8 x9 : Option PyData), i < ns.length + 2 → SJ (cxOf CX0 P w K mg base NOn "_law_one_right" (defScope (top 69)) f (.ref c) A outer s H E).nox T t ((forBody ((defBody (top 69)).getD 6 (top 0))).drop 4) [some (nT ns), some (bxD (Wm.boxes ns)), some (lD (Wm.outers ns)), some (.int (i : Nat)), some (lD (Wm.corners ns)), none, some (.list [nT (Wm.outers ns), nT (Wm.outers ns), nT (Wm.corners ns), nT (Wm.corners ns)]), x7, x8, x9]
      (fun ρ' => ∃ x3 x7 x8 x9, ρ' = [some (nT ns), some (bxD (Wm.boxes ns)), some (lD (Wm.outers ns)), x3, some (lD (Wm.corners ns)), none, some (.list [nT (Wm.outers ns), nT (Wm.outers ns), nT (Wm.corners ns), nT (Wm.corners ns)]), x7, x8, x9]) (fun d => d = .bool true) := by
    intro i x7 x8 x9 hi
    have logi : ((i : Nat) : Int).natAbs.log2 < 1920 := by rw [Int.natAbs_natCast]; have := log_small (n := i) (by omega); omega
    have oks : okD 1 (.tuple [.str "row", .str (toString ((i : Nat) : Int))]) = true := rowOk i (by omega)
    have LS : LamS (defScope (top 69)) (lamScope ((forBody ((defBody (top 69)).getD 6 (top 0))).getD 4 (top 0))) := lamS_by (by decide +kernel)
    obtain ⟨dl, hR, hk, hy⟩ : ∃ d, RFo [bxD ((Wm.boxes ns).filter fun b => !(b.1 == i && decide ((b.2 : Int) = (Wm.g ns i : Nat) - 1)))] d ∧ okD 2 d = true ∧ (Wm.isCorner ns i = true → d = .list [nT (Wm.less ns i)]) := by
      by_cases c : i < ns.length
      · obtain ⟨d, h1, h2, _, h3⟩ := le i c
        exact ⟨d, by rw [wo_filter (sh.1.pos i c)]; exact h1, h2, h3⟩
      · have g0 : Wm.g ns i = 0 := Wm.g_ge (by omega)
        refine ⟨.list [nT ns], ?_, okL _, fun z => absurd (Wm.corner_lt z) c⟩
        rw [g0, show ((0 : Nat) : Int) - 1 = -1 from rfl, wo_all]
        exact rfo_boxes sh
    cases ho : Wm.isCorner ns i with
    | true =>
      have hil := Wm.corner_lt ho
      have hmem : ((zs (Wm.corners ns)).any (· == ((i : Nat) : Int))) = true := by rw [any_zs]; exact decide_eq_true (Wm.mem_corners.mpr ⟨hil, ho⟩)
      obtain rfl := hy ho
      have lsum := Wm.less_sum sh.1 ho
      have shm : SHP (Wm.less ns i) := ⟨Wm.less_shp sh.1 ho, by omega⟩
      have hou := Wm.less_outer sh.1 ho
      have okg : okD 2 (.tuple [.str "gave", nT (Wm.less ns i)]) = true := okGave _
      refine z_set 7 (P := fun d => d = .tuple [.str "gave", nT (Wm.less ns i)]) (j_caught (k := 4) M Tc Vc F hr TB rfl hmT hu LS (oc := .gv (nT (Wm.less ns i))) (fun A outer s HZ E f c' hr2 => d_dfX DN hr2 ⟨ns, i, sh, ho, rfl, rfl⟩ (a_cons (d_var 0) (a_cons (d_var 3) a_nil))) rfl) (fun d z => ?_) scOn.nd
      subst z
      refine z_let 9 (d_df DF h1 hR (a_cons (d_eq (d_lc (own := [("_law_x", 5)]) (n := (Wm.boxes ns).length) (f := fun j => !(((Wm.boxes ns).getD j (0, 0)).1 == i && decide ((((Wm.boxes ns).getD j (0, 0)).2 : Int) = (Wm.g ns i : Nat) - 1))) (v := fun j => bD ((Wm.boxes ns).getD j (0, 0))) rfl scOn.nd (blkOk_by (by kernel_rfl))
        (i_lst (d_var 1) (fun i hi => bx_at hi) (List.length_map ..)) rfl (js := [5]) (fun j hj => hj) (by omega) (fun j _ _ _ _ _ _ => g_name 5 scOn.nd) (fun j _ _ _ _ _ _ => ts_one (t_eq (t_cmp (r_ne hu64 (okD_sh (ok_bD 0 _)) (okD_sh (k := 1) (d := .tuple [.int (i : Nat), .int ((Wm.g ns i : Nat) - 1)]) rfl)) (d_var 5) (d_tup (a_cons (d_var 3) (a_cons (d_bin r_sub (d_ixT (ds := (zs ns).map PyData.int ++ [.int 0, .int 0]) (pad_at (m := 2) hi) (d_bin (r_catT (ds2 := [.int 0, .int 0]) (catm 2 (by decide))) (d_var 0) (d_tup (a_cons d_int (a_cons d_int a_nil)))) (d_var 3)) d_int) a_nil)))) (by rw [eqv_box]))) fun j _ _ _ _ _ _ _ => d_var 5) (items_bx (Wm.boxes ns) fun b => !(b.1 == i && decide ((b.2 : Int) = (Wm.g ns i : Nat) - 1)))) a_nil)) ?_ scOn.nd
      refine z_no (t_eq (t_cmp (r_ne hu64 (okD_sh okg) (okD_sh okg)) (d_var 7) (d_ifE (p := true) (t_eq (t_cmp r_inJ (d_var 3) (d_var 4)) hmem) (fun _ => d_tup (a_cons d_str (a_cons (d_ixL (ds := [nT (Wm.less ns i)]) (i := 0) rfl (d_var 9) d_int) a_nil))) (fun z => nomatch z))) (by rw [eqv_refl (nbGave _)]; rfl)) ?_
      refine z_no (t_w (w_and (p := true) (q := false) (t_eq (t_cmp r_inJ (d_var 3) (d_var 4)) hmem) fun _ => w_and1 (t_eq (q := false) (t_cmp (r_ne hu64 (okD_sh (ok_nT 0 _)) (okD_sh (ok_nT 0 _))) (d_kw2X (ds := [.int (i : Nat), nT (Wm.less ns i)]) DW VW ?bd h4 ⟨Wm.less ns i, i, shm, by omega, hou.1, hou.2, rfl, rfl⟩ (k_cons (d_var 3) (k_cons (d_ixT (ds := [.str "gave", nT (Wm.less ns i)]) (i := 1) rfl (d_var 7) d_int) k_nil))) (d_var 0)) (by rw [Wm.more_less sh.1 ho, eqv_refl (nb_nT _)]; rfl)))) ?_
      case bd => exact fun _ _ _ _ _ _ ws hl => have hl2 : ws.length = 2 := (List.length_reverse ..).symm.trans hl; match ws, hl2 with | [_, _], _ => rfl
      exact z_nil ⟨_, _, _, _, rfl⟩
    | false =>
      have hmem : ((zs (Wm.corners ns)).any (· == ((i : Nat) : Int))) = false := by rw [any_zs]; exact decide_eq_false (fun z => by have := (Wm.mem_corners.mp z).2; rw [ho] at this; cases this)
      refine z_set 7 (P := fun d => d = .tuple [.str "row", .str (toString ((i : Nat) : Int))]) (j_caught (k := 4) M Tc Vc F hr TB rfl hmT hu LS (oc := .rw ((i : Nat) : Int)) ⟨logi, fun A outer s HZ E f c' hr2 => lam_raise DN hr2 ⟨ns, i, sh, ho, rfl, rfl⟩ (a_cons (d_var 0) (a_cons (d_var 3) a_nil))⟩ rfl) (fun d z => ?_) scOn.nd
      subst z
      refine z_let 9 (d_df DF h1 hR (a_cons (d_eq (d_lc (own := [("_law_x", 5)]) (n := (Wm.boxes ns).length) (f := fun j => !(((Wm.boxes ns).getD j (0, 0)).1 == i && decide ((((Wm.boxes ns).getD j (0, 0)).2 : Int) = (Wm.g ns i : Nat) - 1))) (v := fun j => bD ((Wm.boxes ns).getD j (0, 0))) rfl scOn.nd (blkOk_by (by kernel_rfl))
        (i_lst (d_var 1) (fun i hi => bx_at hi) (List.length_map ..)) rfl (js := [5]) (fun j hj => hj) (by omega) (fun j _ _ _ _ _ _ => g_name 5 scOn.nd) (fun j _ _ _ _ _ _ => ts_one (t_eq (t_cmp (r_ne hu64 (okD_sh (ok_bD 0 _)) (okD_sh (k := 1) (d := .tuple [.int (i : Nat), .int ((Wm.g ns i : Nat) - 1)]) rfl)) (d_var 5) (d_tup (a_cons (d_var 3) (a_cons (d_bin r_sub (d_ixT (ds := (zs ns).map PyData.int ++ [.int 0, .int 0]) (pad_at (m := 2) hi) (d_bin (r_catT (ds2 := [.int 0, .int 0]) (catm 2 (by decide))) (d_var 0) (d_tup (a_cons d_int (a_cons d_int a_nil)))) (d_var 3)) d_int) a_nil)))) (by rw [eqv_box]))) fun j _ _ _ _ _ _ _ => d_var 5) (items_bx (Wm.boxes ns) fun b => !(b.1 == i && decide ((b.2 : Int) = (Wm.g ns i : Nat) - 1)))) a_nil)) ?_ scOn.nd
      refine z_no (t_eq (t_cmp (r_ne hu64 (okD_sh oks) (okD_sh oks)) (d_var 7) (d_ifE (p := false) (t_eq (t_cmp r_inJ (d_var 3) (d_var 4)) hmem) (fun z => nomatch z) (fun _ => d_tup (a_cons d_str (a_cons (d_callB (c_reprI logi) (a_cons (d_var 3) a_nil) M.repr) a_nil))))) (by rw [eqv_refl (nbRow _)]; rfl)) ?_
      refine z_no (t_w (w_and (p := false) (q := false) (t_eq (t_cmp r_inJ (d_var 3) (d_var 4)) hmem) fun z => nomatch z)) ?_
      exact z_nil ⟨_, _, _, _, rfl⟩
  refine z_rng (n := ns.length + 2) (m := ((ns.length + 2 : Nat) : Int)) (js := [3]) (fun i ρ' => ∃ x3 x7 x8 x9, ρ' = [some (nT ns), some (bxD (Wm.boxes ns)), some (lD (Wm.outers ns)), x3, some (lD (Wm.corners ns)), none, some (.list [nT (Wm.outers ns), nT (Wm.outers ns), nT (Wm.corners ns), nT (Wm.corners ns)]), x7, x8, x9]) (fun i ρ' => ρ'.set 3 (some (.int (i : Nat)))) (a_cons (d_eq (d_bin r_add (d_callB c_lenT (a_cons (d_var 0) a_nil) M.len) d_int) (by rw [nT_len]; rfl)) a_nil) (Int.toNat_natCast _) (by omega) (by omega) M.range ⟨_, _, _, _, rfl⟩
    (fun i ρ' hi h => g_name 3 scOn.nd) (fun i ρ' hi h => ?_) (fun ρ' h => ?_) rfl PassesOwn.never
  · obtain ⟨x3, x7, x8, x9, rfl⟩ := h
    have logi : ((i : Nat) : Int).natAbs.log2 < 1920 := by rw [Int.natAbs_natCast]; have := log_small (n := i) (by omega); omega
    have oks : okD 1 (.tuple [.str "row", .str (toString ((i : Nat) : Int))]) = true := rowOk i (by omega)
    have done : ∀ (x7 x8 x9 : Option PyData), SJ (cxOf CX0 P w K mg base NOn "_law_one_right" (defScope (top 69)) f (.ref c) A outer s H E).nox T t ((forBody ((defBody (top 69)).getD 6 (top 0))).drop 4) [some (nT ns), some (bxD (Wm.boxes ns)), some (lD (Wm.outers ns)), some (.int (i : Nat)), some (lD (Wm.corners ns)), none, some (.list [nT (Wm.outers ns), nT (Wm.outers ns), nT (Wm.corners ns), nT (Wm.corners ns)]), x7, x8, x9]
      (fun ρ' => ∃ x3 x7 x8 x9, ρ' = [some (nT ns), some (bxD (Wm.boxes ns)), some (lD (Wm.outers ns)), x3, some (lD (Wm.corners ns)), none, some (.list [nT (Wm.outers ns), nT (Wm.outers ns), nT (Wm.corners ns), nT (Wm.corners ns)]), x7, x8, x9]) (fun d => d = .bool true) := fun x7 x8 x9 => kB i x7 x8 x9 hi
    have LS : LamS (defScope (top 69)) (lamScope ((forBody ((defBody (top 69)).getD 6 (top 0))).getD 0 (top 0))) := lamS_by (by decide +kernel)
    obtain ⟨dm, hR, hk, _, hy⟩ := mo i
    cases ho : Wm.isOuter ns i with
    | true =>
      have hi2 := outer_le sh.1 ho
      have hmem : ((zs (Wm.outers ns)).any (· == ((i : Nat) : Int))) = true := by rw [any_zs]; exact decide_eq_true (Wm.mem_outers.mpr ⟨hi2, ho⟩)
      obtain rfl := hy ho
      have shm : SHP (Wm.more ns i) := ⟨Wm.more_shp sh.1 hi2 ho, by rw [Wm.more_sum hi2]; omega⟩
      have okg : okD 2 (.tuple [.str "gave", nT (Wm.more ns i)]) = true := okGave _
      refine z_set 7 (P := fun d => d = .tuple [.str "gave", nT (Wm.more ns i)]) (j_caught (k := 4) M Tc Vc F hr TB rfl hmT hu LS (oc := .gv (nT (Wm.more ns i))) (fun A outer s HZ E f c' hr2 => d_dfX DW hr2 ⟨ns, i, sh, hs, hi2, ho, rfl, rfl⟩ (a_cons (d_var 0) (a_cons (d_var 3) a_nil))) rfl) (fun d z => ?_) scOn.nd
      subst z
      refine z_let 8 (d_df DF h1 hR (a_cons (d_eq (d_bin (r_catL (ds := (Wm.boxes ns).map bD) (ds2 := [.tuple [.int (i : Nat), .int (Wm.g ns i : Nat)]]) catn) (d_var 1) (d_lst (a_cons (d_tup (a_cons (d_var 3) (a_cons (d_ixT (ds := (zs ns).map PyData.int ++ [.int 0, .int 0]) (pad_at (m := 2) hi) (d_bin (r_catT (ds2 := [.int 0, .int 0]) (catm 2 (by decide))) (d_var 0) (d_tup (a_cons d_int (a_cons d_int a_nil)))) (d_var 3)) a_nil))) a_nil))) (cat1 i)) a_nil)) ?_ scOn.nd
      refine z_no (t_eq (t_cmp (r_ne hu64 (okD_sh okg) (okD_sh okg)) (d_var 7) (d_ifE (p := true) (t_eq (t_cmp r_inJ (d_var 3) (d_var 2)) hmem) (fun _ => d_tup (a_cons d_str (a_cons (d_ixL (ds := [nT (Wm.more ns i)]) (i := 0) rfl (d_var 8) d_int) a_nil))) (fun z => nomatch z))) (by rw [eqv_refl (nbGave _)]; rfl)) ?_
      refine z_no (t_w (w_and (p := true) (q := false) (t_eq (t_cmp r_inJ (d_var 3) (d_var 2)) hmem) fun _ => w_and1 (t_eq (q := false) (t_cmp (r_ne hu64 (okD_sh (ok_nT 0 _)) (okD_sh (ok_nT 0 _))) (d_kw2X (ds := [.int (i : Nat), nT (Wm.more ns i)]) DN VN ?bd h4 ⟨Wm.more ns i, i, shm, Wm.more_corner sh.1 hi2 ho, rfl, rfl⟩ (k_cons (d_var 3) (k_cons (d_ixT (ds := [.str "gave", nT (Wm.more ns i)]) (i := 1) rfl (d_var 7) d_int) k_nil))) (d_var 0)) (by rw [Wm.less_more sh.1 hi2 ho, eqv_refl (nb_nT _)]; rfl)))) ?_
      case bd => exact fun _ _ _ _ _ _ ws hl => have hl2 : ws.length = 2 := (List.length_reverse ..).symm.trans hl; match ws, hl2 with | [_, _], _ => rfl
      exact done _ _ _
    | false =>
      have hno : ¬ (i ≤ ns.length ∧ Wm.isOuter ns i = true) := fun z => by rw [ho] at z; exact nomatch z.2
      have hmem : ((zs (Wm.outers ns)).any (· == ((i : Nat) : Int))) = false := by rw [any_zs]; exact decide_eq_false (fun z => hno (Wm.mem_outers.mp z))
      refine z_set 7 (P := fun d => d = .tuple [.str "row", .str (toString ((i : Nat) : Int))]) (j_caught (k := 4) M Tc Vc F hr TB rfl hmT hu LS (oc := .rw ((i : Nat) : Int)) ⟨logi, fun A outer s HZ E f c' hr2 => lam_raise DW hr2 ⟨ns, i, sh, hno, rfl, rfl⟩ (a_cons (d_var 0) (a_cons (d_var 3) a_nil))⟩ rfl) (fun d z => ?_) scOn.nd
      subst z
      refine z_let 8 (d_df DF h1 hR (a_cons (d_eq (d_bin (r_catL (ds := (Wm.boxes ns).map bD) (ds2 := [.tuple [.int (i : Nat), .int (Wm.g ns i : Nat)]]) catn) (d_var 1) (d_lst (a_cons (d_tup (a_cons (d_var 3) (a_cons (d_ixT (ds := (zs ns).map PyData.int ++ [.int 0, .int 0]) (pad_at (m := 2) hi) (d_bin (r_catT (ds2 := [.int 0, .int 0]) (catm 2 (by decide))) (d_var 0) (d_tup (a_cons d_int (a_cons d_int a_nil)))) (d_var 3)) a_nil))) a_nil))) (cat1 i)) a_nil)) ?_ scOn.nd
      refine z_no (t_eq (t_cmp (r_ne hu64 (okD_sh oks) (okD_sh oks)) (d_var 7) (d_ifE (p := false) (t_eq (t_cmp r_inJ (d_var 3) (d_var 2)) hmem) (fun z => nomatch z) (fun _ => d_tup (a_cons d_str (a_cons (d_callB (c_reprI logi) (a_cons (d_var 3) a_nil) M.repr) a_nil))))) (by rw [eqv_refl (nbRow _)]; rfl)) ?_
      refine z_no (t_w (w_and (p := false) (q := false) (t_eq (t_cmp r_inJ (d_var 3) (d_var 2)) hmem) fun z => nomatch z)) ?_
      exact done _ _ _
  · obtain ⟨x3, x7, x8, x9, rfl⟩ := h
    exact z_ret (P := fun d => d = .bool true) (j_ed d_bl rfl) fun d z => z
end
end Wd

set_option Elab.async false
set_option linter.all false
set_option maxRecDepth 100000
set_option maxHeartbeats 8000000
/-! _law_table_right. -/
namespace Wd
open PySem PySem.Spec PyProof.Rows L2 L2H Evl Wx We LamX
section
variable {X : Cx} {T : List (Addr × Str)} {t : Addr} {ρ : Rho} {a e : Expr} {es : List Expr} {d : PyData} {C : Addr} {pos apos p1 : Pos} {k : Nat} {R G : List PyData → PyData → Prop} {P : PyData → Prop} {Ps : List PyData → Prop} {pl : Sem Bool}
/-- Table.of(e) -/
theorem d_of {ns : List Nat} (Tc : TC X.K X.mg C) (S : Gs X.prog X.w X.K X.mg X.base C 9 (spD (ROf C))) (hr : Room 9 X.A) (hL : LET ns) (he : ED X e ρ (nT ns)) (hg : Gl X "Table" := by rfl)
    (hst : starEach [e] X.env = (false, eval e X.env) :: starEach [] X.env := by rfl) (hpl : (backTo pos (starEach [] X.env)).any (·.1) = false := by rfl)
    (ht : eval (.Call (.Attribute (.Name "Table" p1) "of" apos) [e] [] pos) X.env = (do
      let ov ← eval (.Name "Table" p1) X.env
      standAt apos.atName
      let (f, first) ← holding [ov] (getMethod ov "of" pl)
      callWith pos f first (backTo pos (starEach [e] X.env)) (backToKw pos (keywordEach [] X.env)))) : ED X (.Call (.Attribute (.Name "Table" p1) "of" apos) [e] [] pos) ρ (oT C (rT (Wm.rowsOf ns))) := by
  obtain ⟨mc, p, g, fd, cr, sm, F, b⟩ := S.ex
  exact fun σ B H ex s Q kk => (pe_static (E := E0) (pe_glob (v := .ref C) hg Tc.at_ rfl) cr sm F hr b pass0 pa_RA hst hpl ht).re ⟨rfl, (a_cons he a_nil hst) σ B H ex s _ fun vs B1 H1 g1 e1 => ⟨B1, _, _, g1.s, e1, ⟨ns, hL, rfl, rfl⟩, fun v B2 H2 g2 e2 => kk v B2 H2 (g1.trans g2) e2⟩⟩
/-- o.m(e ..), the arguments not told exactly -/
theorem j_meth {m : Str} {ps : List Str} {d0 : PyData} (Tc : TC X.K X.mg C) (Gm' : Gm X.prog X.w X.K X.mg X.base C m CX0 k ps (spD R)) (hr : Room k X.A) (ha : ED X a ρ (oT C d0)) (he : AJ X T t (e :: es) ρ Ps) (hP : ∀ ds, Ps ds → ∃ d, R (oT C d0 :: ds) d ∧ P d) (hmf : (m == ("filled" : Str)) = false)
    (ht : eval (.Call (.Attribute a m apos) (e :: es) [] pos) X.env = (do
      let ov ← eval a X.env
      standAt apos.atName
      let (f, first) ← holding [ov] (getMethod ov m pl)
      callWith pos f first (backTo pos (starEach (e :: es) X.env)) (backToKw pos (keywordEach [] X.env))))
    (hst : starEach (e :: es) X.env = (false, eval e X.env) :: starEach es X.env := by rfl) (hpl : (backTo pos (starEach es X.env)).any (·.1) = false := by rfl) : EJ X T t (.Call (.Attribute a m apos) (e :: es) [] pos) ρ P := fun σ B H js s Q q => by
  obtain ⟨g, fd, hm, F, b⟩ := Gm'.ex
  refine (pe_meth (E := E0) pe_RE Tc.cls hm F hr b .nil pass0 pa_RA hst hpl ht).re (j_ed (P := fun d => d = oT C d0) ha rfl σ B H js s _ fun v B1 H1 d1 g1 e1 z1 => ?_)
  subst z1
  obtain ⟨x, dx, u, rfl, h1, h2⟩ := oT_of e1
  refine ⟨x, dx, _, rfl, g1.s.ex _ _ h1, ?_, he σ B1 H1 g1.s (s.mono g1.b) _ fun vs B2 H2 ds g2 e2 p2 => ?_⟩
  · show List.lookup m [("filled", u)] = none
    rw [List.lookup_cons, hmf]
    rfl
  · rw [List.append_nil]
    obtain ⟨d, hR, hd⟩ := hP ds p2
    exact ⟨B2, _, d, g2.s.ex, .cons ((Da.obj h1 h2).mono g2.b) e2, hR, fun v3 B3 H3 g3 e3 => q v3 _ H3 d ((g1.trans g2).trans (GJ.of g2.s g3)) (e3.monoN (nob_n B3)) hd⟩
/-- e.f, a property -/
theorem j_pp {f : Str} {q : List (List Nat) → PyData} (Tc : TC X.K X.mg C) (Gp' : Gp X.prog X.w X.K X.mg X.base C f k (RG C q)) (hr : Room (k + 1) X.A) (ha : EJ X T t a ρ fun d => ∃ rows, TAB rows ∧ d = oT C (rT rows) ∧ P (q rows))
    (hab : attributeBase a f X.env (eval a X.env) = eval a X.env := by rfl) : EJ X T t (.Attribute a f pos) ρ P := fun σ B H js s Q qq => by
  obtain ⟨p, g, fd, hp, F, b⟩ := Gp'.ex
  refine (pe_prop (E := E0) pe_RE Tc.cls hp F hr b .nil pass0 hab).re (ha σ B H js s _ fun v B1 H1 d1 g1 e1 z1 => ?_)
  obtain ⟨rows, tb, rfl, hP⟩ := z1
  obtain ⟨x, dx, u, rfl, h1, h2⟩ := oT_of e1
  exact ⟨x, dx, _, rfl, g1.s.ex _ _ h1, B1, [oT C (rT rows)], q rows, g1.s.ex, .cons (.obj h1 h2) .nil, ⟨rows, tb, rfl, rfl⟩, fun v2 B2 H2 g2 e2 => qq v2 _ H2 _ (g1.trans (GJ.of g1.s g2)) (e2.monoN (nob_n B2)) hP⟩
/-- o.m(e ..) of a method that may raise, where it does not -/
theorem d_methX {m : Str} {ps : List Str} {d0 d2 : PyData} {ds : List PyData} {Cr : Addr} (Tc : TC X.K X.mg C) (Gm' : Gm X.prog X.w X.K X.mg X.base C m (L2.CX X.prog X.w) k ps (spX Cr R G)) (hr : Room k X.A) (hR : R (oT C d0 :: ds) d2) (ha : ED X a ρ (oT C d0)) (he : EA X (e :: es) ρ ds) (hmf : (m == ("filled" : Str)) = false)
    (ht : eval (.Call (.Attribute a m apos) (e :: es) [] pos) X.env = (do
      let ov ← eval a X.env
      standAt apos.atName
      let (f, first) ← holding [ov] (getMethod ov m pl)
      callWith pos f first (backTo pos (starEach (e :: es) X.env)) (backToKw pos (keywordEach [] X.env))))
    (hst : starEach (e :: es) X.env = (false, eval e X.env) :: starEach es X.env := by rfl) (hpl : (backTo pos (starEach es X.env)).any (·.1) = false := by rfl) : ED X (.Call (.Attribute a m apos) (e :: es) [] pos) ρ d2 := by
  obtain ⟨g, fd, hm, F, b⟩ := Gm'.ex
  exact d_meth Tc.cls hm F hr b passL (fun vs B H Q ex e1 k1 => ⟨B, _, ex, e1, .inl ⟨d2, hR, k1⟩⟩) hmf ha he hst hpl ht
end
section
variable {X : Cx} {C Cr : Addr} {k : Nat} {ps : List Str} {R G : List PyData → PyData → Prop} {scope : Scope} {f c' : Addr} {A : Around} {outer : List Env} {s : Shared} {HZ : Hp} {E : XK} {ρ : Rho} {ds : List PyData} {i : Int} {m : Str} {a e : Expr} {es : List Expr} {apos pos : Pos} {pl : Sem Bool} {d0 : PyData}
theorem lam_raiseM (Tc : TC X.K X.mg C) (Gm' : Gm X.prog X.w X.K X.mg X.base C m (L2.CX X.prog X.w) k ps (spX Cr R G)) (hr : Room k (A.deeper (lamEnv X scope s.heap.objs.size f c'))) (hG : G (oT C d0 :: ds) (.int i)) (ha : ED (lamCx X A outer s HZ E scope f c') a ρ (oT C d0)) (he : EA (lamCx X A outer s HZ E scope f c') (e :: es) ρ ds) (hmf : (m == ("filled" : Str)) = false)
    (ht : eval (.Call (.Attribute a m apos) (e :: es) [] pos) (lamCx X A outer s HZ E scope f c').env = (do
      let ov ← eval a (lamCx X A outer s HZ E scope f c').env
      standAt apos.atName
      let (f₁, first) ← holding [ov] (getMethod ov m pl)
      callWith pos f₁ first (backTo pos (starEach (e :: es) (lamCx X A outer s HZ E scope f c').env)) (backToKw pos (keywordEach [] (lamCx X A outer s HZ E scope f c').env))))
    (hst : starEach (e :: es) (lamCx X A outer s HZ E scope f c').env = (false, eval e (lamCx X A outer s HZ E scope f c').env) :: starEach es (lamCx X A outer s HZ E scope f c').env := by rfl) (hpl : (backTo pos (starEach es (lamCx X A outer s HZ E scope f c').env)).any (·.1) = false := by rfl) :
    ∀ (σ : L2.St) (B H : Hp), Ex B H → StD B σ ρ → (∀ H' x, Ex H H' → H' x = some (.xd [("given", .int i)]) → E (.ref Cr) (some x) H') → ∀ Q : VK, RE (lamCx X A outer s HZ E scope f c') (.Call (.Attribute a m apos) (e :: es) [] pos) σ H Q := fun σ B H ex sd hE Q => by
  obtain ⟨g, fd, hm, F, b⟩ := Gm'.ex
  refine (pe_meth (X := lamCx X A outer s HZ E scope f c') (E := E) pe_RE Tc.cls hm F hr b .nil lam_passes pa_RA hst hpl ht).re (ha σ B H ex sd _ fun v B1 H1 g1 e1 => ?_)
  obtain ⟨x, dx, u, rfl, h1, h2⟩ := oT_of e1
  refine ⟨x, dx, _, rfl, g1.s _ _ h1, ?_, he σ B1 H1 g1.s (sd.mono g1.b) _ fun vs B2 H2 g2 e2 => ?_⟩
  · show List.lookup m [("filled", u)] = none
    rw [List.lookup_cons, hmf]
    rfl
  · rw [List.append_nil]
    refine ⟨B2, _, g2.s, .cons ((Da.obj h1 h2).mono g2.b) e2, .inr ⟨.int i, hG, fun v B3 H3 y g3 e3 hy => ?_⟩⟩
    obtain rfl := e3.int_of
    exact hE _ y (((g1.h.trans g2.h).trans g3.h).trans (Ex.new hy)) upd_same
end
theorem put_outer {rows : List (List Nat)} (h : TAB rows) {x : Nat} (h1 : 1 ≤ x) (h2 : x ≤ 12) : (Wm.putRows rows x).2 ∈ Wm.outers (Wm.lens rows) ∧ Wm.lens (Wm.putRows rows x).1 = Wm.more (Wm.lens rows) (Wm.putRows rows x).2 := by
  obtain ⟨q1, q2⟩ := Wm.putRows_lens rows x
  have hl : (Wm.lens rows).length = rows.length := List.length_map ..
  have hs : Wm.Shp (Wm.more (Wm.lens rows) (Wm.putRows rows x).2) := by rw [← q1]; exact (Wm.putRows_tab h.t ⟨h1, h2⟩).shp
  refine ⟨Wm.mem_outers.mpr ⟨by omega, ?_⟩, q1⟩
  generalize (Wm.putRows rows x).2 = i at *
  unfold Wm.isOuter
  rw [Bool.or_eq_true]
  by_cases c : i = 0
  · exact .inl (by rw [c]; rfl)
  · refine .inr (decide_eq_true ?_)
    have := hs.dec (i - 1)
    rw [Nat.sub_add_cancel (by omega), Wm.g_more (by omega), Wm.g_more (by omega), if_pos rfl, if_neg (by omega)] at this
    omega
abbrev NTr : List Str := ["_law_tub_here", "_law_word_here", "_law_table_here", "_law_form_here", "_law_more", "_law_i", "_law_came"]
theorem scTr : FnScope NTr ["_law_tub_here", "_law_word_here"] (defScope (top 71)) := ⟨rfl, rfl, rfl, by decide +kernel, rfl, by decide +kernel, by decide +kernel⟩
section
variable {P : Program} {w : World} {K : PySem.W.Frag} {mg : Str → Option Value} {base : Heap} {T : List (Addr × Str)}
def RTr : Addr → List PyData → (PyData → Prop) → Prop := fun t ds P => ∃ ns : List Nat, LET ns ∧ ns.length ≤ 11 ∧ ds = [rD t, nT ns] ∧ P = fun d => d = .bool true
theorem law_table_right_df {C Cr c Pt : Addr} (M : Bt mg) (Tc : Ct K mg Cr) (D : Dc K mg "_law_table_right" 71 c) (TB : TabB base mg c Pt) (hmT : (Pt, qL "_law_table_right") ∈ T) (hu : ∀ p ∈ T, p.1 = Pt → p.2 = qL "_law_table_right") (Vc : Dv K mg "_law_caught" 65) (F : DfJ P w K mg base 1 "_law_sort" "_law_e" (spSt Cr))
    (Tt : TC K mg C) (Go : Gs P w K mg base C 9 (spD (ROf C))) (Gsh : Gp P w K mg base C "shape" 2 (RG C fun rows => nT (Wm.lens rows))) (Gpu : Gm P w K mg base C "put" CX0 9 ["self", "letter"] (spD (RPut C))) (Gta : Gm P w K mg base C "taken" (L2.CX P w) 9 ["self", "row"] (spX Cr (RTk C) (GTk C)))
    (DL : Df P w K mg base CX0 2 "_law_lens" ["_law_word_here"] (spD RLn)) (Dd : DfG P w K mg base 1 "_law_dip" ["_law_tub_here", "_law_top"] (spJ T RDp)) (DO : Df P w K mg base CX0 4 "outer_rows" ["shape"] (spD (RF1 Wm.outers))) (DC : Df P w K mg base CX0 4 "corner_rows" ["shape"] (spD (RF1 Wm.corners)))
    (DW : Df P w K mg base (L2.CX P w) 4 "with_box" ["shape", "row"] (spX Cr RWith GWith)) (DN : Df P w K mg base (L2.CX P w) 4 "without_box" ["shape", "row"] (spX Cr RWout GWout)) :
    DfG P w K mg base 12 "_law_table_right" ["_law_tub_here", "_law_word_here"] (spJ T RTr) := by
  refine df_Jc D scTr (fun _ _ _ _ _ _ us hl => match us, hl with | [_, _], _ => rfl) (fun t ds Pd h => by obtain ⟨_, _, _, rfl, _⟩ := h; rfl) fun f A outer s H E t ds Pd hgd hr h => ?_
  obtain ⟨ns, hL, hl11, rfl, rfl⟩ := h
  have hu64 : (A.deeper (envOfC "_law_table_right" (defScope (top 71)) s.heap.objs.size f (.ref c))).units + 64 < cLine := hr.units
  have hu65 : (A.deeper (envOfC "_law_table_right" (defScope (top 71)) s.heap.objs.size f (.ref c))).units + 65 < cLine := by have := hr.un; omega
  have h1 : Room 1 (A.deeper (envOfC "_law_table_right" (defScope (top 71)) s.heap.objs.size f (.ref c))) := hr.mono (by decide)
  have h2 : Room 2 (A.deeper (envOfC "_law_table_right" (defScope (top 71)) s.heap.objs.size f (.ref c))) := hr.mono (by decide)
  have h3 : Room 3 (A.deeper (envOfC "_law_table_right" (defScope (top 71)) s.heap.objs.size f (.ref c))) := hr.mono (by decide)
  have h4 : Room 4 (A.deeper (envOfC "_law_table_right" (defScope (top 71)) s.heap.objs.size f (.ref c))) := hr.mono (by decide)
  have h9 : Room 9 (A.deeper (envOfC "_law_table_right" (defScope (top 71)) s.heap.objs.size f (.ref c))) := hr.mono (by decide)
  have tb : TAB (Wm.rowsOf ns) := TAB.of hL
  have hsum : (Wm.lens (Wm.rowsOf ns)).sum = ns.length := (Wm.rowsOf_ok ns hL.2).2
  generalize hrows : Wm.rowsOf ns = rows at *
  have sh : SHP (Wm.lens rows) := ⟨tb.t.shp, by have := tb.s; omega⟩
  have ll : (Wm.lens rows).length ≤ 12 := by unfold Wm.lens; rw [List.length_map]; exact tb.len
  refine z_let 2 (d_eq (d_of Tt Go h9 hL (d_var 1) (ht := rfl)) (by rw [hrows])) ?_ scTr.nd
  refine z_let 3 (d_pp (q := fun rows => nT (Wm.lens rows)) (rows := rows) Tt Gsh h3 tb (d_var 2)) ?_ scTr.nd
  refine z_no (t_eq (t_cmp (r_ne hu64 (okD_sh (ok_nT 0 _)) (okD_sh (ok_nT 0 _))) (d_var 3) (d_df DL h2 ⟨ns, hL, rfl, rfl⟩ (a_cons (d_var 1) a_nil))) (by rw [hrows, eqv_refl (nb_nT _)]; rfl)) ?_
  refine z_set 4 (P := fun d => ∃ i, i ∈ Wm.outers (Wm.lens rows) ∧ d = nT (Wm.more (Wm.lens rows) i)) (j_pp (P := fun d => ∃ i, i ∈ Wm.outers (Wm.lens rows) ∧ d = nT (Wm.more (Wm.lens rows) i)) (q := fun rows => nT (Wm.lens rows)) Tt Gsh h3 (j_meth Tt Gpu h9 (d_var 2) (aj_cons (Ps := fun ds => ds = []) (P := fun d => ∃ x : Nat, 1 ≤ x ∧ x ≤ 12 ∧ d = .int (x : Nat)) (Ps2 := fun ds => ∃ x : Nat, 1 ≤ x ∧ x ≤ 12 ∧ ds = [.int (x : Nat)])
    (j_bin (f := fun i j => i + j) (P1 := fun d => d = .int 1) (P2 := fun d => ∃ y : Nat, y < 12 ∧ d = .int (y : Nat)) op_add (j_ed d_int ⟨1, rfl, rfl⟩) (j_df Dd hgd h1 (a2 (j_ed (d_var 0) rfl) (P2 := fun d => d = .int (12 : Nat)) (j_ed d_int rfl)) fun ds z => ?dip) fun i j z1 z2 => ?sum) (aj_nil rfl) fun d ds z1 z2 => ?arg) (fun ds z => ?put) (by decide) rfl)) (fun d z => ?_) scTr.nd
  case dip =>
    obtain ⟨d2, rfl, rfl⟩ := z
    exact ⟨_, ⟨12, by decide, by decide, rfl, rfl⟩, fun d hd => by
      obtain ⟨y, h1, rfl⟩ := hd
      exact ⟨(y : Nat), rfl, y, h1, rfl⟩⟩
  case sum =>
    obtain ⟨y, h1, z2⟩ := z2
    injection z1 with z1
    injection z2 with z2
    exact ⟨y + 1, by omega, by omega, congrArg PyData.int (by rw [z1, z2]; omega)⟩
  case arg =>
    obtain ⟨x, a1, a2, rfl⟩ := z1
    subst z2
    exact ⟨x, a1, a2, rfl⟩
  case put =>
    obtain ⟨x, a1, a2, rfl⟩ := z
    have po := put_outer tb a1 a2
    exact ⟨_, ⟨rows, x, tb, by omega, a1, a2, rfl, rfl⟩, _, tb.put (by omega) a1 a2, rfl, _, po.1, by rw [po.2]⟩
  obtain ⟨i0, hi0, rfl⟩ := z
  have gO : ∀ j, j < (Wm.outers (Wm.lens rows)).length → Wm.g (Wm.outers (Wm.lens rows)) j ∈ Wm.outers (Wm.lens rows) := fun j hj => by rw [Wm.g_lt hj]; exact List.getElem_mem hj
  have lo : (Wm.outers (Wm.lens rows)).length ≤ 100 := by
    have : (Wm.outers (Wm.lens rows)).length ≤ (List.range ((Wm.lens rows).length + 1)).length := List.length_filter_le _ _
    rw [List.length_range] at this; omega
  refine z_no (t_eq (q := false) (t_cmp (r_niL (ds := itemsD (Wm.outers (Wm.lens rows)).length (fun _ => true) fun j => nT (Wm.more (Wm.lens rows) (Wm.g (Wm.outers (Wm.lens rows)) j))) hu65 (okD_sh (ok_nT 0 _)) (okD_sh (k := 2) ?okl)) (d_var 4) (d_lc (own := [("_law_i", 5)]) (n := (Wm.outers (Wm.lens rows)).length) (f := fun _ => true) (v := fun j => nT (Wm.more (Wm.lens rows) (Wm.g (Wm.outers (Wm.lens rows)) j))) rfl scTr.nd (blkOk_by (by kernel_rfl))
    (i_tup (d_df DO h4 ⟨Wm.lens rows, sh, rfl, rfl⟩ (a_cons (d_var 3) a_nil)) (fun j hj => nT_at hj) (nT_len _)) rfl (js := [5]) (fun j hj => hj) (by omega) (fun j _ _ _ _ _ _ => g_name 5 scTr.nd) (fun j _ _ _ _ _ _ => ts_nil) fun j hj _ _ _ _ _ _ => d_dfX DW h4 ⟨Wm.lens rows, Wm.g (Wm.outers (Wm.lens rows)) j, sh, by omega, (Wm.mem_outers.mp (gO j hj)).1, (Wm.mem_outers.mp (gO j hj)).2, rfl, rfl⟩ (a_cons (d_var 3) (a_cons (d_var 5) a_nil)))) ?any) ?_
  case okl =>
    rw [itemsD_all]
    show ((List.range _).map _).all (okD 1) = true
    rw [List.all_map, List.all_eq_true]
    exact fun j _ => ok_nT 0 _
  case any =>
    rw [itemsD_all]
    obtain ⟨j, hj, e⟩ := List.getElem_of_mem hi0
    have : ((List.range (Wm.outers (Wm.lens rows)).length).map fun j => nT (Wm.more (Wm.lens rows) (Wm.g (Wm.outers (Wm.lens rows)) j))).any (fun z => PyData.eqv z (nT (Wm.more (Wm.lens rows) i0))) = true := by
      rw [List.any_eq_true]
      refine ⟨_, List.mem_map.mpr ⟨j, List.mem_range.mpr hj, rfl⟩, ?_⟩
      show PyData.eqv (nT (Wm.more (Wm.lens rows) (Wm.g (Wm.outers (Wm.lens rows)) j))) _ = true
      rw [Wm.g_lt hj, e]
      exact eqv_refl (nb_nT _)
    rw [this]; rfl
  refine z_rng (n := (Wm.lens rows).length + 1) (m := (((Wm.lens rows).length + 1 : Nat) : Int)) (js := [5]) (fun i ρ' => ∃ x5 x6, ρ' = [some (rD t), some (nT ns), some (oT C (rT rows)), some (nT (Wm.lens rows)), some (nT (Wm.more (Wm.lens rows) i0)), x5, x6]) (fun i ρ' => ρ'.set 5 (some (.int (i : Nat)))) (a_cons (d_eq (d_bin r_add (d_callB c_lenT (a_cons (d_var 3) a_nil) M.len) d_int) (by rw [nT_len]; rfl)) a_nil) (Int.toNat_natCast _) (by omega) (by omega) M.range ⟨_, _, rfl⟩
    (fun i ρ' hi h => g_name 5 scTr.nd) (fun i ρ' hi h => ?_) (fun ρ' h => ?_) rfl PassesOwn.never
  · obtain ⟨x5, x6, rfl⟩ := h
    have logi : ((i : Nat) : Int).natAbs.log2 < 1920 := by rw [Int.natAbs_natCast]; have := log_small (n := i) (by omega); omega
    have oks : okD 1 (.tuple [.str "row", .str (toString ((i : Nat) : Int))]) = true := rowOk i (by omega)
    have LS : LamS (defScope (top 71)) (lamScope ((forBody ((defBody (top 71)).getD 5 (top 0))).getD 0 (top 0))) := lamS_by (by decide +kernel)
    cases ho : Wm.isCorner (Wm.lens rows) i with
    | true =>
      have hil := Wm.corner_lt ho
      have hmem : ((zs (Wm.corners (Wm.lens rows))).any (· == ((i : Nat) : Int))) = true := by rw [any_zs]; exact decide_eq_true (Wm.mem_corners.mpr ⟨hil, ho⟩)
      have tk := Wm.takeRows_ok tb.t ho
      refine z_set 6 (P := fun d => d = .tuple [.str "gave", .tuple [oT C (rT (Wm.takeRows rows i).1), .int ((Wm.takeRows rows i).2 : Nat)]]) (j_caught (k := 9) M Tc Vc F hr TB rfl hmT hu LS (oc := .gv (.tuple [oT C (rT (Wm.takeRows rows i).1), .int ((Wm.takeRows rows i).2 : Nat)])) (fun A outer s HZ E f c' hr2 => d_methX Tt Gta hr2 ⟨rows, i, tb, ho, rfl, rfl⟩ (d_var 2) (a_cons (d_var 5) a_nil) (by decide) rfl) rfl) (fun d z => ?_) scTr.nd
      subst z
      refine z_if (P := fun p => p = false) (M := fun ρ' => ∃ x5 x6, ρ' = [some (rD t), some (nT ns), some (oT C (rT rows)), some (nT (Wm.lens rows)), some (nT (Wm.more (Wm.lens rows) i0)), x5, x6]) (j_et (t_eq (t_cmp r_niI (d_var 5) (d_df DC h4 ⟨Wm.lens rows, sh, rfl, rfl⟩ (a_cons (d_var 3) a_nil))) (by rw [hmem]; rfl)) rfl) (fun z => nomatch z) (fun _ => ?_) fun ρ' h => z_nil h
      refine z_no (t_w (w_or (p := false) (q := false) (t_eq (t_cmp r_neS (d_ixT (ds := [.str "gave", .tuple [oT C (rT (Wm.takeRows rows i).1), .int ((Wm.takeRows rows i).2 : Nat)]]) (i := 0) rfl (d_var 6) d_int) d_str) (by decide +kernel)) fun _ => w_or1 (t_eq (q := false) (t_cmp (r_ne hu64 (okD_sh (ok_nT 0 _)) (okD_sh (ok_nT 0 _))) (d_pp (q := fun rows => nT (Wm.lens rows)) (rows := (Wm.takeRows rows i).1) Tt Gsh h3 (tb.take ho)
        (d_ixT (ds := [oT C (rT (Wm.takeRows rows i).1), .int ((Wm.takeRows rows i).2 : Nat)]) (i := 0) rfl (d_ixT (ds := [.str "gave", .tuple [oT C (rT (Wm.takeRows rows i).1), .int ((Wm.takeRows rows i).2 : Nat)]]) (i := 1) rfl (d_var 6) d_int) d_int)) (d_dfX DN h4 ⟨Wm.lens rows, i, sh, ho, rfl, rfl⟩ (a_cons (d_var 3) (a_cons (d_var 5) a_nil)))) (by rw [tk.2, eqv_refl (nb_nT _)]; rfl)))) ?_
      exact z_nil ⟨_, _, rfl⟩
    | false =>
      have hmem : ((zs (Wm.corners (Wm.lens rows))).any (· == ((i : Nat) : Int))) = false := by rw [any_zs]; exact decide_eq_false (fun z => by have := (Wm.mem_corners.mp z).2; rw [ho] at this; cases this)
      refine z_set 6 (P := fun d => d = .tuple [.str "row", .str (toString ((i : Nat) : Int))]) (j_caught (k := 9) M Tc Vc F hr TB rfl hmT hu LS (oc := .rw ((i : Nat) : Int)) ⟨logi, fun A outer s HZ E f c' hr2 => lam_raiseM Tt Gta hr2 ⟨rows, i, tb, ho, rfl, rfl⟩ (d_var 2) (a_cons (d_var 5) a_nil) (by decide) rfl⟩ rfl) (fun d z => ?_) scTr.nd
      subst z
      refine z_if (P := fun p => p = true) (M := fun ρ' => ∃ x5 x6, ρ' = [some (rD t), some (nT ns), some (oT C (rT rows)), some (nT (Wm.lens rows)), some (nT (Wm.more (Wm.lens rows) i0)), x5, x6]) (j_et (t_eq (t_cmp r_niI (d_var 5) (d_df DC h4 ⟨Wm.lens rows, sh, rfl, rfl⟩ (a_cons (d_var 3) a_nil))) (by rw [hmem]; rfl)) rfl) (fun _ => ?_) (fun z => nomatch z) fun ρ' h => z_nil h
      refine z_no (t_eq (t_cmp (r_ne hu64 (okD_sh oks) (okD_sh oks)) (d_var 6) (d_tup (a_cons d_str (a_cons (d_callB (c_reprI logi) (a_cons (d_var 5) a_nil) M.repr) a_nil)))) (by rw [eqv_refl (nbRow _)]; rfl)) ?_
      exact z_nil ⟨_, _, rfl⟩
  · obtain ⟨x5, x6, rfl⟩ := h
    exact z_ret (P := fun d => d = .bool true) (j_ed d_bl rfl) fun d z => z
end
end Wd

set_option Elab.async false
set_option linter.all false
set_option maxRecDepth 100000
set_option maxHeartbeats 8000000
/-! _law_right. -/
namespace Wd
open PySem PySem.Spec PyProof.Rows L2 L2H Evl Wx We LamX
section
variable {X : Cx} {T : List (Addr × Str)} {t : Addr} {ρ : Rho} {N : Rho → Prop} {R : PyData → Prop} {rest : List Stmt} {pos : Pos} {e : Expr} {P : PyData → Prop}
/-- x, y = a, b, both kept in locals -/
theorem z_par (i j : Nat) {x y : Str} {a b : Expr} {px py pt : Pos} {kt k2 pt2} {Ps : List PyData → Prop} (he : AJ X T t [a, b] ρ Ps) (hl : ∀ ds, Ps ds → ∃ d1 d2, ds = [d1, d2]) (k : ∀ d1 d2, Ps [d1, d2] → SJ X T t rest ((ρ.set i (some d1)).set j (some d2)) N R) (hc : X.calm = true) (hN : X.N.Nodup) (hij : i ≠ j) (hi : X.N[i]? = some x := by rfl) (hj : X.N[j]? = some y := by rfl)
    (hx : X.env.scope.names.lookup x = some .local := by rfl) (hy : X.env.scope.names.lookup y = some .local := by rfl) (hw : swappedStores [.Tuple [.Name x px, .Name y py] kt pt] (.Tuple [a, b] k2 pt2) X.env = pure (some [x, y]) := by rfl) (hs : swapsWithSole [.Tuple [.Name x px, .Name y py] kt pt] (.Tuple [a, b] k2 pt2) pos.line X.env = pure false := by rfl) :
    SJ X T t (.Assign [.Tuple [.Name x px, .Name y py] kt pt] (.Tuple [a, b] k2 pt2) pos :: rest) ρ N R := z_cons (M := fun ρ' => ∃ d1 d2, Ps [d1, d2] ∧ ρ' = (ρ.set i (some d1)).set j (some d2)) (fun σ B H D s sd n r => (ps_par hc hN hi hj hij hx hy pa_RA hw hs).rs (he σ B H s sd _ fun vs B1 H1 ds g1 e1 p1 => by
  obtain ⟨d1, d2, rfl⟩ := hl ds p1
  cases e1 with
  | cons q1 e1 =>
    cases e1 with
    | cons q2 e1 =>
      cases e1
      exact ⟨_, _, rfl, n _ B1 H1 _ g1 (((sd.mono g1.b).set q1).set q2) ⟨d1, d2, p1, rfl⟩⟩)) fun ρ' z => by
  obtain ⟨d1, d2, p1, rfl⟩ := z
  exact k d1 d2 p1
theorem c_min2 {i j : Int} (hc : X.calm = true) : CalR X (.builtin "min") [.int i, .int j] (.int (if j < i then j else i)) := ⟨_, call_min2 hc, fun vs B H ex e1 Q k => by
  cases e1 with
  | cons q1 e1 =>
    cases e1 with
    | cons q2 e1 =>
      cases e1
      obtain rfl := q1.int_of
      obtain rfl := q2.int_of
      exact ⟨i, j, rfl, k _ B H (Gr.refl ex) (.int _)⟩⟩
end
theorem g_map2 (ns : List Nat) (i : Nat) : Wm.g (ns.map fun n => min n 2) i = min (Wm.g ns i) 2 := by
  unfold Wm.g
  rw [List.getD_eq_getElem?_getD, List.getD_eq_getElem?_getD, List.getElem?_map]
  cases ns[i]? <;> rfl
theorem sum_map2 (ns : List Nat) : (ns.map fun n => min n 2).sum ≤ ns.sum := by
  induction ns with
  | nil => exact Nat.le_refl _
  | cons n ns ih => rw [List.map_cons, List.sum_cons, List.sum_cons]; omega
theorem shp_map2 {ns : List Nat} (h : SHP ns) : SHP (ns.map fun n => min n 2) := ⟨⟨fun i => by rw [g_map2, g_map2]; have := h.1.dec i; omega, fun i hi => by rw [List.length_map] at hi; rw [g_map2]; have := h.1.pos i hi; omega⟩, Nat.le_trans (sum_map2 ns) h.2⟩
abbrev NRi : List Str := ["_law_tub_here", "_law_lap", "_law_form_here", "_law_other_form", "_law_inner_form", "_law_each"]
theorem scRi : FnScope NRi ["_law_tub_here"] (defScope (top 72)) := ⟨rfl, rfl, rfl, by decide +kernel, rfl, by decide +kernel, by decide +kernel⟩
section
variable {P : Program} {w : World} {K : PySem.W.Frag} {mg : Str → Option Value} {base : Heap} {T : List (Addr × Str)}
def RRi : Addr → List PyData → (PyData → Prop) → Prop := fun t ds P => ds = [rD t] ∧ P = fun d => d = .bool true
theorem law_right_df (M : Bt mg) (D : Dv K mg "_law_right" 72) (Dd : DfG P w K mg base 1 "_law_dip" ["_law_tub_here", "_law_top"] (spJ T RDp)) (Df' : DfG P w K mg base 3 "_law_form" ["_law_tub_here", "_law_size"] (spJ T RFm)) (Dw : DfG P w K mg base 3 "_law_word" ["_law_tub_here", "_law_most"] (spJ T RWd))
    (D1 : DfG P w K mg base 7 "_law_one_right" ["_law_form_here"] (spJ T ROn)) (D2 : DfG P w K mg base 5 "_law_two_right" ["_law_form_here", "_law_other_form"] (spD R2R)) (Dt : DfG P w K mg base 12 "_law_table_right" ["_law_tub_here", "_law_word_here"] (spJ T RTr)) :
    DfG P w K mg base 13 "_law_right" ["_law_tub_here"] (spJ T RRi) := by
  refine df_J D scRi (fun _ _ _ _ _ _ us hl => match us, hl with | [_], _ => rfl) (fun t ds Pd h => by obtain ⟨rfl, _⟩ := h; rfl) fun f cdv A outer s H E t ds Pd hgd hr h => ?_
  obtain ⟨rfl, rfl⟩ := h
  have h1 : Room 1 (A.deeper (envOfC "_law_right" (defScope (top 72)) s.heap.objs.size f cdv)) := hr.mono (by decide)
  have h3 : Room 3 (A.deeper (envOfC "_law_right" (defScope (top 72)) s.heap.objs.size f cdv)) := hr.mono (by decide)
  have h5 : Room 5 (A.deeper (envOfC "_law_right" (defScope (top 72)) s.heap.objs.size f cdv)) := hr.mono (by decide)
  have h7 : Room 7 (A.deeper (envOfC "_law_right" (defScope (top 72)) s.heap.objs.size f cdv)) := hr.mono (by decide)
  have dip : ∀ m : Nat, 1 ≤ m → m ≤ 40 → ∀ ds : List PyData, (∃ d2, d2 = PyData.int (m : Nat) ∧ ds = [rD t, d2]) → ∃ P2, RDp t ds P2 ∧ ∀ d, P2 d → ∃ r : Nat, r < m ∧ d = .int (r : Nat) := fun m m1 m2 ds z => by
    obtain ⟨d2, rfl, rfl⟩ := z
    exact ⟨_, ⟨m, m1, by omega, rfl, rfl⟩, fun d hd => hd⟩
  have frm : ∀ m : Nat, m ≤ 40 → ∀ ds : List PyData, (∃ d2, (∃ r : Nat, r < m ∧ d2 = PyData.int (r : Nat)) ∧ ds = [rD t, d2]) → ∃ P2, RFm t ds P2 ∧ ∀ d, P2 d → ∃ ns : List Nat, Wm.Shp ns ∧ ns.sum < m ∧ d = nT ns := fun m m1 ds z => by
    obtain ⟨d2, ⟨r, hr, rfl⟩, rfl⟩ := z
    exact ⟨_, ⟨r, by omega, rfl, rfl⟩, fun d hd => by
      obtain ⟨ns, a1, a2, rfl⟩ := hd
      exact ⟨ns, a1, by omega, rfl⟩⟩
  refine z_rng (n := 6) (m := 6) (js := [1]) (fun i ρ' => ∃ x1 x2 x3 x4 x5, ρ' = [some (rD t), x1, x2, x3, x4, x5]) (fun i ρ' => ρ'.set 1 (some (.int (i : Nat)))) (a_cons d_int a_nil) rfl (by decide) (by decide) M.range ⟨_, _, _, _, _, rfl⟩
    (fun i ρ' hi h => g_name 1 scRi.nd) (fun i ρ' hi h => ?_) (fun ρ' h => ?_) rfl PassesOwn.never
  · obtain ⟨x1, x2, x3, x4, x5, rfl⟩ := h
    refine z_par 2 3 (Ps := fun ds => ∃ a o : List Nat, (Wm.Shp a ∧ a.sum < 40) ∧ (Wm.Shp o ∧ o.sum < 40) ∧ ds = [nT a, nT o]) (aj_cons (P := fun d => ∃ a : List Nat, (Wm.Shp a ∧ a.sum < 40) ∧ d = nT a) (Ps := fun ds => ∃ a : List Nat, (Wm.Shp a ∧ a.sum < 40) ∧ ds = [nT a])
        (j_imp (j_df Df' hgd h3 (a2 (j_ed (d_var 0) rfl) (P2 := fun d => ∃ r : Nat, r < 40 ∧ d = .int (r : Nat)) (j_df Dd hgd h1 (a2 (j_ed (d_var 0) rfl) (P2 := fun d => d = .int (40 : Nat)) (j_ed d_int rfl)) (dip 40 (by decide) (by decide)))) (frm 40 (by decide))) fun d z => ?f1)
        (aj_cons (P := fun d => ∃ a : List Nat, (Wm.Shp a ∧ a.sum < 40) ∧ d = nT a) (Ps := fun ds => ds = []) (j_imp (j_df Df' hgd h3 (a2 (j_ed (d_var 0) rfl) (P2 := fun d => ∃ r : Nat, r < 20 ∧ d = .int (r : Nat)) (j_df Dd hgd h1 (a2 (j_ed (d_var 0) rfl) (P2 := fun d => d = .int (20 : Nat)) (j_ed d_int rfl)) (dip 20 (by decide) (by decide)))) (frm 20 (by decide))) fun d z => ?f2) (aj_nil rfl) fun d ds z1 z2 => ?c1) fun d ds z1 z2 => ?c2) (fun ds z => ?c3) (fun d1 d2 z => ?_) rfl scRi.nd (by decide)
    case f1 => obtain ⟨ns, a1, a2, rfl⟩ := z; exact ⟨ns, ⟨a1, a2⟩, rfl⟩
    case f2 => obtain ⟨ns, a1, a2, rfl⟩ := z; exact ⟨ns, ⟨a1, by omega⟩, rfl⟩
    case c1 => obtain ⟨a, ha, rfl⟩ := z1; subst z2; exact ⟨a, ha, rfl⟩
    case c2 => obtain ⟨a, ha, rfl⟩ := z1; obtain ⟨o, ho, rfl⟩ := z2; exact ⟨a, o, ha, ho, rfl⟩
    case c3 => obtain ⟨a, o, ha, ho, rfl⟩ := z; exact ⟨_, _, rfl⟩
    obtain ⟨a, o, ⟨ha, ha2⟩, ⟨ho, ho2⟩, z⟩ := z
    injection z with z1 z
    injection z with z2 _
    subst z1 z2
    have sa : SHP a := ⟨ha, by omega⟩
    have so : SHP o := ⟨ho, by omega⟩
    have sm := shp_map2 sa
    have ll := sa.l
    have one : ∀ ds : List PyData, (∃ b : List Nat, (Wm.Shp b ∧ b.sum < 40) ∧ ds = [nT b]) → ∃ P2, ROn t ds P2 ∧ ∀ d, P2 d → ∃ p, d = PyData.bool p ∧ (!p) = false := fun ds z => by
      obtain ⟨b, ⟨b1, b2⟩, rfl⟩ := z
      exact ⟨_, ⟨b, b1, b2, rfl, rfl⟩, fun d hd => ⟨true, hd, rfl⟩⟩
    refine z_when (P := fun p => p = false) (jt_w (jw_or (P := fun p => p = false) (jt_not (j_val (j_df D1 hgd h7 (aj_cons (P := fun d => ∃ b : List Nat, (Wm.Shp b ∧ b.sum < 40) ∧ d = nT b) (Ps := fun ds => ds = []) (j_ed (d := nT (if i = 0 then a else o)) (d_ifE (p := decide (i = 0)) (t_eq (t_cmp r_eqI (d_var 1) d_int) ?b0) (fun z => d_eq (d_var 2) (by rw [if_pos (of_decide_eq_true z)])) (fun z => d_eq (d_var 3) (by rw [if_neg (of_decide_eq_false z)]))) ?b1) (aj_nil rfl) fun d ds z1 z2 => ?b2) one)))
      (fun _ => jw_or1 (P := fun p => p = false) (j_et (t_not (p := true) (t_val (d_dfG D2 hgd h5 ⟨o, a, so, sa, rfl, rfl⟩ (a_cons (d_var 3) (a_cons (d_var 2) a_nil))))) rfl)) fun z => nomatch z)) (fun z => nomatch z) fun _ => ?_
    case b0 => rw [Bool.eq_iff_iff, decide_eq_true_iff, decide_eq_true_iff]; omega
    case b1 => exact ⟨_, by by_cases c : i = 0 <;> simp only [c, if_true, if_false] <;> first | exact ⟨ha, ha2⟩ | exact ⟨ho, ho2⟩, rfl⟩
    case b2 => obtain ⟨b, hb, rfl⟩ := z1; subst z2; exact ⟨b, hb, rfl⟩
    refine z_let 4 (d_eq (d2 := nT (a.map fun n => min n 2)) (d_callTy c_tupL (a_cons (d_lc (own := [("_law_each", 5)]) (n := a.length) (f := fun _ => true) (v := fun j => .int (min (Wm.g a j) 2 : Nat)) rfl scRi.nd (blkOk_by (by kernel_rfl)) (i_tup (d_var 2) (fun j hj => nT_at hj) (nT_len _)) rfl (js := [5]) (fun j hj => hj) (by omega) (fun j _ _ _ _ _ _ => g_name 5 scRi.nd) (fun j _ _ _ _ _ _ => ts_nil)
      fun j hj _ _ _ _ _ _ => d_eq (d_callB (c_min2 rfl) (a_cons (d_var 5) (a_cons d_int a_nil)) M.min (by decide +kernel)) ?m1) a_nil) M.tuple) ?m2) ?_ scRi.nd
    case m1 => exact congrArg PyData.int (by split <;> omega)
    case m2 =>
      have h := items_list a 0 (fun _ => true) fun n => .int (min n 2 : Nat)
      rw [List.filter_eq_self.mpr fun _ _ => rfl] at h
      refine (congrArg PyData.tuple h).trans ?_
      show PyData.tuple _ = PyData.tuple _
      rw [List.map_map, List.map_map]
      rfl
    refine z_no (t_w (w_or (p := false) (q := false) (t_not (p := true) (t_val (d_dfG D2 hgd h5 ⟨a.map fun n => min n 2, a, sm, sa, rfl, rfl⟩ (a_cons (d_var 4) (a_cons (d_var 2) a_nil))))) fun _ => w_or1 (t_not (p := true) (t_val (d_dfG D2 hgd h5 ⟨a, a.map fun n => min n 2, sa, sm, rfl, rfl⟩ (a_cons (d_var 2) (a_cons (d_var 4) a_nil))))))) ?_
    exact z_nil ⟨_, _, _, _, _, rfl⟩
  · obtain ⟨x1, x2, x3, x4, x5, rfl⟩ := h
    refine z_ret (P := fun d => d = .bool true) (j_df Dt hgd hr (a2 (j_ed (d_var 0) rfl) (P2 := fun d => ∃ ns : List Nat, LET ns ∧ ns.length ≤ 11 ∧ d = nT ns) (j_df Dw hgd h3 (a2 (j_ed (d_var 0) rfl) (P2 := fun d => d = .int (11 : Nat)) (j_ed d_int rfl)) fun ds z => ?w)) fun ds z => ?tt) fun d z => z
    case w =>
      obtain ⟨d2, rfl, rfl⟩ := z
      exact ⟨_, ⟨11, by decide, rfl, rfl⟩, fun d hd => hd⟩
    case tt =>
      obtain ⟨d2, ⟨ns, b1, b2, rfl⟩, rfl⟩ := z
      exact ⟨_, ⟨ns, b1, b2, rfl, rfl⟩, fun d hd => hd⟩
end
end Wd

set_option Elab.async false
set_option linter.all false
set_option maxRecDepth 100000
set_option maxHeartbeats 8000000
/-! law. -/
namespace Wd
open PySem PySem.Spec PyProof.Rows L2 L2H Evl Wx We LamX
/-- how the list of cells is kept -/
theorem sq_keep {K : PySem.W.Frag} {H : Hp} {a : Addr} {xs : List V} (h : SqL K H a xs) : ∃ Sa : Hp → Prop, Sa H ∧ (∀ H2, Sa H2 → SqL K H2 a xs) ∧ (∀ H2 H3, Sa H2 → (∀ o, H2 a = some o → (∀ ps, o ≠ .tbl ps) → H3 a = some o) → Sa H3) ∧ ∀ (H1 : Hp) (D : Addr) (u : HO), Sa H1 → H1 D = none → ∀ H2, Sa H2 → Sa (upd H2 D u) := by
  rcases h with (h | ⟨o, h⟩) | h
  · refine ⟨fun H2 => H2 a = some (.lst xs), h, fun H2 z => .inl (.inl z), fun H2 H3 z k => k _ z (fun _ z => nomatch z), fun H1 D u z1 z2 H2 z => ?_⟩
    have z1 : H1 a = _ := z1
    exact (upd_ne fun e => by rw [e, z2] at z1; cases z1).trans z
  · refine ⟨fun H2 => H2 a = some (.frz o (.lst xs)), h, fun H2 z => .inl (.inr ⟨o, z⟩), fun H2 H3 z k => k _ z (fun _ z => nomatch z), fun H1 D u z1 z2 H2 z => ?_⟩
    have z1 : H1 a = _ := z1
    exact (upd_ne fun e => by rw [e, z2] at z1; cases z1).trans z
  · exact ⟨fun _ => True, trivial, fun H2 _ => .inr h, fun _ _ _ _ => trivial, fun _ _ _ _ _ _ _ => trivial⟩
theorem yes_of {σ : L2.St} {H : Hp} {Q : Bool → Hp → Prop} (h : Q true H) : tYes σ H Q := h
abbrev NLw : List Str := ["_law_cells", "_law_k"]
theorem scLw : FnScope NLw ["_law_cells"] (defScope (top 73)) := ⟨rfl, rfl, rfl, by decide +kernel, rfl, by decide +kernel, by decide +kernel⟩
section
variable {P : Program} {w : World} {K : PySem.W.Frag} {mg : Str → Option Value} {base : Heap} {T : List (Addr × Str)}
def spLw (K : PySem.W.Frag) (T : List (Addr × Str)) : Sp := fun vs H Q _ => ∃ (a : Addr) (ns : List Int), vs = [.ref a] ∧ Tabs T H ∧ SqL K H a (ns.map V.int) ∧ ns.length ≤ 16000000 ∧ ∀ H', Q (.bl true) H'
theorem law_fn {f : Addr} {fd : FuncData} (M : Bt mg) (F : Fun K "law" "law" (top 73) f fd) (Dt : Df P w K mg base CX0 1 "_law_tub" ["_law_cells", "_law_k"] (spTb K)) (Dr : DfG P w K mg base 13 "_law_right" ["_law_tub_here"] (spJ T RRi)) : FnG P w K mg base 14 f fd ["_law_cells"] (spLw K T) := by
  refine Fun.okG F scLw (fun vs H Q E h => by obtain ⟨_, _, rfl, _⟩ := h; rfl) (fun cdv A outer s H vs Q E hgd hr h => ?_)
  obtain ⟨a, ns, rfl, hT, hS, hl, hQ⟩ := h
  obtain ⟨ft, fdt, hmt, Ft, kpt, bt, _⟩ := Dt.ex
  obtain ⟨fr, fdr, hmr, Fr, kpr, br⟩ := Dr.ex
  have h1 : Room 1 (A.deeper (envOfC "law" (defScope (top 73)) s.heap.objs.size f cdv)) := hr.mono (by decide)
  refine ⟨_, pss_one (ps_ret (pe_callB (cr_all rfl) rfl M.all (by decide +kernel) (pa_cons (pe_lc (own := [("_law_k", 1)]) rfl scLw.nd (pi_range1 rfl M.range (pa_cons (pe_callB (call_max2 rfl) rfl M.max (by decide +kernel) (pa_cons pe_int (pa_cons (pe_callB (call_min2 rfl) rfl M.min (by decide +kernel) (pa_cons (pe_callB call_len_seq rfl M.len PySem.boot_len (pa_cons (pv 0) pa_nil)) (pa_cons pe_int pa_nil)) (by decide) (by decide) rfl rfl) pa_nil)) (by decide) (by decide) rfl rfl) pa_nil) rfl) (blkOk_by (by kernel_rfl))
    (fun s H C cl fp => pg_name (i := 1) scLw.nd rfl (.inl rfl)) (fun s H C cl fp => pts_nil) (fun s H C cl fp => pe_callG Fr hgd hr rfl hmr kpr br (pa_cons (pe_call (E := E0) Ft h1 rfl hmt kpt bt .nil pass0 (pa_cons (pv 0) (pa_cons (pv 1) pa_nil))) pa_nil))) pa_nil) (by decide) (by decide) rfl rfl)), ?_⟩
  obtain ⟨Sa, s0, sq, sk, su⟩ := sq_keep hS
  refine ⟨.ref a, rfl, a, _, rfl, .inl hS, _, 4, rfl, 2, _, rfl, ?_⟩
  generalize hm' : (if (if (4 : Int) < ((ns.map V.int).length : Nat) then (4 : Int) else ((ns.map V.int).length : Nat)) > 2 then (if (4 : Int) < ((ns.map V.int).length : Nat) then (4 : Int) else ((ns.map V.int).length : Nat)) else 2) = m
  have hm1 : 0 ≤ m ∧ m ≤ 4 := by
    rw [← hm']
    split <;> split <;> omega
  refine ⟨m, rfl, by omega, by omega, fun Dd hD => ?_⟩
  refine lc_it (walk_range (lo := 0) (n := m.toNat)) (g := gName 1) (tt := tYes) (te := fun σ H Q => tCons (tCall (spTb K) [] E0 (tCons (tVar 0) (tCons (tVar 1) tNil))) tNil σ H fun vs H1 => spJ T RRi vs H1 Q E0) (vs := [1]) (σ := L2.start NLw [.ref a]) (H1 := H) (D := Dd) (Qd := fun H2 => rAll K [V.ref Dd] H2 Q) (fun i H2 => Tabs T H2 ∧ Sa H2 ∧ H2 Dd = some (.lst ((List.replicate i true).map V.bl))) ⟨hT.ext (Ex.new hD), su H Dd _ s0 hD H s0, upd_same⟩ (fun i H2 hle p => trivial) (fun i x H2 H3 hlt p yd => ?_) fun H2 p => ?_
  · obtain ⟨t2, a2, d2⟩ := p
    obtain ⟨rfl, rfl⟩ := yd
    refine ⟨rfl, yes_of ?_⟩
    dsimp only
    rw [if_pos rfl]
    refine ⟨.ref a, rfl, .int (0 + (i : Nat)), rfl, a, ns, i, congrArg (fun z => [V.ref a, V.int z]) (Int.zero_add _), sq _ a2, hl, by omega, fun p H5 u v e5 np hp hu hv0 hv1 => ?_⟩
    have w5 : Wt T p H5 := ⟨t2.ext e5, u, v, 0, hp, hu, hv0, hv1⟩
    have hpD : p ≠ Dd := fun z => by rw [z, d2] at np; cases np
    refine ⟨p, fun _ => none, [rD p], _, ⟨fun a o z => (nomatch z), w5, rfl, fun a ps z => (nomatch z)⟩, .cons (.rf p) .nil, ⟨rfl, rfl⟩, fun y B6 H6 d6 g6 e6 z6 => ?_⟩
    subst z6
    obtain rfl := e6.bl_of
    have d6 : H6 Dd = some (.lst ((List.replicate i true).map V.bl)) := g6.h Dd _ (Ne.symm hpD) (fun _ z => nomatch z) (e5 _ _ d2)
    have a6 : Sa H6 := sk _ _ a2 fun o h1 h2 => g6.h a o (fun z => by rw [z, np] at h1; cases h1) h2 (e5 _ _ h1)
    refine ⟨_, d6, sz_lt (by rw [List.length_map, List.length_replicate]; omega), (g6.s.w.pile d6 (Ne.symm hpD)).tabs, su H Dd _ s0 hD H6 a6, ?_⟩
    rw [upd_same, List.replicate_succ', List.map_append]
    rfl
  · obtain ⟨t2, a2, d2⟩ := p
    refine ⟨Dd, _, rfl, .inl (.inl d2), ?_⟩
    rw [show (List.replicate m.toNat true).all id = true by rw [List.all_replicate]; simp]
    exact hQ H2
end
end Wd

set_option Elab.async false
set_option linter.all false
set_option maxRecDepth 100000
set_option maxHeartbeats 4000000
/-! What the head tells: the hook, and what is had from it. -/
namespace Wh
open PySem PySem.Spec PyProof.Rows L2 We Wd Wx
/-! ### defs -/
abbrev FnY : Type := Option (Str × Str × Arguments × FuncBody × Scope × Addr × List Str × Addr)
def fnY (K : PySem.W.Frag) (a : Addr) : FnY := match K.lookup a with
  | some ⟨_, _, .func fd, _⟩ => some (fd.name, fd.qualname, fd.params, fd.body, fd.scope, fd.globals, fd.closure.map (·.1), fd.builtins)
  | _ => none
/-- a def: where it stands, its name, its qualified name, its statement, the names of its cells -/
structure DefY where
  at_ : PySem.W.Frag → Addr
  name : Str
  qual : Str
  st : Stmt
  cl : List Str := []
def DefY.val (d : DefY) : FnY := some (d.name, d.qual, defArgs d.st, .stmts (defBody d.st), defScope d.st, mainGlobals, d.cl, builtinsNs)
def isNon : Value → Bool
  | .none => true
  | _ => false
def DefY.ok (K : PySem.W.Frag) (d : DefY) : Bool := PySem.W.keepIn K (.ref (d.at_ K)) && (match K.lookup (d.at_ K) with
  | some ⟨_, _, .func fd, _⟩ => PySem.W.codeIn K fd.code d.qual && isNon fd.defaults
  | _ => false)
theorem DefY.at {K : PySem.W.Frag} {d : DefY} (e : fnY K (d.at_ K) = d.val) (c : d.ok K = true) : PySem.W.keepIn K (.ref (d.at_ K)) = true ∧ ∃ (oc : Value) (od : Option Addr) (kV doc pm : Value) (an : Option Addr) (cda : Addr) (ct : Value) (osl : Array (Option Value)) (cs : List (Str × Addr)), cs.map (·.1) = d.cl ∧
    K.lookup (d.at_ K) = some ⟨oc, od, .func (PySem.W.fnX d.name d.qual (defArgs d.st) (defBody d.st) (defScope d.st) cs .none kV doc pm an (.ref cda) ct), osl⟩ ∧ PySem.W.codeIn K (.ref cda) d.qual = true := by
  obtain ⟨kp, c2⟩ := He.ba c
  refine ⟨kp, ?_⟩
  unfold fnY at e
  cases q : K.lookup (d.at_ K) with
  | none => rw [q] at c2; cases c2
  | some o =>
    obtain ⟨oc, od, dt, osl⟩ := o
    rw [q] at c2 e
    cases dt with
    | func fd =>
      obtain ⟨n1, n2, n3, n4, n5, n6, n7, n8, n9, n10, n11, n12, n13, n14, n15⟩ := fd
      have e2 : (some (n1, n2, n3, n4, n5, n6, n7.map (·.1), n15) : FnY) = some (d.name, d.qual, defArgs d.st, .stmts (defBody d.st), defScope d.st, mainGlobals, d.cl, builtinsNs) := e
      simp only [Option.some.injEq, Prod.mk.injEq] at e2
      obtain ⟨h1, h2, h3, h4, h5, h6, h7, h8⟩ := e2
      subst h1 h2 h3 h4 h5 h6 h8
      have c3 : (PySem.W.codeIn K n13 d.qual && isNon n8) = true := c2
      obtain ⟨k1, k2⟩ := He.ba c3
      obtain ⟨cda, rfl⟩ := He.codeIn_ref k1
      cases n8 with
      | none => exact ⟨oc, od, n9, n10, n11, n12, cda, n14, osl, n7, h7, rfl, k1⟩
      | _ => cases k2
    | _ => cases c2
/-! ### where the head looks -/
def entRefs (g : Addr → Option Obj) (a : Addr) : List Addr := match g a with
  | some ⟨_, _, .dict es _, _⟩ => es.toList.flatMap fun e => He.refV e.val
  | _ => []
def nsOfs (g : Addr → Option Obj) (a : Addr) : List Addr := match g a with
  | some ⟨_, _, .cls cd, _⟩ => [cd.ns]
  | _ => []
def cdOfs (g : Addr → Option Obj) (a : Addr) : List Addr := match g a with
  | some ⟨_, _, .func fd, _⟩ => He.refV fd.code
  | _ => []
def inOfs (g : Addr → Option Obj) (a : Addr) : List Addr := match g a with
  | some ⟨_, _, .func fd, _⟩ => He.refV fd.code ++ fd.closure.map (·.2)
  | some ⟨_, _, .fields vs, _⟩ => vs.toList.flatMap He.refV
  | _ => []
/-- the module's names, what their classes hold, the defs' code objects and cells -/
def asG (g : Addr → Option Obj) : List Addr := entRefs g mainGlobals
def asN (g : Addr → Option Obj) : List Addr := (asG g).flatMap (nsOfs g)
def asM (g : Addr → Option Obj) : List Addr := (asN g).flatMap (entRefs g)
def asI (g : Addr → Option Obj) : List Addr := (asM g).flatMap (inOfs g)
def asY (g : Addr → Option Obj) : List Addr := mainGlobals :: cStatics :: (asG g ++ (asN g ++ (asM g ++ (asI g ++ ((asI g).flatMap (cdOfs g) ++ (asG g).flatMap (cdOfs g))))))
/-! ### the hook -/
abbrev AlY : Type := (Bool × List FnY) × Bool
def obsK (fa : List He.Fa) (fn : List DefY) (K : PySem.W.Frag) : Bool × List FnY := ((fa.all fun f => f.ok K) && fn.all fun d => d.ok K, fn.map fun d => fnY K (d.at_ K))
def valK (fn : List DefY) : Bool × List FnY := (true, fn.map DefY.val)
structure SaysY (fa : List He.Fa) (fn : List DefY) (tf : List He.Defn) (ex : PySem.W.Frag → Bool) (h : Heap) (K : PySem.W.Frag) : Prop where
  t : obsK fa fn K = valK fn
  more : ex K = true
  hd : ∀ p ∈ tf, PySem.W.codeHdIn K (He.cT K p).1 (He.cT K p).2 = true
  out : ∀ p ∈ tf, K.lookup (He.cT K p).2 = none
  empty : ∀ p ∈ tf, h.get? (He.cT K p).2 = some { cls := .none, data := .fields #[] }
def obsY (fa : List He.Fa) (fn : List DefY) (tf : List He.Defn) (ex : PySem.W.Frag → Bool) (g : Addr → Option Obj) : AlY := (obsK fa fn (He.frT g (asY g)), ex (He.frT g (asY g)) && He.tabsB g tf (He.frT g (asY g)))
def valY (fn : List DefY) : AlY := (valK fn, true)
theorem saysY_of {fa : List He.Fa} {fn : List DefY} {tf : List He.Defn} {ex : PySem.W.Frag → Bool} {h : Heap} (e : obsY fa fn tf ex h.get? = valY fn) : SaysY fa fn tf ex h (He.frT h.get? (asY h.get?)) := by
  have e1 : obsK fa fn (He.frT h.get? (asY h.get?)) = valK fn := congrArg (fun z : AlY => z.1) e
  have e2 : (ex (He.frT h.get? (asY h.get?)) && He.tabsB h.get? tf (He.frT h.get? (asY h.get?))) = true := congrArg (fun z : AlY => z.2) e
  obtain ⟨h1, h2⟩ := He.ba e2
  have key : ∀ p ∈ tf, PySem.W.codeHdIn (He.frT h.get? (asY h.get?)) (He.cT (He.frT h.get? (asY h.get?)) p).1 (He.cT (He.frT h.get? (asY h.get?)) p).2 = true ∧ ∃ o, h.get? (He.cT (He.frT h.get? (asY h.get?)) p).2 = some o ∧ He.emptyTab o = true := fun p hp => by
    obtain ⟨h3, h4⟩ := He.ba (List.all_eq_true.mp h2 p hp)
    refine ⟨h3, ?_⟩
    cases q : h.get? (He.cT (He.frT h.get? (asY h.get?)) p).2 with
    | none => rw [q] at h4; cases h4
    | some o => rw [q] at h4; exact ⟨o, rfl, h4⟩
  exact ⟨e1, h1, fun p hp => (key p hp).1, fun p hp => by
    obtain ⟨_, o, q, z⟩ := key p hp
    exact He.frT_none q z, fun p hp => by
    obtain ⟨_, o, q, z⟩ := key p hp
    rw [q, He.emptyTab_eq z]⟩
def hookY (fa : List He.Fa) (fn : List DefY) (tf : List He.Defn) (ex : PySem.W.Frag → Bool) : PySem.W.Hook where
  α := AlY
  obs := fun s => obsY fa fn tf ex s.heap.get?
  val := fun _ => valY fn
  says := fun _ h => ∃ K : PySem.W.Frag, K.In h ∧ SaysY fa fn tf ex h K
  of := fun _ _ e => ⟨_, He.frT_in, saysY_of e⟩
  keeps := fun _ _ _ ⟨K, hK, c⟩ k => ⟨K, PySem.W.Frag.In.keeps hK k, ⟨c.t, c.more, c.hd, c.out, fun p hp => k _ _ (c.empty p hp)⟩⟩
theorem obsY_eq {fa : List He.Fa} {fn : List DefY} {tf : List He.Defn} {ex : PySem.W.Frag → Bool} {g : Addr → Option Obj} {s : Shared} (h : ∀ a, g a = s.heap.get? a) : obsY fa fn tf ex g = (hookY fa fn tf ex).obs s := by
  have e : g = s.heap.get? := funext h
  rw [e] <;> rfl
section
variable {fa : List He.Fa} {fn : List DefY} {tf : List He.Defn} {ex : PySem.W.Frag → Bool} {h : Heap} {K : PySem.W.Frag}
theorem SaysY.fact (c : SaysY fa fn tf ex h K) {f : He.Fa} (hf : f ∈ fa) : f.ok K = true := by
  have c1 := (He.ba (show ((fa.all fun f => f.ok K) && fn.all fun d => d.ok K) = true from congrArg (fun z : Bool × List FnY => z.1) c.t)).1
  exact List.all_eq_true.mp c1 f hf
theorem SaysY.def_ (c : SaysY fa fn tf ex h K) {d : DefY} (hd : d ∈ fn) : PySem.W.keepIn K (.ref (d.at_ K)) = true ∧ ∃ (oc : Value) (od : Option Addr) (kV doc pm : Value) (an : Option Addr) (cda : Addr) (ct : Value) (osl : Array (Option Value)) (cs : List (Str × Addr)), cs.map (·.1) = d.cl ∧
    K.lookup (d.at_ K) = some ⟨oc, od, .func (PySem.W.fnX d.name d.qual (defArgs d.st) (defBody d.st) (defScope d.st) cs .none kV doc pm an (.ref cda) ct), osl⟩ ∧ PySem.W.codeIn K (.ref cda) d.qual = true := by
  obtain ⟨i, hi, e⟩ := List.mem_iff_getElem.mp hd
  have c2 := (He.ba (show ((fa.all fun f => f.ok K) && fn.all fun d => d.ok K) = true from congrArg (fun z : Bool × List FnY => z.1) c.t)).2
  have e1 : fn.map (fun d => fnY K (d.at_ K)) = fn.map DefY.val := congrArg (fun z : Bool × List FnY => z.2) c.t
  have e2 : (fn.map fun d => fnY K (d.at_ K))[i]? = (fn.map DefY.val)[i]? := by rw [e1]
  rw [List.getElem?_map, List.getElem?_map, List.getElem?_eq_getElem hi, e] at e2
  exact DefY.at (Option.some.inj e2) (List.all_eq_true.mp c2 d hd)
end
/-! ### the data -/
abbrev cR (K : PySem.W.Frag) : Addr := He.ga K "InvalidRow"
abbrev cTb (K : PySem.W.Frag) : Addr := He.ga K "Table"
/-- a property's getter -/
def gp (K : PySem.W.Frag) (C : Addr) (m : Str) : Addr := match PySem.W.recIn K (He.ma K C m) "property" with
  | some (.ref g :: _) => g
  | _ => 0
def gD (x : Str) (i : Nat) : DefY := ⟨fun K => He.ga K x, x, x, We.top i, []⟩
def gl1 : List (Str × Nat) := [("is_number", 19), ("is_shape", 20), ("check_shape", 21), ("trimmed", 22), ("flipped_of", 23), ("corners_of", 24), ("outers_of", 25), ("more_of", 26), ("less_of", 27), ("is_held", 28), ("flipped", 29), ("holds", 30), ("corner_rows", 31), ("outer_rows", 32), ("with_box", 33), ("without_box", 34)]
def gl2 : List (Str × Nat) := [("is_integer", 37), ("is_within", 38), ("is_letter", 39), ("is_word", 40), ("check_word", 41), ("check_letter", 42), ("does_rise", 45), ("is_filled_row", 46), ("are_rows", 47), ("word_of_rows", 48), ("put_in_row", 49), ("put_in_rows", 50), ("rows_of_word", 51), ("pushed_out", 52), ("taken_from", 53), ("shape_of", 54), ("check_room", 55)]
def gl3 : List (Str × Nat) := [("_law_tub", 58), ("_law_dip", 59), ("_law_of", 60), ("_law_boxes", 61), ("_law_form_of", 62), ("_law_form", 63), ("_law_sort", 64), ("_law_caught", 65), ("_law_word", 66), ("_law_rows", 67), ("_law_lens", 68), ("_law_one_right", 69), ("_law_two_right", 70), ("_law_table_right", 71), ("_law_right", 72), ("law", 73)]
def gls : List (Str × Nat) := gl1 ++ (gl2 ++ gl3)
def dIni : DefY := ⟨fun K => He.ma K (cTb K) "__init__", "__init__", "Table.__init__", mt 0, []⟩
def dOf : DefY := ⟨fun K => He5.wf K (cTb K) "staticmethod" "of", "of", "Table.of", mt 1, []⟩
def dRows : DefY := ⟨fun K => gp K (cTb K) "rows", "rows", "Table.rows", mt 2, []⟩
def dShape : DefY := ⟨fun K => gp K (cTb K) "shape", "shape", "Table.shape", mt 3, []⟩
def dWord : DefY := ⟨fun K => gp K (cTb K) "word", "word", "Table.word", mt 4, []⟩
def dPut : DefY := ⟨fun K => He.ma K (cTb K) "put", "put", "Table.put", mt 10, []⟩
def dTaken : DefY := ⟨fun K => He.ma K (cTb K) "taken", "taken", "Table.taken", mt 12, []⟩
def dRow : DefY := ⟨fun K => He.ma K (cR K) "__init__", "__init__", "InvalidRow.__init__", sRow, ["__class__"]⟩
def fnL : List DefY := [dIni, dOf, dRows, dShape, dWord, dPut, dTaken, dRow] ++ gls.map fun p => gD p.1 p.2
def fr1 : List Str := ["len", "tuple", "list", "all", "range", "sum", "isinstance", "int", "bool", "enumerate", "zip", "sorted", "max", "min", "repr", "dict", "abs", "divmod", "super", "ValueError", "ArithmeticError"]
def cl1 : List Str := ["InvalidShape", "InvalidNumber", "InvalidRow", "InvalidPlace", "InvalidWord", "UnlikeSizes", "TooMany", "NoMove", "WrongValue", "NoAnswer", "WrongName", "Table"]
def fL : List He.Fa := [.int "MOST_LETTER" 12, .int "MOST_LONG" 12, .int "MOST_BOXES" 40, .cls "Table", .noat "Table" "filled", .keep "Table", .mkr "Table", .meth "Table" "put", .meth "Table" "taken"] ++ (fr1.map He.Fa.free ++ (cl1.map He.Fa.glo ++ gls.map fun p => He.Fa.glo p.1))
def tL : List He.Defn := [("_law_one_right", none), ("_law_table_right", none)]
def oexB (K : PySem.W.Frag) (C : Addr) : Bool := match K.lookup C with
  | some ⟨.type "type", _, .cls cd, sl⟩ => (match cd.mro, sl.toList with
    | .ref C' :: bm, [_, _, _, _, some (.builtin n), _] => C' == C && (n == "ValueError.__new__" && (!cd.hasDel && (cd.hasDict && PySem.HandSPX.refsVE bm)))
    | _, _ => false)
  | _ => false
def cellB (K : PySem.W.Frag) (f C : Addr) : Bool := match K.lookup f with
  | some ⟨_, _, .func fd, _⟩ => (match fd.closure with
    | [(_, cc)] => (match K.lookup cc with
      | some ⟨_, _, .cell (some (.ref D)), _⟩ => decide (D = C)
      | _ => false)
    | _ => false)
  | _ => false
def fileB (K : PySem.W.Frag) (f : Addr) (z : Str) : Bool := match K.lookup f with
  | some ⟨_, _, .func fd, _⟩ => (match fd.code with
    | .ref cda => (match K.lookup cda with
      | some ⟨_, _, .fields vs, _⟩ => (match (vs[2]? : Option Value) with
        | some (.str y _) => decide (y = z)
        | _ => false)
      | _ => false)
    | _ => false)
  | _ => false
def rowB (K : PySem.W.Frag) (C f : Addr) (z : Str) : Bool := oexB K C && (He.eqO (PySem.W.findIn K (.ref C) "__setattr__") (some (some (.builtin "object.__setattr__"))) && (decide (PySem.W.subIn K (.ref C) (.type "BaseException") = some true) && (decide (PySem.W.typeIn K (.ref C) = some (.type "type")) && (PySem.W.keepIn K (.ref C) &&
  (He.eqO (PySem.W.findIn K (.ref C) "__init__") (some (some (.ref f))) && (decide (PySem.W.typeIn K (.ref f) = some (.type "function")) && (He.eqO (PySem.W.findIn K (.ref C) "given") (some none) && (decide (PySem.W.mroIn K C (.ref C) = some true) && (He.eqO (PySem.W.ks_superIn K C C "__init__") (some (some (.builtin "ValueError.__init__"))) &&
  (decide (PySem.W.subIn K (.ref C) (.type "ValueError") = some true) && (He.eqO (PySem.W.nsIn K cStatics "thirdparty.any") (some none) && (cellB K f C && fileB K f z))))))))))))
def excB (K : PySem.W.Frag) (C : Addr) : Bool := He.eqO (PySem.W.findIn K (.ref C) "__class__") (some (some (.builtin "object.__class__"))) && (He.eqO (PySem.W.specialIn K (.builtin "object.__class__") "__get__") (some (some (.builtin "getset_descriptor.__get__"))) && (decide (PySem.W.takesIn K (.builtin "object.__class__") = some true) && (decide (PySem.W.mroIn K C (.type "object") = some true) && xfB K C)))
def skB (K : PySem.W.Frag) (C : Addr) : Bool := (skNames.all fun p => decide (PySem.W.kitOne K (.ref C) (.ref (He.ga K p.1)) = some p.2)) && (decide (PySem.W.kitOne K (.ref C) (.type "ValueError") = some true) && (decide (PySem.W.kitOne K (.ref C) (.type "ArithmeticError") = some false) &&
  decide (PySem.W.exmAny K (.ref C) [.ref (He.ga K "WrongValue"), .ref (He.ga K "WrongName"), .ref (He.ga K "NoAnswer")] = some true)))
def propB (K : PySem.W.Frag) (C : Addr) (f : Str) : Bool := He.eqO (PySem.W.findIn K (.ref C) f) (some (some (.ref (He.ma K C f)))) && (He.eqO (PySem.W.specialIn K (.ref (He.ma K C f)) "__get__") (some (some (.builtin "property.__get__"))) && (decide (PySem.W.takesIn K (.ref (He.ma K C f)) = some true) && (match PySem.W.recIn K (He.ma K C f) "property" with
  | some (.ref _ :: _) => true
  | _ => false)))
def tabB (K : PySem.W.Frag) (C : Addr) : Bool := PySem.W.readsIn K C (.type "type") && (He.eqO (PySem.W.specialIn K (.ref C) "__getattribute__") (some (some (.builtin "type.__getattribute__"))) && (He5.wrapB K C "staticmethod" "staticmethod.__get__" "of" && (propB K C "rows" && (propB K C "shape" && propB K C "word"))))
def neB (K : PySem.W.Frag) : Bool := !decide ((He.cT K ("_law_one_right", none)).2 = (He.cT K ("_law_table_right", none)).2)
def exB (z : Str) (K : PySem.W.Frag) : Bool := (rowB K (cR K) (He.ma K (cR K) "__init__") z && (excB K (cR K) && (skB K (cR K) && tabB K (cTb K)))) && neB K
end Wh

set_option Elab.async false
set_option linter.all false
set_option maxRecDepth 100000
set_option maxHeartbeats 0
/-! The head's run. -/
namespace Wh
open PySem PySem.W PySem.Calls PyProof.Rows
abbrev R : OpenRow := OpenLaw.row PySem.Challenge.rw_wordshapes_k03_whole_boxes_put_and_taken
abbrev qv : Program := view R.prog [73]
def names0 : List PySem.Str := ["_wall", "__name__", "WrongValue", "InvalidWord", "InvalidLetter", "InvalidShape", "InvalidRows", "InvalidRow", "InvalidPlace", "InvalidNumber", "WrongName", "NoAnswer", "UnlikeSizes", "NoMove", "TooMany"]
def names1 : List PySem.Str := ["MOST_LETTER", "MOST_LONG", "MOST_BOXES", "is_number", "is_shape", "check_shape", "trimmed", "flipped_of", "corners_of", "outers_of", "more_of", "less_of", "is_held", "flipped", "holds"]
def names2 : List PySem.Str := ["corner_rows", "outer_rows", "with_box", "without_box", "NOTHING", "is_integer", "is_within", "is_letter", "is_word", "check_word", "check_letter", "text_of", "does_rise", "is_filled_row", "are_rows"]
def names3 : List PySem.Str := ["word_of_rows", "put_in_row", "put_in_rows", "rows_of_word", "pushed_out", "taken_from", "shape_of", "check_room", "Table", "_law_tub", "_law_dip", "_law_of", "_law_boxes", "_law_form_of", "_law_form"]
def names4 : List PySem.Str := ["_law_sort", "_law_caught", "_law_word", "_law_rows", "_law_lens", "_law_one_right", "_law_two_right", "_law_table_right", "_law_right"]
def names : List PySem.Str := names0 ++ names1 ++ names2 ++ names3 ++ names4
abbrev fileZ : PySem.Str := PySem.Challenge.pw_wordshapes_k03_whole_boxes_put_and_taken.main.file
abbrev hk : Hook := hookY fL fnL tL (exB fileZ)
def ob (s : SharedT) : AlY := obsY fL fnL tL (exB fileZ) (HandSHeadRun.getT s)
theorem ob_eq (s : SharedT) : ob s = hk.obs s.abs := obsY_eq (HandSHeadRun.getT_eq s)
theorem run (w : World) : HandSHeadRun.RunEq R qv hk ob 8000 names w := by
  intro os
  kernel_rfl
end Wh

set_option Elab.async false
set_option linter.all false
set_option maxRecDepth 100000
set_option maxHeartbeats 4000000
/-! The law called from outside: its promise given where no guard is around. -/
namespace Wh
open PySem PySem.Spec PyProof.Rows L2 We Wd LamX
section
variable {cs : List (Addr × Addr)} {K : PySem.W.Frag} {a : Addr} {vs : List Value} {ns : List Int} {h : Heap} {P : Program} {w : World}
/-- what is tracked at the call: the tables, and the script's list where K does not hold it -/
def callH (cs : List (Addr × Addr)) (K : PySem.W.Frag) (a : Addr) (vs : List Value) (ns : List Int) : Hp := fun b =>
  if b ∈ cs.map (·.2) then some (.tbl #[]) else if b = a ∧ K.lookup a = none then some (.frz { cls := .type "list", data := .seq vs.toArray } (.lst (ns.map V.int))) else none
theorem callH_cases {b : Addr} {u : HO} (z : callH cs K a vs ns b = some u) : (b ∈ cs.map (·.2) ∧ u = .tbl #[]) ∨ (b = a ∧ K.lookup a = none ∧ u = .frz { cls := .type "list", data := .seq vs.toArray } (.lst (ns.map V.int))) := by
  unfold callH at z
  split at z
  · rename_i c; exact .inl ⟨c, (Option.some.inj z).symm⟩
  · split at z
    · rename_i c; exact .inr ⟨c.1, c.2, (Option.some.inj z).symm⟩
    · cases z
theorem callH_tab {p : Addr × Addr} (hp : p ∈ cs) : callH cs K a vs ns p.2 = some (.tbl #[]) := if_pos (List.mem_map.mpr ⟨p, hp, rfl⟩)
/-- an object that is neither a list nor an empty table is not tracked -/
theorem callH_off (hT : ∀ p ∈ cs, h.get? p.2 = some { cls := .none, data := .fields #[] }) (ha : h.get? a = some { cls := .type "list", data := .seq vs.toArray }) {b : Addr} {o : Obj} (e : h.get? b = some o) (h1 : ∀ xs n, o.data ≠ .seq xs n) (h2 : o.data ≠ .fields #[]) : callH cs K a vs ns b = none := by
  cases q : callH cs K a vs ns b with
  | none => rfl
  | some u =>
    rcases callH_cases q with ⟨c, _⟩ | ⟨c, _⟩
    · obtain ⟨p, hp, ep⟩ := List.mem_map.mp c
      rw [← ep, hT p hp] at e
      exact absurd (congrArg Obj.data (Option.some.inj e)).symm h2
    · rw [c, ha] at e
      exact absurd (congrArg Obj.data (Option.some.inj e)).symm (h1 _ _)
theorem callH_ok (hT : ∀ p ∈ cs, h.get? p.2 = some { cls := .none, data := .fields #[] }) (ha : h.get? a = some { cls := .type "list", data := .seq vs.toArray }) (hi : IntsAre vs ns) (hl : ns.length ≤ sizeLine) : HOk P w (callH cs K a vs ns) h := fun b u z => by
  rcases callH_cases z with ⟨c, rfl⟩ | ⟨rfl, _, rfl⟩
  · obtain ⟨p, hp, ep⟩ := List.mem_map.mp c
    rw [← ep]
    exact hT p hp
  · exact ⟨ha, by rw [List.length_map]; exact hl, vs, _, vals_ints hi, ha⟩
end
theorem law_callG {P : Program} {w : World} {K : PySem.W.Frag} {mg mb : Str → Option Value} {k : Nat} {fa a : Addr} {cs : List (Addr × Addr)} {fd : FuncData} {x : Str} {sp : Sp} {s : Shared} {vs : List Value} {ns : List Int}
    (KX : K.In s.heap) (G : s.heap.Ns mainGlobals mg) (Gb : s.heap.Ns builtinsNs mb) (Gbb : ∀ x : Str, x ≠ "__name__" → mb x = bootBuiltins x) (lim : s.heap.NoLimit) (gen : s.gens = #[])
    (hT : ∀ p ∈ cs, s.heap.get? p.2 = some { cls := .none, data := .fields #[] }) (nT : ∀ p ∈ cs, K.lookup p.2 = none) (hC : ∀ p ∈ cs, PySem.W.CodeHd s.heap p.1 p.2)
    (main : ∃ (bm : Addr) (ob : Obj), mg "__builtins__" = some (.ref bm) ∧ bm ≠ builtinsNs ∧ s.heap.get? bm = some ob ∧ ob.cls = .type "module" ∧ ob.dict = some builtinsNs ∧ ob.data = .plain)
    (ha : s.heap.get? a = some { cls := .type "list", data := .seq vs.toArray }) (hi : IntsAre vs ns) (hl : ns.length ≤ sizeLine) (hr : Room k callerA)
    (F : ∀ base : Heap, K.In base → base.Ns mainGlobals mg → (∀ p ∈ cs, TabB base mg p.1 p.2) → FnG P w K mg base k fa fd [x] sp) (bnd : ∀ (s : Shared) (u : Value), BindsTo s fd ⟨[u], []⟩ [(x, u)])
    (hsp : ∀ H : Hp, (∀ p ∈ cs, H p.2 = some (.tbl #[])) → SqL K H a (ns.map V.int) → sp [.ref a] H (fun v _ => v = .bl true) fun _ _ _ => False) :
    codeAny (model P w) callerA (.call (.ref fa) ⟨[.ref a], []⟩) (fun r s' => r = .ok (.ret (.bool true)) ∧ OldK s.heap s'.heap ∧ s'.os = s.os ∧ AllBare s'.gens) s := by
  have off := fun {b : Addr} {o : Obj} => callH_off (cs := cs) (K := K) (ns := ns) (b := b) (o := o) hT ha
  obtain ⟨H, hH⟩ : ∃ H, H = callH cs K a vs ns := ⟨_, rfl⟩
  have hok : HOk P w H s.heap := by rw [hH]; exact callH_ok hT ha hi hl
  have ht : ∀ p ∈ cs, H p.2 = some (.tbl #[]) := fun p hp => by rw [hH]; exact callH_tab hp
  have hoff : ∀ {b : Addr} {o : Obj}, s.heap.get? b = some o → (∀ xs n, o.data ≠ .seq xs n) → o.data ≠ .fields #[] → H b = none := fun e h1 h2 => by rw [hH]; exact off e h1 h2
  have cas : ∀ {b : Addr} {u : HO}, H b = some u → (b ∈ cs.map (·.2) ∧ u = .tbl #[]) ∨ (b = a ∧ K.lookup a = none ∧ u = .frz { cls := .type "list", data := .seq vs.toArray } (.lst (ns.map V.int))) := fun z => callH_cases (by rw [← hH]; exact z)
  have aT : a ∉ cs.map (·.2) := fun z => by
    obtain ⟨p, hp, ep⟩ := List.mem_map.mp z
    have q := hT p hp
    rw [ep, ha] at q
    cases q
  have sq : SqL K H a (ns.map V.int) := by
    cases q : K.lookup a with
    | some o =>
      have e := KX a o q
      rw [ha] at e
      cases e
      exact .inr ⟨_, vs.toArray, _, q, rfl, rfl, rfl, by rw [List.size_toArray, hi.length]; exact hl, by simpa using vals_ints hi⟩
    | none =>
      refine .inl (.inr ⟨{ cls := .type "list", data := .seq vs.toArray }, ?_⟩)
      rw [hH]
      exact (if_neg aT).trans (if_pos ⟨rfl, q⟩)
  -- what is not tracked stands in the base
  have dictsOff : ∀ {b : Addr} {m : Str → Option Value}, s.heap.Ns b m → (hidT s.heap H).Ns b m := fun ⟨o, es, ep, e, d, r⟩ => ⟨o, es, ep, hidT_get e (hoff e (fun xs n z => by rw [d] at z; cases z) fun z => by rw [d] at z; cases z), d, r⟩
  have inK : K.In (hidT s.heap H) := fun b o e => hidT_get (KX b o e) (by
    cases q : H b with
    | none => rfl
    | some u =>
      rcases cas q with ⟨c, _⟩ | ⟨c, c2, _⟩
      · obtain ⟨p, hp, ep⟩ := List.mem_map.mp c
        rw [← ep, nT p hp] at e
        cases e
      · rw [c, c2] at e; cases e)
  have md : L2.Mod K mg (hidT s.heap H) := ⟨inK, dictsOff G, ⟨mb, dictsOff Gb, Gbb⟩, let ⟨mc, l1, l2⟩ := lim; ⟨mc, dictsOff l1, l2⟩⟩
  have tb : ∀ p ∈ cs, TabB (hidT s.heap H) mg p.1 p.2 := fun p hp => by
    refine ⟨?_, ?_, fun z => ?_⟩
    · obtain ⟨o, us, file, tf, flags, tg, inF, text, tt, e1, r1, r2, r3, rest⟩ := hC p hp
      refine ⟨o, us, file, tf, flags, tg, inF, text, tt, hidT_get e1 (hoff e1 (fun xs n z => by rw [r2] at z; cases z) fun z => ?_), r1, r2, r3, rest⟩
      rw [r2] at z
      cases z
      simp at r3
    · obtain ⟨bm, ob, b1, b2, b3, b4, b5, b6⟩ := main
      refine ⟨bm, ob, b1, b2, fun q => ?_, fun q => ?_, hidT_get b3 (hoff b3 (fun xs n z => by rw [b6] at z; cases z) fun z => by rw [b6] at z; cases z), b4, b5, b6⟩
      · obtain ⟨o, es, ep, e, hd, _⟩ := G
        rw [q, e] at b3
        cases b3
        rw [hd] at b6
        cases b6
      · rw [q, hT p hp] at b3
        cases b3
        cases b6
    · obtain ⟨o, es, ep, e, hd, _⟩ := G
      rw [z, hT p hp] at e
      cases e
      cases hd
  have e0 : Env0 P w K mg (hidT s.heap H) callerA [] s H := ⟨rfl, md, fun b o e => of_hidT e, Nat.le_of_eq (hidT_size _ _), trivial, fun b hb => absurd (show b ∈ ([] : List Addr) from hb) List.not_mem_nil, hok, AllBare.of_eq gen⟩
  refine codeAny_mono ((F _ inK (dictsOff G) tb).run callerA [] s H ⟨[.ref a], []⟩ [.ref a] [.ref a] _ _ rfl hr e0 (bnd s (.ref a)) (.cons rfl .nil) (hsp H ht sq)) fun r s' hq => ?_
  cases r with
  | error e => exact (show False from hq).elim
  | ok fl =>
    cases fl with
    | next => exact (show False from hq).elim
    | brk => exact (show False from hq).elim
    | cont => exact (show False from hq).elim
    | ret u =>
      obtain ⟨v, H', os, bare, un, hok', rv, q⟩ := hq
      obtain rfl : v = .bl true := q
      obtain rfl : u = Value.bool true := rv
      have stays : ∀ b o, b ∉ cs.map (·.2) → s.heap.get? b = some o → s'.heap.get? b = some o := fun b o nb e => by
        cases q : H b with
        | none => exact un.keep b o e q (fun z => absurd (show b ∈ ([] : List Addr) from z) List.not_mem_nil) (fun z => absurd (show b ∈ ([] : List Addr) from z) List.not_mem_nil)
        | some u =>
          rcases cas q with ⟨c, _⟩ | ⟨_, _, rfl⟩
          · exact absurd c nb
          · obtain ⟨e1, _⟩ := hok b _ q
            obtain ⟨e2, _⟩ := hok' b _ (un.frzs b _ _ q)
            rw [e] at e1
            cases e1
            exact e2
      have grows : ∀ p ∈ cs, ∃ more : Array Value, s'.heap.get? p.2 = some { cls := .none, data := .fields more } := fun p hp => by
        obtain ⟨more, z⟩ := un.tbls p.2 #[] (ht p hp)
        exact ⟨_, hok' p.2 _ z⟩
      refine ⟨rfl, ⟨fun b o e => ?_, fun b o e => ?_⟩, os, bare⟩
      · by_cases hb : b ∈ cs.map (·.2)
        · obtain ⟨p, hp, ep⟩ := List.mem_map.mp hb
          obtain ⟨more, hm⟩ := grows p hp
          rw [← ep, hT p hp] at e
          cases e
          rw [← ep]
          exact .inr (.inl ⟨((hC p hp).tab (hT p hp)).isCodeTable, rfl, #[], more, rfl, by rw [Array.empty_append]; exact hm⟩)
        · exact .inl (stays b o hb e)
      · by_cases hb : b ∈ cs.map (·.2)
        · obtain ⟨p, hp, ep⟩ := List.mem_map.mp hb
          obtain ⟨more, hm⟩ := grows p hp
          rw [← ep]
          exact ⟨_, hm⟩
        · exact ⟨o, stays b o hb e⟩
end Wh

set_option Elab.async false
set_option linter.all false
set_option maxRecDepth 100000
set_option maxHeartbeats 4000000
/-! From the head's facts to what the proofs ask. -/
namespace Wh
open PySem PySem.Spec PyProof.Rows L2 We Wd LamX
section
variable {K : PySem.W.Frag} {h : Heap} {mg : Str → Option Value}
theorem fr_in {x : Str} (hx : x ∈ fr1) : He.Fa.free x ∈ fL := List.mem_append_right _ (List.mem_append_left _ (List.mem_map.mpr ⟨x, hx, rfl⟩))
theorem cl_in {x : Str} (hx : x ∈ cl1) : He.Fa.glo x ∈ fL := List.mem_append_right _ (List.mem_append_right _ (List.mem_append_left _ (List.mem_map.mpr ⟨x, hx, rfl⟩)))
theorem gl_in {p : Str × Nat} (hp : p ∈ gls) : He.Fa.glo p.1 ∈ fL := List.mem_append_right _ (List.mem_append_right _ (List.mem_append_right _ (List.mem_map.mpr ⟨p, hp, rfl⟩)))
theorem df_in {p : Str × Nat} (hp : p ∈ gls) : gD p.1 p.2 ∈ fnL := List.mem_append_right _ (List.mem_map.mpr ⟨p, hp, rfl⟩)
variable (X : K.In h) (G : h.Ns mainGlobals mg) (c : SaysY fL fnL tL (exB fileZ) h K)
include X G c
theorem a_free {x : Str} (hx : x ∈ fr1) : mg x = none := He.free_ok X G (c.fact (fr_in hx))
theorem a_cls {x : Str} (hx : x ∈ cl1) : mg x = some (.ref (He.ga K x)) := He.glo_ok X G (c.fact (cl_in hx))
theorem a_glo {x : Str} {i : Nat} (hp : (x, i) ∈ gls) : mg x = some (.ref (He.ga K x)) := He.glo_ok X G (c.fact (gl_in hp))
theorem a_bt : Bt mg := by
  have f := fun {x : Str} (hx : x ∈ fr1) => a_free X G c hx
  exact ⟨f (by decide +kernel), f (by decide +kernel), f (by decide +kernel), f (by decide +kernel), f (by decide +kernel), f (by decide +kernel), f (by decide +kernel), f (by decide +kernel), f (by decide +kernel), f (by decide +kernel), f (by decide +kernel), f (by decide +kernel), f (by decide +kernel), f (by decide +kernel), f (by decide +kernel), f (by decide +kernel), f (by decide +kernel), f (by decide +kernel)⟩
theorem a_cn : Cn mg := He.int_ok X G (c.fact (f := .int "MOST_BOXES" 40) (List.mem_append_left _ (.tail _ (.tail _ (.head _)))))
theorem a_ck : Ck mg := ⟨He.int_ok X G (c.fact (f := .int "MOST_LETTER" 12) (List.mem_append_left _ (.head _))), He.int_ok X G (c.fact (f := .int "MOST_LONG" 12) (List.mem_append_left _ (.tail _ (.head _))))⟩
theorem nil_of {cs : List (Str × Addr)} (e : cs.map (·.1) = []) : cs = [] := List.map_eq_nil_iff.mp e
omit G in
theorem a_fun {d : DefY} (hd : d ∈ fnL) (hc : d.cl = []) : ∃ fd, Fun K d.name d.qual d.st (d.at_ K) fd := by
  obtain ⟨kp, oc, od, kV, doc, pm, an, cda, ct, osl, cs, ec, lk, cd⟩ := c.def_ hd
  rw [hc] at ec
  obtain rfl := List.map_eq_nil_iff.mp ec
  exact ⟨_, ⟨oc, od, kV, doc, pm, an, .ref cda, ct, osl, rfl, lk, cd⟩, kp⟩
theorem a_dv {x : Str} {i : Nat} (hp : (x, i) ∈ gls) : Dv K mg x i := by
  obtain ⟨fd, F⟩ := a_fun X c (d := gD x i) (df_in hp) rfl
  exact ⟨_, fd, a_glo X G c hp, F⟩
theorem a_dc {x : Str} {i : Nat} (hp : (x, i) ∈ gls) : Dc K mg x i (He.codeOf K (x, none)) := by
  obtain ⟨kp, oc, od, kV, doc, pm, an, cda, ct, osl, cs, ec, lk, cd⟩ := c.def_ (d := gD x i) (df_in hp)
  obtain rfl := List.map_eq_nil_iff.mp ec
  have e : He.codeOf K (x, none) = cda := He.codeOf_eq (p := (x, none)) lk rfl
  rw [e]
  exact ⟨_, oc, od, kV, doc, pm, an, ct, osl, a_glo X G c hp, lk, cd, kp⟩
end
theorem oexB_ok {K : PySem.W.Frag} {C : Addr} (q : oexB K C = true) : ∃ nm qn N bs bm sn sub ab col dd k0 k1 k2 k3 k5, K.lookup C = some (excClassObj nm qn C N bs bm true sn sub ab col dd k0 k1 k2 k3 k5 "ValueError.__new__") ∧ PySem.HandSPX.refsVE bm = true := by
  unfold oexB at q
  split at q
  · rename_i dd cd sl ho
    split at q
    · rename_i C' bm k0 k1 k2 k3 n k5 hm hs
      simp only [Bool.and_eq_true, beq_iff_eq, Bool.not_eq_true'] at q
      obtain ⟨e1, e2, hdel, hd, ht⟩ := q
      obtain ⟨nm, bs, mro, ns, qn, hdd, sn, sub, ab, col, del⟩ := cd
      dsimp only at hm hdel hd
      subst e1 e2 hm hdel hd
      have hsl : sl = #[k0, k1, k2, k3, some (.builtin "ValueError.__new__"), k5] := by
        obtain ⟨l⟩ := sl
        simp only at hs
        rw [hs]
      subst hsl
      exact ⟨nm, qn, ns, bs, bm, sn, sub, ab, col, dd, k0, k1, k2, k3, k5, ho, ht⟩
    · cases q
  · cases q
theorem cellB_ok {K : PySem.W.Frag} {f C : Addr} {oc : Value} {od : Option Addr} {fd : FuncData} {osl : Array (Option Value)} {x : Str} {cc : Addr} (q : cellB K f C = true) (lk : K.lookup f = some ⟨oc, od, .func fd, osl⟩) (e : fd.closure = [(x, cc)]) : ∃ oc od osl, K.lookup cc = some ⟨oc, od, .cell (some (.ref C)), osl⟩ := by
  unfold cellB at q
  rw [lk] at q
  dsimp only at q
  rw [e] at q
  dsimp only at q
  split at q
  · rename_i oc1 od1 D sl1 hk
    rw [of_decide_eq_true q] at hk
    exact ⟨_, _, _, hk⟩
  · cases q
theorem fileB_ok {K : PySem.W.Frag} {f cda : Addr} {z : Str} {oc : Value} {od : Option Addr} {fd : FuncData} {osl : Array (Option Value)} (q : fileB K f z = true) (lk : K.lookup f = some ⟨oc, od, .func fd, osl⟩) (e : fd.code = .ref cda) : ∃ oc od vs osl tf, K.lookup cda = some ⟨oc, od, .fields vs, osl⟩ ∧ vs[2]? = some (.str z tf) := by
  unfold fileB at q
  rw [lk] at q
  dsimp only at q
  rw [e] at q
  dsimp only at q
  split at q
  · rename_i oc1 od1 vs sl1 hk
    split at q
    · rename_i y t hv
      rw [of_decide_eq_true q] at hv
      exact ⟨_, _, vs, _, t, hk, hv⟩
    · cases q
  · cases q
abbrev PW : Program := PySem.Challenge.pw_wordshapes_k03_whole_boxes_put_and_taken
section
variable {K : PySem.W.Frag} {h : Heap} {mg : Str → Option Value} {P : Program}
variable (X : K.In h) (G : h.Ns mainGlobals mg) (c : SaysY fL fnL tL (exB fileZ) h K)
include X G c
omit G in
theorem a_sup (hf : P.main.file = fileZ) (hs : (P.main.scope.names.lookup ("super" : Str)).isSome = false) : ∃ f cc cda, SupC P K (cR K) f cc cda := by
  have m := c.more
  unfold exB at m
  obtain ⟨m, _⟩ := He.ba m
  obtain ⟨m, _⟩ := He.ba m
  obtain ⟨m1, m⟩ := He.ba m
  obtain ⟨m2, m⟩ := He.ba m
  obtain ⟨m3, m⟩ := He.ba m
  obtain ⟨m4, m⟩ := He.ba m
  obtain ⟨m5, m⟩ := He.ba m
  obtain ⟨m6, m⟩ := He.ba m
  obtain ⟨m7, m⟩ := He.ba m
  obtain ⟨m8, m⟩ := He.ba m
  obtain ⟨m9, m⟩ := He.ba m
  obtain ⟨m10, m⟩ := He.ba m
  obtain ⟨m11, m⟩ := He.ba m
  obtain ⟨m12, m⟩ := He.ba m
  obtain ⟨m13, m14⟩ := He.ba m
  obtain ⟨kp, oc, od, kV, doc, pm, an, cda, ct, osl, cs, ec, lk, cd⟩ := c.def_ (d := dRow) (List.mem_append_left _ (.tail _ (.tail _ (.tail _ (.tail _ (.tail _ (.tail _ (.tail _ (.head _)))))))))
  obtain ⟨cc, rfl⟩ : ∃ cc : Addr, cs = [(("__class__" : Str), cc)] := by
    match cs, ec with
    | [(x, cc)], ec => injection ec with e1 _; exact ⟨cc, by rw [show x = ("__class__" : Str) from e1]⟩
  refine ⟨He.ma K (cR K) "__init__", cc, cda, ⟨oexB_ok m1, He.eqO_ok m2, of_decide_eq_true m3, of_decide_eq_true m4, m5⟩, He.eqO_ok m6, of_decide_eq_true m7, He.eqO_ok m8, ⟨oc, od, osl, kV, doc, pm, an, ct, lk⟩, cd, cellB_ok m13 lk rfl, ?_, of_decide_eq_true m9, He.eqO_ok m10, of_decide_eq_true m11, He.eqO_ok m12, hs⟩
  rw [hf]
  exact fileB_ok m14 lk rfl
theorem a_rw (hf : P.main.file = fileZ) (hs : (P.main.scope.names.lookup ("super" : Str)).isSome = false) : Rw P K mg (cR K) := ⟨a_sup X c hf hs, a_cls X G c (by decide +kernel), a_free X G c (by decide +kernel)⟩
theorem a_ct : Ct K mg (cR K) := by
  have m := c.more
  unfold exB at m
  obtain ⟨m, _⟩ := He.ba m
  obtain ⟨mr, m⟩ := He.ba m
  obtain ⟨me, m⟩ := He.ba m
  obtain ⟨ms, _⟩ := He.ba m
  obtain ⟨e1, me⟩ := He.ba me
  obtain ⟨e2, me⟩ := He.ba me
  obtain ⟨e3, me⟩ := He.ba me
  obtain ⟨e4, e5⟩ := He.ba me
  have xf := xfB_ok e5
  obtain ⟨s1, ms⟩ := He.ba ms
  obtain ⟨s2, ms⟩ := He.ba ms
  obtain ⟨s3, s4⟩ := He.ba ms
  obtain ⟨_, mr⟩ := He.ba mr
  obtain ⟨_, mr⟩ := He.ba mr
  obtain ⟨_, mr⟩ := He.ba mr
  obtain ⟨_, mr⟩ := He.ba mr
  obtain ⟨_, mr⟩ := He.ba mr
  obtain ⟨_, mr⟩ := He.ba mr
  obtain ⟨_, mr⟩ := He.ba mr
  obtain ⟨m8, _⟩ := He.ba mr
  refine ⟨⟨⟨xf.ga, xf.gg, xf.exC, xf.hdC, He.eqO_ok e1, He.eqO_ok e2, of_decide_eq_true e3, of_decide_eq_true e4⟩, fun p hp => ⟨He.ga K p.1, a_cls X G c (?_ : p.1 ∈ cl1), of_decide_eq_true (List.all_eq_true.mp s1 p hp)⟩, a_free X G c (by decide +kernel), a_free X G c (by decide +kernel), of_decide_eq_true s2, of_decide_eq_true s3⟩, xf, He.eqO_ok m8, He.ga K "WrongValue", He.ga K "WrongName", He.ga K "NoAnswer", a_cls X G c (by decide +kernel), a_cls X G c (by decide +kernel), a_cls X G c (by decide +kernel), of_decide_eq_true s4⟩
  have key : ∀ p ∈ skNames, p.1 ∈ cl1 := by decide +kernel
  exact key p hp
omit X G c in
theorem propB_ok {C : Addr} {f : Str} (q : propB K C f = true) : PropOf K C f (He.ma K C f) (gp K C f) := by
  obtain ⟨q1, q⟩ := He.ba q
  obtain ⟨q2, q⟩ := He.ba q
  obtain ⟨q3, q4⟩ := He.ba q
  refine ⟨He.eqO_ok q1, He.eqO_ok q2, of_decide_eq_true q3, ?_⟩
  unfold gp
  split at q4
  · rename_i g r e
    exact ⟨r, by rw [e]⟩
  · cases q4
theorem a_tc : TC K mg (cTb K) := by
  have m := c.more
  unfold exB at m
  obtain ⟨m, _⟩ := He.ba m
  obtain ⟨_, m⟩ := He.ba m
  obtain ⟨_, m⟩ := He.ba m
  obtain ⟨_, m⟩ := He.ba m
  obtain ⟨m1, m⟩ := He.ba m
  obtain ⟨m2, m⟩ := He.ba m
  obtain ⟨m3, m⟩ := He.ba m
  obtain ⟨m4, m⟩ := He.ba m
  obtain ⟨m5, m6⟩ := He.ba m
  obtain ⟨w1, w2⟩ := He5.wrapB_ok m3
  have fa := fun {f : He.Fa} (hf : f ∈ ([.int "MOST_LETTER" 12, .int "MOST_LONG" 12, .int "MOST_BOXES" 40, .cls "Table", .noat "Table" "filled", .keep "Table", .mkr "Table", .meth "Table" "put", .meth "Table" "taken"] : List He.Fa)) => c.fact (f := f) (List.mem_append_left _ hf)
  have fn := fun {d : DefY} (hd : d ∈ ([dIni, dOf, dRows, dShape, dWord, dPut, dTaken, dRow] : List DefY)) (hc : d.cl = []) => a_fun X c (d := d) (List.mem_append_left _ hd) hc
  obtain ⟨f0, F0⟩ := fn (.head _) rfl
  obtain ⟨f1, F1⟩ := fn (.tail _ (.head _)) rfl
  obtain ⟨f2, F2⟩ := fn (.tail _ (.tail _ (.head _))) rfl
  obtain ⟨f3, F3⟩ := fn (.tail _ (.tail _ (.tail _ (.head _)))) rfl
  obtain ⟨f4, F4⟩ := fn (.tail _ (.tail _ (.tail _ (.tail _ (.head _))))) rfl
  obtain ⟨f5, F5⟩ := fn (.tail _ (.tail _ (.tail _ (.tail _ (.tail _ (.head _)))))) rfl
  obtain ⟨f6, F6⟩ := fn (.tail _ (.tail _ (.tail _ (.tail _ (.tail _ (.tail _ (.head _))))))) rfl
  exact ⟨He.cls_ok (fa (.tail _ (.tail _ (.tail _ (.head _))))), He.noat_ok (fa (.tail _ (.tail _ (.tail _ (.tail _ (.head _)))))), a_cls X G c (by decide +kernel), He.keep_ok (fa (.tail _ (.tail _ (.tail _ (.tail _ (.tail _ (.head _))))))),
    ⟨_, f0, He.mkr_ok (fa (.tail _ (.tail _ (.tail _ (.tail _ (.tail _ (.tail _ (.head _)))))))), F0⟩, ⟨.type "type", _, _, f1, ⟨m1, He.eqO_ok m2⟩, ⟨w1, w2, F1.kp⟩, F1⟩, ⟨_, _, f2, propB_ok m4, F2⟩, ⟨_, _, f3, propB_ok m5, F3⟩, ⟨_, _, f4, propB_ok m6, F4⟩,
    ⟨_, f5, He.meth_ok (fa (.tail _ (.tail _ (.tail _ (.tail _ (.tail _ (.tail _ (.tail _ (.head _))))))))), F5⟩, ⟨_, f6, He.meth_ok (fa (.tail _ (.tail _ (.tail _ (.tail _ (.tail _ (.tail _ (.tail _ (.tail _ (.head _)))))))))), F6⟩⟩
omit X G in
theorem a_ne : (He.cT K ("_law_one_right", none)).2 ≠ (He.cT K ("_law_table_right", none)).2 := by
  have m := c.more
  unfold exB at m
  obtain ⟨_, m⟩ := He.ba m
  unfold neB at m
  exact fun e => by rw [decide_eq_true e] at m; cases m
end
end Wh

set_option Elab.async false
set_option linter.all false
set_option maxRecDepth 100000
set_option maxHeartbeats 4000000
/-! All defs keep their promises; the law. -/
namespace Wh
open PySem PySem.Spec PyProof.Rows L2 We Wd LamX
section
variable {K : PySem.W.Frag} {h : Heap} {mg : Str → Option Value}
abbrev pOne : He.Defn := ("_law_one_right", none)
abbrev pTab : He.Defn := ("_law_table_right", none)
/-- the two tables, with the names of the lambdas' code -/
abbrev tT (K : PySem.W.Frag) : List (Addr × Str) := [((He.cT K pOne).2, qL "_law_one_right"), ((He.cT K pTab).2, qL "_law_table_right")]
theorem all_right (X : K.In h) (G : h.Ns mainGlobals mg) (c : SaysY fL fnL tL (exB fileZ) h K) (w : World) (base : Heap) (TB : ∀ p ∈ tL.map (He.cT K), TabB base mg p.1 p.2) {f : Addr} {fd : FuncData} (Fl : Fun K "law" "law" (top 73) f fd) : FnG PW w K mg base 14 f fd ["_law_cells"] (spLw K (tT K)) := by
  have M := a_bt X G c
  have cn := a_cn X G c
  have ck := a_ck X G c
  have rw0 : Rw PW K mg (cR K) := a_rw X G c rfl (by decide +kernel)
  have ct := a_ct X G c
  have tc := a_tc X G c
  have dv := fun {x : Str} {i : Nat} (hp : (x, i) ∈ gls) => a_dv X G c hp
  -- shapes
  have num : DNum PW w K mg base := is_number_df M (dv (by decide +kernel))
  have shp := is_shape_df (P := PW) (w := w) (base := base) M (dv (by decide +kernel)) num
  have chk : DChk PW w K mg base := check_shape_df (dv (by decide +kernel)) shp
  have trim := trimmed_df (P := PW) (w := w) (base := base) M (dv (by decide +kernel))
  have flipO := flipped_of_df (P := PW) (w := w) (base := base) M (dv (by decide +kernel))
  have cor := corners_of_df (P := PW) (w := w) (base := base) M (dv (by decide +kernel))
  have out := outers_of_df (P := PW) (w := w) (base := base) M (dv (by decide +kernel))
  have more := more_of_df (P := PW) (w := w) (base := base) M (dv (by decide +kernel))
  have less := less_of_df (P := PW) (w := w) (base := base) (dv (by decide +kernel)) trim
  have held := is_held_df (P := PW) (w := w) (base := base) M (dv (by decide +kernel))
  have flipD := flipped_df cn (dv (by decide +kernel)) chk flipO
  have hold := holds_df cn (dv (by decide +kernel)) chk held
  have corR := corner_rows_df cn (dv (by decide +kernel)) chk cor
  have outR := outer_rows_df cn (dv (by decide +kernel)) chk out
  have wBox := with_box_df M cn rw0 (dv (by decide +kernel)) chk num out more
  have woBox := without_box_df cn rw0 (dv (by decide +kernel)) chk num cor less
  -- words, tables
  have isI := is_integer_df (P := PW) (w := w) (base := base) M (dv (by decide +kernel))
  have isW := is_within_df (dv (by decide +kernel)) isI
  have isL := is_letter_df ck (dv (by decide +kernel)) isW
  have isWd := is_word_df M ck (dv (by decide +kernel)) isL
  have chW := check_word_df (dv (by decide +kernel)) isWd
  have chL := check_letter_df (dv (by decide +kernel)) isL
  have chR := check_room_df (P := PW) (w := w) (base := base) ck (dv (by decide +kernel))
  have rise := does_rise_df (P := PW) (w := w) (base := base) M (dv (by decide +kernel))
  have fill := is_filled_row_df M (dv (by decide +kernel)) isWd
  have areR := are_rows_df M ck (dv (by decide +kernel)) fill rise
  have shO := shape_of_df (P := PW) (w := w) (base := base) M (dv (by decide +kernel))
  have woR := word_of_rows_df (P := PW) (w := w) (base := base) (dv (by decide +kernel))
  have piR := put_in_row_df (P := PW) (w := w) (base := base) M (dv (by decide +kernel))
  have piRs := put_in_rows_df M (dv (by decide +kernel)) piR
  have roW := rows_of_word_df (dv (by decide +kernel)) piRs
  have puO := pushed_out_df (P := PW) (w := w) (base := base) M (dv (by decide +kernel))
  have taF := taken_from_df M (dv (by decide +kernel)) puO
  have gR := rows_gp (P := PW) (w := w) (base := base) tc
  have gS := shape_gp tc shO
  have gW := word_gp tc woR
  have ini := init_gi tc areR
  have gO := of_gs tc ini chW roW
  have gP := put_gm M tc ini gR gW chL chR piRs
  have gT := taken_gm tc rw0 ini gR gS isI cor taF
  -- the law's own
  have bx := law_boxes_df (P := PW) (w := w) (base := base) M (dv (by decide +kernel))
  have fo := law_form_of_df (P := PW) (w := w) (base := base) M (dv (by decide +kernel))
  have lr := law_rows_df (P := PW) (w := w) (base := base) M (dv (by decide +kernel))
  have ll := law_lens_df M (dv (by decide +kernel)) lr
  have two := two_right_df M (dv (by decide +kernel)) bx hold (dv (by decide +kernel)) flipD
  have srt := law_sort_df (P := PW) (w := w) (base := base) M ct.sk (dv (by decide +kernel))
  have dip := law_dip_df (P := PW) (w := w) (base := base) (T := tT K) M (dv (by decide +kernel))
  have lof := law_of_df M (dv (by decide +kernel)) dip
  have wrd := law_word_df M (dv (by decide +kernel)) dip lof
  have frm := law_form_df M (dv (by decide +kernel)) dip lof
  have tub := law_tub_df (P := PW) (w := w) (base := base) M (dv (by decide +kernel))
  have ne := a_ne c
  have one := law_one_right_df (T := tT K) (c := (He.cT K pOne).1) (Pt := (He.cT K pOne).2) M ct (a_dc X G c (by decide +kernel)) (TB _ (.head _)) (.head _) (fun p hp e => by
    rcases List.mem_cons.mp hp with rfl | hp
    · rfl
    · rw [List.mem_singleton.mp hp] at e
      exact absurd e.symm ne) (dv (by decide +kernel)) srt bx fo outR corR wBox woBox (dv (by decide +kernel)) (dv (by decide +kernel)) (dv (by decide +kernel)) (dv (by decide +kernel))
  have tab := law_table_right_df (T := tT K) (c := (He.cT K pTab).1) (Pt := (He.cT K pTab).2) M ct (a_dc X G c (by decide +kernel)) (TB _ (.tail _ (.head _))) (.tail _ (.head _)) (fun p hp e => by
    rcases List.mem_cons.mp hp with rfl | hp
    · exact absurd e ne
    · rw [List.mem_singleton.mp hp]) (dv (by decide +kernel)) srt tc gO gS gP gT ll dip outR corR wBox woBox
  have right := law_right_df M (dv (by decide +kernel)) dip frm wrd one two tab
  exact law_fn M Fl tub right
/-- the law called at a script -/
theorem the_call {w : World} {s : Shared} {mg mb : Str → Option Value} {fa a : Addr} {vs : List Value} {ns : List Int} (Y : ∃ K : PySem.W.Frag, K.In s.heap ∧ SaysY fL fnL tL (exB fileZ) s.heap K) (G : s.heap.Ns mainGlobals mg) (Gb : s.heap.Ns builtinsNs mb) (Gbb : ∀ x : Str, x ≠ "__name__" → mb x = bootBuiltins x) (lim : s.heap.NoLimit) (gen : s.gens = #[])
    (main : ∃ (bm : Addr) (ob : Obj), mg "__builtins__" = some (.ref bm) ∧ bm ≠ builtinsNs ∧ s.heap.get? bm = some ob ∧ ob.cls = .type "module" ∧ ob.dict = some builtinsNs ∧ ob.data = .plain)
    (hmg : mg "law" = some (.ref fa)) (ha : s.heap.get? a = some { cls := .type "list", data := .seq vs.toArray }) (hi : IntsAre vs ns) (hl : ns.length ≤ 63) :
    codeAny (model PW w) callerA (.call (.ref fa) ⟨[.ref a], []⟩) (fun r s' => r = .ok (.ret (.bool true)) ∧ OldK s.heap s'.heap ∧ s'.os = s.os ∧ AllBare s'.gens) s := by
  obtain ⟨K, X, c⟩ := Y
  have hin : (("law" : Str), 73) ∈ gls := by decide +kernel
  obtain ⟨fd, F⟩ := a_fun X c (d := gD "law" 73) (df_in hin) rfl
  have F : Fun K "law" "law" (top 73) (He.ga K "law") fd := F
  have e := hmg.symm.trans (a_glo X G c hin)
  injection e with e
  injection e with e
  subst e
  have bnd : ∀ (s : Shared) (u : Value), BindsTo s fd ⟨[u], []⟩ [("_law_cells", u)] := fun s u => by
    obtain ⟨oc, od, kV, doc, pm, an, cdv, ct, osl, rfl, lk, hcd⟩ := F.ex
    exact .of_eq rfl
  refine law_callG (cs := tL.map (He.cT K)) X G Gb Gbb lim gen (fun p hp => ?_) (fun p hp => ?_) (fun p hp => ?_) main ha hi (Nat.le_trans hl (by rw [sizeLine_eq]; decide)) (k := 14) ⟨rfl, by decide +kernel, by decide +kernel⟩ (fun base _ _ TB => all_right X G c w base TB F) bnd (fun H hH hS => ⟨a, ns, rfl, fun p hp => ?_, hS, by omega, fun _ => rfl⟩)
  · obtain ⟨q, hq, rfl⟩ := List.mem_map.mp hp
    exact c.empty q hq
  · obtain ⟨q, hq, rfl⟩ := List.mem_map.mp hp
    exact c.out q hq
  · obtain ⟨q, hq, rfl⟩ := List.mem_map.mp hp
    exact PySem.W.codeHd_of_K X (c.hd q hq)
  · rcases List.mem_cons.mp hp with rfl | hp
    · exact TabS.nil (hH _ (.head _))
    · rw [List.mem_singleton.mp hp]
      exact TabS.nil (hH _ (.tail _ (.head _)))
end
end Wh
open PySem PySem.W PySem.Calls PyProof.Rows
theorem PySem.Challenge.cw_wordshapes_k03_whole_boxes_put_and_taken_holds : PySem.Challenge.rw_wordshapes_k03_whole_boxes_put_and_taken.Holds := by
  w_on; o_law
  refine HandSHeadRun.head_any (r := OpenLaw.row PySem.Challenge.rw_wordshapes_k03_whole_boxes_put_and_taken) (q := Wh.qv) (H := Wh.hk) (ob := Wh.ob) (M := 8000) (loose := Wh.names) (d := HandSHeadRun.topDef (OpenLaw.row PySem.Challenge.rw_wordshapes_k03_whole_boxes_put_and_taken).prog 73) (kwd := []) Wh.ob_eq
    (by kernel_rfl) (fun s => by kernel_rfl) Wh.run (by kernel_rfl) (by kernel_rfl) (by kernel_rfl) (by rfl) (by first | assumption | decide +kernel) (by decide +kernel) ⟨rfl, rfl, rfl, rfl, rfl, by decide +kernel⟩ ?hw ?hc
  case hw => w_witness2
  case hc =>
    refine Att.attach_callB (l := PySem.Challenge.rw_wordshapes_k03_whole_boxes_put_and_taken) (n := 63) rfl (by kernel_rfl) fun w s₀ s₁ mg mb fa o pm cd doc a vs ns G Y ho hd hcd hmg hobj hints hlen hbits hg => ?_
    have e : (HandSHeadRun.topDef (OpenLaw.row PySem.Challenge.rw_wordshapes_k03_whole_boxes_put_and_taken).prog 73).name = ("law" : PySem.Str) := by kernel_rfl
    rw [e] at hmg
    exact Wh.the_call Y G.T.g G.T.b G.T.builtins G.T.nolimit hg G.T.bmain hmg hobj hints hlen
