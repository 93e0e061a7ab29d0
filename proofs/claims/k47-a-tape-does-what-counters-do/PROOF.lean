import PyProof.Rows.All
import Wide.All
import OpenK.AllK
import Wide.FinOn
import HandS.ForMost
import HandS.IsInst
import HandS.Style
import HandS.TupAny
import PySem.Challenge.RW_stepdown_k47_whole_a_tape_does_what_coun
set_option Elab.async false
set_option linter.all false
set_option maxRecDepth 100000
set_option maxHeartbeats 4000000
/-! K47A: the plain law: tape machines, counter machines, the stair, in plain Lean. -/
namespace K47
inductive CR where
  | stop
  | inc (i t : Nat)
  | dec (i t u : Nat)
structure TC where
  q : Nat
  l : List Nat
  m : Nat
  r : List Nat
abbrev TR := Option (Nat × Int × Nat)

/-! ### trimmed -/
def trim : List Nat → List Nat
  | [] => []
  | x :: r => if x = 0 ∧ trim r = [] then [] else x :: trim r
theorem trim_nil : trim [] = [] := rfl
theorem trim_cons_ne {x : Nat} {r : List Nat} (h : ¬ (x = 0 ∧ trim r = [])) : trim (x :: r) = x :: trim r := if_neg h
theorem trim_cons_0 {x : Nat} {r : List Nat} (h : x = 0 ∧ trim r = []) : trim (x :: r) = [] := if_pos h
theorem trim_getD : ∀ (xs : List Nat) (k : Nat), (trim xs).getD k 0 = xs.getD k 0
  | [], _ => rfl
  | x :: r, k => by
    by_cases h : x = 0 ∧ trim r = []
    · rw [trim_cons_0 h]
      obtain ⟨h0, h1⟩ := h
      cases k with
      | zero => simp [h0]
      | succ k =>
        have := trim_getD r k
        rw [h1] at this
        simpa using this
    · rw [trim_cons_ne h]
      cases k with
      | zero => rfl
      | succ k => simpa using trim_getD r k
theorem trim_nil_iff : ∀ (xs : List Nat), trim xs = [] ↔ ∀ k, xs.getD k 0 = 0
  | [] => by simp [trim]
  | x :: r => by
    constructor
    · intro h k
      rw [← trim_getD, h]
      simp
    · intro h
      have h0 := h 0
      have h1 : trim r = [] := (trim_nil_iff r).mpr fun k => by simpa using h (k + 1)
      exact trim_cons_0 ⟨by simpa using h0, h1⟩
theorem trim_ext : ∀ (xs ys : List Nat), (∀ k, xs.getD k 0 = ys.getD k 0) → trim xs = trim ys
  | [], ys, h => by
    have : trim ys = [] := (trim_nil_iff ys).mpr fun k => by rw [← h k]; simp
    rw [this]
    rfl
  | x :: r, [], h => by
    have : trim (x :: r) = [] := (trim_nil_iff _).mpr fun k => by rw [h k]; simp
    rw [this]
    rfl
  | x :: r, y :: s, h => by
    have h0 : x = y := by simpa using h 0
    have h1 := trim_ext r s fun k => by simpa using h (k + 1)
    subst h0
    show (if x = 0 ∧ trim r = [] then [] else x :: trim r) = (if x = 0 ∧ trim s = [] then [] else x :: trim s)
    rw [h1]
theorem trim_idem (xs : List Nat) : trim (trim xs) = trim xs := trim_ext _ _ fun k => trim_getD xs k
theorem trim_len : ∀ xs : List Nat, (trim xs).length ≤ xs.length
  | [] => Nat.le_refl _
  | x :: r => by
    by_cases h : x = 0 ∧ trim r = []
    · rw [trim_cons_0 h]; exact Nat.zero_le _
    · rw [trim_cons_ne h]; exact Nat.succ_le_succ (trim_len r)
theorem trim_take : ∀ xs : List Nat, xs.take (trim xs).length = trim xs
  | [] => rfl
  | x :: r => by
    by_cases h : x = 0 ∧ trim r = []
    · rw [trim_cons_0 h]; rfl
    · rw [trim_cons_ne h]
      show x :: r.take (trim r).length = _
      rw [trim_take r]
theorem trim_last : ∀ xs : List Nat, 0 < (trim xs).length → xs.getD ((trim xs).length - 1) 0 ≠ 0
  | [], h => by simp [trim] at h
  | x :: r, h => by
    by_cases h0 : x = 0 ∧ trim r = []
    · rw [trim_cons_0 h0] at h; simp at h
    · rw [trim_cons_ne h0]
      show (x :: r).getD (trim r).length 0 ≠ 0
      cases e : (trim r).length with
      | zero =>
        have e1 : trim r = [] := List.length_eq_zero_iff.mp e
        show x ≠ 0
        intro hx
        exact h0 ⟨hx, e1⟩
      | succ k =>
        have := trim_last r (by omega)
        rw [e] at this
        simpa using this
theorem trim_beyond (xs : List Nat) (k : Nat) (h : (trim xs).length ≤ k) : xs.getD k 0 = 0 := by
  rw [← trim_getD, List.getD_eq_getElem?_getD, List.getElem?_eq_none h]
  rfl
theorem trim_of_last : ∀ xs : List Nat, xs.getLast? ≠ some 0 → trim xs = xs
  | [], _ => rfl
  | [x], h => by
    refine trim_cons_ne fun z => h ?_
    rw [z.1]
    rfl
  | x :: y :: r, h => by
    have ih := trim_of_last (y :: r) (by rwa [List.getLast?_cons_cons] at h)
    rw [trim_cons_ne (by rw [ih]; simp), ih]

/-- the list r is what stands from place j on, as the tape function f says -/
def Is (r : List Nat) (f : Nat → Nat) (j : Nat) : Prop := trim r = r ∧ ∀ k, r.getD k 0 = f (j + k)
theorem Is.head {r : List Nat} {f : Nat → Nat} {j : Nat} (h : Is r f j) : r.headD 0 = f j := by
  have := h.2 0
  cases r with
  | nil => simpa using this
  | cons x r => simpa using this
theorem Is.tail {r : List Nat} {f : Nat → Nat} {j : Nat} (h : Is r f j) : Is r.tail f (j + 1) := by
  cases r with
  | nil => exact ⟨rfl, fun k => by have := h.2 (k + 1); simp at this; simp only [List.tail_nil]; rw [show j + 1 + k = j + (k + 1) by omega]; simpa using this⟩
  | cons x r =>
    refine ⟨?_, fun k => ?_⟩
    · have h1 := h.1
      by_cases h0 : x = 0 ∧ trim r = []
      · rw [trim_cons_0 h0] at h1; cases h1
      · rw [trim_cons_ne h0] at h1
        exact (List.cons.inj h1).2
    · have := h.2 (k + 1)
      rw [show j + 1 + k = j + (k + 1) by omega]
      simpa using this
theorem Is.cons {r : List Nat} {f : Nat → Nat} {j w : Nat} (h : Is r f (j + 1)) (hw : w = f j) : Is (trim (w :: r)) f j := by
  refine ⟨trim_idem _, fun k => ?_⟩
  rw [trim_getD]
  cases k with
  | zero => simpa using hw
  | succ k =>
    have := h.2 k
    rw [show j + (k + 1) = j + 1 + k by omega]
    simpa using this
theorem Is.uniq {r s : List Nat} {f : Nat → Nat} {j : Nat} (h : Is r f j) (h' : Is s f j) : r = s := by
  rw [← h.1, ← h'.1]
  exact trim_ext _ _ fun k => (h.2 k).trans (h'.2 k).symm
theorem Is.congr {r : List Nat} {f g : Nat → Nat} {j : Nat} (h : Is r f j) (e : ∀ k, j ≤ k → f k = g k) : Is r g j :=
  ⟨h.1, fun k => (h.2 k).trans (e _ (Nat.le_add_right _ _))⟩

/-! ### the marks of a place -/
def pm : List Nat → Nat → Nat
  | [], _ => 0
  | c :: r, j => (if j ≤ c then 1 else 0) + 2 * pm r j
theorem pm_lt : ∀ (cs : List Nat) (j : Nat), pm cs j < 2 ^ cs.length
  | [], _ => by simp [pm]
  | c :: r, j => by
    have := pm_lt r j
    show (if j ≤ c then 1 else 0) + 2 * pm r j < 2 ^ (r.length + 1)
    rw [Nat.pow_succ]
    split <;> omega
theorem pm_bit : ∀ (cs : List Nat) (j i : Nat), i < cs.length → (pm cs j).testBit i = decide (j ≤ cs.getD i 0)
  | [], _, _, h => by simp at h
  | c :: r, j, 0, _ => by
    show ((if j ≤ c then 1 else 0) + 2 * pm r j).testBit 0 = decide (j ≤ c)
    rw [Nat.testBit_zero]
    by_cases h : j ≤ c
    · rw [if_pos h]; simp [h]
    · rw [if_neg h]; simp [h]
  | c :: r, j, i + 1, h => by
    show ((if j ≤ c then 1 else 0) + 2 * pm r j).testBit (i + 1) = decide (j ≤ r.getD i 0)
    rw [Nat.testBit_succ, ← pm_bit r j i (by simpa using h)]
    congr 1
    split <;> omega
theorem pm_set : ∀ (cs : List Nat) (i x j : Nat), i < cs.length → pm (cs.set i x) j + (if j ≤ cs.getD i 0 then 2 ^ i else 0) = pm cs j + (if j ≤ x then 2 ^ i else 0)
  | [], _, _, _, h => by simp at h
  | c :: r, 0, x, j, _ => by
    show ((if j ≤ x then 1 else 0) + 2 * pm r j) + (if j ≤ c then 2 ^ 0 else 0) = ((if j ≤ c then 1 else 0) + 2 * pm r j) + (if j ≤ x then 2 ^ 0 else 0)
    split <;> split <;> omega
  | c :: r, i + 1, x, j, h => by
    have ih := pm_set r i x j (by simpa using h)
    show ((if j ≤ c then 1 else 0) + 2 * pm (r.set i x) j) + (if j ≤ r.getD i 0 then 2 ^ (i + 1) else 0) = ((if j ≤ c then 1 else 0) + 2 * pm r j) + (if j ≤ x then 2 ^ (i + 1) else 0)
    rw [Nat.pow_succ]
    generalize (if j ≤ c then 1 else 0) = a
    revert ih
    split <;> split <;> intro ih <;> omega
theorem pm_zero : ∀ (cs : List Nat) (j : Nat), (∀ c ∈ cs, c < j) → pm cs j = 0
  | [], _, _ => rfl
  | c :: r, j, h => by
    have h0 := h c List.mem_cons_self
    have ih := pm_zero r j fun c hc => h c (List.mem_cons_of_mem _ hc)
    show (if j ≤ c then 1 else 0) + 2 * pm r j = 0
    rw [if_neg (by omega), ih]
theorem pm_pos : ∀ (cs : List Nat) (j : Nat), (∃ c ∈ cs, j ≤ c) → pm cs j ≠ 0
  | [], _, h => by obtain ⟨c, h, _⟩ := h; simp at h
  | c :: r, j, ⟨d, hd, hj⟩ => by
    show (if j ≤ c then 1 else 0) + 2 * pm r j ≠ 0
    rcases List.mem_cons.mp hd with e | h
    · subst e
      rw [if_pos hj]
      omega
    · have := pm_pos r j ⟨d, h, hj⟩
      omega
def mxl : List Nat → Nat
  | [] => 0
  | c :: r => max c (mxl r)
theorem mxl_le : ∀ (cs : List Nat) (c : Nat), c ∈ cs → c ≤ mxl cs
  | x :: r, c, h => by
    show c ≤ max x (mxl r)
    rcases List.mem_cons.mp h with e | h
    · subst e; omega
    · have := mxl_le r c h
      omega
theorem mxl_mem : ∀ (cs : List Nat), mxl cs = 0 ∨ mxl cs ∈ cs
  | [] => .inl rfl
  | x :: r => by
    show max x (mxl r) = 0 ∨ max x (mxl r) ∈ x :: r
    rcases Nat.le_total (mxl r) x with h | h
    · rw [Nat.max_eq_left h]; exact .inr List.mem_cons_self
    · rw [Nat.max_eq_right h]
      rcases mxl_mem r with h' | h'
      · exact .inl h'
      · exact .inr (List.mem_cons_of_mem _ h')
theorem mxl_uniq {cs : List Nat} {m : Nat} (h : m ∈ cs) (hm : ∀ c ∈ cs, c ≤ m) : m = mxl cs := by
  have h1 := mxl_le cs m h
  rcases mxl_mem cs with e | e
  · omega
  · have := hm _ e
    omega
def downR (cs : List Nat) : List Nat := (List.range (mxl cs)).map fun p => pm cs (p + 1)
theorem downR_len (cs : List Nat) : (downR cs).length = mxl cs := by simp [downR]
theorem downR_getD (cs : List Nat) (k : Nat) : (downR cs).getD k 0 = pm cs (1 + k) := by
  rw [List.getD_eq_getElem?_getD]
  unfold downR
  rw [List.getElem?_map]
  by_cases h : k < mxl cs
  · rw [List.getElem?_range h]
    show pm cs (k + 1) = _
    rw [Nat.add_comm]
  · rw [List.getElem?_eq_none (by simp; omega)]
    show 0 = _
    rw [pm_zero cs (1 + k) fun c hc => by have := mxl_le cs c hc; omega]
theorem downR_is (cs : List Nat) : Is (downR cs) (pm cs) 1 := by
  refine ⟨trim_of_last _ ?_, downR_getD cs⟩
  rw [List.getLast?_eq_getElem?, downR_len]
  intro h
  by_cases h0 : mxl cs = 0
  · rw [List.getElem?_eq_none (by rw [downR_len]; omega)] at h
    cases h
  · have e := downR_getD cs (mxl cs - 1)
    rw [List.getD_eq_getElem?_getD, h] at e
    rcases mxl_mem cs with z | z
    · exact h0 z
    · refine pm_pos cs (1 + (mxl cs - 1)) ⟨_, z, by omega⟩ e.symm
end K47

/-! K47B: the plain law: rows, steps, the way of a step. -/
namespace K47
/-- the row of the tape machine's state 4 * q + ph on the mark m -/
def spec (n q : Nat) (row : CR) (ph m : Nat) : TR :=
  if ph = 0 then
    if m = 2 ^ n then (match row with | .stop => none | _ => some (2 ^ n, 1, 4 * q + 1)) else some (m, -1, 4 * q)
  else if ph = 1 then
    match row with
    | .stop => none
    | .inc i t => if m < 2 ^ n then (if m.testBit i then some (m, 1, 4 * q + 1) else some (m + 2 ^ i, -1, 4 * t)) else none
    | .dec i _ u => if m < 2 ^ n then (if m.testBit i then some (m, 1, 4 * q + 2) else some (m, -1, 4 * u)) else none
  else if ph = 2 then
    match row with
    | .dec i _ _ => if m < 2 ^ n then (if m.testBit i then some (m, 1, 4 * q + 2) else some (m, -1, 4 * q + 3)) else none
    | _ => none
  else
    match row with
    | .dec i t _ => if m < 2 ^ n then (if m.testBit i then some (m - 2 ^ i, -1, 4 * t) else none) else none
    | _ => none
def rowAt (rows : List CR) (q : Nat) : CR := rows.getD q .stop
def tb (n : Nat) (rows : List CR) (k m : Nat) : TR := spec n (k / 4) (rowAt rows (k / 4)) (k % 4) m
/-- a step of the tape machine with the rows f -/
def tstep (f : Nat → Nat → TR) (c : TC) : Option TC :=
  match f c.q c.m with
  | none => none
  | some (w, d, q) => if d = 1 then some ⟨q, trim (w :: c.l), c.r.headD 0, c.r.tail⟩ else some ⟨q, c.l.tail, c.l.headD 0, trim (w :: c.r)⟩
theorem trim_len_cons (w : Nat) (l : List Nat) : (trim (w :: l)).length ≤ l.length + 1 := trim_len (w :: l)
theorem tail_len (l : List Nat) : l.tail.length ≤ l.length := by cases l <;> simp
theorem tstep_len {f : Nat → Nat → TR} {c d : TC} (h : tstep f c = some d) : d.l.length + d.r.length ≤ c.l.length + c.r.length + 1 := by
  unfold tstep at h
  split at h
  · cases h
  · rename_i w dd q _
    have h1 := trim_len_cons w c.l
    have h2 := trim_len_cons w c.r
    have h3 := tail_len c.l
    have h4 := tail_len c.r
    split at h <;> cases h
    · show (trim (w :: c.l)).length + c.r.tail.length ≤ _
      omega
    · show c.l.tail.length + (trim (w :: c.r)).length ≤ _
      omega

/-- the configuration that belongs to (q, cs) -/
def dn (q : Nat) (cs : List Nat) : TC := ⟨4 * q, [], 2 ^ cs.length, downR cs⟩
def Quiet (c : TC) : Prop := c.q % 4 ≠ 0 ∨ c.l ≠ []
/-- m steps lead from x to e, none between means anything -/
def Way (f : Nat → Nat → TR) (S M : Nat) (e : TC) : Nat → TC → Prop
  | 0, x => x = e
  | m + 1, x => (x.q < S ∧ x.m < M) ∧ ∃ y, tstep f x = some y ∧ (m ≠ 0 → Quiet y) ∧ Way f S M e m y

/-- the left side with the head at place j, the tape being f, the origin's mark O -/
def lft (f : Nat → Nat) (O : Nat) : Nat → List Nat
  | 0 => []
  | 1 => [O]
  | j + 2 => f (j + 1) :: lft f O (j + 1)
def mk (f : Nat → Nat) (O : Nat) (j : Nat) : Nat := if j = 0 then O else f j
theorem lft_succ (f : Nat → Nat) (O j : Nat) : lft f O (j + 1) = mk f O j :: lft f O j := by
  cases j with
  | zero => rfl
  | succ j => rfl
theorem lft_congr {f g : Nat → Nat} {O : Nat} : ∀ {j : Nat}, (∀ k, k < j → f k = g k) → lft f O j = lft g O j
  | 0, _ => rfl
  | j + 1, h => by
    rw [lft_succ, lft_succ, lft_congr fun k hk => h k (Nat.lt_succ_of_lt hk)]
    congr 1
    unfold mk
    split
    · rfl
    · exact h j (Nat.lt_succ_self _)
theorem lft_trim {f : Nat → Nat} {O : Nat} (hO : O ≠ 0) : ∀ j, trim (lft f O j) = lft f O j
  | 0 => rfl
  | 1 => by
    show (if O = 0 ∧ _ then _ else _) = _
    rw [if_neg fun z => hO z.1]
    rfl
  | j + 2 => by
    have ih := lft_trim (f := f) hO (j + 1)
    show trim (f (j + 1) :: lft f O (j + 1)) = f (j + 1) :: lft f O (j + 1)
    rw [trim_cons_ne, ih]
    rw [ih, lft_succ]
    simp

section
variable {f : Nat → Nat → TR} {S M n : Nat} {e : TC}
theorem way_step {m : Nat} {x y : TC} (hq : x.q < S) (hm : x.m < M) (hs : tstep f x = some y) (hy : m ≠ 0 → Quiet y) (w : Way f S M e m y) : Way f S M e (m + 1) x := ⟨⟨hq, hm⟩, y, hs, hy, w⟩
/-- back to the origin in the state p -/
theorem way_home {p O : Nat} {g : Nat → Nat} (hp : p < S) (hO0 : O ≠ 0) (hOM : O < M) (hrow : ∀ m, m < O → f p m = some (m, -1, p)) (hg : ∀ k, g k < O) :
    ∀ (j : Nat) (r : List Nat), Is r g (j + 1) → (∀ r0, Is r0 g 1 → (⟨p, [], O, r0⟩ : TC) = e) → Way f S M e j ⟨p, lft g O j, mk g O j, r⟩
  | 0, r, hr, he => he r hr
  | j + 1, r, hr, he => by
    have hm : mk g O (j + 1) = g (j + 1) := if_neg (Nat.succ_ne_zero j)
    have ih := way_home hp hO0 hOM hrow hg j (trim (g (j + 1) :: r)) (hr.cons rfl) he
    refine way_step hp ?_ ?_ (fun h0 => .inr ?_) ih
    · show mk g O (j + 1) < M
      rw [hm]
      exact Nat.lt_trans (hg _) hOM
    · unfold tstep
      show (match f p (mk g O (j + 1)) with | none => none | some (w, d, q) => _) = _
      rw [hm, hrow _ (hg _)]
      show (if (-1 : Int) = 1 then _ else some (⟨p, (lft g O (j + 1)).tail, (lft g O (j + 1)).headD 0, trim (g (j + 1) :: r)⟩ : TC)) = _
      rw [if_neg (by decide), lft_succ]
      rfl
    · show lft g O j ≠ []
      obtain ⟨i, rfl⟩ : ∃ i, j = i + 1 := ⟨j - 1, by omega⟩
      rw [lft_succ]
      simp
/-- one step to the right in a row of marks -/
theorem step_right {p p' O j : Nat} {g : Nat → Nat} {r : List Nat} (hO0 : O ≠ 0) (hrow : f p (mk g O j) = some (mk g O j, 1, p')) (hr : Is r g (j + 1)) :
    tstep f ⟨p, lft g O j, mk g O j, r⟩ = some ⟨p', lft g O (j + 1), mk g O (j + 1), r.tail⟩ := by
  unfold tstep
  show (match f p (mk g O j) with | none => none | some (w, d, q) => _) = _
  rw [hrow]
  show (if (1 : Int) = 1 then some (⟨p', trim (mk g O j :: lft g O j), r.headD 0, r.tail⟩ : TC) else _) = _
  rw [if_pos rfl, ← lft_succ, lft_trim hO0, hr.head]
  show some _ = some (⟨p', lft g O (j + 1), if j + 1 = 0 then O else g (j + 1), r.tail⟩ : TC)
  rw [if_neg (Nat.succ_ne_zero j)]
/-- one step to the left, w written at place j + 1, g' the tape behind it -/
theorem step_left {p p' O j w : Nat} {g g' : Nat → Nat} {r : List Nat} (hrow : f p (mk g O (j + 1)) = some (w, -1, p')) (hr : Is r g' (j + 2)) (hw : w = g' (j + 1)) (hg : ∀ k, k ≤ j → g k = g' k) :
    ∃ r', Is r' g' (j + 1) ∧ tstep f ⟨p, lft g O (j + 1), mk g O (j + 1), r⟩ = some ⟨p', lft g' O j, mk g' O j, r'⟩ := by
  refine ⟨trim (w :: r), hr.cons hw, ?_⟩
  unfold tstep
  show (match f p (mk g O (j + 1)) with | none => none | some (w, d, q) => _) = _
  rw [hrow]
  show (if (-1 : Int) = 1 then _ else some (⟨p', (lft g O (j + 1)).tail, (lft g O (j + 1)).headD 0, trim (w :: r)⟩ : TC)) = _
  rw [if_neg (by decide), lft_succ]
  show some (⟨p', lft g O j, mk g O j, trim (w :: r)⟩ : TC) = some ⟨p', lft g' O j, mk g' O j, trim (w :: r)⟩
  rw [lft_congr fun k hk => hg k (Nat.le_of_lt hk)]
  have : mk g O j = mk g' O j := by
    unfold mk
    split
    · rfl
    · exact hg j (Nat.le_refl _)
  rw [this]
/-- to the right in the state p, d places on, then what follows there -/
theorem way_right {p O : Nat} {g : Nat → Nat} (hp : p < S) (hp4 : p % 4 ≠ 0) (hO0 : O ≠ 0) (hOM : O < M) (hg : ∀ k, g k < O) (m c : Nat)
    (hrow : ∀ k, 1 ≤ k → k ≤ c → f p (g k) = some (g k, 1, p)) (hend : ∀ r, Is r g (c + 2) → Way f S M e m ⟨p, lft g O (c + 1), mk g O (c + 1), r⟩) :
    ∀ (d j : Nat) (r : List Nat), 1 ≤ j → j + d = c + 1 → Is r g (j + 1) → Way f S M e (m + d) ⟨p, lft g O j, mk g O j, r⟩
  | 0, j, r, _, hd, hr => by
    have : j = c + 1 := by omega
    subst this
    exact hend r hr
  | d + 1, j, r, hj, hd, hr => by
    have hmk : mk g O j = g j := if_neg (by omega)
    refine way_step hp ?_ (step_right (p' := p) hO0 (by rw [hmk]; exact hrow j hj (by omega)) hr) (fun _ => .inl hp4) ?_
    · show mk g O j < M
      rw [hmk]
      exact Nat.lt_trans (hg _) hOM
    · exact way_right hp hp4 hO0 hOM hg m c hrow hend d (j + 1) r.tail (by omega) (by omega) hr.tail
end

/-! ### counter machines -/
def rowOk (n s : Nat) : CR → Prop
  | .stop => True
  | .inc i t => i < n ∧ t < s
  | .dec i t u => i < n ∧ t < s ∧ u < s
def cstep (row : CR) (q : Nat) (cs : List Nat) : Nat × List Nat :=
  match row with
  | .stop => (q, cs)
  | .inc i t => (t, cs.set i (cs.getD i 0 + 1))
  | .dec i t u => if cs.getD i 0 = 0 then (u, cs) else (t, cs.set i (cs.getD i 0 - 1))
def pace (row : CR) (cs : List Nat) : Nat :=
  match row with
  | .stop => 0
  | .inc i _ => 2 * cs.getD i 0 + 2
  | .dec i _ _ => 2 * cs.getD i 0 + 2
theorem cstep_len (row : CR) (q : Nat) (cs : List Nat) : (cstep row q cs).2.length = cs.length := by
  unfold cstep
  split
  · rfl
  · simp
  · split <;> simp
theorem dn_q (q : Nat) (cs : List Nat) : (dn q cs).q = 4 * q := rfl
theorem tb_at {n : Nat} {rows : List CR} {q ph m : Nat} (h : ph < 4) : tb n rows (4 * q + ph) m = spec n q (rowAt rows q) ph m := by
  unfold tb
  rw [show (4 * q + ph) / 4 = q by omega, show (4 * q + ph) % 4 = ph by omega]
theorem tb_home {n : Nat} {rows : List CR} {q m : Nat} (h : m < 2 ^ n) : tb n rows (4 * q) m = some (m, -1, 4 * q) := by
  have := tb_at (n := n) (rows := rows) (q := q) (ph := 0) (m := m) (by decide)
  rw [Nat.add_zero] at this
  rw [this]
  unfold spec
  rw [if_pos rfl, if_neg (by omega)]
theorem pow_pos2 (n : Nat) : 0 < 2 ^ n := Nat.pow_pos (by decide)

theorem way_of {rows : List CR} {q : Nat} {cs : List Nat} (hq : q < rows.length) (hrow : rowOk cs.length rows.length (rowAt rows q)) (hns : rowAt rows q ≠ .stop) :
    Way (tb cs.length rows) (4 * rows.length) (2 * 2 ^ cs.length) (dn (cstep (rowAt rows q) q cs).1 (cstep (rowAt rows q) q cs).2) (pace (rowAt rows q) cs) (dn q cs) := by
  generalize hn : cs.length = n at hrow ⊢
  have hO0 : 2 ^ n ≠ 0 := Nat.ne_of_gt (pow_pos2 n)
  have hOM : 2 ^ n < 2 * 2 ^ n := by omega
  have hstart : dn q cs = (⟨4 * q, lft (pm cs) (2 ^ n) 0, mk (pm cs) (2 ^ n) 0, downR cs⟩ : TC) := by
    unfold dn
    rw [hn]
    rfl
  have h0 : ∀ ph, ph = 0 → tb n rows (4 * q) (2 ^ n) = some (2 ^ n, 1, 4 * q + 1) := fun _ _ => by
    have := tb_at (n := n) (rows := rows) (q := q) (ph := 0) (m := 2 ^ n) (by decide)
    rw [Nat.add_zero] at this
    rw [this]
    unfold spec
    rw [if_pos rfl, if_pos rfl]
    cases h : rowAt rows q with
    | stop => exact absurd h hns
    | inc i t => rfl
    | dec i t u => rfl
  have hlt : ∀ k, pm cs k < 2 ^ n := fun k => by
    have := pm_lt cs k
    rwa [hn] at this
  -- the first step, from the origin
  have first : ∀ (e : TC) (m : Nat), (∀ r, Is r (pm cs) 2 → Way (tb n rows) (4 * rows.length) (2 * 2 ^ n) e (m + 1) ⟨4 * q + 1, lft (pm cs) (2 ^ n) 1, mk (pm cs) (2 ^ n) 1, r⟩) → Way (tb n rows) (4 * rows.length) (2 * 2 ^ n) e (m + 2) (dn q cs) := fun e m h => by
    rw [hstart]
    refine way_step (by show 4 * q < _; omega) hOM (step_right (p' := 4 * q + 1) hO0 (h0 0 rfl) (downR_is cs)) (fun _ => .inl (by show (4 * q + 1) % 4 ≠ 0; omega)) (h _ (downR_is cs).tail)
  -- the end
  have home : ∀ (t : Nat) (ds : List Nat) (j : Nat) (r : List Nat), t < rows.length → ds.length = n → Is r (pm ds) (j + 1) → Way (tb n rows) (4 * rows.length) (2 * 2 ^ n) (dn t ds) j ⟨4 * t, lft (pm ds) (2 ^ n) j, mk (pm ds) (2 ^ n) j, r⟩ := fun t ds j r ht hd hr => by
    have hltd : ∀ k, pm ds k < 2 ^ n := fun k => by
      have := pm_lt ds k
      rwa [hd] at this
    refine way_home (by omega) hO0 hOM (fun m hm => tb_home hm) hltd j r hr fun r0 h0 => ?_
    unfold dn
    rw [hd, h0.uniq (downR_is ds)]
  have quietL : ∀ (p : Nat) (g : Nat → Nat) (j m : Nat) (r : List Nat), j ≠ 0 → Quiet ⟨p, lft g (2 ^ n) j, m, r⟩ := fun p g j m r hj => .inr (by
    show lft g (2 ^ n) j ≠ []
    obtain ⟨i, rfl⟩ : ∃ i, j = i + 1 := ⟨j - 1, by omega⟩
    rw [lft_succ]
    simp)
  cases hrw : rowAt rows q with
  | stop => exact absurd hrw hns
  | inc i t =>
    rw [hrw] at hrow
    obtain ⟨hi, ht⟩ := hrow
    have hic : i < cs.length := by omega
    have hbit : ∀ k, (pm cs k).testBit i = decide (k ≤ cs.getD i 0) := fun k => pm_bit cs k i hic
    generalize hc : cs.getD i 0 = c at hbit
    have hset := fun k => pm_set cs i (c + 1) k hic
    rw [hc] at hset
    have e1 : cstep (CR.inc i t) q cs = (t, cs.set i (c + 1)) := by
      show (t, cs.set i (cs.getD i 0 + 1)) = _
      rw [hc]
    have e2 : pace (CR.inc i t) cs = (c + 1 + c - 1) + 2 := by
      show 2 * cs.getD i 0 + 2 = _
      rw [hc]
      omega
    rw [e1, e2]
    refine first _ _ fun r hr => ?_
    have hrow1 : ∀ m, m < 2 ^ n → tb n rows (4 * q + 1) m = if m.testBit i then some (m, 1, 4 * q + 1) else some (m + 2 ^ i, -1, 4 * t) := fun m hm => by
      rw [tb_at (by decide), hrw]
      unfold spec
      rw [if_neg (by decide), if_pos rfl]
      show (if m < 2 ^ n then _ else none) = _
      rw [if_pos hm]
    rw [show c + 1 + c - 1 + 1 = (c + 1) + c by omega]
    refine way_right (p := 4 * q + 1) (by omega) (by omega) hO0 hOM hlt (c + 1) c (fun k hk1 hk => ?_) (fun r' hr' => ?_) c 1 r (Nat.le_refl _) (by omega) hr
    · rw [hrow1 _ (hlt k), hbit k]
      rw [if_pos (by simpa using hk)]
    · have hg : pm (cs.set i (c + 1)) (c + 1) = pm cs (c + 1) + 2 ^ i := by
        have := hset (c + 1)
        rw [if_neg (by omega), if_pos (by omega)] at this
        omega
      have hg2 : ∀ k, k ≠ c + 1 → pm cs k = pm (cs.set i (c + 1)) k := fun k hk => by
        have := hset k
        by_cases h : k ≤ c
        · rw [if_pos h, if_pos (by omega)] at this
          omega
        · rw [if_neg h, if_neg (by omega)] at this
          omega
      obtain ⟨r2, hr2, hs⟩ := step_left (f := tb n rows) (p := 4 * q + 1) (p' := 4 * t) (O := 2 ^ n) (j := c) (w := pm cs (c + 1) + 2 ^ i) (g := pm cs) (g' := pm (cs.set i (c + 1))) (r := r')
        (by
          show tb n rows (4 * q + 1) (if c + 1 = 0 then _ else pm cs (c + 1)) = _
          rw [if_neg (by omega), hrow1 _ (hlt _), hbit]
          rw [if_neg (by simp)])
        (hr'.congr fun k hk => hg2 k (by omega)) hg.symm (fun k hk => hg2 k (by omega))
      refine way_step (by show 4 * q + 1 < _; omega) ?_ hs (fun h => quietL _ _ _ _ _ h) (home t (cs.set i (c + 1)) c r2 ht (by rw [List.length_set]; exact hn) hr2)
      show (if c + 1 = 0 then 2 ^ n else pm cs (c + 1)) < 2 * 2 ^ n
      rw [if_neg (by omega)]
      exact Nat.lt_trans (hlt _) hOM
  | dec i t u =>
    rw [hrw] at hrow
    obtain ⟨hi, ht, hu⟩ := hrow
    have hic : i < cs.length := by omega
    have hbit : ∀ k, (pm cs k).testBit i = decide (k ≤ cs.getD i 0) := fun k => pm_bit cs k i hic
    have hrow1 : ∀ m, m < 2 ^ n → tb n rows (4 * q + 1) m = if m.testBit i then some (m, 1, 4 * q + 2) else some (m, -1, 4 * u) := fun m hm => by
      rw [tb_at (by decide), hrw]
      unfold spec
      rw [if_neg (by decide), if_pos rfl]
      show (if m < 2 ^ n then _ else none) = _
      rw [if_pos hm]
    have hrow2 : ∀ m, m < 2 ^ n → tb n rows (4 * q + 2) m = if m.testBit i then some (m, 1, 4 * q + 2) else some (m, -1, 4 * q + 3) := fun m hm => by
      rw [tb_at (by decide), hrw]
      unfold spec
      rw [if_neg (by decide), if_neg (by decide), if_pos rfl]
      show (if m < 2 ^ n then _ else none) = _
      rw [if_pos hm]
    have hrow3 : ∀ m, m < 2 ^ n → tb n rows (4 * q + 3) m = if m.testBit i then some (m - 2 ^ i, -1, 4 * t) else none := fun m hm => by
      rw [tb_at (by decide), hrw]
      unfold spec
      rw [if_neg (by decide), if_neg (by decide), if_neg (by decide)]
      show (if m < 2 ^ n then _ else none) = _
      rw [if_pos hm]
    have e1 : cstep (CR.dec i t u) q cs = if cs.getD i 0 = 0 then (u, cs) else (t, cs.set i (cs.getD i 0 - 1)) := rfl
    have e2 : pace (CR.dec i t u) cs = 2 * cs.getD i 0 + 2 := rfl
    generalize hc : cs.getD i 0 = c at hbit e1 e2
    rw [e1, e2]
    have mkM : ∀ j, j ≠ 0 → mk (pm cs) (2 ^ n) j < 2 * 2 ^ n := fun j hj => by
      show (if j = 0 then _ else pm cs j) < _
      rw [if_neg hj]
      exact Nat.lt_trans (hlt _) hOM
    have mkE : ∀ j, j ≠ 0 → mk (pm cs) (2 ^ n) j = pm cs j := fun j hj => if_neg hj
    by_cases hc0 : c = 0
    · subst hc0
      rw [if_pos rfl]
      refine first _ 0 fun r hr => ?_
      obtain ⟨r2, hr2, hs⟩ := step_left (f := tb n rows) (p := 4 * q + 1) (p' := 4 * u) (O := 2 ^ n) (j := 0) (w := pm cs 1) (g := pm cs) (g' := pm cs) (r := r)
        (by
          rw [mkE _ (by omega), hrow1 _ (hlt _), hbit]
          rw [if_neg (by simp)])
        hr rfl (fun k hk => rfl)
      exact way_step (by show 4 * q + 1 < _; omega) (mkM 1 (by omega)) hs (fun h => absurd rfl h) (home u cs 0 r2 hu hn hr2)
    · rw [if_neg hc0]
      obtain ⟨c', rfl⟩ : ∃ c', c = c' + 1 := ⟨c - 1, by omega⟩
      have hset := fun k => pm_set cs i c' k hic
      rw [hc] at hset
      rw [show c' + 1 - 1 = c' by omega]
      have hg : pm (cs.set i c') (c' + 1) = pm cs (c' + 1) - 2 ^ i := by
        have := hset (c' + 1)
        rw [if_pos (by omega), if_neg (by omega)] at this
        omega
      have hg2 : ∀ k, k ≠ c' + 1 → pm cs k = pm (cs.set i c') k := fun k hk => by
        have := hset k
        by_cases h : k ≤ c'
        · rw [if_pos (by omega), if_pos h] at this
          omega
        · rw [if_neg (by omega), if_neg h] at this
          omega
      -- steps: 1 (first), 1 (place 1), c' (to place c' + 2), 1 (left, state 3), 1 (left), c' home
      rw [show 2 * (c' + 1) + 2 = (1 + 1 + c' + c') + 2 by omega]
      refine first _ _ fun r hr => ?_
      refine way_step (by show 4 * q + 1 < _; omega) (mkM 1 (by omega)) (step_right (p' := 4 * q + 2) hO0 (by rw [mkE _ (by omega), hrow1 _ (hlt _), hbit, if_pos (by simp)]) hr) (fun _ => .inl (by show (4 * q + 2) % 4 ≠ 0; omega)) ?_
      rw [show 1 + 1 + c' + c' = (c' + 1 + 1) + c' by omega]
      refine way_right (p := 4 * q + 2) (by omega) (by omega) hO0 hOM hlt (c' + 1 + 1) (c' + 1) (fun k hk1 hk => ?_) (fun r' hr' => ?_) c' 2 r.tail (by omega) (by omega) hr.tail
      · rw [hrow2 _ (hlt k), hbit k, if_pos (by simpa using hk)]
      · obtain ⟨r2, hr2, hs⟩ := step_left (f := tb n rows) (p := 4 * q + 2) (p' := 4 * q + 3) (O := 2 ^ n) (j := c' + 1) (w := pm cs (c' + 2)) (g := pm cs) (g' := pm cs) (r := r')
          (by
            rw [mkE _ (by omega), hrow2 _ (hlt _), hbit]
            rw [if_neg (by simp)])
          hr' rfl (fun k hk => rfl)
        refine way_step (by show 4 * q + 2 < _; omega) (mkM (c' + 2) (by omega)) hs (fun _ => .inl (by show (4 * q + 3) % 4 ≠ 0; omega)) ?_
        obtain ⟨r3, hr3, hs3⟩ := step_left (f := tb n rows) (p := 4 * q + 3) (p' := 4 * t) (O := 2 ^ n) (j := c') (w := pm cs (c' + 1) - 2 ^ i) (g := pm cs) (g' := pm (cs.set i c')) (r := r2)
          (by
            rw [mkE _ (by omega), hrow3 _ (hlt _), hbit]
            rw [if_pos (by simp)])
          (hr2.congr fun k hk => hg2 k (by omega)) hg.symm (fun k hk => hg2 k (by omega))
        exact way_step (by show 4 * q + 3 < _; omega) (mkM (c' + 1) (by omega)) hs3 (fun h => quietL _ _ _ _ _ h) (home t (cs.set i c') c' r3 ht (by rw [List.length_set]; exact hn) hr3)
end K47

/-! K47C: the text by places; is_integer, is_number, trimmed. -/
namespace K47
open PySem PySem.Spec PyProof.Rows L2
/-! ### the text -/
def topS (i : Nat) : Stmt := PySem.Challenge.pw_stepdown_k47_whole_a_tape_does_what_coun.main.body.getD i (.Pass ⟨0, 0, 0, 0⟩)
abbrev sIsInt : Stmt := topS 8
abbrev sTrim : Stmt := topS 9
abbrev sIsNum : Stmt := topS 17
section
variable {P : Program} {w : World} {K : PySem.W.Frag} {mg : Str → Option Value} {base : Heap}
theorem scIsInt : FnScope ["value", "least", "most"] ["value", "least", "most"] (defScope sIsInt) := ⟨rfl, rfl, rfl, by decide +kernel, rfl, by decide +kernel, by decide +kernel⟩
def spIsInt : Sp := fun vs H Q _ => ∃ v lo hi : Int, vs = [.int v, .int lo, .int hi] ∧ Q (.bl (decide (lo ≤ v ∧ v ≤ hi))) H
theorem ok_isInt {f : Addr} {fd : FuncData} (F : Fun K "is_integer" "is_integer" sIsInt f fd) (m1 : mg "isinstance" = none) (m2 : mg "int" = none) (m3 : mg "bool" = none) :
    FnOk P w K mg base CX0 1 f fd ["value", "least", "most"] spIsInt := by
  refine F.ok scIsInt (fun vs H Q E h => ?_) (fun cdv A outer s H vs Q E hr h => ?_)
  · obtain ⟨v, lo, hi, rfl, _⟩ := h
    rfl
  · obtain ⟨v, lo, hi, rfl, q⟩ := h
    refine ⟨_, pss_one (ps_ret (pe_and (pe_callB call_isi (by rfl) m1 (by decide +kernel) (pa_cons (pv 0) (pa_cons (pe_bltn (v := .ty "int") (by rfl) m2 (by decide +kernel) rfl) pa_nil)))
      (pe_and (pe_not (pe_callB call_isi (by rfl) m1 (by decide +kernel) (pa_cons (pv 0) (pa_cons (pe_bltn (v := .ty "bool") (by rfl) m3 (by decide +kernel) rfl) pa_nil))))
        (pe_one (pe_chain op_le op_le (pv 1) (pv 0) (pv 2)))))), ?_⟩
    refine ⟨_, rfl, _, _, _, _, true, rfl, .ty _, .base (.int v), kit_ty (by decide +kernel), true, rfl, iteT ?_⟩
    refine ⟨_, rfl, _, _, _, _, false, rfl, .ty _, .base (.int v), kit_ty (by decide +kernel), false, rfl, true, rfl, iteT ?_⟩
    refine ⟨_, rfl, _, rfl, _, _, rfl, rfl, _, rfl, ite2 (fun h1 => ?_) (fun h1 => ?_)⟩
    · refine ⟨_, rfl, _, _, rfl, rfl, ?_⟩
      have e : decide (v ≤ hi) = decide (lo ≤ v ∧ v ≤ hi) := by
        have := of_decide_eq_true h1
        simp [this]
      show Q (.bl (decide (v ≤ hi))) H
      rw [e]
      exact q
    · have e : false = decide (lo ≤ v ∧ v ≤ hi) := by
        have : ¬ lo ≤ v := fun z => h1 (decide_eq_true z)
        simp [this]
      show Q (.bl false) H
      rw [e]
      exact q
end
end K47

/-! K47D: helpers over the layer; is_number, trimmed. -/
namespace K47
open PySem PySem.Spec PyProof.Rows L2
/-! ### helpers -/
theorem same_upd {H : Hp} {p : Addr} {o : HO} (h : H p = none) : Same H (upd H p o) := fun b x e => by
  rw [upd_ne (ne_of_none e h)]
  exact e
abbrev nv (xs : List Nat) : List V := xs.map fun (x : Nat) => V.int (x : Int)
theorem nv_len (xs : List Nat) : (nv xs).length = xs.length := List.length_map _
theorem nv_at {xs : List Nat} {i x : Nat} (h : xs[i]? = some x) : (nv xs)[i]? = some (.int (x : Int)) := by
  show (xs.map _)[i]? = _
  rw [List.getElem?_map, h]
  rfl
theorem nv_getD {xs : List Nat} {i : Nat} (h : i < xs.length) : (nv xs)[i]? = some (.int ((xs.getD i 0 : Nat) : Int)) := by
  refine nv_at ?_
  rw [List.getD_eq_getElem?_getD, List.getElem?_eq_getElem h]
  rfl
theorem line1000 {n : Nat} (h : n ≤ 1000) : n ≤ sizeLine := Nat.le_of_lt (small1000 h)
theorem cut_take (xs : List V) (k : Nat) (h : k ≤ xs.length) : cutV xs none (some (k : Int)) = xs.take k := by
  unfold cutV
  rw [HT.sIx_none, HT.sIx_nat, Nat.min_eq_left h]
  rfl
theorem cut_drop (xs : List V) (k : Nat) (h : k ≤ xs.length) : cutV xs (some (k : Int)) none = xs.drop k := by
  unfold cutV
  rw [HT.sIx_none, HT.sIx_nat, Nat.min_eq_left h]
  exact List.take_of_length_le (by rw [List.length_drop]; exact Nat.le_refl _)
theorem cut_drop1 (xs : List V) : cutV xs (some 1) none = xs.drop 1 := by
  cases xs with
  | nil => rfl
  | cons x r => exact cut_drop (x :: r) 1 (by simp)
theorem cut_whole {xs : List V} {lo hi : Option Int} (h : HT.sIx xs.length 0 lo = 0 ∧ HT.sIx xs.length xs.length hi = xs.length) : cutV xs lo hi = xs := by
  unfold cutV
  rw [h.1, h.2]
  simp
/-- a tuple's slice -/
theorem sl_ok {K : PySem.W.Frag} {H : Hp} {a : Addr} {xs r : List V} {lo hi : Option Int} {Q : VK} (h : H a = some (.tup xs)) (e : cutV xs lo hi = r)
    (q : ∀ H' p, Same H H' → H' p = some (.tup r) → Q (.ref p) H') : rSlA K (.ref a) lo hi H Q := by
  refine ⟨a, xs, rfl, SqT.of h, fun hw => ?_, fun _ p hp => ?_⟩
  · rw [cut_whole hw] at e
    subst e
    exact q H a (Same.refl H) h
  · rw [e]
    exact q _ p (same_upd hp) upd_same
theorem np {K : PySem.W.Frag} {x : V} {lo : Option Int} {H : Hp} {Q : VK} {σ : L2.St} (h : rSlA K x lo none H Q) : tNoPart σ H (fun u H3 => rSlA K x lo u H3 Q) := h
/-- a tuple + a tuple -/
theorem cat_ok {K : PySem.W.Frag} {H : Hp} {a b : Addr} {xs ys : List V} {Q : VK} (ha : H a = some (.tup xs)) (hb : H b = some (.tup ys)) (hl : xs.length + ys.length ≤ sizeLine)
    (q : ∀ H' p, Same H H' → H' p = some (.tup (xs ++ ys)) → Q (.ref p) H') : rCatA K (.ref a) (.ref b) H Q := by
  refine ⟨a, b, xs, ys, rfl, rfl, SqT.of ha, SqT.of hb, hl, fun e => ?_, fun _ e => ?_, fun _ _ p hp => ?_⟩
  · subst e
    exact q H b (Same.refl H) hb
  · subst e
    exact q H a (Same.refl H) (by rw [List.append_nil]; exact ha)
  · exact q _ p (same_upd hp) upd_same

/-! ### rules with the written part named (for a comprehension's block) -/
def rLenS (K : PySem.W.Frag) : List V → Hp → VK → Prop := fun xs H Q => ∃ p ys, xs = [.ref p] ∧ (SqL K H p ys ∨ SqT K H p ys) ∧ Q (.int ys.length) H
theorem lenK {X : Cx} (K : PySem.W.Frag) (e : X.K = K := by rfl) : CallR X (.builtin "len") (rLenS K) := by
  subst e
  exact call_len_seq
theorem ixTK {X : Cx} (K : PySem.W.Frag) (e : X.K = K := by rfl) : IxR X (rIxT K) := by
  subst e
  exact ix_tup
theorem ixLK {X : Cx} (K : PySem.W.Frag) (e : X.K = K := by rfl) : IxR X (rIxL K) := by
  subst e
  exact ix_list
def tTru (K : PySem.W.Frag) (ta : TE) : TT := fun σ H Q => ta σ H fun x H' => ∃ k, TruV K x H' k ∧ Q k H'
theorem truK {X : Cx} (K : PySem.W.Frag) {a : Expr} {ta : TE} (ha : PE X a ta) (he : ∀ whole, isTrue a X.env whole = (do let v ← whole; standAt a.pos; holding [v] (truthy v)) := by intro _; rfl) (e : X.K = K := by rfl) : PT X a (tTru K ta) := by
  subst e
  exact pt_truth ha he
theorem pi_tupK {X : Cx} (K : PySem.W.Frag) {tg l : Expr} {tl : TE} (hl : PE X l tl) (e : X.K = K := by rfl) : PI X tg l (iTup K tl) := by
  subst e
  exact pi_tup hl
section
variable {P : Program} {w : World} {K : PySem.W.Frag} {mg : Str → Option Value} {base : Heap}
/-! ### is_number -/
theorem scIsNum : FnScope ["value", "bound"] ["value", "bound"] (defScope sIsNum) := ⟨rfl, rfl, rfl, by decide +kernel, rfl, by decide +kernel, by decide +kernel⟩
def spIsNum : Sp := fun vs H Q _ => ∃ v b : Int, vs = [.int v, .int b] ∧ Q (.bl (decide (0 ≤ v ∧ v < b))) H
theorem ok_isNum {f : Addr} {fd : FuncData} (F : Fun K "is_number" "is_number" sIsNum f fd) (m1 : mg "isinstance" = none) (m2 : mg "int" = none) (m3 : mg "bool" = none) :
    FnOk P w K mg base CX0 1 f fd ["value", "bound"] spIsNum := by
  refine F.ok scIsNum (fun vs H Q E h => ?_) (fun cdv A outer s H vs Q E hr h => ?_)
  · obtain ⟨v, b, rfl, _⟩ := h
    rfl
  · obtain ⟨v, hi, rfl, q⟩ := h
    refine ⟨_, pss_one (ps_ret (pe_and (pe_callB call_isi (by rfl) m1 (by decide +kernel) (pa_cons (pv 0) (pa_cons (pe_bltn (v := .ty "int") (by rfl) m2 (by decide +kernel) rfl) pa_nil)))
      (pe_and (pe_not (pe_callB call_isi (by rfl) m1 (by decide +kernel) (pa_cons (pv 0) (pa_cons (pe_bltn (v := .ty "bool") (by rfl) m3 (by decide +kernel) rfl) pa_nil))))
        (pe_one (pe_chain op_le op_lt pe_int (pv 0) (pv 1)))))), ?_⟩
    refine ⟨_, rfl, _, _, _, _, true, rfl, .ty _, .base (.int v), kit_ty (by decide +kernel), true, rfl, iteT ?_⟩
    refine ⟨_, rfl, _, _, _, _, false, rfl, .ty _, .base (.int v), kit_ty (by decide +kernel), false, rfl, true, rfl, iteT ?_⟩
    refine ⟨_, rfl, _, _, rfl, rfl, _, rfl, ite2 (fun h1 => ?_) (fun h1 => ?_)⟩
    · refine ⟨_, rfl, _, _, rfl, rfl, ?_⟩
      have e : decide (v < hi) = decide (0 ≤ v ∧ v < hi) := by
        have := of_decide_eq_true h1
        simp [this]
      show Q (.bl (decide (v < hi))) H
      rw [e]
      exact q
    · have e : false = decide (0 ≤ v ∧ v < hi) := by
        have : ¬ 0 ≤ v := fun z => h1 (decide_eq_true z)
        simp [this]
      show Q (.bl false) H
      rw [e]
      exact q
/-! ### trimmed -/
theorem scTrim : FnScope ["marks", "count"] ["marks"] (defScope sTrim) := ⟨rfl, rfl, rfl, by decide +kernel, rfl, by decide +kernel, by decide +kernel⟩
def spTrim : Sp := fun vs H Q _ => ∃ (b : Addr) (xs : List Nat), vs = [.ref b] ∧ H b = some (.tup (nv xs)) ∧ xs.length ≤ 1000 ∧
  ∀ H' p, Same H H' → H' p = some (.tup (nv (trim xs))) → Q (.ref p) H'
theorem ok_trim {f : Addr} {fd : FuncData} (F : Fun K "trimmed" "trimmed" sTrim f fd) (m1 : mg "len" = none) (m2 : mg "tuple" = none) :
    FnOk P w K mg base CX0 1 f fd ["marks"] spTrim := by
  refine F.ok scTrim (fun vs H Q E h => ?_) (fun cdv A outer s H vs Q E hr h => ?_)
  · obtain ⟨b, xs, rfl, _⟩ := h
    rfl
  · obtain ⟨b, xs, rfl, hb, hl, q⟩ := h
    refine ⟨_, pss_cons (ps_set (i := 1) scTrim.nd rfl (.inl rfl) (pe_callB call_len_seq (by rfl) m1 PySem.boot_len (pa_cons (pv 0) pa_nil)))
      (pss_cons (ps_while PassesOwn.never (PW.pt (pw_and (pt_cmpR op_gt (pv 1) pe_int (nomark _)) (pw_and1 (pt_cmpR op_eq (pe_ix ix_tup (pv 0) (pe_op op_sub (pv 1) pe_int) (fun _ _ => rfl)) pe_int (nomark _)))))
        (pss_one (ps_aug (i := 1) scTrim.nd rfl (.inl rfl) pe_int ip_sub)))
      (pss_one (ps_ret (pe_callTy call_tuple_of (by rfl) m2 (by decide +kernel) (pa_cons (pe_slice sl_tupA (pv 0) po_none (po_some (pv 1))) pa_nil))))), ?_⟩
    refine ⟨_, rfl, b, nv xs, rfl, .inr (SqT.of hb), ?_⟩
    refine ⟨fun m σ H' => H' = H ∧ m ≤ xs.length ∧ (trim xs).length ≤ m ∧ σ = [some (.ref b), some (.int (m : Int))], ⟨xs.length, rfl, Nat.le_refl _, trim_len xs, by rw [nv_len]; rfl⟩, ?_⟩
    rintro m σ H' ⟨rfl, hm, ht, rfl⟩
    have done : (m = 0 ∨ xs.getD (m - 1) 0 ≠ 0) → (tRet (tCB (fun xs H Q => ∃ p ys, xs = [.ref p] ∧ ((SqL K H p ys ∧ ∀ l, H l = none → Q (.ref l) (upd H l (.tup ys))) ∨ (SqT K H p ys ∧ Q (.ref p) H))) (tCons (tSl (rSlA K) (tVar 0) tNoPart (tPart (tVar 1))) tNil))) { nx := fun _ H' => Q .non H', rt := Q } [some (.ref b), some (.int (m : Int))] H' := fun hz => by
      have em : m = (trim xs).length := by
        rcases Nat.lt_or_ge (trim xs).length m with h | h
        · rcases hz with e | e
          · omega
          · exact absurd (trim_beyond xs (m - 1) (by omega)) e
        · omega
      refine ⟨_, rfl, _, rfl, _, rfl, sl_ok (K := K) hb (cut_take (nv xs) m (by rw [nv_len]; exact hm)) fun H1 p s1 hp => ?_⟩
      refine ⟨p, _, rfl, .inr ⟨SqT.of hp, q H1 p s1 ?_⟩⟩
      rw [hp, em, ← List.map_take, trim_take]
    refine ⟨_, rfl, _, _, rfl, rfl, _, rfl, ite2 (fun h => ?_) (fun h => ?_)⟩
    · have h0 : 0 < m := by
        have := of_decide_eq_true h
        omega
      obtain ⟨k, rfl⟩ : ∃ k, m = k + 1 := ⟨m - 1, by omega⟩
      have hk : k < xs.length := by omega
      refine ⟨_, rfl, _, rfl, _, _, rfl, rfl, b, nv xs, _, _, rfl, rfl, SqT.of hb, at_of (j := k) (by omega) (nv_getD hk), rfl, _, rfl, ite2 (fun h2 => ?_) (fun h2 => ?_)⟩
      · have h3 : xs.getD k 0 = 0 := by
          have := V.int.inj (of_decide_eq_true h2)
          omega
        refine ⟨fun σ' H1 => H1 = H' ∧ σ' = [some (.ref b), some (.int (k : Int))], fun σ' H1 ⟨e1, e2⟩ => ⟨k, Nat.lt_succ_self _, e1, by omega, ?_, e2⟩, ?_⟩
        · rcases Nat.lt_or_ge k (trim xs).length with h4 | h4
          · have := trim_last xs (by omega)
            rw [show (trim xs).length - 1 = k by omega] at this
            exact absurd h3 this
          · exact h4
        · refine ⟨_, rfl, _, _, rfl, rfl, rfl, ?_⟩
          show [some (V.ref b), some (V.int (((k + 1 : Nat) : Int) - 1))] = _
          rw [show ((k + 1 : Nat) : Int) - 1 = (k : Int) by omega]
      · refine done (.inr fun z => h2 (decide_eq_true ?_))
        rw [show k + 1 - 1 = k by omega] at z
        rw [z]
        rfl
    · have h0 : m = 0 := by
        rcases Nat.eq_zero_or_pos m with e | e
        · exact e
        · exact absurd (decide_eq_true (by omega)) h
      exact done (.inl h0)
end
end K47

/-! K47E: comprehensions in short; rows, machines as they stand in the heap. -/
namespace K47
open PySem PySem.Spec PyProof.Rows L2
/-! ### comprehensions: one own name in slot j; the list so far by the turn -/
theorem wipe1 (σ : L2.St) (j : Nat) (a : Option V) : wipe ((wipe σ [j]).set j a) [j] = wipe σ [j] := by
  show ((σ.set j none).set j a).set j none = σ.set j none
  rw [List.set_set, List.set_set]
theorem grow_same {H1 H H4 : Hp} {D : Addr} {o : HO} (hD : H1 D = none) (s1 : Same H1 H) (s2 : Same H H4) : Same H1 (upd H4 D o) := fun b x e => by
  rw [upd_ne (ne_of_none e hD)]
  exact s2 _ _ (s1 _ _ e)
theorem tyes {σ : L2.St} {H : Hp} {Q : Bool → Hp → Prop} (h : Q true H) : tYes σ H Q := h
theorem lcR {lo : Int} {n j : Nat} {tt : TT} {te : TE} {σ : L2.St} {H1 : Hp} {D : Addr} {Qd : Hp → Prop} (acc : Nat → List V) (hD : H1 D = none) (h0 : acc 0 = []) (hl : ∀ i, i ≤ n → (acc i).length ≤ 1000)
    (hs : ∀ i H, i < n → Same H1 H → ∀ (R : V → Hp → Prop) (Rn : Hp → Prop), (∀ y H4, Same H H4 → acc (i + 1) = acc i ++ [y] → R y H4) → (∀ H3, Same H H3 → acc (i + 1) = acc i → Rn H3) →
      tt ((σ.set j none).set j (some (.int (lo + i)))) H fun b H3 => if b = true then te ((σ.set j none).set j (some (.int (lo + i)))) H3 R else Rn H3)
    (hd : ∀ H, Same H1 H → H D = some (.lst (acc n)) → Qd H) :
    ∃ W : Nat → Nat → Hp → Prop, (∃ m, W 0 m (upd H1 D (.lst []))) ∧ ∀ i m H, W i m H →
      ((Itr lo n).stop i H ∧ Qd H) ∨ ((Itr lo n).go i H ∧ ∃ Nx : Hp → Prop, (∀ H', Nx H' → ∃ m', m' < m ∧ W (i + 1) m' H') ∧ ∀ x H', (Itr lo n).yld i H x H' → gName j x (wipe σ [j]) H' fun σ2 H2 => wipe σ2 [j] = wipe σ [j] ∧ tt σ2 H2 fun b H3 =>
        if b = true then te σ2 H3 fun y H4 => ∃ acc, H4 D = some (.lst acc) ∧ acc.length < sizeLine ∧ Nx (upd H4 D (.lst (acc ++ [y]))) else Nx H3) := by
  refine lc_range (fun i H => i ≤ n ∧ Same H1 H ∧ H D = some (.lst (acc i))) ⟨Nat.zero_le _, same_upd hD, by rw [upd_same, h0]⟩ (fun i H hi ⟨_, sm, eD⟩ => ⟨wipe1 σ j _, ?_⟩) (fun H ⟨_, sm, eD⟩ => hd H sm eD)
  refine hs i H hi sm _ _ (fun y H4 s4 ea => ⟨acc i, s4 _ _ eD, small1000 (hl i (Nat.le_of_lt hi)), hi, grow_same hD sm s4, ?_⟩) (fun H3 s3 ea => ⟨hi, sm.trans s3, ?_⟩)
  · rw [upd_same, ea]
  · rw [ea]
    exact s3 _ _ eD
theorem lcT {K : PySem.W.Frag} {a : Addr} {xs : List V} {j : Nat} {tt : TT} {te : TE} {σ : L2.St} {H1 : Hp} {D : Addr} {Qd : Hp → Prop} (acc : Nat → List V) (ha : SqT K H1 a xs) (hD : H1 D = none) (h0 : acc 0 = []) (hl : ∀ i, i ≤ xs.length → (acc i).length ≤ 1000)
    (hs : ∀ i x H, xs[i]? = some x → Same H1 H → ∀ (R : V → Hp → Prop) (Rn : Hp → Prop), (∀ y H4, Same H H4 → acc (i + 1) = acc i ++ [y] → R y H4) → (∀ H3, Same H H3 → acc (i + 1) = acc i → Rn H3) →
      tt ((σ.set j none).set j (some x)) H fun b H3 => if b = true then te ((σ.set j none).set j (some x)) H3 R else Rn H3)
    (hd : ∀ H, Same H1 H → H D = some (.lst (acc xs.length)) → Qd H) :
    ∃ W : Nat → Nat → Hp → Prop, (∃ m, W 0 m (upd H1 D (.lst []))) ∧ ∀ i m H, W i m H →
      ((Itt K a).stop i H ∧ Qd H) ∨ ((Itt K a).go i H ∧ ∃ Nx : Hp → Prop, (∀ H', Nx H' → ∃ m', m' < m ∧ W (i + 1) m' H') ∧ ∀ x H', (Itt K a).yld i H x H' → gName j x (wipe σ [j]) H' fun σ2 H2 => wipe σ2 [j] = wipe σ [j] ∧ tt σ2 H2 fun b H3 =>
        if b = true then te σ2 H3 fun y H4 => ∃ acc, H4 D = some (.lst acc) ∧ acc.length < sizeLine ∧ Nx (upd H4 D (.lst (acc ++ [y]))) else Nx H3) := by
  have keep : ∀ {H}, Same H1 H → SqT K H a xs := fun {H} sm => by
    rcases ha with (h | ⟨o, h⟩) | h
    · exact .inl (.inl (sm _ _ h))
    · exact .inl (.inr ⟨o, sm _ _ h⟩)
    · exact .inr h
  refine lc_tup (fun i H => i ≤ xs.length ∧ Same H1 H ∧ H D = some (.lst (acc i))) ⟨Nat.zero_le _, same_upd hD, by rw [upd_same, h0]⟩ (fun i H _ ⟨_, sm, _⟩ => keep sm) (fun i x H hx ⟨_, sm, eD⟩ => ⟨wipe1 σ j _, ?_⟩) (fun H ⟨_, sm, eD⟩ => hd H sm eD)
  have hi : i < xs.length := (List.getElem?_eq_some_iff.mp hx).1
  refine hs i x H hx sm _ _ (fun y H4 s4 ea => ⟨acc i, s4 _ _ eD, small1000 (hl i (Nat.le_of_lt hi)), hi, grow_same hD sm s4, ?_⟩) (fun H3 s3 ea => ⟨hi, sm.trans s3, ?_⟩)
  · rw [upd_same, ea]
  · rw [ea]
    exact s3 _ _ eD
theorem lcL {K : PySem.W.Frag} {a : Addr} {xs : List V} {j : Nat} {tt : TT} {te : TE} {σ : L2.St} {H1 : Hp} {D : Addr} {Qd : Hp → Prop} (acc : Nat → List V) (ha : SqL K H1 a xs) (hD : H1 D = none) (h0 : acc 0 = []) (hl : ∀ i, i ≤ xs.length → (acc i).length ≤ 1000)
    (hs : ∀ i x H, xs[i]? = some x → Same H1 H → ∀ (R : V → Hp → Prop) (Rn : Hp → Prop), (∀ y H4, Same H H4 → acc (i + 1) = acc i ++ [y] → R y H4) → (∀ H3, Same H H3 → acc (i + 1) = acc i → Rn H3) →
      tt ((σ.set j none).set j (some x)) H fun b H3 => if b = true then te ((σ.set j none).set j (some x)) H3 R else Rn H3)
    (hd : ∀ H, Same H1 H → H D = some (.lst (acc xs.length)) → Qd H) :
    ∃ W : Nat → Nat → Hp → Prop, (∃ m, W 0 m (upd H1 D (.lst []))) ∧ ∀ i m H, W i m H →
      ((Itl K a).stop i H ∧ Qd H) ∨ ((Itl K a).go i H ∧ ∃ Nx : Hp → Prop, (∀ H', Nx H' → ∃ m', m' < m ∧ W (i + 1) m' H') ∧ ∀ x H', (Itl K a).yld i H x H' → gName j x (wipe σ [j]) H' fun σ2 H2 => wipe σ2 [j] = wipe σ [j] ∧ tt σ2 H2 fun b H3 =>
        if b = true then te σ2 H3 fun y H4 => ∃ acc, H4 D = some (.lst acc) ∧ acc.length < sizeLine ∧ Nx (upd H4 D (.lst (acc ++ [y]))) else Nx H3) := by
  refine lc_list (fun i H => i ≤ xs.length ∧ Same H1 H ∧ H D = some (.lst (acc i))) ⟨Nat.zero_le _, same_upd hD, by rw [upd_same, h0]⟩ (fun i H _ ⟨_, sm, _⟩ => sm.seq ha) (fun i x H hx ⟨_, sm, eD⟩ => ⟨wipe1 σ j _, ?_⟩) (fun H ⟨_, sm, eD⟩ => hd H sm eD)
  have hi : i < xs.length := (List.getElem?_eq_some_iff.mp hx).1
  refine hs i x H hx sm _ _ (fun y H4 s4 ea => ⟨acc i, s4 _ _ eD, small1000 (hl i (Nat.le_of_lt hi)), hi, grow_same hD sm s4, ?_⟩) (fun H3 s3 ea => ⟨hi, sm.trans s3, ?_⟩)
  · rw [upd_same, ea]
  · rw [ea]
    exact s3 _ _ eD

/-! ### rows and machines in the heap -/
/-- tuples stay -/
def TSame (H H' : Hp) : Prop := ∀ a xs, H a = some (.tup xs) → H' a = some (.tup xs)
theorem TSame.of {H H' : Hp} (s : Same H H') : TSame H H' := fun a xs h => s _ _ h
theorem TSame.refl (H : Hp) : TSame H H := fun _ _ h => h
theorem TSame.trans {H H1 H2 : Hp} (a : TSame H H1) (b : TSame H1 H2) : TSame H H2 := fun c xs h => b _ _ (a _ _ h)
/-- a list is changed -/
theorem TSame.lst {H : Hp} {l : Addr} {xs ys : List V} (h : H l = some (.lst xs)) : TSame H (upd H l (.lst ys)) := fun a zs e => by
  rw [upd_ne (ne_of e h (by intro z; cases z))]
  exact e
def CRv (H : Hp) (v : V) : CR → Prop
  | .stop => v = .non
  | .inc i t => ∃ a, v = .ref a ∧ H a = some (.tup [.str "inc", .int (i : Int), .int (t : Int)])
  | .dec i t u => ∃ a, v = .ref a ∧ H a = some (.tup [.str "dec", .int (i : Int), .int (t : Int), .int (u : Int)])
def TRv (H : Hp) (v : V) : TR → Prop
  | none => v = .non
  | some (m, d, q) => ∃ a, v = .ref a ∧ H a = some (.tup [.int (m : Int), .int d, .int (q : Int)])
theorem CRv.mono {H H' : Hp} {v : V} {r : CR} (s : TSame H H') (h : CRv H v r) : CRv H' v r := by
  cases r with
  | stop => exact h
  | inc i t => obtain ⟨a, e, h⟩ := h; exact ⟨a, e, s _ _ h⟩
  | dec i t u => obtain ⟨a, e, h⟩ := h; exact ⟨a, e, s _ _ h⟩
theorem TRv.mono {H H' : Hp} {v : V} {r : TR} (s : TSame H H') (h : TRv H v r) : TRv H' v r := by
  cases r with
  | none => exact h
  | some p =>
    obtain ⟨m, d, q⟩ := p
    obtain ⟨a, e, h⟩ := h
    exact ⟨a, e, s _ _ h⟩
/-- item by item -/
def All2 {α : Type} (R : V → α → Prop) (xs : List V) (rs : List α) : Prop := xs.length = rs.length ∧ ∀ (i : Nat) x r, xs[i]? = some x → rs[i]? = some r → R x r
theorem All2.mono {α : Type} {R S : V → α → Prop} {xs : List V} {rs : List α} (h : All2 R xs rs) (f : ∀ x r, R x r → S x r) : All2 S xs rs := ⟨h.1, fun i x r e1 e2 => f _ _ (h.2 i x r e1 e2)⟩
theorem All2.nil {α : Type} {R : V → α → Prop} : All2 R [] ([] : List α) := ⟨rfl, fun i x r e _ => by simp at e⟩
theorem All2.snoc {α : Type} {R : V → α → Prop} {xs : List V} {rs : List α} {x : V} {r : α} (h : All2 R xs rs) (hx : R x r) : All2 R (xs ++ [x]) (rs ++ [r]) := by
  refine ⟨by rw [List.length_append, List.length_append, h.1]; rfl, fun i y s e1 e2 => ?_⟩
  by_cases hi : i < xs.length
  · rw [List.getElem?_append_left hi] at e1
    rw [List.getElem?_append_left (by rw [← h.1]; exact hi)] at e2
    exact h.2 i y s e1 e2
  · rw [List.getElem?_append_right (by omega)] at e1
    rw [List.getElem?_append_right (by rw [← h.1]; omega), ← h.1] at e2
    cases hk : i - xs.length with
    | zero =>
      rw [hk] at e1 e2
      cases e1
      cases e2
      exact hx
    | succ k =>
      rw [hk] at e1
      cases e1
theorem All2.append {α : Type} {R : V → α → Prop} {xs ys : List V} {rs ss : List α} (h : All2 R xs rs) (h' : All2 R ys ss) : All2 R (xs ++ ys) (rs ++ ss) := by
  refine ⟨by rw [List.length_append, List.length_append, h.1, h'.1], fun i y s e1 e2 => ?_⟩
  by_cases hi : i < xs.length
  · rw [List.getElem?_append_left hi] at e1
    rw [List.getElem?_append_left (by rw [← h.1]; exact hi)] at e2
    exact h.2 i y s e1 e2
  · rw [List.getElem?_append_right (by omega)] at e1
    rw [List.getElem?_append_right (by rw [← h.1]; omega), ← h.1] at e2
    exact h'.2 _ _ _ e1 e2
theorem All2.set {α : Type} {R : V → α → Prop} {xs : List V} {rs : List α} {x : V} {r : α} (h : All2 R xs rs) (k : Nat) (hx : R x r) : All2 R (xs.set k x) (rs.set k r) := by
  refine ⟨by rw [List.length_set, List.length_set, h.1], fun i y s e1 e2 => ?_⟩
  by_cases hi : k = i
  · subst hi
    have h1 : k < xs.length := by
      have := (List.getElem?_eq_some_iff.mp e1).1
      rwa [List.length_set] at this
    rw [List.getElem?_set_self h1] at e1
    rw [List.getElem?_set_self (by rw [← h.1]; exact h1)] at e2
    cases e1
    cases e2
    exact hx
  · rw [List.getElem?_set_ne hi] at e1 e2
    exact h.2 i y s e1 e2
theorem All2.at {α : Type} {R : V → α → Prop} {xs : List V} {rs : List α} (h : All2 R xs rs) {i : Nat} {r : α} (e : rs[i]? = some r) : ∃ x, xs[i]? = some x ∧ R x r := by
  have hi : i < xs.length := by rw [h.1]; exact (List.getElem?_eq_some_iff.mp e).1
  exact ⟨_, List.getElem?_eq_getElem hi, h.2 i _ r (List.getElem?_eq_getElem hi) e⟩
theorem All2.at' {α : Type} {R : V → α → Prop} {xs : List V} {rs : List α} (h : All2 R xs rs) {i : Nat} {x : V} (e : xs[i]? = some x) : ∃ r, rs[i]? = some r ∧ R x r := by
  have hi : i < rs.length := by rw [← h.1]; exact (List.getElem?_eq_some_iff.mp e).1
  exact ⟨_, List.getElem?_eq_getElem hi, h.2 i x _ e (List.getElem?_eq_getElem hi)⟩
/-- a configuration of the counter machine, of the tape machine -/
def CCv (H : Hp) (v : V) (q : Nat) (cs : List Nat) : Prop := ∃ a b, v = .ref a ∧ H a = some (.tup [.int (q : Int), .ref b]) ∧ H b = some (.tup (nv cs))
def TCv (H : Hp) (v : V) (c : TC) : Prop := ∃ a l r, v = .ref a ∧ H a = some (.tup [.int (c.q : Int), .ref l, .int (c.m : Int), .ref r]) ∧ H l = some (.tup (nv c.l)) ∧ H r = some (.tup (nv c.r))
theorem CCv.mono {H H' : Hp} {v : V} {q : Nat} {cs : List Nat} (s : TSame H H') (h : CCv H v q cs) : CCv H' v q cs := by
  obtain ⟨a, b, e, h1, h2⟩ := h
  exact ⟨a, b, e, s _ _ h1, s _ _ h2⟩
theorem TCv.mono {H H' : Hp} {v : V} {c : TC} (s : TSame H H') (h : TCv H v c) : TCv H' v c := by
  obtain ⟨a, l, r, e, h1, h2, h3⟩ := h
  exact ⟨a, l, r, e, s _ _ h1, s _ _ h2, s _ _ h3⟩
/-- as data, for == -/
def nd (xs : List Nat) : List PyData := xs.map fun (x : Nat) => PyData.int (x : Int)
def cdat (q : Nat) (cs : List Nat) : PyData := .tuple [.int (q : Int), .tuple (nd cs)]
def tdat (c : TC) : PyData := .tuple [.int (c.q : Int), .tuple (nd c.l), .int (c.m : Int), .tuple (nd c.r)]
theorem nd_all {K : PySem.W.Frag} {H : Hp} : ∀ xs : List Nat, DpAll K H (nv xs) (nd xs)
  | [] => .nil
  | x :: r => .cons (.int _) (nd_all r)
theorem CCv.dp {K : PySem.W.Frag} {H : Hp} {v : V} {q : Nat} {cs : List Nat} (h : CCv H v q cs) : Dp K H v (cdat q cs) := by
  obtain ⟨a, b, rfl, h1, h2⟩ := h
  exact .tup (SqT.of h1) (.cons (.int _) (.cons (.tup (SqT.of h2) (nd_all cs)) .nil))
theorem TCv.dp {K : PySem.W.Frag} {H : Hp} {v : V} {c : TC} (h : TCv H v c) : Dp K H v (tdat c) := by
  obtain ⟨a, l, r, rfl, h1, h2, h3⟩ := h
  exact .tup (SqT.of h1) (.cons (.int _) (.cons (.tup (SqT.of h2) (nd_all _)) (.cons (.int _) (.cons (.tup (SqT.of h3) (nd_all _)) .nil))))
end K47

/-! K47F: the counter machine's defs. -/
namespace K47
open PySem PySem.Spec PyProof.Rows L2
theorem nd_can : ∀ xs : List Nat, PyData.canLayAll0 (nd xs) = true
  | [] => rfl
  | x :: r => by
    show (PyData.canLay0 (.int (x : Int)) && PyData.canLayAll0 (nd r)) = true
    rw [nd_can r]
    rfl
theorem nd_depth : ∀ xs : List Nat, PyData.depthAll (nd xs) ≤ 1
  | [] => by show PyData.depthAll [] ≤ 1; decide
  | x :: r => by
    have := nd_depth r
    show max (PyData.depth (.int (x : Int))) (PyData.depthAll (nd r)) ≤ 1
    exact Nat.max_le.mpr ⟨by show (0 : Nat) ≤ 1; decide, this⟩
theorem cdat_can (q : Nat) (cs : List Nat) : (cdat q cs).canLay0 = true := by
  show (PyData.canLay0 (.int (q : Int)) && (PyData.canLayAll0 (nd cs) && true)) = true
  rw [nd_can]
  rfl
theorem tdat_can (c : TC) : (tdat c).canLay0 = true := by
  show (PyData.canLay0 (.int (c.q : Int)) && (PyData.canLayAll0 (nd c.l) && (PyData.canLay0 (.int (c.m : Int)) && (PyData.canLayAll0 (nd c.r) && true)))) = true
  rw [nd_can, nd_can]
  rfl
theorem cdat_shaped (q : Nat) (cs : List Nat) : SeqAt.shaped (cdat q cs) = true := by
  unfold SeqAt.shaped
  rw [cdat_can, Bool.true_and]
  refine decide_eq_true ?_
  have := nd_depth cs
  show max (PyData.depth (.int (q : Int))) (max (PyData.depthAll (nd cs) + 1) 0) + 1 ≤ 64
  have h0 : PyData.depth (.int (q : Int)) = 0 := rfl
  omega
theorem tdat_depth (c : TC) : (tdat c).depth ≤ 4 := by
  have h1 := nd_depth c.l
  have h2 := nd_depth c.r
  show max (PyData.depth (.int (c.q : Int))) (max (PyData.depthAll (nd c.l) + 1) (max (PyData.depth (.int (c.m : Int))) (max (PyData.depthAll (nd c.r) + 1) 0))) + 1 ≤ 4
  have h3 : PyData.depth (.int (c.q : Int)) = 0 := rfl
  have h4 : PyData.depth (.int (c.m : Int)) = 0 := rfl
  omega
theorem tdat_shaped (c : TC) : SeqAt.shaped (tdat c) = true := by
  unfold SeqAt.shaped
  rw [tdat_can, Bool.true_and]
  refine decide_eq_true ?_
  have := tdat_depth c
  omega
end K47

/-! K47G: the counter machine's defs. -/
namespace K47
open PySem PySem.Spec PyProof.Rows L2
abbrev sRowOk : Stmt := topS 21
abbrev sChanged : Stmt := topS 22
abbrev sCInit : Stmt := inClass (topS 23) 0
abbrev sCRow : Stmt := inClass (topS 23) 1
abbrev sCStopped : Stmt := inClass (topS 23) 3
abbrev sCStep : Stmt := inClass (topS 23) 4
/-- a def of the module, ready to be called; a method -/
structure GF (P : Program) (w : World) (K : PySem.W.Frag) (mg : Str → Option Value) (base : Heap) (x : Str) (k : Nat) (ps : List Str) (sp : Sp) (f : Addr) (fd : FuncData) : Prop where
  ok : FnOk P w K mg base CX0 k f fd ps sp
  g : mg x = some (.ref f)
  kp : PySem.W.keepIn K (.ref f) = true
  b : Binds K fd ps []
structure MF (P : Program) (w : World) (K : PySem.W.Frag) (mg : Str → Option Value) (base : Heap) (C : Addr) (x : Str) (k : Nat) (ps : List Str) (sp : Sp) (f : Addr) (fd : FuncData) : Prop where
  ok : FnOk P w K mg base CX0 k f fd ps sp
  m : Meth K C x f
  b : Binds K fd ps []
/-- the built-in names that the program uses are the built-in ones -/
structure Blt (mg : Str → Option Value) : Prop where
  isi : mg "isinstance" = none
  int : mg "int" = none
  bool : mg "bool" = none
  tuple : mg "tuple" = none
  list : mg "list" = none
  len : mg "len" = none
  range : mg "range" = none
  max : mg "max" = none
  sum : mg "sum" = none
  all : mg "all" = none
  abs : mg "abs" = none
/-- the counter machine that stands at p -/
def CM (CC : Addr) (H : Hp) (p : Addr) (n : Nat) (rows : List CR) : Prop :=
  ∃ (dx L : Addr) (fs : List (Str × V)) (xs : List V), H p = some (.ins CC dx fs) ∧ fs.lookup ("_rows" : Str) = some (.ref L) ∧ fs.lookup ("count" : Str) = some (.int (n : Int)) ∧ fs.lookup ("states" : Str) = some (.int (rows.length : Int)) ∧
    fs.lookup ("row" : Str) = none ∧ fs.lookup ("stopped" : Str) = none ∧ fs.lookup ("step" : Str) = none ∧ H L = some (.lst xs) ∧ All2 (CRv H) xs rows
theorem CM.mono {CC : Addr} {H H' : Hp} {p : Addr} {n : Nat} {rows : List CR} (s : Same H H') (h : CM CC H p n rows) : CM CC H' p n rows := by
  obtain ⟨dx, L, fs, xs, h1, h2, h3, h4, h5, h6, h7, h8, h9⟩ := h
  exact ⟨dx, L, fs, xs, s _ _ h1, h2, h3, h4, h5, h6, h7, s _ _ h8, h9.mono fun x r => CRv.mono (TSame.of s)⟩
structure CTxt (K : PySem.W.Frag) (CC : Addr) : Prop where
  cl : Cls K CC
  n1 : NoAttr K CC "_rows"
  n2 : NoAttr K CC "count"
  n3 : NoAttr K CC "states"
section
variable {P : Program} {w : World} {K : PySem.W.Frag} {mg : Str → Option Value} {base : Heap}
/-! ### is_counter_row -/
theorem scRowOk : FnScope ["row", "count", "states"] ["row", "count", "states"] (defScope sRowOk) := ⟨rfl, rfl, rfl, by decide +kernel, rfl, by decide +kernel, by decide +kernel⟩
def spRowOk : Sp := fun vs H Q _ => ∃ (v : V) (r : CR) (n s : Nat), vs = [v, .int (n : Int), .int (s : Int)] ∧ CRv H v r ∧ rowOk n s r ∧ Q (.bl true) H
theorem ne_inc_dec : ¬ (V.str ("dec" : Str) = V.str ("inc" : Str)) := by decide +kernel
theorem ok_rowOk {f fN : Addr} {fd fdN : FuncData} (F : Fun K "is_counter_row" "is_counter_row" sRowOk f fd) (B : Blt mg) (N : GF P w K mg base "is_number" 1 ["value", "bound"] spIsNum fN fdN) :
    FnOk P w K mg base CX0 2 f fd ["row", "count", "states"] spRowOk := by
  refine F.ok scRowOk (fun vs H Q E h => ?_) (fun cdv A outer s H vs Q E hr h => ?_)
  · obtain ⟨v, r, n, s, rfl, _⟩ := h
    rfl
  · obtain ⟨v, r, n, z, rfl, hv, hok, q⟩ := h
    refine ⟨_, pss_cons (ps_if (pt_cmpR op_isN (pv 0) pe_non (nomark _)) (pss_one (ps_ret pe_bl)) pss_nil)
      (pss_cons (ps_if (PW.pt (pw_or (pt_not (pt_val (pe_callB call_isi (by rfl) B.isi (by decide +kernel) (pa_cons (pv 0) (pa_cons (pe_bltn (v := .ty "tuple") (by rfl) B.tuple (by decide +kernel) rfl) pa_nil)))))
        (pw_or (pt_cmpR op_lt (pe_callB call_len_seq (by rfl) B.len PySem.boot_len (pa_cons (pv 0) pa_nil)) pe_int (nomark _))
        (pw_or (pt_not (pt_val (pe_call N.ok hr (by rfl) N.g N.kp N.b .nil pass0 (pa_cons (pe_ix ix_tup (pv 0) pe_int (fun _ _ => rfl)) (pa_cons (pv 1) pa_nil)))))
        (pw_or1 (pt_not (pt_val (pe_call N.ok hr (by rfl) N.g N.kp N.b .nil pass0 (pa_cons (pe_ix ix_tup (pv 0) pe_int (fun _ _ => rfl)) (pa_cons (pv 2) pa_nil))))))))))
        (pss_one (ps_ret pe_bl)) pss_nil)
      (pss_cons (ps_if (pt_cmpR op_eq (pe_ix ix_tup (pv 0) pe_int (fun _ _ => rfl)) pe_str (nomark _)) (pss_one (ps_ret (pe_cmpR op_eq (pe_callB call_len_seq (by rfl) B.len PySem.boot_len (pa_cons (pv 0) pa_nil)) pe_int (nomark _)))) pss_nil)
      (pss_one (ps_ret (pe_and (pe_cmpR op_eq (pe_ix ix_tup (pv 0) pe_int (fun _ _ => rfl)) pe_str (nomark _))
        (pe_and (pe_cmpR op_eq (pe_callB call_len_seq (by rfl) B.len PySem.boot_len (pa_cons (pv 0) pa_nil)) pe_int (nomark _))
        (pe_one (pe_call N.ok hr (by rfl) N.g N.kp N.b .nil pass0 (pa_cons (pe_ix ix_tup (pv 0) pe_int (fun _ _ => rfl)) (pa_cons (pv 2) pa_nil)))))))))), ?_⟩
    cases r with
    | stop =>
      cases hv
      exact ⟨_, rfl, rfl, _, rfl, iteT q⟩
    | inc i t =>
      obtain ⟨a, rfl, ha⟩ := hv
      obtain ⟨h1, h2⟩ := hok
      refine ⟨_, rfl, rfl, _, rfl, iteF ?_⟩
      refine ⟨_, rfl, _, _, _, _, true, rfl, .ty _, .base (.tup ha), kit_ty (by decide +kernel), _, rfl, iteF ?_⟩
      refine ⟨_, rfl, a, _, rfl, .inr (SqT.of ha), _, _, rfl, rfl, _, rfl, iteF ?_⟩
      refine ⟨_, rfl, a, _, _, _, rfl, rfl, SqT.of ha, at_of (j := 1) rfl rfl, _, rfl, _, _, rfl, _, rfl, ?_⟩
      rw [decide_eq_true (show (0 : Int) ≤ (i : Int) ∧ (i : Int) < (n : Int) by omega)]
      refine iteF ?_
      refine ⟨_, rfl, a, _, _, _, rfl, rfl, SqT.of ha, at_of (j := 2) rfl rfl, _, rfl, _, _, rfl, _, rfl, ?_⟩
      rw [decide_eq_true (show (0 : Int) ≤ (t : Int) ∧ (t : Int) < (z : Int) by omega)]
      refine iteF ?_
      refine ⟨_, rfl, a, _, _, _, rfl, rfl, SqT.of ha, at_of (j := 0) rfl rfl, rfl, _, rfl, ite2 (fun _ => ?_) (fun e => absurd (decide_eq_true rfl) e)⟩
      refine ⟨_, rfl, a, _, rfl, .inr (SqT.of ha), rfl, ?_⟩
      exact q
    | dec i t u =>
      obtain ⟨a, rfl, ha⟩ := hv
      obtain ⟨h1, h2, h3⟩ := hok
      refine ⟨_, rfl, rfl, _, rfl, iteF ?_⟩
      refine ⟨_, rfl, _, _, _, _, true, rfl, .ty _, .base (.tup ha), kit_ty (by decide +kernel), _, rfl, iteF ?_⟩
      refine ⟨_, rfl, a, _, rfl, .inr (SqT.of ha), _, _, rfl, rfl, _, rfl, iteF ?_⟩
      refine ⟨_, rfl, a, _, _, _, rfl, rfl, SqT.of ha, at_of (j := 1) rfl rfl, _, rfl, _, _, rfl, _, rfl, ?_⟩
      rw [decide_eq_true (show (0 : Int) ≤ (i : Int) ∧ (i : Int) < (n : Int) by omega)]
      refine iteF ?_
      refine ⟨_, rfl, a, _, _, _, rfl, rfl, SqT.of ha, at_of (j := 2) rfl rfl, _, rfl, _, _, rfl, _, rfl, ?_⟩
      rw [decide_eq_true (show (0 : Int) ≤ (t : Int) ∧ (t : Int) < (z : Int) by omega)]
      refine iteF ?_
      refine ⟨_, rfl, a, _, _, _, rfl, rfl, SqT.of ha, at_of (j := 0) rfl rfl, rfl, _, rfl, ite2 (fun e => absurd (of_decide_eq_true e) ne_inc_dec) (fun _ => ?_)⟩
      refine ⟨_, rfl, a, _, _, _, rfl, rfl, SqT.of ha, at_of (j := 0) rfl rfl, rfl, _, rfl, ite2 (fun _ => ?_) (fun e => absurd (decide_eq_true rfl) e)⟩
      refine ⟨_, rfl, a, _, rfl, .inr (SqT.of ha), rfl, _, rfl, ite2 (fun _ => ?_) (fun e => absurd (decide_eq_true rfl) e)⟩
      refine ⟨_, rfl, a, _, _, _, rfl, rfl, SqT.of ha, at_of (j := 3) rfl rfl, _, rfl, _, _, rfl, ?_⟩
      rw [decide_eq_true (show (0 : Int) ≤ (u : Int) ∧ (u : Int) < (z : Int) by omega)]
      exact q
/-! ### changed -/
theorem scChanged : FnScope ["counters", "number", "amount"] ["counters", "number", "amount"] (defScope sChanged) := ⟨rfl, rfl, rfl, by decide +kernel, rfl, by decide +kernel, by decide +kernel⟩
def spChanged : Sp := fun vs H Q _ => ∃ (b : Addr) (cs : List Nat) (i x : Nat) (d : Int), vs = [.ref b, .int (i : Int), .int d] ∧ H b = some (.tup (nv cs)) ∧ i < cs.length ∧ cs.length ≤ 100 ∧ ((cs.getD i 0 : Nat) : Int) + d = (x : Int) ∧
  ∀ H' p, Same H H' → H' p = some (.tup (nv (cs.set i x))) → Q (.ref p) H'
theorem set_split : ∀ (cs : List Nat) (i x : Nat), i < cs.length → cs.set i x = cs.take i ++ x :: cs.drop (i + 1)
  | [], _, _, h => by simp at h
  | c :: r, 0, x, _ => rfl
  | c :: r, i + 1, x, h => by
    have := set_split r i x (by simpa using h)
    show c :: r.set i x = c :: (r.take i ++ x :: r.drop (i + 1))
    rw [this]
theorem ok_changed {f : Addr} {fd : FuncData} (F : Fun K "changed" "changed" sChanged f fd) : FnOk P w K mg base CX0 1 f fd ["counters", "number", "amount"] spChanged := by
  refine F.ok scChanged (fun vs H Q E h => ?_) (fun cdv A outer s H vs Q E hr h => ?_)
  · obtain ⟨b, cs, i, x, d, rfl, _⟩ := h
    rfl
  · obtain ⟨b, cs, i, x, d, rfl, hb, hi, hl, hx, q⟩ := h
    refine ⟨_, pss_one (ps_ret (pe_op op_catA (pe_op op_catA (pe_slice sl_tupA (pv 0) po_none (po_some (pv 1))) (pe_tup (pa_cons (pe_op op_add (pe_ix ix_tup (pv 0) (pv 1) (fun _ _ => rfl)) (pv 2)) pa_nil)))
      (pe_slice sl_tupA (pv 0) (po_some (pe_op op_add (pv 1) pe_int)) po_none))), ?_⟩
    have hz := nv_len cs
    refine ⟨_, rfl, _, rfl, _, rfl, sl_ok (K := K) hb (cut_take (nv cs) i (by omega)) fun H1 p1 s1 e1 => ?_⟩
    have hb1 := s1 _ _ hb
    refine ⟨_, rfl, _, rfl, b, nv cs, _, _, rfl, rfl, SqT.of hb1, atI_nat (nv_getD hi), _, rfl, _, _, rfl, rfl, line1000 (by show 1 ≤ 1000; decide), fun p2 n2 => ?_⟩
    have s2 := same_upd (o := HO.tup [V.int (((cs.getD i 0 : Nat) : Int) + d)]) n2
    refine cat_ok (K := K) (s2 _ _ e1) upd_same (line1000 (by rw [List.length_take]; show _ + 1 ≤ 1000; omega)) fun H3 p3 s3 e3 => ?_
    have hb3 := s3 _ _ (s2 _ _ hb1)
    have ei : (i : Int) + 1 = ((i + 1 : Nat) : Int) := by omega
    refine ⟨_, rfl, _, rfl, _, _, rfl, rfl, _, rfl, np (sl_ok (K := K) (r := (nv cs).drop (i + 1)) hb3 (by rw [ei]; exact cut_drop (nv cs) (i + 1) (by omega)) fun H4 p4 s4 e4 => ?_)⟩
    refine cat_ok (K := K) (s4 _ _ e3) e4 (line1000 ?_) fun H5 p5 s5 e5 => ?_
    · rw [List.length_append, List.length_take, List.length_drop]
      show _ + 1 + _ ≤ 1000
      omega
    · refine q H5 p5 (s1.trans (s2.trans (s3.trans (s4.trans s5)))) ?_
      rw [e5, set_split cs i x hi]
      show some (HO.tup (List.take i (nv cs) ++ [V.int (((cs.getD i 0 : Nat) : Int) + d)] ++ List.drop (i + 1) (nv cs))) = _
      rw [hx]
      rw [List.append_assoc]
      show _ = some (HO.tup ((cs.take i ++ x :: cs.drop (i + 1)).map fun (x : Nat) => V.int (x : Int)))
      rw [List.map_append, List.map_take, List.map_cons, List.map_drop]
      rfl
end
end K47

/-! K47H: the class Counters. -/
namespace K47
open PySem PySem.Spec PyProof.Rows L2
section
variable {P : Program} {w : World} {K : PySem.W.Frag} {mg : Str → Option Value} {base : Heap}
/-! ### Counters.row, stopped -/
theorem rowAt_at {rows : List CR} {q : Nat} (h : q < rows.length) : rows[q]? = some (rowAt rows q) := by
  unfold rowAt
  rw [List.getD_eq_getElem?_getD, List.getElem?_eq_getElem h]
  rfl
theorem scCRow : FnScope ["self", "state"] ["self", "state"] (defScope sCRow) := ⟨rfl, rfl, rfl, by decide +kernel, rfl, by decide +kernel, by decide +kernel⟩
def spCRow (CC : Addr) : Sp := fun vs H Q _ => ∃ (p : Addr) (n q : Nat) (rows : List CR), vs = [.ref p, .int (q : Int)] ∧ CM CC H p n rows ∧ q < rows.length ∧ ∀ v, CRv H v (rowAt rows q) → Q v H
theorem ok_cRow {f fN CC : Addr} {fd fdN : FuncData} (F : Fun K "row" "Counters.row" sCRow f fd) (T : CTxt K CC) (N : GF P w K mg base "is_number" 1 ["value", "bound"] spIsNum fN fdN) :
    FnOk P w K mg base CX0 2 f fd ["self", "state"] (spCRow CC) := by
  refine F.ok scCRow (fun vs H Q E h => ?_) (fun cdv A outer s H vs Q E hr h => ?_)
  · obtain ⟨p, n, q, rows, rfl, _⟩ := h
    rfl
  · obtain ⟨p, n, q, rows, rfl, hM, hq, k⟩ := h
    obtain ⟨dx, L, fs, xs, h1, h2, h3, h4, h5, h6, h7, h8, h9⟩ := hM
    refine ⟨_, pss_cons (ps_if (pt_not (pt_val (pe_call N.ok hr (by rfl) N.g N.kp N.b .nil pass0 (pa_cons (pv 1) (pa_cons (pe_fld (pv 0) rfl) pa_nil))))) pss_never pss_nil)
      (pss_one (ps_ret (pe_ix ix_list (pe_fld (pv 0) rfl) (pv 1) (fun _ _ => rfl)))), ?_⟩
    refine ⟨_, rfl, _, rfl, p, CC, dx, fs, _, rfl, h1, T.cl, T.n3, h4, _, _, rfl, _, rfl, ?_⟩
    rw [decide_eq_true (show (0 : Int) ≤ (q : Int) ∧ (q : Int) < (rows.length : Int) by omega)]
    refine iteF ?_
    obtain ⟨x, ex, rx⟩ := h9.at (rowAt_at hq)
    exact ⟨_, rfl, p, CC, dx, fs, _, rfl, h1, T.cl, T.n1, h2, _, rfl, L, xs, _, _, rfl, rfl, SqL.of h8, atI_nat ex, k x rx⟩
theorem scCStopped : FnScope ["self", "configuration"] ["self", "configuration"] (defScope sCStopped) := ⟨rfl, rfl, rfl, by decide +kernel, rfl, by decide +kernel, by decide +kernel⟩
def isStop : CR → Bool
  | .stop => true
  | _ => false
theorem CRv.stop_iff {H : Hp} {v : V} {r : CR} (h : CRv H v r) : decide (v = .non) = isStop r := by
  cases r with
  | stop =>
    cases h
    rfl
  | inc i t =>
    obtain ⟨a, rfl, _⟩ := h
    rfl
  | dec i t u =>
    obtain ⟨a, rfl, _⟩ := h
    rfl
def spCStopped (CC : Addr) : Sp := fun vs H Q _ => ∃ (p : Addr) (v : V) (n q : Nat) (rows : List CR) (cs : List Nat), vs = [.ref p, v] ∧ CM CC H p n rows ∧ CCv H v q cs ∧ q < rows.length ∧ Q (.bl (isStop (rowAt rows q))) H
theorem ok_cStopped {f CC : Addr} {fd : FuncData} (F : Fun K "stopped" "Counters.stopped" sCStopped f fd) (T : CTxt K CC) : FnOk P w K mg base CX0 1 f fd ["self", "configuration"] (spCStopped CC) := by
  refine F.ok scCStopped (fun vs H Q E h => ?_) (fun cdv A outer s H vs Q E hr h => ?_)
  · obtain ⟨p, v, n, q, rows, cs, rfl, _⟩ := h
    rfl
  · obtain ⟨p, v, n, q, rows, cs, rfl, hM, hC, hq, k⟩ := h
    obtain ⟨dx, L, fs, xs, h1, h2, h3, h4, h5, h6, h7, h8, h9⟩ := hM
    obtain ⟨a, b, rfl, ha, hb⟩ := hC
    refine ⟨_, pss_one (ps_ret (pe_cmpR op_isN (pe_ix ix_list (pe_fld (pv 0) rfl) (pe_ix ix_tup (pv 1) pe_int (fun _ _ => rfl)) (fun _ _ => rfl)) pe_non (nomark _))), ?_⟩
    obtain ⟨x, ex, rx⟩ := h9.at (rowAt_at hq)
    refine ⟨_, rfl, p, CC, dx, fs, _, rfl, h1, T.cl, T.n1, h2, _, rfl, a, _, _, _, rfl, rfl, SqT.of ha, at_of (j := 0) rfl rfl, L, xs, _, _, rfl, rfl, SqL.of h8, atI_nat ex, rfl, ?_⟩
    show Q (.bl (decide (x = .non))) H
    rw [rx.stop_iff]
    exact k
/-! ### Counters.step -/
theorem scCStep : FnScope ["self", "configuration", "state", "counters", "row"] ["self", "configuration"] (defScope sCStep) := ⟨rfl, rfl, rfl, by decide +kernel, rfl, by decide +kernel, by decide +kernel⟩
def spCStep (CC : Addr) : Sp := fun vs H Q _ => ∃ (p : Addr) (v : V) (n q : Nat) (rows : List CR) (cs : List Nat), vs = [.ref p, v] ∧ CM CC H p n rows ∧ CCv H v q cs ∧ q < rows.length ∧ cs.length = n ∧ n ≤ 3 ∧ rowOk n rows.length (rowAt rows q) ∧
  rowAt rows q ≠ .stop ∧ ∀ H' v', Same H H' → CCv H' v' (cstep (rowAt rows q) q cs).1 (cstep (rowAt rows q) q cs).2 → Q v' H'
theorem ok_cStep {f fG CC : Addr} {fd fdG : FuncData} (F : Fun K "step" "Counters.step" sCStep f fd) (T : CTxt K CC) (G : GF P w K mg base "changed" 1 ["counters", "number", "amount"] spChanged fG fdG) :
    FnOk P w K mg base CX0 2 f fd ["self", "configuration"] (spCStep CC) := by
  refine F.ok scCStep (fun vs H Q E h => ?_) (fun cdv A outer s H vs Q E hr h => ?_)
  · obtain ⟨p, v, n, q, rows, cs, rfl, _⟩ := h
    rfl
  · obtain ⟨p, v, n, q, rows, cs, rfl, hM, hC, hq, hn, hn3, hok, hns, k⟩ := h
    obtain ⟨dx, L, fs, xs, h1, h2, h3, h4, h5, h6, h7, h8, h9⟩ := hM
    obtain ⟨a, b, rfl, ha, hb⟩ := hC
    refine ⟨_, pss_cons (ps_asg (pv 1) (pg_tup (by rfl) (pgs_cons (pg_name (i := 2) scCStep.nd rfl (.inl rfl)) (pgs_cons (pg_name (i := 3) scCStep.nd rfl (.inl rfl)) pgs_nil))))
      (pss_cons (ps_set (i := 4) scCStep.nd rfl (.inl rfl) (pe_ix ix_list (pe_fld (pv 0) rfl) (pv 2) (fun _ _ => rfl)))
      (pss_cons (ps_if (pt_cmpR op_isN (pv 4) pe_non (nomark _)) (pss_one (ps_ret pe_non)) pss_nil)
      (pss_cons (ps_if (pt_cmpR op_eq (pe_ix ix_tup (pv 4) pe_int (fun _ _ => rfl)) pe_str (nomark _))
        (pss_one (ps_ret (pe_tup (pa_cons (pe_ix ix_tup (pv 4) pe_int (fun _ _ => rfl)) (pa_cons (pe_call G.ok hr (by rfl) G.g G.kp G.b .nil pass0 (pa_cons (pv 3) (pa_cons (pe_ix ix_tup (pv 4) pe_int (fun _ _ => rfl)) (pa_cons pe_int pa_nil)))) pa_nil))))) pss_nil)
      (pss_cons (ps_if (pt_cmpR op_eq (pe_ix ix_tup (pv 3) (pe_ix ix_tup (pv 4) pe_int (fun _ _ => rfl)) (fun _ _ => rfl)) pe_int (nomark _))
        (pss_one (ps_ret (pe_tup (pa_cons (pe_ix ix_tup (pv 4) pe_int (fun _ _ => rfl)) (pa_cons (pv 3) pa_nil))))) pss_nil)
      (pss_one (ps_ret (pe_tup (pa_cons (pe_ix ix_tup (pv 4) pe_int (fun _ _ => rfl)) (pa_cons (pe_call G.ok hr (by rfl) G.g G.kp G.b .nil pass0 (pa_cons (pv 3) (pa_cons (pe_ix ix_tup (pv 4) pe_int (fun _ _ => rfl)) (pa_cons (pe_un un_neg pe_int) pa_nil)))) pa_nil))))))))), ?_⟩
    obtain ⟨x, ex, rx⟩ := h9.at (rowAt_at hq)
    refine ⟨_, rfl, a, _, rfl, SqT.of ha, rfl, _, _, rfl, _, _, rfl, rfl, ?_⟩
    refine ⟨_, rfl, p, CC, dx, fs, _, rfl, h1, T.cl, T.n1, h2, _, rfl, L, xs, _, _, rfl, rfl, SqL.of h8, atI_nat ex, ?_⟩
    cases hr0 : rowAt rows q with
    | stop => exact absurd hr0 hns
    | inc i t =>
      rw [hr0] at rx hok k
      obtain ⟨c, rfl, hc⟩ := rx
      obtain ⟨hi, ht⟩ := hok
      refine ⟨_, rfl, rfl, _, rfl, iteF ?_⟩
      refine ⟨_, rfl, c, _, _, _, rfl, rfl, SqT.of hc, at_of (j := 0) rfl rfl, rfl, _, rfl, ite2 (fun _ => ?_) (fun e => absurd (decide_eq_true rfl) e)⟩
      refine ⟨_, rfl, c, _, _, _, rfl, rfl, SqT.of hc, at_of (j := 2) rfl rfl, _, rfl, _, rfl, c, _, _, _, rfl, rfl, SqT.of hc, at_of (j := 1) rfl rfl, ?_⟩
      refine ⟨b, cs, i, cs.getD i 0 + 1, 1, rfl, hb, by omega, by omega, by omega, fun H1 p1 s1 e1 => ⟨line1000 (by show 2 ≤ 1000; decide), fun p2 n2 => ?_⟩⟩
      have s2 := same_upd (o := HO.tup [V.int (t : Int), V.ref p1]) n2
      exact k _ _ (s1.trans s2) ⟨p2, p1, rfl, upd_same, s2 _ _ e1⟩
    | dec i t u =>
      rw [hr0] at rx hok k
      obtain ⟨c, rfl, hc⟩ := rx
      obtain ⟨hi, ht, hu⟩ := hok
      refine ⟨_, rfl, rfl, _, rfl, iteF ?_⟩
      refine ⟨_, rfl, c, _, _, _, rfl, rfl, SqT.of hc, at_of (j := 0) rfl rfl, rfl, _, rfl, ite2 (fun e => absurd (of_decide_eq_true e) ne_inc_dec) (fun _ => ?_)⟩
      refine ⟨_, rfl, _, rfl, c, _, _, _, rfl, rfl, SqT.of hc, at_of (j := 1) rfl rfl, b, nv cs, _, _, rfl, rfl, SqT.of hb, atI_nat (nv_getD (by omega)), rfl, _, rfl, ite2 (fun e => ?_) (fun e => ?_)⟩
      · have e0 : cs.getD i 0 = 0 := by
          have := V.int.inj (of_decide_eq_true e)
          omega
        have ek : cstep (CR.dec i t u) q cs = (u, cs) := if_pos e0
        rw [ek] at k
        refine ⟨_, rfl, c, _, _, _, rfl, rfl, SqT.of hc, at_of (j := 3) rfl rfl, _, rfl, line1000 (by show 2 ≤ 1000; decide), fun p2 n2 => ?_⟩
        have s2 := same_upd (o := HO.tup [V.int (u : Int), V.ref b]) n2
        exact k _ _ s2 ⟨p2, b, rfl, upd_same, s2 _ _ hb⟩
      · have e0 : ¬ cs.getD i 0 = 0 := fun z => e (decide_eq_true (by rw [z]; rfl))
        have ek : cstep (CR.dec i t u) q cs = (t, cs.set i (cs.getD i 0 - 1)) := if_neg e0
        rw [ek] at k
        refine ⟨_, rfl, c, _, _, _, rfl, rfl, SqT.of hc, at_of (j := 2) rfl rfl, _, rfl, _, rfl, c, _, _, _, rfl, rfl, SqT.of hc, at_of (j := 1) rfl rfl, _, rfl, ?_⟩
        refine ⟨b, cs, i, cs.getD i 0 - 1, -1, rfl, hb, by omega, by omega, by omega, fun H1 p1 s1 e1 => ⟨line1000 (by show 2 ≤ 1000; decide), fun p2 n2 => ?_⟩⟩
        have s2 := same_upd (o := HO.tup [V.int (t : Int), V.ref p1]) n2
        exact k _ _ (s1.trans s2) ⟨p2, p1, rfl, upd_same, s2 _ _ e1⟩
end
end K47

/-! K47I: Counters(..). -/
namespace K47
open PySem PySem.Spec PyProof.Rows L2
/-- a module's whole number -/
def Num (mg : Str → Option Value) (x : Str) (n : Int) : Prop := ∃ t, mg x = some (.int n t)
section
variable {P : Program} {w : World} {K : PySem.W.Frag} {mg : Str → Option Value} {base : Heap}
theorem scCInit : FnScope ["self", "count", "rows", "row"] ["self", "count", "rows"] (defScope sCInit) := ⟨rfl, rfl, rfl, by decide +kernel, rfl, by decide +kernel, by decide +kernel⟩
def cf (L : Addr) (n s : Int) : List (Str × V) := putF "states" (.int s) (putF "count" (.int n) (putF "_rows" (.ref L) []))
theorem cf_rows (L : Addr) (n s : Int) : (cf L n s).lookup ("_rows" : Str) = some (.ref L) := by
  unfold cf
  rw [lookup_putF, if_neg (by decide +kernel), lookup_putF, if_neg (by decide +kernel), lookup_putF, if_pos rfl]
theorem cf_count (L : Addr) (n s : Int) : (cf L n s).lookup ("count" : Str) = some (.int n) := by
  unfold cf
  rw [lookup_putF, if_neg (by decide +kernel), lookup_putF, if_pos rfl]
theorem cf_states (L : Addr) (n s : Int) : (cf L n s).lookup ("states" : Str) = some (.int s) := by
  unfold cf
  rw [lookup_putF, if_pos rfl]
theorem cf_no (L : Addr) (n s : Int) {m : Str} (h1 : ¬ m = "states") (h2 : ¬ m = "count") (h3 : ¬ m = "_rows") : (cf L n s).lookup m = none := by
  unfold cf
  rw [lookup_putF, if_neg h1, lookup_putF, if_neg h2, lookup_putF, if_neg h3]
  rfl
theorem all_true (n : Nat) : (List.replicate n true).all id = true := by
  induction n with
  | zero => rfl
  | succ n ih => simp [List.replicate_succ, ih]
def spCInit (CC : Addr) : Sp := fun vs H Q _ => ∃ (p dx L0 : Addr) (n : Nat) (xs : List V) (rows : List CR), vs = [.ref p, .int (n : Int), .ref L0] ∧ H p = some (.ins CC dx []) ∧ H L0 = some (.lst xs) ∧ All2 (CRv H) xs rows ∧
  (1 ≤ n ∧ n ≤ 3) ∧ (1 ≤ rows.length ∧ rows.length ≤ 100) ∧ (∀ r ∈ rows, rowOk n rows.length r) ∧
  ∀ H', (∀ b o, H b = some o → b ≠ p → H' b = some o) → CM CC H' p n rows → Q .non H'
theorem ok_cInit {f fN fR CC : Addr} {fd fdN fdR : FuncData} (F : Fun K "__init__" "Counters.__init__" sCInit f fd) (T : CTxt K CC) (B : Blt mg) (N : GF P w K mg base "is_number" 1 ["value", "bound"] spIsNum fN fdN)
    (R : GF P w K mg base "is_counter_row" 2 ["row", "count", "states"] spRowOk fR fdR) (n1 : Num mg "MOST_COUNTERS_counters" 4) (n2 : Num mg "MOST_STATES_counters" 40000) :
    FnOk P w K mg base CX0 3 f fd ["self", "count", "rows"] (spCInit CC) := by
  refine F.ok scCInit (fun vs H Q E h => ?_) (fun cdv A outer s H vs Q E hr h => ?_)
  · obtain ⟨p, dx, L0, n, xs, rows, rfl, _⟩ := h
    rfl
  · obtain ⟨p, dx, L0, n, xs, rows, rfl, hp, hL, h9, ⟨hn1, hn3⟩, ⟨hl1, hl2⟩, hok, k⟩ := h
    obtain ⟨t1, g1⟩ := n1
    obtain ⟨t2, g2⟩ := n2
    have hr1 : Room 1 _ := hr.mono (by decide)
    refine ⟨_, pss_cons (ps_if (PW.pt (pw_or (pt_not (pt_val (pe_call N.ok hr1 (by rfl) N.g N.kp N.b .nil pass0 (pa_cons (pv 1) (pa_cons (pe_op op_add (pe_glob (v := .int 4) (by rfl) g1 ⟨_, rfl⟩) pe_int) pa_nil)))))
        (pw_or (pt_cmpR op_eq (pv 1) pe_int (nomark _))
        (pw_or1 (pt_not (pt_chain op_le op_le pe_int (pe_callB call_len_seq (by rfl) B.len PySem.boot_len (pa_cons (pv 2) pa_nil)) (pe_glob (v := .int 40000) (by rfl) g2 ⟨_, rfl⟩))))))) pss_never pss_nil)
      (pss_cons (ps_if (pt_not (pt_val (pe_callB (cr_all rfl) (by rfl) B.all (by decide +kernel) (pa_cons
          (pe_lc (own := [("row", 3)]) (g := gName 3) (tt := tYes) rfl scCInit.nd (pi_list (pv 2)) (blkOk_by (N := ["self", "count", "rows", "row"]) (sc := defScope sCInit) (by decide +kernel))
            (fun _ _ _ _ _ => pg_name (i := 3) scCInit.nd rfl (Or.inl rfl)) (fun _ _ _ _ _ => pts_nil)
            (fun _ _ _ _ _ => pe_call R.ok hr (by rfl) R.g R.kp R.b .nil pass0 (pa_cons (pv 3) (pa_cons (pv 1) (pa_cons (pe_callB (lenK K) (by rfl) B.len PySem.boot_len (pa_cons (pv 2) pa_nil)) pa_nil))))) pa_nil)))) pss_never pss_nil)
      (pss_cons (ps_fld (pv 0) (pe_callTy call_list_of (by rfl) B.list (by decide +kernel) (pa_cons (pv 2) pa_nil)) rfl)
      (pss_cons (ps_fld (pv 0) (pv 1) rfl)
      (pss_one (ps_fld (pv 0) (pe_callB call_len_seq (by rfl) B.len PySem.boot_len (pa_cons (pv 2) pa_nil)) rfl))))), ?_⟩
    have hlx : xs.length = rows.length := h9.1
    -- the first test
    refine ⟨_, rfl, _, _, rfl, rfl, _, _, rfl, _, rfl, ?_⟩
    rw [decide_eq_true (show (0 : Int) ≤ (n : Int) ∧ (n : Int) < 4 + 1 by omega)]
    refine iteF ⟨_, rfl, rfl, _, rfl, ite2 (fun e => ?_) (fun _ => ?_)⟩
    · have := V.int.inj (of_decide_eq_true e)
      omega
    refine ⟨_, rfl, L0, _, rfl, .inl (SqL.of hL), _, _, rfl, rfl, _, rfl, ?_⟩
    rw [decide_eq_true (show (1 : Int) ≤ (xs.length : Int) by omega)]
    refine iteT ⟨_, _, rfl, rfl, _, rfl, ?_⟩
    rw [decide_eq_true (show (xs.length : Int) ≤ 40000 by omega)]
    refine iteF ?_
    -- all([..])
    refine ⟨_, rfl, L0, rfl, ⟨_, SqL.of hL⟩, fun D hD => lcL (acc := fun i => (List.replicate i true).map V.bl) (SqL.of hL) hD rfl (fun i hi => by rw [List.length_map, List.length_replicate]; omega) (fun i x H1 hx s1 R1 Rn a1 a2 => ?_) (fun H1 s1 eD => ?_)⟩
    · refine tyes ?_
      refine iteT ?_
      refine ⟨_, rfl, _, rfl, _, rfl, L0, _, rfl, .inl (SqL.of (s1 _ _ hL)), ?_⟩
      obtain ⟨r, er, rr⟩ := h9.at' hx
      refine ⟨x, r, n, rows.length, by rw [hlx]; rfl, rr.mono (TSame.of s1), hok r (List.mem_of_getElem? er), a1 _ _ (Same.refl _) ?_⟩
      show (List.replicate (i + 1) true).map V.bl = (List.replicate i true).map V.bl ++ [V.bl true]
      rw [List.replicate_succ', List.map_append]
      rfl
    refine ⟨D, _, rfl, SqL.of eD, _, rfl, ?_⟩
    rw [all_true]
    refine iteF ?_
    -- the fields
    have hp1 := s1 _ _ hp
    have hL1 := s1 _ _ hL
    refine ⟨_, rfl, L0, xs, rfl, .inl (SqL.of hL1), fun L nL => ?_⟩
    have npL : p ≠ L := ne_of_none hp1 nL
    refine ⟨_, rfl, p, CC, dx, [], rfl, (by rw [upd_ne npL]; exact hp1), T.cl, T.n1, (by show 0 < 1000; decide), ?_⟩
    refine ⟨_, rfl, _, rfl, p, CC, dx, _, rfl, upd_same, T.cl, T.n2, (by show 1 < 1000; decide), ?_⟩
    have hL2 : ∀ o2 o3, (upd (upd (upd H1 L (.lst xs)) p o2) p o3) L0 = some (.lst xs) := fun o2 o3 => by
      rw [upd_ne (ne_of hL1 hp1 (by intro z; cases z)), upd_ne (ne_of hL1 hp1 (by intro z; cases z)), upd_ne (ne_of_none hL1 nL)]
      exact hL1
    refine ⟨_, rfl, L0, xs, rfl, .inl (SqL.of (hL2 _ _)), _, rfl, p, CC, dx, _, rfl, upd_same, T.cl, T.n3, ?_, ?_⟩
    · show (putF _ _ (putF _ _ [])).length < 1000
      have := length_putF "count" (V.int (n : Int)) (putF "_rows" (V.ref L) [])
      have := length_putF "_rows" (V.ref L) []
      have e : ([] : List (Str × V)).length = 0 := rfl
      omega
    have keep : ∀ b o, H b = some o → b ≠ p → ∀ o2 o3 o4, (upd (upd (upd (upd H1 L (.lst xs)) p o2) p o3) p o4) b = some o := fun b o e hb o2 o3 o4 => by
      rw [upd_ne hb, upd_ne hb, upd_ne hb, upd_ne (ne_of_none (s1 _ _ e) nL)]
      exact s1 _ _ e
    refine k _ (fun b o e hb => keep b o e hb _ _ _) ⟨dx, L, cf L n rows.length, xs, ?_, cf_rows _ _ _, cf_count _ _ _, cf_states _ _ _, cf_no _ _ _ (by decide +kernel) (by decide +kernel) (by decide +kernel), cf_no _ _ _ (by decide +kernel) (by decide +kernel) (by decide +kernel), cf_no _ _ _ (by decide +kernel) (by decide +kernel) (by decide +kernel), ?_, ?_⟩
    · rw [upd_same, hlx]
      rfl
    · rw [upd_ne npL.symm, upd_ne npL.symm, upd_ne npL.symm, upd_same]
    · exact h9.mono fun x r => CRv.mono fun a ys e => keep a _ e (ne_of e hp (by intro z; cases z)) _ _ _
end
end K47

/-! K47J: the class Tape: made, its rows. -/
namespace K47
open PySem PySem.Spec PyProof.Rows L2
abbrev sTInit : Stmt := inClass (topS 10) 0
abbrev sTIsRow : Stmt := inClass (topS 10) 1
abbrev sTRow : Stmt := inClass (topS 10) 3
abbrev sTStopped : Stmt := inClass (topS 10) 7
abbrev sTStep : Stmt := inClass (topS 10) 8
abbrev sTRun : Stmt := inClass (topS 10) 9
/-- the tape machine that stands at p -/
def TM (CT : Addr) (H : Hp) (p : Addr) (M S : Nat) (tab : List TR) : Prop :=
  ∃ (dx L : Addr) (fs : List (Str × V)) (xs : List V), H p = some (.ins CT dx fs) ∧ fs.lookup ("marks" : Str) = some (.int (M : Int)) ∧ fs.lookup ("states" : Str) = some (.int (S : Int)) ∧ fs.lookup ("_rows" : Str) = some (.ref L) ∧
    fs.lookup ("row" : Str) = none ∧ fs.lookup ("stopped" : Str) = none ∧ fs.lookup ("step" : Str) = none ∧ fs.lookup ("run" : Str) = none ∧ H L = some (.lst xs) ∧ All2 (TRv H) xs tab
theorem TM.mono {CT : Addr} {H H' : Hp} {p : Addr} {M S : Nat} {tab : List TR} (s : Same H H') (h : TM CT H p M S tab) : TM CT H' p M S tab := by
  obtain ⟨dx, L, fs, xs, h1, h2, h3, h4, h5, h6, h7, h7', h8, h9⟩ := h
  exact ⟨dx, L, fs, xs, s _ _ h1, h2, h3, h4, h5, h6, h7, h7', s _ _ h8, h9.mono fun x r => TRv.mono (TSame.of s)⟩
structure TTxt (K : PySem.W.Frag) (CT : Addr) : Prop where
  cl : Cls K CT
  n1 : NoAttr K CT "_rows"
  n2 : NoAttr K CT "marks"
  n3 : NoAttr K CT "states"
def trOk (M S : Nat) : TR → Prop
  | none => True
  | some (m, d, q) => m < M ∧ (d = 1 ∨ d = -1) ∧ q < S
section
variable {P : Program} {w : World} {K : PySem.W.Frag} {mg : Str → Option Value} {base : Heap}
/-! ### _is_row -/
theorem scTIsRow : FnScope ["self", "row"] ["self", "row"] (defScope sTIsRow) := ⟨rfl, rfl, rfl, by decide +kernel, rfl, by decide +kernel, by decide +kernel⟩
def spTIsRow (CT : Addr) : Sp := fun vs H Q _ => ∃ (p a dx : Addr) (fs : List (Str × V)) (M S m q : Nat) (d : Int), vs = [.ref p, .ref a] ∧ H p = some (.ins CT dx fs) ∧ fs.lookup ("marks" : Str) = some (.int (M : Int)) ∧ fs.lookup ("states" : Str) = some (.int (S : Int)) ∧
  H a = some (.tup [.int (m : Int), .int d, .int (q : Int)]) ∧ trOk M S (some (m, d, q)) ∧ Q (.bl true) H
theorem ok_tIsRow {f fI CT : Addr} {fd fdI : FuncData} (F : Fun K "_is_row" "Tape._is_row" sTIsRow f fd) (T : TTxt K CT) (B : Blt mg) (I : GF P w K mg base "is_integer" 1 ["value", "least", "most"] spIsInt fI fdI) :
    FnOk P w K mg base CX0 2 f fd ["self", "row"] (spTIsRow CT) := by
  refine F.ok scTIsRow (fun vs H Q E h => ?_) (fun cdv A outer s H vs Q E hr h => ?_)
  · obtain ⟨p, a, dx, fs, M, S, m, q, d, rfl, _⟩ := h
    rfl
  · obtain ⟨p, a, dx, fs, M, S, m, q, d, rfl, hp, h1, h2, ha, ⟨o1, o2, o3⟩, k⟩ := h
    refine ⟨_, pss_cons (ps_if (PW.pt (pw_or (pt_not (pt_val (pe_callB call_isi (by rfl) B.isi (by decide +kernel) (pa_cons (pv 1) (pa_cons (pe_bltn (v := .ty "tuple") (by rfl) B.tuple (by decide +kernel) rfl) pa_nil)))))
        (pw_or1 (pt_cmpR op_ne (pe_callB call_len_seq (by rfl) B.len PySem.boot_len (pa_cons (pv 1) pa_nil)) pe_int (nomark _))))) (pss_one (ps_ret pe_bl)) pss_nil)
      (pss_cons (ps_if (PW.pt (pw_or (pt_not (pt_val (pe_call I.ok hr (by rfl) I.g I.kp I.b .nil pass0 (pa_cons (pe_ix ix_tup (pv 1) pe_int (fun _ _ => rfl)) (pa_cons (pe_un un_neg pe_int) (pa_cons pe_int pa_nil))))))
        (pw_or1 (pt_cmpR op_eq (pe_ix ix_tup (pv 1) pe_int (fun _ _ => rfl)) pe_int (nomark _))))) (pss_one (ps_ret pe_bl)) pss_nil)
      (pss_one (ps_ret (pe_and (pe_call I.ok hr (by rfl) I.g I.kp I.b .nil pass0 (pa_cons (pe_ix ix_tup (pv 1) pe_int (fun _ _ => rfl)) (pa_cons pe_int (pa_cons (pe_op op_sub (pe_fld (pv 0) rfl) pe_int) pa_nil))))
        (pe_one (pe_call I.ok hr (by rfl) I.g I.kp I.b .nil pass0 (pa_cons (pe_ix ix_tup (pv 1) pe_int (fun _ _ => rfl)) (pa_cons pe_int (pa_cons (pe_op op_sub (pe_fld (pv 0) rfl) pe_int) pa_nil))))))))), ?_⟩
    refine ⟨_, rfl, _, _, _, _, true, rfl, .ty _, .base (.tup ha), kit_ty (by decide +kernel), _, rfl, iteF ?_⟩
    refine ⟨_, rfl, a, _, rfl, .inr (SqT.of ha), rfl, _, rfl, iteF ?_⟩
    refine ⟨_, rfl, a, _, _, _, rfl, rfl, SqT.of ha, at_of (j := 1) rfl rfl, _, rfl, _, _, _, rfl, _, rfl, ?_⟩
    rw [decide_eq_true (show (-1 : Int) ≤ d ∧ d ≤ 1 by omega)]
    refine iteF ?_
    refine ⟨_, rfl, a, _, _, _, rfl, rfl, SqT.of ha, at_of (j := 1) rfl rfl, rfl, _, rfl, ite2 (fun e => ?_) (fun _ => ?_)⟩
    · have := V.int.inj (of_decide_eq_true e)
      omega
    refine ⟨_, rfl, a, _, _, _, rfl, rfl, SqT.of ha, at_of (j := 0) rfl rfl, _, rfl, p, CT, dx, fs, _, rfl, hp, T.cl, T.n2, h1, _, _, rfl, rfl, _, _, _, rfl, _, rfl, ?_⟩
    rw [decide_eq_true (show (0 : Int) ≤ (m : Int) ∧ (m : Int) ≤ (M : Int) - 1 by omega)]
    refine iteT ?_
    refine ⟨_, rfl, a, _, _, _, rfl, rfl, SqT.of ha, at_of (j := 2) rfl rfl, _, rfl, p, CT, dx, fs, _, rfl, hp, T.cl, T.n3, h2, _, _, rfl, rfl, _, _, _, rfl, ?_⟩
    rw [decide_eq_true (show (0 : Int) ≤ (q : Int) ∧ (q : Int) ≤ (S : Int) - 1 by omega)]
    exact k
/-! ### Tape(..) -/
theorem scTInit : FnScope ["self", "marks", "states", "rows", "row"] ["self", "marks", "states", "rows"] (defScope sTInit) := ⟨rfl, rfl, rfl, by decide +kernel, rfl, by decide +kernel, by decide +kernel⟩
def tf2 (M S : Int) : List (Str × V) := putF "states" (.int S) (putF "marks" (.int M) [])
def tf3 (L : Addr) (M S : Int) : List (Str × V) := putF "_rows" (.ref L) (tf2 M S)
theorem tf2_marks (M S : Int) : (tf2 M S).lookup ("marks" : Str) = some (.int M) := by
  unfold tf2
  rw [lookup_putF, if_neg (by decide +kernel), lookup_putF, if_pos rfl]
theorem tf2_states (M S : Int) : (tf2 M S).lookup ("states" : Str) = some (.int S) := by
  unfold tf2
  rw [lookup_putF, if_pos rfl]
theorem tf2_no (M S : Int) {m : Str} (h1 : ¬ m = "states") (h2 : ¬ m = "marks") : (tf2 M S).lookup m = none := by
  unfold tf2
  rw [lookup_putF, if_neg h1, lookup_putF, if_neg h2]
  rfl
theorem tf3_o (L : Addr) (M S : Int) {m : Str} (h : ¬ m = "_rows") : (tf3 L M S).lookup m = (tf2 M S).lookup m := by
  unfold tf3
  rw [lookup_putF, if_neg h]
theorem tf2_len (M S : Int) : (tf2 M S).length ≤ 2 := by
  have := length_putF "states" (V.int S) (putF "marks" (V.int M) [])
  have := length_putF "marks" (V.int M) []
  have e : ([] : List (Str × V)).length = 0 := rfl
  show (putF _ _ (putF _ _ [])).length ≤ 2
  omega
def spTInit (CT : Addr) : Sp := fun vs H Q _ => ∃ (p dx L0 : Addr) (M S : Nat) (xs : List V) (tab : List TR), vs = [.ref p, .int (M : Int), .int (S : Int), .ref L0] ∧ H p = some (.ins CT dx []) ∧ H L0 = some (.lst xs) ∧ All2 (TRv H) xs tab ∧
  (2 ≤ M ∧ M ≤ 16) ∧ (1 ≤ S ∧ S ≤ 4000) ∧ tab.length = M * S ∧ (∀ r ∈ tab, trOk M S r) ∧
  ∀ H', (∀ b o, H b = some o → b ≠ p → H' b = some o) → TM CT H' p M S tab → Q .non H'
theorem ok_tInit {f fI fR CT : Addr} {fd fdI fdR : FuncData} (F : Fun K "__init__" "Tape.__init__" sTInit f fd) (T : TTxt K CT) (B : Blt mg) (I : GF P w K mg base "is_integer" 1 ["value", "least", "most"] spIsInt fI fdI)
    (R : MF P w K mg base CT "_is_row" 2 ["self", "row"] (spTIsRow CT) fR fdR) (n1 : Num mg "MOST_MARKS" 16) (n2 : Num mg "MOST_STATES_tape" 4000) :
    FnOk P w K mg base CX0 3 f fd ["self", "marks", "states", "rows"] (spTInit CT) := by
  refine F.ok scTInit (fun vs H Q E h => ?_) (fun cdv A outer s H vs Q E hr h => ?_)
  · obtain ⟨p, dx, L0, M, S, xs, tab, rfl, _⟩ := h
    rfl
  · obtain ⟨p, dx, L0, M, S, xs, tab, rfl, hp, hL, h9, ⟨hM1, hM2⟩, ⟨hS1, hS2⟩, hlen, hok, k⟩ := h
    obtain ⟨t1, g1⟩ := n1
    obtain ⟨t2, g2⟩ := n2
    have hr1 : Room 1 _ := hr.mono (by decide)
    refine ⟨_, pss_cons (ps_if (PW.pt (pw_or (pt_not (pt_val (pe_call I.ok hr1 (by rfl) I.g I.kp I.b .nil pass0 (pa_cons (pv 1) (pa_cons pe_int (pa_cons (pe_glob (v := .int 16) (by rfl) g1 ⟨_, rfl⟩) pa_nil))))))
        (pw_or1 (pt_not (pt_val (pe_call I.ok hr1 (by rfl) I.g I.kp I.b .nil pass0 (pa_cons (pv 2) (pa_cons pe_int (pa_cons (pe_glob (v := .int 4000) (by rfl) g2 ⟨_, rfl⟩) pa_nil))))))))) pss_never pss_nil)
      (pss_cons (ps_if (pt_cmpR op_ne (pe_callB call_len_seq (by rfl) B.len PySem.boot_len (pa_cons (pv 3) pa_nil)) (pe_op op_mul (pv 1) (pv 2)) (nomark _)) pss_never pss_nil)
      (pss_cons (ps_fld (pv 0) (pv 1) rfl)
      (pss_cons (ps_fld (pv 0) (pv 2) rfl)
      (pss_cons (ps_for PassesOwn.never rfl (pi_list (pv 3)) (pg_name (i := 4) scTInit.nd rfl (Or.inl rfl))
        (pss_one (ps_if (PW.pt (pw_and (pt_cmpR op_notN (pv 4) pe_non (nomark _)) (pw_and1 (pt_not (pt_val (pe_meth (pv 0) T.cl R.m R.ok hr R.b .nil pass0 (pa_cons (pv 4) pa_nil))))))) pss_never pss_nil)))
      (pss_one (ps_fld (pv 0) (pe_callTy call_list_of (by rfl) B.list (by decide +kernel) (pa_cons (pv 3) pa_nil)) rfl)))))), ?_⟩
    have hlx : xs.length = tab.length := h9.1
    refine ⟨_, rfl, _, _, _, rfl, _, rfl, ?_⟩
    rw [decide_eq_true (show (2 : Int) ≤ (M : Int) ∧ (M : Int) ≤ 16 by omega)]
    refine iteF ⟨_, rfl, _, _, _, rfl, _, rfl, ?_⟩
    rw [decide_eq_true (show (1 : Int) ≤ (S : Int) ∧ (S : Int) ≤ 4000 by omega)]
    refine iteF ?_
    refine ⟨_, rfl, L0, xs, rfl, .inl (SqL.of hL), _, rfl, _, rfl, _, _, rfl, rfl, .inl (by omega), rfl, _, rfl, ?_⟩
    rw [decide_eq_true (show V.int (xs.length : Int) = V.int ((M : Int) * (S : Int)) by rw [hlx, hlen, Int.natCast_mul])]
    refine iteF ?_
    refine ⟨_, rfl, _, rfl, p, CT, dx, [], rfl, hp, T.cl, T.n2, (by show 0 < 1000; decide), ?_⟩
    refine ⟨_, rfl, _, rfl, p, CT, dx, _, rfl, upd_same, T.cl, T.n3, (by show 1 < 1000; decide), ?_⟩
    rw [upd_upd]
    have hL2 : ∀ o2, (upd H p o2) L0 = some (.lst xs) := fun o2 => by
      rw [upd_ne (ne_of hL hp (by intro z; cases z))]
      exact hL
    have hts : ∀ o2, TSame H (upd H p o2) := fun o2 a ys e => by
      rw [upd_ne (ne_of e hp (by intro z; cases z))]
      exact e
    refine ⟨_, rfl, L0, rfl, ⟨_, SqL.of (hL2 _)⟩, for_list (K := K) (a := L0) (xs := xs) (fun i σ H' => ∃ v4, σ = [some (.ref p), some (.int (M : Int)), some (.int (S : Int)), some (.ref L0), v4] ∧ H' = upd H p (.ins CT dx (tf2 M S)))
      ⟨none, rfl, rfl⟩ (fun i σ H' _ ⟨_, _, e⟩ => by rw [e]; exact SqL.of (hL2 _)) (fun i x σ H' hx ⟨v4, e1, e2⟩ => ?_) (fun σ H' ⟨v4, e1, e2⟩ => ?_)⟩
    · subst e1 e2
      obtain ⟨r, er, rr⟩ := h9.at' hx
      have hr' := hok r (List.mem_of_getElem? er)
      cases r with
      | none =>
        cases rr
        exact ⟨_, rfl, rfl, _, rfl, iteF (iteF ⟨_, rfl, rfl⟩)⟩
      | some z =>
        obtain ⟨m, d, q⟩ := z
        obtain ⟨a, rfl, ha⟩ := rr
        refine ⟨_, rfl, rfl, _, rfl, iteT ?_⟩
        refine ⟨_, rfl, p, dx, _, rfl, upd_same, tf2_no _ _ (by decide +kernel) (by decide +kernel), _, rfl, p, a, dx, _, M, S, m, q, d, rfl, upd_same, tf2_marks _ _, tf2_states _ _, hts _ _ _ ha, hr', _, rfl, iteF ⟨_, rfl, rfl⟩⟩
    · subst e1 e2
      refine ⟨_, rfl, L0, xs, rfl, .inl (SqL.of (hL2 _)), fun L nL => ?_⟩
      have npL : p ≠ L := ne_of_none (upd_same (H := H) (o := HO.ins CT dx (tf2 M S))) nL
      have nL0 : H L = none := by rw [← nL, upd_ne npL.symm]
      refine ⟨_, rfl, p, CT, dx, _, rfl, (by rw [upd_ne npL]; exact upd_same), T.cl, T.n1, Nat.lt_of_le_of_lt (tf2_len _ _) (by decide), ?_⟩
      have keep : ∀ b o, H b = some o → b ≠ p → ∀ o2 o3, (upd (upd (upd H p o2) L (.lst xs)) p o3) b = some o := fun b o e hb o2 o3 => by
        rw [upd_ne hb, upd_ne (ne_of_none e nL0), upd_ne hb]
        exact e
      refine k _ (fun b o e hb => keep b o e hb _ _) ⟨dx, L, tf3 L M S, xs, upd_same, ?_, ?_, ?_, ?_, ?_, ?_, ?_, ?_, ?_⟩
      · rw [tf3_o _ _ _ (by decide +kernel)]
        exact tf2_marks _ _
      · rw [tf3_o _ _ _ (by decide +kernel)]
        exact tf2_states _ _
      · unfold tf3
        rw [lookup_putF, if_pos rfl]
      · rw [tf3_o _ _ _ (by decide +kernel)]
        exact tf2_no _ _ (by decide +kernel) (by decide +kernel)
      · rw [tf3_o _ _ _ (by decide +kernel)]
        exact tf2_no _ _ (by decide +kernel) (by decide +kernel)
      · rw [tf3_o _ _ _ (by decide +kernel)]
        exact tf2_no _ _ (by decide +kernel) (by decide +kernel)
      · rw [tf3_o _ _ _ (by decide +kernel)]
        exact tf2_no _ _ (by decide +kernel) (by decide +kernel)
      · rw [upd_ne npL.symm, upd_same]
      · exact h9.mono fun x r => TRv.mono fun a ys e => keep a _ e (ne_of e hp (by intro z; cases z)) _ _
end
end K47

/-! K47K: the class Tape: row, stopped, step, run. -/
namespace K47
open PySem PySem.Spec PyProof.Rows L2
/-- the table of the rows f, state by state -/
def tabOf (M S : Nat) (f : Nat → Nat → TR) : List TR := (List.range S).flatMap fun q => (List.range M).map (f q)
theorem tabOf_succ (M S : Nat) (f : Nat → Nat → TR) : tabOf M (S + 1) f = tabOf M S f ++ (List.range M).map (f S) := by
  unfold tabOf
  rw [List.range_succ, List.flatMap_append]
  simp
theorem tabOf_len (M : Nat) (f : Nat → Nat → TR) : ∀ S, (tabOf M S f).length = M * S
  | 0 => rfl
  | S + 1 => by
    rw [tabOf_succ, List.length_append, tabOf_len M f S, List.length_map, List.length_range, Nat.mul_succ]
theorem tabOf_at (M : Nat) (f : Nat → Nat → TR) : ∀ (S q m : Nat), q < S → m < M → (tabOf M S f)[q * M + m]? = some (f q m)
  | 0, q, _, h, _ => absurd h (Nat.not_lt_zero q)
  | S + 1, q, m, hq, hm => by
    rw [tabOf_succ]
    have hl := tabOf_len M f S
    rcases Nat.lt_or_ge q S with h | h
    · have hlt : q * M + m < (tabOf M S f).length := by
        rw [hl]
        have h1 : (q + 1) * M ≤ S * M := Nat.mul_le_mul_right M h
        rw [Nat.succ_mul] at h1
        rw [Nat.mul_comm M S]
        omega
      rw [List.getElem?_append_left hlt]
      exact tabOf_at M f S q m h hm
    · have e : q = S := by omega
      subst e
      have e1 : q * M + m - (tabOf M q f).length = m := by
        rw [hl, Nat.mul_comm M q]
        omega
      rw [List.getElem?_append_right (by rw [hl, Nat.mul_comm M q]; omega), e1, List.getElem?_map, List.getElem?_range hm]
      rfl
theorem tabOf_ok {M S : Nat} {f : Nat → Nat → TR} (h : ∀ q m, q < S → m < M → trOk M S (f q m)) : ∀ r ∈ tabOf M S f, trOk M S r := by
  intro r hr
  unfold tabOf at hr
  obtain ⟨q, hq, hr⟩ := List.mem_flatMap.mp hr
  obtain ⟨m, hm, rfl⟩ := List.mem_map.mp hr
  exact h q m (List.mem_range.mp hq) (List.mem_range.mp hm)
/-- a run -/
def runT (f : Nat → Nat → TR) : Nat → TC → TC × Nat
  | 0, c => (c, 0)
  | n + 1, c => match tstep f c with
    | none => (c, 0)
    | some d => ((runT f n d).1, (runT f n d).2 + 1)
/-- a run that stays within the machine's numbers -/
def Runs (f : Nat → Nat → TR) (S M : Nat) : Nat → TC → Prop
  | 0, _ => True
  | n + 1, c => (c.q < S ∧ c.m < M) ∧ ∀ d, tstep f c = some d → Runs f S M n d
section
variable {P : Program} {w : World} {K : PySem.W.Frag} {mg : Str → Option Value} {base : Heap}
/-! ### row, stopped -/
theorem scTRow : FnScope ["self", "state", "mark"] ["self", "state", "mark"] (defScope sTRow) := ⟨rfl, rfl, rfl, by decide +kernel, rfl, by decide +kernel, by decide +kernel⟩
def spTRow (CT : Addr) : Sp := fun vs H Q _ => ∃ (p : Addr) (M S q m : Nat) (f : Nat → Nat → TR), vs = [.ref p, .int (q : Int), .int (m : Int)] ∧ TM CT H p M S (tabOf M S f) ∧ M ≤ 16 ∧ q < S ∧ m < M ∧ ∀ v, TRv H v (f q m) → Q v H
theorem ok_tRow {f fI CT : Addr} {fd fdI : FuncData} (F : Fun K "row" "Tape.row" sTRow f fd) (T : TTxt K CT) (I : GF P w K mg base "is_integer" 1 ["value", "least", "most"] spIsInt fI fdI) :
    FnOk P w K mg base CX0 2 f fd ["self", "state", "mark"] (spTRow CT) := by
  refine F.ok scTRow (fun vs H Q E h => ?_) (fun cdv A outer s H vs Q E hr h => ?_)
  · obtain ⟨p, M, S, q, m, g, rfl, _⟩ := h
    rfl
  · obtain ⟨p, M, S, q, m, g, rfl, hM, hM16, hq, hm, k⟩ := h
    obtain ⟨dx, L, fs, xs, h1, h2, h3, h4, h5, h6, h7, h7', h8, h9⟩ := hM
    refine ⟨_, pss_cons (ps_if (PW.pt (pw_or (pt_not (pt_val (pe_call I.ok hr (by rfl) I.g I.kp I.b .nil pass0 (pa_cons (pv 1) (pa_cons pe_int (pa_cons (pe_op op_sub (pe_fld (pv 0) rfl) pe_int) pa_nil))))))
        (pw_or1 (pt_not (pt_val (pe_call I.ok hr (by rfl) I.g I.kp I.b .nil pass0 (pa_cons (pv 2) (pa_cons pe_int (pa_cons (pe_op op_sub (pe_fld (pv 0) rfl) pe_int) pa_nil))))))))) pss_never pss_nil)
      (pss_one (ps_ret (pe_ix ix_list (pe_fld (pv 0) rfl) (pe_op op_add (pe_op op_mul (pv 1) (pe_fld (pv 0) rfl)) (pv 2)) (fun _ _ => rfl)))), ?_⟩
    refine ⟨_, rfl, _, rfl, p, CT, dx, fs, _, rfl, h1, T.cl, T.n3, h3, _, _, rfl, rfl, _, _, _, rfl, _, rfl, ?_⟩
    rw [decide_eq_true (show (0 : Int) ≤ (q : Int) ∧ (q : Int) ≤ (S : Int) - 1 by omega)]
    refine iteF ⟨_, rfl, _, rfl, p, CT, dx, fs, _, rfl, h1, T.cl, T.n2, h2, _, _, rfl, rfl, _, _, _, rfl, _, rfl, ?_⟩
    rw [decide_eq_true (show (0 : Int) ≤ (m : Int) ∧ (m : Int) ≤ (M : Int) - 1 by omega)]
    refine iteF ?_
    obtain ⟨x, ex, rx⟩ := h9.at (tabOf_at M g S q m hq hm)
    refine ⟨_, rfl, p, CT, dx, fs, _, rfl, h1, T.cl, T.n1, h4, _, rfl, _, rfl, p, CT, dx, fs, _, rfl, h1, T.cl, T.n2, h2, _, _, rfl, rfl, .inr ⟨by omega, by omega⟩, _, rfl, _, _, rfl, rfl, L, xs, _, x, rfl, rfl, SqL.of h8, at_of (j := q * M + m) ?_ ex, k x rx⟩
    rw [Int.natCast_add, Int.natCast_mul]
theorem scTStopped : FnScope ["self", "configuration"] ["self", "configuration"] (defScope sTStopped) := ⟨rfl, rfl, rfl, by decide +kernel, rfl, by decide +kernel, by decide +kernel⟩
theorem TRv.none_iff {H : Hp} {v : V} {r : TR} (h : TRv H v r) : decide (v = .non) = r.isNone := by
  cases r with
  | none =>
    cases h
    rfl
  | some z =>
    obtain ⟨m, d, q⟩ := z
    obtain ⟨a, rfl, _⟩ := h
    rfl
def spTStopped (CT : Addr) : Sp := fun vs H Q _ => ∃ (p : Addr) (v : V) (M S : Nat) (f : Nat → Nat → TR) (c : TC), vs = [.ref p, v] ∧ TM CT H p M S (tabOf M S f) ∧ M ≤ 16 ∧ TCv H v c ∧ c.q < S ∧ c.m < M ∧ Q (.bl (f c.q c.m).isNone) H
theorem ok_tStopped {f fR CT : Addr} {fd fdR : FuncData} (F : Fun K "stopped" "Tape.stopped" sTStopped f fd) (T : TTxt K CT) (R : MF P w K mg base CT "row" 2 ["self", "state", "mark"] (spTRow CT) fR fdR) :
    FnOk P w K mg base CX0 3 f fd ["self", "configuration"] (spTStopped CT) := by
  refine F.ok scTStopped (fun vs H Q E h => ?_) (fun cdv A outer s H vs Q E hr h => ?_)
  · obtain ⟨p, v, M, S, g, c, rfl, _⟩ := h
    rfl
  · obtain ⟨p, v, M, S, g, c, rfl, hM, hM16, hC, hq, hm, k⟩ := h
    obtain ⟨dx, L, fs, xs, h1, h2, h3, h4, h5, h6, h7, h7', h8, h9⟩ := id hM
    obtain ⟨a, l, r, rfl, ha, hl, hrr⟩ := hC
    refine ⟨_, pss_one (ps_ret (pe_cmpR op_isN (pe_meth (pv 0) T.cl R.m R.ok hr R.b .nil pass0 (pa_cons (pe_ix ix_tup (pv 1) pe_int (fun _ _ => rfl)) (pa_cons (pe_ix ix_tup (pv 1) pe_int (fun _ _ => rfl)) pa_nil))) pe_non (nomark _))), ?_⟩
    refine ⟨_, rfl, p, dx, fs, rfl, h1, h5, _, rfl, a, _, _, _, rfl, rfl, SqT.of ha, at_of (j := 0) rfl rfl, _, rfl, a, _, _, _, rfl, rfl, SqT.of ha, at_of (j := 2) rfl rfl, p, M, S, c.q, c.m, g, rfl, hM, hM16, hq, hm, fun x rx => ⟨rfl, ?_⟩⟩
    show Q (.bl (decide (x = .non))) H
    rw [rx.none_iff]
    exact k
/-! ### step -/
theorem scTStep : FnScope ["self", "configuration", "state", "left", "mark", "right", "row", "written", "move", "after", "ahead"] ["self", "configuration"] (defScope sTStep) := ⟨rfl, rfl, rfl, by decide +kernel, rfl, by decide +kernel, by decide +kernel⟩
def spTStep (CT : Addr) : Sp := fun vs H Q _ => ∃ (p : Addr) (v : V) (M S : Nat) (f : Nat → Nat → TR) (c : TC), vs = [.ref p, v] ∧ TM CT H p M S (tabOf M S f) ∧ M ≤ 16 ∧ TCv H v c ∧ c.q < S ∧ c.m < M ∧ c.l.length + c.r.length ≤ 900 ∧
  (tstep f c = none → Q .non H) ∧ ∀ d, tstep f c = some d → ∀ H' v', Same H H' → TCv H' v' d → Q v' H'
theorem head_at {xs : List Nat} (h : xs ≠ []) : (nv xs)[0]? = some (.int ((xs.headD 0 : Nat) : Int)) := by
  cases xs with
  | nil => exact absurd rfl h
  | cons x r => rfl
theorem nv_tail (xs : List Nat) : (nv xs).drop 1 = nv xs.tail := by
  cases xs <;> rfl
theorem ok_tStep {f fR fG CT : Addr} {fd fdR fdG : FuncData} (F : Fun K "step" "Tape.step" sTStep f fd) (T : TTxt K CT) (R : MF P w K mg base CT "row" 2 ["self", "state", "mark"] (spTRow CT) fR fdR)
    (G : GF P w K mg base "trimmed" 1 ["marks"] spTrim fG fdG) : FnOk P w K mg base CX0 3 f fd ["self", "configuration"] (spTStep CT) := by
  refine F.ok scTStep (fun vs H Q E h => ?_) (fun cdv A outer s H vs Q E hr h => ?_)
  · obtain ⟨p, v, M, S, g, c, rfl, _⟩ := h
    rfl
  · obtain ⟨p, v, M, S, g, c, rfl, hM, hM16, hC, hq, hm, hlen, k0, k1⟩ := h
    obtain ⟨dx, L, fs, xs, h1, h2, h3, h4, h5, h6, h7, h7', h8, h9⟩ := id hM
    obtain ⟨a, l, r, rfl, ha, hl, hrr⟩ := hC
    have hr1 : Room 1 _ := hr.mono (by decide)
    refine ⟨_, pss_cons (ps_asg (pv 1) (pg_tup (by rfl) (pgs_cons (pg_name (i := 2) scTStep.nd rfl (.inl rfl)) (pgs_cons (pg_name (i := 3) scTStep.nd rfl (.inl rfl)) (pgs_cons (pg_name (i := 4) scTStep.nd rfl (.inl rfl)) (pgs_cons (pg_name (i := 5) scTStep.nd rfl (.inl rfl)) pgs_nil))))))
      (pss_cons (ps_set (i := 6) scTStep.nd rfl (.inl rfl) (pe_meth (pv 0) T.cl R.m R.ok hr R.b .nil pass0 (pa_cons (pv 2) (pa_cons (pv 4) pa_nil))))
      (pss_cons (ps_if (pt_cmpR op_isN (pv 6) pe_non (nomark _)) (pss_one (ps_ret pe_non)) pss_nil)
      (pss_cons (ps_asg (pv 6) (pg_tup (by rfl) (pgs_cons (pg_name (i := 7) scTStep.nd rfl (.inl rfl)) (pgs_cons (pg_name (i := 8) scTStep.nd rfl (.inl rfl)) (pgs_cons (pg_name (i := 9) scTStep.nd rfl (.inl rfl)) pgs_nil)))))
      (pss_cons (ps_if (pt_cmpR op_eq (pv 8) pe_int (nomark _))
        (pss_cons (ps_set (i := 3) scTStep.nd rfl (.inl rfl) (pe_call G.ok hr1 (by rfl) G.g G.kp G.b .nil pass0 (pa_cons (pe_op op_catA (pe_tup (pa_cons (pv 7) pa_nil)) (pv 3)) pa_nil)))
        (pss_cons (ps_set (i := 10) scTStep.nd rfl (.inl rfl) (pe_ifExp (truK K (pv 5)) (pe_ix ix_tup (pv 5) pe_int (fun _ _ => rfl)) pe_int))
        (pss_one (ps_ret (pe_tup (pa_cons (pv 9) (pa_cons (pv 3) (pa_cons (pv 10) (pa_cons (pe_slice sl_tupA (pv 5) (po_some pe_int) po_none) pa_nil))))))))) pss_nil)
      (pss_cons (ps_set (i := 5) scTStep.nd rfl (.inl rfl) (pe_call G.ok hr1 (by rfl) G.g G.kp G.b .nil pass0 (pa_cons (pe_op op_catA (pe_tup (pa_cons (pv 7) pa_nil)) (pv 5)) pa_nil)))
      (pss_cons (ps_set (i := 10) scTStep.nd rfl (.inl rfl) (pe_ifExp (truK K (pv 3)) (pe_ix ix_tup (pv 3) pe_int (fun _ _ => rfl)) pe_int))
      (pss_one (ps_ret (pe_tup (pa_cons (pv 9) (pa_cons (pe_slice sl_tupA (pv 3) (po_some pe_int) po_none) (pa_cons (pv 10) (pa_cons (pv 5) pa_nil))))))))))))), ?_⟩
    refine ⟨_, rfl, a, _, rfl, SqT.of ha, rfl, _, _, rfl, _, _, rfl, _, _, rfl, _, _, rfl, rfl, ?_⟩
    refine ⟨_, rfl, p, dx, fs, rfl, h1, h5, _, rfl, _, rfl, p, M, S, c.q, c.m, g, rfl, hM, hM16, hq, hm, fun x rx => ?_⟩
    unfold tstep at k0 k1
    generalize g c.q c.m = row at rx k0 k1
    cases row with
    | none =>
      cases rx
      exact ⟨_, rfl, rfl, _, rfl, iteT (k0 rfl)⟩
    | some z =>
      obtain ⟨wr, d, q'⟩ := z
      obtain ⟨b, rfl, hb⟩ := rx
      refine ⟨_, rfl, rfl, _, rfl, iteF ?_⟩
      refine ⟨_, rfl, b, _, rfl, SqT.of hb, rfl, _, _, rfl, _, _, rfl, _, _, rfl, rfl, ?_⟩
      refine ⟨_, rfl, rfl, _, rfl, ite2 (fun e => ?_) (fun e => ?_)⟩
      · have ed : d = 1 := V.int.inj (of_decide_eq_true e)
        subst ed
        have k2 := k1 _ (if_pos rfl)
        -- left = trimmed((written,) + left)
        refine ⟨_, rfl, line1000 (by show 1 ≤ 1000; decide), fun p1 n1 => ?_⟩
        have s1 := same_upd (o := HO.tup [V.int (wr : Int)]) n1
        refine ⟨_, rfl, cat_ok (K := K) upd_same (s1 _ _ hl) (line1000 (by rw [nv_len]; show 1 + _ ≤ 1000; omega)) fun H2 p2 s2 e2 => ?_⟩
        refine ⟨p2, wr :: c.l, rfl, e2, by show c.l.length + 1 ≤ 1000; omega, fun H3 p3 s3 e3 => ?_⟩
        have s13 := s1.trans (s2.trans s3)
        -- ahead
        have rest : ∀ σ, σ = [some (.ref p), some (.ref a), some (.int (c.q : Int)), some (.ref p3), some (.int (c.m : Int)), some (.ref r), some (.ref b), some (.int (wr : Int)), some (.int 1), some (.int (q' : Int)), some (.int ((c.r.headD 0 : Nat) : Int))] →
            tRet (tTup (tCons (tVar 9) (tCons (tVar 3) (tCons (tVar 10) (tCons (tSl (rSlA K) (tVar 5) (tPart (tC (.int 1))) tNoPart) tNil))))) { nx := fun _ H' => Q .non H', rt := Q } σ H3 := fun σ es => by
          subst es
          refine ⟨_, rfl, _, rfl, _, rfl, _, rfl, _, rfl, np (sl_ok (K := K) (r := nv c.r.tail) (s13 _ _ hrr) (by rw [cut_drop1, nv_tail]) fun H4 p4 s4 e4 => ⟨line1000 (by show 4 ≤ 1000; decide), fun p5 n5 => ?_⟩)⟩
          have s5 := same_upd (o := HO.tup [V.int (q' : Int), V.ref p3, V.int ((c.r.headD 0 : Nat) : Int), V.ref p4]) n5
          exact k2 _ _ (s13.trans (s4.trans s5)) ⟨p5, p3, p4, rfl, upd_same, s5 _ _ (s4 _ _ e3), s5 _ _ e4⟩
        refine ⟨_, rfl, _, .inr (.inl ⟨_, SqT.of (s13 _ _ hrr), rfl⟩), ?_⟩
        by_cases he : c.r = []
        · rw [he]
          refine iteF ?_
          refine rest _ ?_
          rw [he]
          rfl
        · have hne : (!(nv c.r).isEmpty) = true := by
            cases hc : c.r with
            | nil => exact absurd hc he
            | cons x y => rfl
          rw [hne]
          refine iteT ⟨_, rfl, r, _, _, _, rfl, rfl, SqT.of (s13 _ _ hrr), at_of (j := 0) rfl (head_at he), ?_⟩
          exact rest _ rfl
      · have ed : ¬ d = 1 := fun z => e (decide_eq_true (by rw [z]))
        have k2 := k1 _ (if_neg ed)
        refine ⟨_, rfl, line1000 (by show 1 ≤ 1000; decide), fun p1 n1 => ?_⟩
        have s1 := same_upd (o := HO.tup [V.int (wr : Int)]) n1
        refine ⟨_, rfl, cat_ok (K := K) upd_same (s1 _ _ hrr) (line1000 (by rw [nv_len]; show 1 + _ ≤ 1000; omega)) fun H2 p2 s2 e2 => ?_⟩
        refine ⟨p2, wr :: c.r, rfl, e2, by show c.r.length + 1 ≤ 1000; omega, fun H3 p3 s3 e3 => ?_⟩
        have s13 := s1.trans (s2.trans s3)
        have rest : ∀ σ, σ = [some (.ref p), some (.ref a), some (.int (c.q : Int)), some (.ref l), some (.int (c.m : Int)), some (.ref p3), some (.ref b), some (.int (wr : Int)), some (.int d), some (.int (q' : Int)), some (.int ((c.l.headD 0 : Nat) : Int))] →
            tRet (tTup (tCons (tVar 9) (tCons (tSl (rSlA K) (tVar 3) (tPart (tC (.int 1))) tNoPart) (tCons (tVar 10) (tCons (tVar 5) tNil))))) { nx := fun _ H' => Q .non H', rt := Q } σ H3 := fun σ es => by
          subst es
          refine ⟨_, rfl, _, rfl, _, rfl, np (sl_ok (K := K) (r := nv c.l.tail) (s13 _ _ hl) (by rw [cut_drop1, nv_tail]) fun H4 p4 s4 e4 => ⟨_, rfl, _, rfl, line1000 (by show 4 ≤ 1000; decide), fun p5 n5 => ?_⟩)⟩
          have s5 := same_upd (o := HO.tup [V.int (q' : Int), V.ref p4, V.int ((c.l.headD 0 : Nat) : Int), V.ref p3]) n5
          exact k2 _ _ (s13.trans (s4.trans s5)) ⟨p5, p4, p3, rfl, upd_same, s5 _ _ e4, s5 _ _ (s4 _ _ e3)⟩
        refine ⟨_, rfl, _, .inr (.inl ⟨_, SqT.of (s13 _ _ hl), rfl⟩), ?_⟩
        by_cases he : c.l = []
        · rw [he]
          refine iteF ?_
          refine rest _ ?_
          rw [he]
          rfl
        · have hne : (!(nv c.l).isEmpty) = true := by
            cases hc : c.l with
            | nil => exact absurd hc he
            | cons x y => rfl
          rw [hne]
          refine iteT ⟨_, rfl, l, _, _, _, rfl, rfl, SqT.of (s13 _ _ hl), at_of (j := 0) rfl (head_at he), ?_⟩
          exact rest _ rfl
end
end K47

/-! K47L: Tape.run. -/
namespace K47
open PySem PySem.Spec PyProof.Rows L2
section
variable {P : Program} {w : World} {K : PySem.W.Frag} {mg : Str → Option Value} {base : Heap}
theorem scTRun : FnScope ["self", "configuration", "steps", "taken", "after"] ["self", "configuration", "steps"] (defScope sTRun) := ⟨rfl, rfl, rfl, by decide +kernel, rfl, by decide +kernel, by decide +kernel⟩
def spTRun (CT : Addr) : Sp := fun vs H Q _ => ∃ (p : Addr) (v : V) (M S N : Nat) (f : Nat → Nat → TR) (c : TC), vs = [.ref p, v, .int (N : Int)] ∧ TM CT H p M S (tabOf M S f) ∧ M ≤ 16 ∧ TCv H v c ∧ Runs f S M N c ∧ c.l.length + c.r.length + N ≤ 900 ∧
  ∀ H' p' v', Same H H' → H' p' = some (.tup [v', .int (((runT f N c).2 : Nat) : Int)]) → TCv H' v' (runT f N c).1 → Q (.ref p') H'
theorem ok_tRun {f fS CT : Addr} {fd fdS : FuncData} (F : Fun K "run" "Tape.run" sTRun f fd) (T : TTxt K CT) (R : MF P w K mg base CT "step" 3 ["self", "configuration"] (spTStep CT) fS fdS) :
    FnOk P w K mg base CX0 4 f fd ["self", "configuration", "steps"] (spTRun CT) := by
  refine F.ok scTRun (fun vs H Q E h => ?_) (fun cdv A outer s H vs Q E hr h => ?_)
  · obtain ⟨p, v, M, S, N, g, c, rfl, _⟩ := h
    rfl
  · obtain ⟨p, v, M, S, N, g, c, rfl, hM, hM16, hC, hR, hlen, k⟩ := h
    obtain ⟨dx, L, fs, xs, h1, h2, h3, h4, h5, h6, h7, h7', h8, h9⟩ := id hM
    refine ⟨_, pss_cons (ps_set (i := 3) scTRun.nd rfl (.inl rfl) pe_int)
      (pss_cons (ps_while PassesOwn.never (pt_cmpR op_lt (pv 3) (pv 2) (nomark _))
        (pss_cons (ps_set (i := 4) scTRun.nd rfl (.inl rfl) (pe_meth (pv 0) T.cl R.m R.ok hr R.b .nil pass0 (pa_cons (pv 1) pa_nil)))
        (pss_cons (ps_if (pt_cmpR op_isN (pv 4) pe_non (nomark _)) (pss_one ps_break) pss_nil)
        (pss_cons (ps_set (i := 1) scTRun.nd rfl (.inl rfl) (pv 4))
        (pss_one (ps_aug (i := 3) scTRun.nd rfl (.inl rfl) pe_int ip_add))))))
      (pss_one (ps_ret (pe_tup (pa_cons (pv 1) (pa_cons (pv 3) pa_nil)))))), ?_⟩
    refine ⟨fun m σ H' => ∃ (i : Nat) (v' : V) (c' : TC) (v4 : Option V), i + m = N ∧ σ = [some (.ref p), some v', some (.int (N : Int)), some (.int (i : Int)), v4] ∧ Same H H' ∧ TCv H' v' c' ∧ Runs g S M m c' ∧
      c'.l.length + c'.r.length ≤ c.l.length + c.r.length + i ∧ (runT g N c).1 = (runT g m c').1 ∧ (runT g N c).2 = (runT g m c').2 + i, ⟨N, 0, v, c, none, by omega, rfl, Same.refl H, hC, hR, by omega, rfl, rfl⟩, ?_⟩
    rintro m σ H' ⟨i, v', c', v4, him, rfl, sm, hC', hR', hl', e1, e2⟩
    -- the end
    have done : ∀ v4, (runT g m c').1 = c' → (runT g m c').2 = 0 → tRet (tTup (tCons (tVar 1) (tCons (tVar 3) tNil))) { nx := fun _ H' => Q .non H', rt := Q } [some (.ref p), some v', some (.int (N : Int)), some (.int (i : Int)), v4] H' := fun v4 q1 q2 => by
      refine ⟨_, rfl, _, rfl, line1000 (by show 2 ≤ 1000; decide), fun p1 n1 => ?_⟩
      have s1 := same_upd (o := HO.tup [v', V.int (i : Int)]) n1
      refine k _ p1 v' (sm.trans s1) ?_ ?_
      · rw [upd_same, e2, q2, Nat.zero_add]
      · rw [e1, q1]
        exact hC'.mono (TSame.of s1)
    refine ⟨_, rfl, _, rfl, _, _, rfl, rfl, _, rfl, ite2 (fun h => ?_) (fun h => ?_)⟩
    · have hlt : i < N := by
        have := of_decide_eq_true h
        omega
      obtain ⟨m', rfl⟩ : ∃ m', m = m' + 1 := ⟨m - 1, by omega⟩
      obtain ⟨⟨hq, hm⟩, hnx⟩ := hR'
      refine ⟨fun σ' H1 => ∃ (v' : V) (c' : TC) (v4 : Option V), σ' = [some (.ref p), some v', some (.int (N : Int)), some (.int ((i + 1 : Nat) : Int)), v4] ∧ Same H H1 ∧ TCv H1 v' c' ∧ Runs g S M m' c' ∧
        c'.l.length + c'.r.length ≤ c.l.length + c.r.length + (i + 1) ∧ (runT g N c).1 = (runT g m' c').1 ∧ (runT g N c).2 = (runT g m' c').2 + (i + 1), fun σ' H1 ⟨v', c', v4, a1, a2, a3, a4, a5, a6, a7⟩ => ⟨m', Nat.lt_succ_self _, i + 1, v', c', v4, by omega, a1, a2, a3, a4, a5, a6, a7⟩, ?_⟩
      refine ⟨_, rfl, p, dx, fs, rfl, sm _ _ h1, h7, _, rfl, p, v', M, S, g, c', rfl, hM.mono sm, hM16, hC', hq, hm, by omega, fun hz => ?_, fun d hd H2 v2 s2 hC2 => ?_⟩
      · refine ⟨_, rfl, rfl, _, rfl, iteT (done _ ?_ ?_)⟩
        · show (match tstep g c' with | none => (c', 0) | some d => ((runT g m' d).1, (runT g m' d).2 + 1)).1 = c'
          rw [hz]
        · show (match tstep g c' with | none => (c', 0) | some d => ((runT g m' d).1, (runT g m' d).2 + 1)).2 = 0
          rw [hz]
      · have hv2 : decide (v2 = V.non) = false := by
          obtain ⟨a, _, _, rfl, _⟩ := hC2
          rfl
        refine ⟨_, rfl, rfl, _, rfl, ?_⟩
        rw [hv2]
        refine iteF ?_
        refine ⟨_, rfl, _, rfl, _, _, rfl, rfl, v2, d, some v2, rfl, sm.trans s2, hC2, hnx d hd, ?_, ?_, ?_⟩
        · have := tstep_len hd
          omega
        · rw [e1]
          show (match tstep g c' with | none => (c', 0) | some d => ((runT g m' d).1, (runT g m' d).2 + 1)).1 = _
          rw [hd]
        · rw [e2]
          show (match tstep g c' with | none => (c', 0) | some d => ((runT g m' d).1, (runT g m' d).2 + 1)).2 + i = _
          rw [hd]
          show (runT g m' d).2 + 1 + i = _
          omega
    · have hge : m = 0 := by
        have : ¬ (i : Int) < (N : Int) := fun z => h (decide_eq_true z)
        omega
      subst hge
      exact done _ rfl rfl
end
end K47

/-! K47M: rules of my own: range(n) as a value and its walk, max of a tuple; bits. -/
namespace K47
open PySem PySem.Spec PyProof.Rows L2
section
variable {X : Cx}
theorem cr_range1 : CallR X (.type "range") (fun vs H Q => ∃ j, vs = [V.int j] ∧ ∀ p, H p = none → Q (.ref p) (upd H p (.rng 0 j))) := by
  intro pins s σ H vs us Q I r h
  obtain ⟨j, rfl, q⟩ := h
  cases r with
  | cons r rr =>
    cases rr
    obtain ⟨t, rfl⟩ := r
    refine call_range_1 ⟨.ref s.heap.objs.size, upd H s.heap.objs.size (.rng 0 j), I.laid (t' := s.toks + 1 + 1) (fun b o e => Heap.get?_push_of_some _ e) (Nat.le_refl _) ?_, rfl, q _ (I.hok.fresh (Nat.le_refl _))⟩
    exact ⟨s.toks, t, s.toks + 1, Heap.get?_push_size _ rfl⟩
def iRngV (tl : TE) : TI := fun σ H R => tl σ H fun x H1 => ∃ (a : Addr) (n : Nat), x = .ref a ∧ H1 a = some (.rng 0 (n : Int)) ∧ n ≤ 1000 ∧ R (Itr 0 n) H1
theorem pi_rngV {tg l : Expr} {tl : TE} (hl : PE X l tl) : PI X tg l (iRngV tl) := by
  refine ⟨fun pins s σ H R I h => ?_⟩
  refine thn (hl.run pins s σ H _ I h) fun v s1 ⟨x, H1, I1, r1, q1⟩ => ?_
  obtain ⟨a, n, e, hq, hn, q⟩ := q1
  subst e
  cases r1
  obtain ⟨t, u, k, ha⟩ := (show ObjOk X.prog X.w H1 s1.heap a (.rng 0 (n : Int)) from I1.hok a _ hq)
  refine wpAny_pyIter_range (a := 0) (b := (n : Int)) (c := 1) ha (small_one (by omega) (by omega) (by omega) (by omega)) ?_
  refine ⟨s1.heap.objs.size, [s1.heap.objs.size], _, _, H1, rfl, I1.kept (t' := s1.toks) fun b o e => Heap.get?_push_of_some _ e, turn_range _ 0 n, ?_, fun b hb => ?_, q⟩
  · have e1 : (0 : Int) + ((0 : Nat) : Int) * 1 = 0 := by simp
    have e2 : ((n : Nat) : Int) - ((0 : Nat) : Int) = Builtin.Range.rangeSize 0 (n : Int) 1 := by rw [rangeSize_one]; split <;> omega
    show IsRangeIter _ _ ((0 : Int) + ((0 : Nat) : Int) * 1) (((n : Nat) : Int) - ((0 : Nat) : Int)) 1
    rw [e1, e2]
    exact Heap.get?_push_size _ rfl
  · have e : b = s1.heap.objs.size := by simpa using hb
    subst e
    exact I1.fpOk (Nat.le_refl _) (I1.hok.fresh (Nat.le_refl _))
end
section
variable {prog : Program} {w : World} {A : Around} {E : Value → Shared → Prop} {s : Shared} {l : Addr} {its : List Value} {ns : List Int} {Q : Value → Shared → Prop}
theorem max_tupI {xs : Array (Int × Tok)} (hh : A.handled = none) (hl : s.heap.IsTuple l (intItems xs)) (hne : 0 < xs.size)
    (h : ∀ v h' tk, (intItems xs)[argBest (fun i j => decide (numAt xs i > numAt xs j)) (xs.size - 1)]? = some v → (∀ b o, s.heap.get? b = some o → h'.get? b = some o) → Q v { s with heap := h', toks := tk }) :
    wpAny (model prog w) A (call (.builtin "max") [.ref l]) Q E s := by
  have hlt : l < s.heap.objs.size := by obtain ⟨_, e, _⟩ := hl; exact Heap.lt_size e
  refine call_max_walk (wpAny_pyIter_tuple hl ?_)
  refine ⟨_, [s.heap.objs.size, l], [s.heap.objs.size], _, _, _, _, rfl, Walks.tuple (A := A.in1) hh _ l (Nat.ne_of_lt hlt) (intItems xs), ⟨⟨_, Heap.get?_push_size _ rfl, rfl, rfl⟩, hl.push _⟩, fun b hb => ?_, by simpa [intItems] using hne, CmpOf.ints_gt (numAt xs) (fun _ _ => intItems_at), fun v h' tk hP hk => ?_⟩
  · show b < (s.heap.push _).objs.size
    rw [Heap.size_push]
    rcases List.mem_cons.mp hb with rfl | hb
    · exact Nat.lt_succ_self _
    · rcases List.mem_cons.mp hb with rfl | hb
      · exact Nat.lt_succ_of_lt hlt
      · cases hb
  · refine h v h' tk (by simpa [intItems] using hP) fun b o e => hk b o (fun hm => ?_) (Heap.get?_push_of_some _ e)
    rcases List.mem_cons.mp hm with e1 | hm
    · exact absurd (e1 ▸ Heap.lt_size e) (Nat.lt_irrefl _)
    · cases hm
theorem max_tup_raw (hh : A.handled = none) (hl : s.heap.IsTuple l its.toArray) (hi : IntsAre its ns) (hne : 0 < ns.length)
    (h : ∀ h' tk M t', (∀ b o, s.heap.get? b = some o → h'.get? b = some o) → M ∈ ns → (∀ a, a ∈ ns → a ≤ M) → Q (.int M t') { s with heap := h', toks := tk }) : wpAny (model prog w) A (call (.builtin "max") [.ref l]) Q E s := by
  obtain ⟨xs, e⟩ := hi.allInts.items
  have hn : numsOf (intItems xs).toList = ns := by rw [← e]; exact hi.numsOf
  rw [nums_intItems] at hn
  subst hn
  rw [e] at hl
  have hsz : 0 < xs.size := by simpa using hne
  refine max_tupI hh hl hsz fun v h' tk hv hk => ?_
  obtain ⟨t, rfl⟩ := intItems_at hv
  obtain ⟨h1, h2⟩ := argBest_gt (numAt xs) (xs.size - 1)
  refine h h' tk _ t hk ?_ fun a ha => ?_
  · rw [numAt_eq]; exact PySem.getD_mem (by rw [List.length_map, Array.length_toList]; omega)
  · obtain ⟨j, hj, rfl⟩ := mem_getD ha
    rw [List.length_map, Array.length_toList] at hj
    rw [← numAt_eq]; exact h2 j (by omega)
end
def rMaxT (K : PySem.W.Frag) : List V → Hp → VK → Prop := fun vs H Q => ∃ (a : Addr) (ns : List Int), vs = [V.ref a] ∧ SqT K H a (ns.map V.int) ∧ 0 < ns.length ∧ ∀ m, m ∈ ns → (∀ y, y ∈ ns → y ≤ m) → Q (.int m) H
theorem cr_maxT {X : Cx} (hc : X.calm = true) : CallR X (.builtin "max") (rMaxT X.K) := by
  intro pins s σ H vs us Q I r h
  obtain ⟨a, ns, rfl, hs, hne, q⟩ := h
  obtain ⟨its, rv, hl, _⟩ := I.tuple hs
  rw [Vals.ref1 r]
  exact max_tup_raw (I.ok.hd hc) (show s.heap.IsTuple a its.toArray from hl) rv.ints hne fun h' tk m t' hk h1 h2 => ⟨.int _, H, I.kept hk, ⟨_, rfl⟩, q m h1 h2⟩
/-! ### bits -/
theorem and_pow (m i : Nat) : (m &&& 2 ^ i) = if m.testBit i then 2 ^ i else 0 := by
  apply Nat.eq_of_testBit_eq
  intro j
  rw [Nat.testBit_and, Nat.testBit_two_pow]
  by_cases h : i = j
  · subst h
    cases hb : m.testBit i with
    | true => simp [Nat.testBit_two_pow]
    | false => simp
  · split <;> simp [h, Nat.testBit_two_pow]
theorem bit_truth (m i : Nat) : (Builtin.bitAnd (m : Int) ((2 : Int) ^ i) != 0) = m.testBit i := by
  have e : ((2 : Int) ^ i) = ((2 ^ i : Nat) : Int) := by simp
  rw [e, PyProof.Rows.bitAnd_pp (Int.natCast_nonneg _) (Int.natCast_nonneg _), Int.toNat_natCast, Int.toNat_natCast, and_pow]
  have hp : (2 ^ i : Nat) ≠ 0 := Nat.ne_of_gt (Nat.pow_pos (by decide))
  cases hb : m.testBit i with
  | true =>
    rw [if_pos rfl]
    exact bne_iff_ne.mpr fun z => hp (Int.ofNat_inj.mp z)
  | false => rfl
theorem shl_pow (i : Nat) : (1 : Int) * 2 ^ ((i : Int).toNat) = ((2 ^ i : Nat) : Int) := by
  rw [Int.toNat_natCast, Int.one_mul]
  simp
theorem bit_truthN (m i : Nat) : (Builtin.bitAnd (m : Int) ((2 ^ i : Nat) : Int) != 0) = m.testBit i := by
  rw [← bit_truth m i]
  simp
end K47

/-! K47N: lists of rows that are filled place by place; the plain side of UpStair._rows. -/
namespace K47
open PySem PySem.Spec PyProof.Rows L2
/-- at l a list of the rows f 0, .., f (M - 1) -/
def LFe (H : Hp) (M : Nat) (l : Addr) (f : Nat → TR) : Prop := ∃ xs, H l = some (.lst xs) ∧ All2 (TRv H) xs ((List.range M).map f)
theorem LFe.same {H H' : Hp} {M : Nat} {l : Addr} {f : Nat → TR} (h : LFe H M l f) (s : Same H H') : LFe H' M l f := by
  obtain ⟨xs, e, a⟩ := h
  exact ⟨xs, s _ _ e, a.mono fun x r => TRv.mono (TSame.of s)⟩
theorem LFe.other {H H' : Hp} {M : Nat} {l : Addr} {f : Nat → TR} (h : LFe H M l f) (e : H' l = H l) (s : TSame H H') : LFe H' M l f := by
  obtain ⟨xs, e1, a⟩ := h
  exact ⟨xs, e.trans e1, a.mono fun x r => TRv.mono s⟩
theorem LFe.congr {H : Hp} {M : Nat} {l : Addr} {f g : Nat → TR} (h : LFe H M l f) (e : ∀ m, m < M → f m = g m) : LFe H M l g := by
  obtain ⟨xs, e1, a⟩ := h
  refine ⟨xs, e1, ?_⟩
  rw [show (List.range M).map g = (List.range M).map f from List.map_congr_left fun m hm => (e m (List.mem_range.mp hm)).symm]
  exact a
theorem map_set_range {α : Type} (f : Nat → α) (M k : Nat) (r : α) : ((List.range M).map f).set k r = (List.range M).map fun m => if m = k then r else f m := by
  apply List.ext_getElem?
  intro i
  rw [List.getElem?_set, List.length_map, List.length_range, List.getElem?_map, List.getElem?_map]
  by_cases hi : i < M
  · rw [List.getElem?_range hi]
    by_cases hk : k = i
    · subst hk
      rw [if_pos rfl, if_pos hi]
      show some r = some (if k = k then r else f k)
      rw [if_pos rfl]
    · rw [if_neg hk]
      show some (f i) = some (if i = k then r else f i)
      rw [if_neg fun z => hk z.symm]
  · rw [List.getElem?_eq_none (by rw [List.length_range]; omega)]
    by_cases hk : k = i
    · subst hk
      rw [if_pos rfl, if_neg hi]
      rfl
    · rw [if_neg hk]
      rfl
/-- l[k] = v -/
theorem LFe.set {H : Hp} {M k : Nat} {l : Addr} {f : Nat → TR} {v : V} {r : TR} {z : Int} {Q : Hp → Prop} (h : LFe H M l f) (hz : z = (k : Int)) (hk : k < M) (hv : TRv H v r)
    (q : ∀ H', LFe H' M l (fun m => if m = k then r else f m) → (∀ b, b ≠ l → H' b = H b) → TSame H H' → Q H') : rSetL (.ref l) (.int z) v H Q := by
  obtain ⟨xs, e, a⟩ := h
  subst hz
  have hl : xs.length = M := by rw [a.1, List.length_map, List.length_range]
  refine ⟨l, xs, (k : Int), k, rfl, rfl, e, ?_, ?_⟩
  · unfold ixN
    rw [if_pos (by omega), if_pos (by omega), Int.toNat_natCast]
  · have ts : TSame H (upd H l (.lst (xs.set k v))) := TSame.lst e
    refine q _ ⟨_, upd_same, ?_⟩ (fun b hb => upd_ne hb) ts
    rw [← map_set_range]
    exact (a.mono fun x r => TRv.mono ts).set k (hv.mono ts)
theorem TRv.mk' {H : Hp} {a : Addr} {x d y : Int} {m q : Nat} (h : H a = some (.tup [.int x, .int d, .int y])) (hx : x = (m : Int)) (hy : y = (q : Int)) : TRv H (.ref a) (some (m, d, q)) := ⟨a, rfl, by rw [h, hx, hy]⟩
theorem same_after {H0 H H' : Hp} {l : Addr} (s : Same H0 H) (n : H0 l = none) (e : ∀ b, b ≠ l → H' b = H b) : Same H0 H' := fun b o h => by
  rw [e b (ne_of_none h n)]
  exact s b o h
/-- the function f with the places of T changed to A -/
def updF (f : Nat → TR) (T : List Nat) (A : Nat → TR) : Nat → TR := fun m => if m ∈ T then A m else f m
theorem updF_nil (f : Nat → TR) (A : Nat → TR) : updF f [] A = f := by
  funext m
  unfold updF
  rw [if_neg (by simp)]
theorem updF_snoc (f : Nat → TR) (T : List Nat) (A : Nat → TR) (k : Nat) : (fun m => if m = k then A k else updF f T A m) = updF f (T ++ [k]) A := by
  funext m
  unfold updF
  by_cases h : m = k
  · subst h
    rw [if_pos rfl, if_pos (by simp)]
  · rw [if_neg h]
    by_cases h2 : m ∈ T
    · rw [if_pos h2, if_pos (by simp [h2])]
    · rw [if_neg h2, if_neg (by simp [h, h2])]
theorem take_snoc {T : List Nat} {i x : Nat} (h : T[i]? = some x) : T.take (i + 1) = T.take i ++ [x] := by
  rw [List.take_add_one, h]
  rfl
/-! ### the lists there, missing -/
def thereL (O i : Nat) : List Nat := (List.range O).filter fun m => m.testBit i
def missL (O i : Nat) : List Nat := (List.range O).filter fun m => !m.testBit i
theorem mem_there {O i m : Nat} : m ∈ thereL O i ↔ m < O ∧ m.testBit i = true := by
  unfold thereL
  rw [List.mem_filter, List.mem_range]
theorem mem_miss {O i m : Nat} : m ∈ missL O i ↔ m < O ∧ m.testBit i = false := by
  unfold missL
  rw [List.mem_filter, List.mem_range]
  simp
theorem filter_range_succ (p : Nat → Bool) (i : Nat) : (List.range (i + 1)).filter p = (List.range i).filter p ++ (if p i then [i] else []) := by
  rw [List.range_succ, List.filter_append]
  by_cases h : p i <;> simp [h]
/-! ### the four blocks -/
def blk (n q : Nat) (r : CR) (ph : Nat) : List TR := (List.range (2 * 2 ^ n)).map (spec n q r ph)
def rowsOf (n q : Nat) (r : CR) : List TR := blk n q r 0 ++ blk n q r 1 ++ blk n q r 2 ++ blk n q r 3
theorem spec_home {n q m : Nat} {r : CR} : spec n q r 0 m = ((if m = 2 ^ n then (match r with | .stop => none | _ => some (2 ^ n, 1, 4 * q + 1)) else some (m, -1, 4 * q)) : TR) := if_pos rfl
def A1 (q : Nat) (r : CR) (m : Nat) : TR := match r with
  | .inc _ _ => some (m, 1, 4 * q + 1)
  | _ => some (m, 1, 4 * q + 2)
def A2 (r : CR) (m : Nat) : TR := match r with
  | .inc i t => some (m + 2 ^ i, -1, 4 * t)
  | .dec _ _ u => some (m, -1, 4 * u)
  | .stop => none
def idleF : Nat → TR := fun _ => none
theorem spec1_inc {n q i t : Nat} (m : Nat) : updF (updF idleF (thereL (2 ^ n) i) (A1 q (.inc i t))) (missL (2 ^ n) i) (A2 (.inc i t)) m = spec n q (.inc i t) 1 m := by
  unfold updF spec
  rw [if_neg (show ¬ (1 : Nat) = 0 by decide), if_pos (show (1 : Nat) = 1 from rfl)]
  show _ = (if m < 2 ^ n then (if m.testBit i then some (m, 1, 4 * q + 1) else some (m + 2 ^ i, -1, 4 * t)) else none : TR)
  by_cases hm : m < 2 ^ n
  · rw [if_pos hm]
    cases hb : m.testBit i with
    | true =>
      rw [if_neg (by rw [mem_miss]; simp [hb]), if_pos (mem_there.mpr ⟨hm, hb⟩)]
      rfl
    | false =>
      rw [if_pos (mem_miss.mpr ⟨hm, hb⟩)]
      rfl
  · rw [if_neg hm, if_neg (by rw [mem_miss]; simp [hm]), if_neg (by rw [mem_there]; simp [hm])]
    rfl
theorem spec1_dec {n q i t u : Nat} (m : Nat) : updF (updF idleF (thereL (2 ^ n) i) (A1 q (.dec i t u))) (missL (2 ^ n) i) (A2 (.dec i t u)) m = spec n q (.dec i t u) 1 m := by
  unfold updF spec
  rw [if_neg (show ¬ (1 : Nat) = 0 by decide), if_pos (show (1 : Nat) = 1 from rfl)]
  show _ = (if m < 2 ^ n then (if m.testBit i then some (m, 1, 4 * q + 2) else some (m, -1, 4 * u)) else none : TR)
  by_cases hm : m < 2 ^ n
  · rw [if_pos hm]
    cases hb : m.testBit i with
    | true =>
      rw [if_neg (by rw [mem_miss]; simp [hb]), if_pos (mem_there.mpr ⟨hm, hb⟩)]
      rfl
    | false =>
      rw [if_pos (mem_miss.mpr ⟨hm, hb⟩)]
      rfl
  · rw [if_neg hm, if_neg (by rw [mem_miss]; simp [hm]), if_neg (by rw [mem_there]; simp [hm])]
    rfl
def B1 (q m : Nat) : TR := some (m, 1, 4 * q + 2)
def B2 (q m : Nat) : TR := some (m, -1, 4 * q + 3)
def C1 (i t m : Nat) : TR := some (m - 2 ^ i, -1, 4 * t)
theorem spec2_dec {n q i t u : Nat} (m : Nat) : updF (updF idleF (thereL (2 ^ n) i) (B1 q)) (missL (2 ^ n) i) (B2 q) m = spec n q (.dec i t u) 2 m := by
  unfold updF spec
  rw [if_neg (show ¬ (2 : Nat) = 0 by decide), if_neg (show ¬ (2 : Nat) = 1 by decide), if_pos (show (2 : Nat) = 2 from rfl)]
  show _ = (if m < 2 ^ n then (if m.testBit i then some (m, 1, 4 * q + 2) else some (m, -1, 4 * q + 3)) else none : TR)
  by_cases hm : m < 2 ^ n
  · rw [if_pos hm]
    cases hb : m.testBit i with
    | true =>
      rw [if_neg (by rw [mem_miss]; simp [hb]), if_pos (mem_there.mpr ⟨hm, hb⟩)]
      rfl
    | false =>
      rw [if_pos (mem_miss.mpr ⟨hm, hb⟩)]
      rfl
  · rw [if_neg hm, if_neg (by rw [mem_miss]; simp [hm]), if_neg (by rw [mem_there]; simp [hm])]
    rfl
theorem spec3_dec {n q i t u : Nat} (m : Nat) : updF idleF (thereL (2 ^ n) i) (C1 i t) m = spec n q (.dec i t u) 3 m := by
  unfold updF spec
  rw [if_neg (show ¬ (3 : Nat) = 0 by decide), if_neg (show ¬ (3 : Nat) = 1 by decide), if_neg (show ¬ (3 : Nat) = 2 by decide)]
  show _ = (if m < 2 ^ n then (if m.testBit i then some (m - 2 ^ i, -1, 4 * t) else none) else none : TR)
  by_cases hm : m < 2 ^ n
  · rw [if_pos hm]
    cases hb : m.testBit i with
    | true =>
      rw [if_pos (mem_there.mpr ⟨hm, hb⟩)]
      rfl
    | false =>
      rw [if_neg (by rw [mem_there]; simp [hb])]
      rfl
  · rw [if_neg hm, if_neg (by rw [mem_there]; simp [hm])]
    rfl
theorem spec_idle {n q m ph : Nat} {r : CR} (h : (r = .stop ∧ ph ≠ 0) ∨ (∃ i t, r = .inc i t ∧ ph ≠ 0 ∧ ph ≠ 1)) : spec n q r ph m = none := by
  unfold spec
  rcases h with ⟨rfl, h⟩ | ⟨i, t, rfl, h, h1⟩
  · rw [if_neg h]
    split
    · rfl
    · split <;> rfl
  · rw [if_neg h, if_neg h1]
    split <;> rfl
/-! ### six lists -/
structure St6 (H0 Hc : Hp) (M : Nat) (h f s t a9 a10 : Addr) (fh ff fs ft : Nat → TR) (T9 T10 : List Nat) : Prop where
  sm : Same H0 Hc
  lh : LFe Hc M h fh
  lf : LFe Hc M f ff
  ls : LFe Hc M s fs
  lt : LFe Hc M t ft
  e9 : Hc a9 = some (.lst (nv T9))
  e10 : Hc a10 = some (.lst (nv T10))
structure Ne6 (H0 : Hp) (h f s t a9 a10 : Addr) : Prop where
  nf : H0 f = none
  ns : H0 s = none
  nt : H0 t = none
  hf : h ≠ f
  hs : h ≠ s
  ht : h ≠ t
  fs : f ≠ s
  ft : f ≠ t
  st : s ≠ t
  f9 : a9 ≠ f
  s9 : a9 ≠ s
  t9 : a9 ≠ t
  f10 : a10 ≠ f
  s10 : a10 ≠ s
  t10 : a10 ≠ t
section
variable {H0 Hc : Hp} {M k : Nat} {h f s t a9 a10 : Addr} {fh ff fs ft : Nat → TR} {T9 T10 : List Nat} {v : V} {r : TR} {z : Int} {Q : Hp → Prop}
theorem St6.same {H' : Hp} (S : St6 H0 Hc M h f s t a9 a10 fh ff fs ft T9 T10) (sm : Same Hc H') : St6 H0 H' M h f s t a9 a10 fh ff fs ft T9 T10 :=
  ⟨S.sm.trans sm, S.lh.same sm, S.lf.same sm, S.ls.same sm, S.lt.same sm, sm _ _ S.e9, sm _ _ S.e10⟩
theorem St6.setF (S : St6 H0 Hc M h f s t a9 a10 fh ff fs ft T9 T10) (N : Ne6 H0 h f s t a9 a10) (hz : z = (k : Int)) (hk : k < M) (hv : TRv Hc v r)
    (q : ∀ H', St6 H0 H' M h f s t a9 a10 fh (fun m => if m = k then r else ff m) fs ft T9 T10 → Q H') : rSetL (.ref f) (.int z) v Hc Q :=
  S.lf.set hz hk hv fun H' l e ts => q H' ⟨same_after S.sm N.nf e, S.lh.other (e _ N.hf) ts, l, S.ls.other (e _ N.fs.symm) ts, S.lt.other (e _ N.ft.symm) ts, (e _ N.f9).trans S.e9, (e _ N.f10).trans S.e10⟩
theorem St6.setS (S : St6 H0 Hc M h f s t a9 a10 fh ff fs ft T9 T10) (N : Ne6 H0 h f s t a9 a10) (hz : z = (k : Int)) (hk : k < M) (hv : TRv Hc v r)
    (q : ∀ H', St6 H0 H' M h f s t a9 a10 fh ff (fun m => if m = k then r else fs m) ft T9 T10 → Q H') : rSetL (.ref s) (.int z) v Hc Q :=
  S.ls.set hz hk hv fun H' l e ts => q H' ⟨same_after S.sm N.ns e, S.lh.other (e _ N.hs) ts, S.lf.other (e _ N.fs) ts, l, S.lt.other (e _ N.st.symm) ts, (e _ N.s9).trans S.e9, (e _ N.s10).trans S.e10⟩
theorem St6.setT (S : St6 H0 Hc M h f s t a9 a10 fh ff fs ft T9 T10) (N : Ne6 H0 h f s t a9 a10) (hz : z = (k : Int)) (hk : k < M) (hv : TRv Hc v r)
    (q : ∀ H', St6 H0 H' M h f s t a9 a10 fh ff fs (fun m => if m = k then r else ft m) T9 T10 → Q H') : rSetL (.ref t) (.int z) v Hc Q :=
  S.lt.set hz hk hv fun H' l e ts => q H' ⟨same_after S.sm N.nt e, S.lh.other (e _ N.ht) ts, S.lf.other (e _ N.ft) ts, S.ls.other (e _ N.st) ts, l, (e _ N.t9).trans S.e9, (e _ N.t10).trans S.e10⟩
end
end K47

/-! K47O: UpStair._rows. -/
namespace K47
open PySem PySem.Spec PyProof.Rows L2
abbrev sUInit : Stmt := inClass (topS 15) 0
abbrev sURows : Stmt := inClass (topS 15) 1
abbrev sUDown : Stmt := inClass (topS 15) 2
abbrev sUUp : Stmt := inClass (topS 15) 3
abbrev sUPace : Stmt := inClass (topS 15) 4
abbrev sUEnding : Stmt := inClass (topS 15) 5
structure UTxt (K : PySem.W.Frag) (CU : Addr) : Prop where
  cl : Cls K CU
  n1 : NoAttr K CU "_origin"
  n2 : NoAttr K CU "upper"
  n3 : NoAttr K CU "lower"
theorem flat_rep (v : V) : ∀ k, (List.replicate k [v]).flatten = List.replicate k v
  | 0 => rfl
  | k + 1 => by
    rw [List.replicate_succ, List.flatten_cons, flat_rep v k, List.replicate_succ]
    rfl
theorem idle_all {H : Hp} (M : Nat) : All2 (TRv H) (List.replicate M V.non) ((List.range M).map idleF) := by
  refine ⟨by simp, fun i x r e1 e2 => ?_⟩
  have h1 : x = .non := List.eq_of_mem_replicate (List.mem_of_getElem? e1)
  have h2 : r = none := by
    rw [List.getElem?_map] at e2
    cases h : (List.range M)[i]? with
    | none =>
      rw [h] at e2
      cases e2
    | some j =>
      rw [h] at e2
      exact (Option.some.inj e2).symm
  subst h1 h2
  rfl
theorem tru_bit {K : PySem.W.Frag} {H : Hp} (m i : Nat) : TruV K (.int (Builtin.bitAnd (0 + (m : Int)) (1 * 2 ^ ((i : Int)).toNat))) H (m.testBit i) := by
  show m.testBit i = (Builtin.bitAnd (0 + (m : Int)) (1 * 2 ^ ((i : Int)).toNat) != 0)
  rw [Int.zero_add, shl_pow, bit_truthN]
theorem nv_snoc (T : List Nat) (m : Nat) : nv (T ++ [m]) = nv T ++ [V.int (m : Int)] := by
  show (T ++ [m]).map _ = T.map _ ++ _
  rw [List.map_append]
  rfl
theorem nv_inv {T : List Nat} {k : Nat} {x : V} (h : (nv T)[k]? = some x) : ∃ m, T[k]? = some m ∧ x = .int (m : Int) := by
  rw [List.getElem?_map] at h
  cases e : T[k]? with
  | none =>
    rw [e] at h
    cases h
  | some m =>
    rw [e] at h
    exact ⟨m, rfl, (Option.some.inj h).symm⟩
theorem ne_dec_inc : ¬ (V.str ("inc" : Str) = V.str ("dec" : Str)) := by decide +kernel
section
variable {P : Program} {w : World} {K : PySem.W.Frag} {mg : Str → Option Value} {base : Heap}
abbrev NR : List Str := ["self", "state", "row", "begin", "marks", "mark", "home", "idle", "bit", "there", "missing", "first", "second", "third"]
theorem scURows : FnScope NR ["self", "state", "row"] (defScope sURows) := ⟨rfl, rfl, rfl, by decide +kernel, rfl, by decide +kernel, by decide +kernel⟩
def spURows (CU : Addr) : Sp := fun vs H Q _ => ∃ (p dx : Addr) (n q : Nat) (fs : List (Str × V)) (v : V) (r : CR), vs = [.ref p, .int (q : Int), v] ∧ H p = some (.ins CU dx fs) ∧ fs.lookup ("_origin" : Str) = some (.int ((2 ^ n : Nat) : Int)) ∧
  n ≤ 3 ∧ q < 1000 ∧ CRv H v r ∧ (∃ z, z ≤ 1000 ∧ rowOk n z r) ∧ ∀ H' L xs, Same H H' → H' L = some (.lst xs) → All2 (TRv H') xs (rowsOf n q r) → Q (.ref L) H'
theorem ok_uRows {f CU : Addr} {fd : FuncData} (F : Fun K "_rows" "UpStair._rows" sURows f fd) (T : UTxt K CU) (B : Blt mg) (nB : Num mg "BLOCK" 4) : FnOk P w K mg base CX0 1 f fd ["self", "state", "row"] (spURows CU) := by
  refine F.ok scURows (fun vs H Q E h => ?_) (fun cdv A outer s H vs Q E hr h => ?_)
  · obtain ⟨p, dx, n, q, fs, v, r, rfl, _⟩ := h
    rfl
  · obtain ⟨p, dx, n, q, fs, v, r, rfl, hp, hO, hn, hq, hv, ⟨z, hz, hok⟩, k⟩ := h
    obtain ⟨tB, gB⟩ := nB
    refine ⟨_, pss_cons (ps_set (i := 3) scURows.nd rfl (.inr rfl) (pe_op op_mul (pe_glob (v := .int 4) (by rfl) gB ⟨_, rfl⟩) (pv 1)))
      (pss_cons (ps_set (i := 4) scURows.nd rfl (.inl rfl) (pe_callTy cr_range1 (by rfl) B.range (by decide +kernel) (pa_cons (pe_op op_mul pe_int (pe_fld (pv 0) rfl)) pa_nil)))
      (pss_cons (ps_setLc (i := 6) (own := [("mark", 5)]) (g := gName 5) (tt := tYes) rfl scURows.nd rfl rfl (sw_true rfl rfl rfl (by decide +kernel)) (pi_rngV (pv 4)) (blkOk_by (N := NR) (sc := defScope sURows) (by decide +kernel))
        (fun _ _ _ _ _ => pg_name (i := 5) scURows.nd rfl (Or.inl rfl)) (fun _ _ _ _ _ => pts_nil) (fun _ _ _ _ _ => pe_tup (pa_cons (pv 5) (pa_cons (pe_un un_neg pe_int) (pa_cons (pv 3) pa_nil)))))
      (pss_cons (ps_asg pe_non (pg_sub (pv 6) (pe_fld (pv 0) rfl) set_list))
      (pss_cons (ps_set (i := 7) scURows.nd rfl (.inl rfl) (pe_op op_rep (pe_lst (pa_cons pe_non pa_nil)) (pe_op op_mul pe_int (pe_fld (pv 0) rfl))))
      (pss_cons (ps_if (pt_cmpR op_isN (pv 2) pe_non (nomark _)) (pss_one (ps_ret (pe_op op_cat (pv 6) (pe_op op_rep (pv 7) pe_int)))) pss_nil)
      (pss_cons (ps_asg (pe_tup (pa_cons (pe_fld (pv 0) rfl) (pa_cons pe_int (pa_cons (pe_op op_add (pv 3) pe_int) pa_nil)))) (pg_sub (pv 6) (pe_fld (pv 0) rfl) set_list))
      (pss_cons (ps_set (i := 8) scURows.nd rfl (.inr rfl) (pe_op op_shl pe_int (pe_ix ix_tup (pv 2) pe_int (fun _ _ => rfl))))
      (pss_cons (ps_setLc (i := 9) (own := [("mark", 5)]) (g := gName 5) rfl scURows.nd rfl rfl (sw_true rfl rfl rfl (by decide +kernel)) (pi_range1 (by rfl) B.range (pa_cons (pe_fld (pv 0) rfl) pa_nil)) (blkOk_by (N := NR) (sc := defScope sURows) (by decide +kernel))
        (fun _ _ _ _ _ => pg_name (i := 5) scURows.nd rfl (Or.inl rfl)) (fun _ _ _ _ _ => pts_one (truK K (pe_op op_and (pv 5) (pv 8)))) (fun _ _ _ _ _ => pv 5))
      (pss_cons (ps_setLc (i := 10) (own := [("mark", 5)]) (g := gName 5) rfl scURows.nd rfl rfl (sw_true rfl rfl rfl (by decide +kernel)) (pi_range1 (by rfl) B.range (pa_cons (pe_fld (pv 0) rfl) pa_nil)) (blkOk_by (N := NR) (sc := defScope sURows) (by decide +kernel))
        (fun _ _ _ _ _ => pg_name (i := 5) scURows.nd rfl (Or.inl rfl)) (fun _ _ _ _ _ => pts_one (pt_not (truK K (pe_op op_and (pv 5) (pv 8))))) (fun _ _ _ _ _ => pv 5))
      (pss_cons (ps_par3 (i := 11) (j := 12) (l := 13) rfl scURows.nd rfl rfl rfl (by decide) (by decide) (by decide) rfl rfl rfl
        (pa_cons (pe_callTy call_list_of (by rfl) B.list (by decide +kernel) (pa_cons (pv 7) pa_nil)) (pa_cons (pe_callTy call_list_of (by rfl) B.list (by decide +kernel) (pa_cons (pv 7) pa_nil)) (pa_cons (pe_callTy call_list_of (by rfl) B.list (by decide +kernel) (pa_cons (pv 7) pa_nil)) pa_nil))) (by rfl))
      (pss_cons (ps_for PassesOwn.never rfl (pi_list (pv 9)) (pg_name (i := 5) scURows.nd rfl (Or.inl rfl)) (pss_one (ps_asg (pe_tup (pa_cons (pv 5) (pa_cons pe_int
          (pa_cons (pe_ifExp (pt_cmpR op_eq (pe_ix ix_tup (pv 2) pe_int (fun _ _ => rfl)) pe_str (nomark _)) (pe_op op_add (pv 3) pe_int) (pe_op op_add (pv 3) pe_int)) pa_nil)))) (pg_sub (pv 11) (pv 5) set_list))))
      (pss_cons (ps_for PassesOwn.never rfl (pi_list (pv 10)) (pg_name (i := 5) scURows.nd rfl (Or.inl rfl)) (pss_one (ps_asg (pe_ifExp (pt_cmpR op_eq (pe_ix ix_tup (pv 2) pe_int (fun _ _ => rfl)) pe_str (nomark _))
          (pe_tup (pa_cons (pe_op op_add (pv 5) (pv 8)) (pa_cons (pe_un un_neg pe_int) (pa_cons (pe_op op_mul (pe_glob (v := .int 4) (by rfl) gB ⟨_, rfl⟩) (pe_ix ix_tup (pv 2) pe_int (fun _ _ => rfl))) pa_nil))))
          (pe_tup (pa_cons (pv 5) (pa_cons (pe_un un_neg pe_int) (pa_cons (pe_op op_mul (pe_glob (v := .int 4) (by rfl) gB ⟨_, rfl⟩) (pe_ix ix_tup (pv 2) pe_int (fun _ _ => rfl))) pa_nil))))) (pg_sub (pv 11) (pv 5) set_list))))
      (pss_cons (ps_if (pt_cmpR op_eq (pe_ix ix_tup (pv 2) pe_int (fun _ _ => rfl)) pe_str (nomark _))
        (pss_cons (ps_for PassesOwn.never rfl (pi_list (pv 9)) (pg_name (i := 5) scURows.nd rfl (Or.inl rfl))
          (pss_cons (ps_asg (pe_tup (pa_cons (pv 5) (pa_cons pe_int (pa_cons (pe_op op_add (pv 3) pe_int) pa_nil)))) (pg_sub (pv 12) (pv 5) set_list))
          (pss_one (ps_asg (pe_tup (pa_cons (pe_op op_sub (pv 5) (pv 8)) (pa_cons (pe_un un_neg pe_int) (pa_cons (pe_op op_mul (pe_glob (v := .int 4) (by rfl) gB ⟨_, rfl⟩) (pe_ix ix_tup (pv 2) pe_int (fun _ _ => rfl))) pa_nil)))) (pg_sub (pv 13) (pv 5) set_list)))))
        (pss_one (ps_for PassesOwn.never rfl (pi_list (pv 10)) (pg_name (i := 5) scURows.nd rfl (Or.inl rfl))
          (pss_one (ps_asg (pe_tup (pa_cons (pv 5) (pa_cons (pe_un un_neg pe_int) (pa_cons (pe_op op_add (pv 3) pe_int) pa_nil)))) (pg_sub (pv 12) (pv 5) set_list)))))) pss_nil)
      (pss_one (ps_ret (pe_op op_cat (pe_op op_cat (pe_op op_cat (pv 6) (pv 11)) (pv 12)) (pv 13))))))))))))))))), ?_⟩
    have hO8 : 2 ^ n ≤ 8 := by
      have : 2 ^ n ≤ 2 ^ 3 := Nat.pow_le_pow_right (by decide) hn
      exact this
    have hO1 : 1 ≤ 2 ^ n := pow_pos2 n
    generalize hM : 2 * 2 ^ n = M
    have eM : (2 : Int) * ((2 ^ n : Nat) : Int) = (M : Int) := by rw [← hM, Int.natCast_mul]; rfl
    have hM16 : M ≤ 16 := by omega
    have hOM : 2 ^ n < M := by omega
    -- begin, marks
    refine ⟨_, rfl, _, _, rfl, rfl, .inl ⟨by decide, by decide⟩, ?_⟩
    refine ⟨_, rfl, p, CU, dx, fs, _, rfl, hp, T.cl, T.n1, hO, _, _, rfl, rfl, .inl ⟨by decide, by decide⟩, _, rfl, fun R nR => ?_⟩
    rw [eM]
    have s1 : Same H (upd H R (.rng 0 (M : Int))) := same_upd nR
    -- home = [..]
    refine ⟨_, rfl, R, M, rfl, upd_same, by omega, fun D nD => ?_⟩
    generalize hH1 : upd H R (.rng 0 (M : Int)) = H1 at s1 nD ⊢
    have nD0 : H D = none := s1.free nD
    refine lc_range (fun i H' => ∃ xs, Same H1 H' ∧ H' D = some (.lst xs) ∧ All2 (TRv H') xs ((List.range i).map fun m => (some (m, (-1 : Int), 4 * q) : TR)))
      ⟨[], same_upd nD, upd_same, All2.nil⟩ (fun i H' hi ⟨xs, sm, eD, ax⟩ => ⟨rfl, tyes ?_⟩) (fun H' ⟨xs, sm, eD, ax⟩ => ?_)
    · refine iteT ⟨_, rfl, _, rfl, _, rfl, line1000 (by show 3 ≤ 1000; decide), fun t0 n0 => ?_⟩
      have st := same_upd (o := HO.tup [V.int (0 + (i : Int)), V.int (-1), V.int (4 * (q : Int))]) n0
      have hlx : xs.length = i := by rw [ax.1, List.length_map, List.length_range]
      refine ⟨xs, st _ _ eD, small1000 (by omega), xs ++ [V.ref t0], grow_same nD sm st, upd_same, ?_⟩
      have ts : TSame H' (upd (upd H' t0 (HO.tup [V.int (0 + (i : Int)), V.int (-1), V.int (4 * (q : Int))])) D (.lst (xs ++ [V.ref t0]))) := (TSame.of st).trans (TSame.lst (st _ _ eD))
      rw [List.range_succ, List.map_append]
      refine (ax.mono fun x r => TRv.mono ts).snoc (TRv.mk' (x := 0 + (i : Int)) (d := -1) (y := 4 * (q : Int)) ?_ (by omega) (by omega))
      refine (TSame.lst (st _ _ eD)) t0 _ upd_same
    -- home[O] = None
    have sD : Same H H' := s1.trans sm
    have L1 : LFe H' M D (fun m => some (m, (-1 : Int), 4 * q)) := ⟨xs, eD, ax⟩
    clear ax eD xs
    refine ⟨_, rfl, _, rfl, p, CU, dx, fs, _, rfl, sD _ _ hp, T.cl, T.n1, hO, L1.set (k := 2 ^ n) (r := none) rfl hOM rfl fun H2 L2 e2 t2 => ?_⟩
    have sm2 : Same H H2 := same_after sD nD0 e2
    -- idle
    refine ⟨Nat.succ_le_of_lt (small1000 (by decide)), fun l0 nl => ?_⟩
    have s3 : Same H2 (upd H2 l0 (.lst [V.non])) := same_upd nl
    refine ⟨_, rfl, p, CU, dx, fs, _, rfl, s3 _ _ (sm2 _ _ hp), T.cl, T.n1, hO, _, _, rfl, rfl, .inl ⟨by decide, by decide⟩, l0, _, [V.non], rfl, rfl, upd_same, ?_, ?_, ?_, fun a7 n7 => ?_⟩
    · rw [eM]
      omega
    · rw [eM]
      omega
    · rw [eM, Int.toNat_natCast]
      exact line1000 (by show 1 * M ≤ 1000; omega)
    rw [eM, Int.toNat_natCast, flat_rep]
    have s4 := s3.trans (same_upd (o := HO.lst (List.replicate M V.non)) n7)
    have n7' : H2 a7 = none := s3.free n7
    have L7 : LFe (upd (upd H2 l0 (.lst [V.non])) a7 (.lst (List.replicate M V.non))) M a7 idleF := ⟨_, upd_same, idle_all M⟩
    have LD : LFe (upd (upd H2 l0 (.lst [V.non])) a7 (.lst (List.replicate M V.non))) M D _ := L2.same s4
    have smH := sm2.trans s4
    have D7 : D ≠ a7 := by
      obtain ⟨xs, e, _⟩ := L2
      exact ne_of_none e n7'
    generalize upd (upd H2 l0 (.lst [V.non])) a7 (.lst (List.replicate M V.non)) = H3 at L7 LD smH ⊢
    clear L1 L2 s3 s4 sD sm t2 e2 s1 hH1
    refine ⟨_, rfl, rfl, _, rfl, ?_⟩
    rw [(hv.mono (TSame.of smH)).stop_iff]
    have hcase : r = .stop ∨ ∃ (a : Addr) (zs : Str) (i t : Nat) (ex : List V), v = .ref a ∧ H a = some (.tup (.str zs :: .int (i : Int) :: .int (t : Int) :: ex)) ∧ i < n ∧ t ≤ 1000 ∧ isStop r = false ∧
        ((zs = "inc" ∧ r = .inc i t) ∨ ∃ u : Nat, zs = "dec" ∧ ex = [.int (u : Int)] ∧ r = .dec i t u ∧ u ≤ 1000) := by
      cases r with
      | stop => exact .inl rfl
      | inc i t =>
        obtain ⟨a, e, ha⟩ := hv
        exact .inr ⟨a, "inc", i, t, [], e, ha, hok.1, by have := hok.2; omega, rfl, .inl ⟨rfl, rfl⟩⟩
      | dec i t u =>
        obtain ⟨a, e, ha⟩ := hv
        exact .inr ⟨a, "dec", i, t, [.int (u : Int)], e, ha, hok.1, by have := hok.2.1; omega, rfl, .inr ⟨u, rfl, rfl, rfl, by have := hok.2.2; omega⟩⟩
    rcases hcase with rfl | ⟨a, zs, i, t, ex, rfl, ha, hin, ht1, hns, hkind⟩
    · -- return home + idle * 3
      refine iteT ?_
      have LD' : LFe H3 M D (spec n q .stop 0) := LD.congr fun m hm => by
        rw [spec_home]
      have LI : ∀ ph, ph ≠ 0 → LFe H3 M a7 (spec n q .stop ph) := fun ph h => L7.congr fun m hm => (spec_idle (.inl ⟨rfl, h⟩)).symm
      obtain ⟨xD, eD, axD⟩ := LD'
      obtain ⟨x7, e7, ax1⟩ := LI 1 (by decide)
      obtain ⟨x7', e7', ax2⟩ := LI 2 (by decide)
      obtain ⟨x7'', e7'', ax3⟩ := LI 3 (by decide)
      obtain rfl : x7' = x7 := by rw [e7] at e7'; cases e7'; rfl
      obtain rfl : x7'' = x7' := by rw [e7] at e7''; cases e7''; rfl
      have l7 : x7''.length = M := by rw [ax1.1, List.length_map, List.length_range]
      have lD : xD.length = M := by rw [axD.1, List.length_map, List.length_range]
      have lf : ((List.replicate ((3 : Int).toNat) x7'').flatten).length ≤ 48 := by
        show (x7'' ++ (x7'' ++ (x7'' ++ []))).length ≤ 48
        simp only [List.length_append, List.length_nil]
        omega
      refine ⟨_, rfl, _, rfl, a7, 3, x7'', rfl, rfl, e7, by decide, by decide, ?_, fun w nw => ?_⟩
      · exact line1000 (by show x7''.length * 3 ≤ 1000; omega)
      · have sw := same_upd (o := HO.lst (List.replicate ((3 : Int).toNat) x7'').flatten) nw
        refine ⟨D, w, xD, _, rfl, rfl, sw _ _ eD, upd_same, line1000 (by omega), fun L nL => ?_⟩
        have sL := sw.trans (same_upd (o := HO.lst (xD ++ (List.replicate ((3 : Int).toNat) x7'').flatten)) nL)
        refine k _ L _ (smH.trans sL) upd_same ?_
        have e : xD ++ (List.replicate ((3 : Int).toNat) x7'').flatten = xD ++ x7'' ++ x7'' ++ x7'' := by
          show xD ++ (x7'' ++ (x7'' ++ (x7'' ++ []))) = _
          simp
        generalize upd (upd H3 w (HO.lst (List.replicate ((3 : Int).toNat) x7'').flatten)) L (HO.lst (xD ++ (List.replicate ((3 : Int).toNat) x7'').flatten)) = HH at sL ⊢
        rw [e]
        unfold rowsOf blk
        rw [hM]
        have mo := fun {x : V} {r : TR} (h : TRv H3 x r) => h.mono (TSame.of sL)
        exact (((axD.mono fun _ _ => mo).append (ax1.mono fun _ _ => mo)).append (ax2.mono fun _ _ => mo)).append (ax3.mono fun _ _ => mo)
    · rw [hns]
      refine iteF ?_
      -- home[O] = (O, 1, begin + 1)
      refine ⟨_, rfl, p, CU, dx, fs, _, rfl, smH _ _ hp, T.cl, T.n1, hO, _, rfl, _, _, rfl, rfl, line1000 (by show 3 ≤ 1000; decide), fun t0 n0 => ?_⟩
      have st := same_upd (o := HO.tup [V.int ((2 ^ n : Nat) : Int), V.int 1, V.int (4 * (q : Int) + 1)]) n0
      have sm3 := smH.trans st
      refine ⟨_, rfl, _, rfl, p, CU, dx, fs, _, rfl, sm3 _ _ hp, T.cl, T.n1, hO, (LD.same st).set (k := 2 ^ n) (r := some (2 ^ n, 1, 4 * q + 1)) rfl hOM (TRv.mk' (x := ((2 ^ n : Nat) : Int)) (d := 1) (y := 4 * (q : Int) + 1) upd_same rfl (by omega)) fun H4 L4 e4 t4 => ?_⟩
      have sm4 : Same H H4 := same_after sm3 nD0 e4
      have L74 : LFe H4 M a7 idleF := (L7.same st).other (e4 _ D7.symm) t4
      have LD4 : LFe H4 M D (spec n q r 0) := L4.congr fun m hm => by
        rw [spec_home]
        by_cases hm2 : m = 2 ^ n
        · rw [if_pos hm2, if_pos hm2]
          cases r with
          | stop => cases hns
          | inc i t => rfl
          | dec i t u => rfl
        · rw [if_neg hm2, if_neg hm2, if_neg hm2]
      clear L4 e4 t4 st sm3 LD L7
      -- bit
      refine ⟨_, rfl, a, _, _, _, rfl, rfl, SqT.of (sm4 _ _ ha), at_of (j := 1) rfl rfl, _, _, rfl, rfl, ⟨by omega, by omega, by decide⟩, ?_⟩
      -- there
      refine ⟨_, rfl, p, CU, dx, fs, _, rfl, sm4 _ _ hp, T.cl, T.n1, hO, _, rfl, by omega, by omega, fun a9 n9 => lcR (acc := fun k => nv ((List.range k).filter fun m => m.testBit i)) n9 rfl (fun k hk => ?_) (fun m H5 hm s5 R1 Rn b1 b2 => ?_) (fun H5 s5 e5 => ?_)⟩
      · rw [Int.toNat_natCast] at hk
        rw [nv_len]
        have := List.length_filter_le (fun m => m.testBit i) (List.range k)
        rw [List.length_range] at this
        omega
      · refine ⟨_, rfl, _, rfl, _, _, rfl, rfl, m.testBit i, tru_bit m i, ?_⟩
        rw [filter_range_succ] at b1 b2
        cases hb : m.testBit i with
        | true =>
          rw [hb, if_pos rfl] at b1
          refine iteT ⟨_, rfl, b1 _ _ (Same.refl _) ?_⟩
          rw [nv_snoc, Int.zero_add]
        | false =>
          rw [hb, if_neg (by decide), List.append_nil] at b2
          exact iteF (b2 _ (Same.refl _) rfl)
      rw [Int.toNat_natCast] at e5
      have e9 : H5 a9 = some (.lst (nv (thereL (2 ^ n) i))) := e5
      have sm5 := sm4.trans s5
      have L75 := L74.same s5
      have LD5 := LD4.same s5
      have n9' : H a9 = none := sm4.free n9
      clear L74 LD4 s5 n9 sm4 e5
      -- missing
      refine ⟨_, rfl, p, CU, dx, fs, _, rfl, sm5 _ _ hp, T.cl, T.n1, hO, _, rfl, by omega, by omega, fun a10 n10 => lcR (acc := fun k => nv ((List.range k).filter fun m => !m.testBit i)) n10 rfl (fun k hk => ?_) (fun m H6 hm s6 R1 Rn b1 b2 => ?_) (fun H6 s6 e6 => ?_)⟩
      · rw [Int.toNat_natCast] at hk
        rw [nv_len]
        have := List.length_filter_le (fun m => !m.testBit i) (List.range k)
        rw [List.length_range] at this
        omega
      · refine ⟨_, rfl, _, rfl, _, _, rfl, rfl, m.testBit i, tru_bit m i, ?_⟩
        rw [filter_range_succ] at b1 b2
        cases hb : m.testBit i with
        | false =>
          rw [hb, if_pos (show (!false) = true from rfl)] at b1
          refine iteT ⟨_, rfl, b1 _ _ (Same.refl _) ?_⟩
          rw [nv_snoc, Int.zero_add]
        | true =>
          rw [hb, if_neg (show ¬ (!true) = true by decide), List.append_nil] at b2
          exact iteF (b2 _ (Same.refl _) rfl)
      rw [Int.toNat_natCast] at e6
      have e10 : H6 a10 = some (.lst (nv (missL (2 ^ n) i))) := e6
      have sm6 := sm5.trans s6
      have L76 := L75.same s6
      have LD6 := LD5.same s6
      have e9' := s6 _ _ e9
      clear L75 LD5 s6 n10 sm5 e6 e9
      -- first, second, third
      have hD6 : D ≠ a7 := D7
      obtain ⟨x7, e7, ax7⟩ := id L76
      refine ⟨_, rfl, a7, x7, rfl, .inl (SqL.of e7), fun f1 nf => ?_⟩
      have sf := same_upd (o := HO.lst x7) nf
      refine ⟨_, rfl, a7, x7, rfl, .inl (SqL.of (sf _ _ e7)), fun f2 ns => ?_⟩
      have ss := same_upd (o := HO.lst x7) ns
      refine ⟨_, rfl, a7, x7, rfl, .inl (SqL.of (ss _ _ (sf _ _ e7))), fun f3 nt => ⟨_, _, _, rfl, ?_⟩⟩
      have stt := same_upd (o := HO.lst x7) nt
      have s7 := sf.trans (ss.trans stt)
      have hx1 : (upd (upd (upd H6 f1 (.lst x7)) f2 (.lst x7)) f3 (.lst x7)) f1 = some (.lst x7) := stt _ _ (ss _ _ upd_same)
      have hx2 : (upd (upd (upd H6 f1 (.lst x7)) f2 (.lst x7)) f3 (.lst x7)) f2 = some (.lst x7) := stt _ _ upd_same
      have hx3 : (upd (upd (upd H6 f1 (.lst x7)) f2 (.lst x7)) f3 (.lst x7)) f3 = some (.lst x7) := upd_same
      have q12 : f1 ≠ f2 := ne_of_none (upd_same (H := H6) (o := HO.lst x7)) ns
      have q13 : f1 ≠ f3 := ne_of_none (ss _ _ (upd_same (H := H6) (o := HO.lst x7))) nt
      have q23 : f2 ≠ f3 := ne_of_none upd_same nt
      have n2 : H6 f2 = none := sf.free ns
      have n3 : H6 f3 = none := sf.free (ss.free nt)
      have qD : ∀ b, H6 b = none → D ≠ b := fun b nb => by
        obtain ⟨xs, e, _⟩ := LD6
        exact ne_of_none e nb
      have NE : Ne6 H D f1 f2 f3 a9 a10 := ⟨sm6.free nf, sm6.free n2, sm6.free n3, qD _ nf, qD _ n2, qD _ n3, q12, q13, q23, ne_of_none e9' nf, ne_of_none e9' n2, ne_of_none e9' n3, ne_of_none e10 nf, ne_of_none e10 n2, ne_of_none e10 n3⟩
      have LX := fun {l : Addr} (e : (upd (upd (upd H6 f1 (.lst x7)) f2 (.lst x7)) f3 (.lst x7)) l = some (.lst x7)) => (show LFe (upd (upd (upd H6 f1 (.lst x7)) f2 (.lst x7)) f3 (.lst x7)) M l idleF from ⟨x7, e, ax7.mono fun x r => TRv.mono (TSame.of s7)⟩)
      have S7 : St6 H (upd (upd (upd H6 f1 (.lst x7)) f2 (.lst x7)) f3 (.lst x7)) M D f1 f2 f3 a9 a10 (spec n q r 0) idleF idleF idleF (thereL (2 ^ n) i) (missL (2 ^ n) i) := ⟨sm6.trans s7, LD6.same s7, LX hx1, LX hx2, LX hx3, s7 _ _ e9', s7 _ _ e10⟩
      generalize upd (upd (upd H6 f1 (.lst x7)) f2 (.lst x7)) f3 (.lst x7) = H7 at S7 ⊢
      clear LX hx1 hx2 hx3 s7 stt ss sf e7 ax7 L76 LD6 sm6 e9' e10 qD n2 n3 ns nt nf
      have hO2 : 2 ^ n ≤ 8 := hO8
      have mlt : ∀ {k m : Nat}, (thereL (2 ^ n) i)[k]? = some m → m < 2 ^ n ∧ m.testBit i = true := fun h => mem_there.mp (List.mem_of_getElem? h)
      have mlt' : ∀ {k m : Nat}, (missL (2 ^ n) i)[k]? = some m → m < 2 ^ n ∧ m.testBit i = false := fun h => mem_miss.mp (List.mem_of_getElem? h)
      have hsh := shl_pow i
      -- for mark in there: first[mark] = ..
      refine ⟨_, rfl, a9, rfl, ⟨_, SqL.of S7.e9⟩, for_list (K := K) (a := a9) (xs := nv (thereL (2 ^ n) i)) (fun k σ Hc => ∃ v5, σ = [some (.ref p), some (.int (q : Int)), some (.ref a), some (.int (4 * (q : Int))), some (.ref R), v5, some (.ref D), some (.ref a7), some (.int (1 * 2 ^ ((i : Int)).toNat)), some (.ref a9), some (.ref a10), some (.ref f1), some (.ref f2), some (.ref f3)] ∧
          St6 H Hc M D f1 f2 f3 a9 a10 (spec n q r 0) (updF idleF ((thereL (2 ^ n) i).take k) (A1 q r)) idleF idleF (thereL (2 ^ n) i) (missL (2 ^ n) i))
        ⟨none, rfl, by rw [List.take_zero, updF_nil]; exact S7⟩ (fun k σ Hc _ ⟨_, _, S⟩ => SqL.of S.e9) (fun k x σ Hc hx ⟨v5, es, S⟩ => ?_) (fun σ Hc ⟨v5, es, S⟩ => ?_)⟩
      · subst es
        obtain ⟨m, hm, rfl⟩ := nv_inv hx
        obtain ⟨hmO, hmb⟩ := mlt hm
        have key : ∀ (t0 : Addr) (y : Int), Hc t0 = none → (some (m, (1 : Int), y.toNat) : TR) = A1 q r m → 0 ≤ y → rSetL (.ref f1) (.int (m : Int)) (.ref t0) (upd Hc t0 (.tup [.int (m : Int), .int 1, .int y])) fun H3 => ∃ v5, ([some (.ref p), some (.int (q : Int)), some (.ref a), some (.int (4 * (q : Int))), some (.ref R), some (.int (m : Int)), some (.ref D), some (.ref a7), some (.int (1 * 2 ^ ((i : Int)).toNat)), some (.ref a9), some (.ref a10), some (.ref f1), some (.ref f2), some (.ref f3)] : L2.St) = [some (.ref p), some (.int (q : Int)), some (.ref a), some (.int (4 * (q : Int))), some (.ref R), v5, some (.ref D), some (.ref a7), some (.int (1 * 2 ^ ((i : Int)).toNat)), some (.ref a9), some (.ref a10), some (.ref f1), some (.ref f2), some (.ref f3)] ∧
            St6 H H3 M D f1 f2 f3 a9 a10 (spec n q r 0) (updF idleF ((thereL (2 ^ n) i).take (k + 1)) (A1 q r)) idleF idleF (thereL (2 ^ n) i) (missL (2 ^ n) i) := fun t0 y n0 ey y0 => by
          have st := same_upd (o := HO.tup [V.int (m : Int), V.int 1, V.int y]) n0
          refine (S.same st).setF NE rfl (by omega) (TRv.mk' (m := m) (q := y.toNat) upd_same rfl (by omega)) fun H3 S3 => ⟨_, rfl, ?_⟩
          rw [take_snoc hm, ← updF_snoc, ← ey]
          exact S3
        refine ⟨_, rfl, _, rfl, a, _, _, _, rfl, rfl, SqT.of (S.sm _ _ ha), at_of (j := 0) rfl rfl, rfl, _, rfl, ?_⟩
        rcases hkind with ⟨rfl, rfl⟩ | ⟨u, rfl, rfl, rfl, hu⟩
        · refine ite2 (fun _ => ?_) (fun e => absurd (decide_eq_true rfl) e)
          refine ⟨_, rfl, _, _, rfl, rfl, line1000 (by show 3 ≤ 1000; decide), fun t0 n0 => ⟨_, rfl, _, rfl, key t0 _ n0 ?_ (by omega)⟩⟩
          show (some (m, (1 : Int), ((4 : Int) * q + 1).toNat) : TR) = some (m, 1, 4 * q + 1)
          rw [show ((4 : Int) * q + 1).toNat = 4 * q + 1 by omega]
        · refine ite2 (fun e => absurd (of_decide_eq_true e) ne_inc_dec) (fun _ => ?_)
          refine ⟨_, rfl, _, _, rfl, rfl, line1000 (by show 3 ≤ 1000; decide), fun t0 n0 => ⟨_, rfl, _, rfl, key t0 _ n0 ?_ (by omega)⟩⟩
          show (some (m, (1 : Int), ((4 : Int) * q + 2).toNat) : TR) = some (m, 1, 4 * q + 2)
          rw [show ((4 : Int) * q + 2).toNat = 4 * q + 2 by omega]
      subst es
      rw [show (nv (thereL (2 ^ n) i)).length = (thereL (2 ^ n) i).length from nv_len _, List.take_length] at S
      -- for mark in missing: first[mark] = ..
      refine ⟨_, rfl, a10, rfl, ⟨_, SqL.of S.e10⟩, for_list (K := K) (a := a10) (xs := nv (missL (2 ^ n) i)) (fun k σ Hc => ∃ v5, σ = [some (.ref p), some (.int (q : Int)), some (.ref a), some (.int (4 * (q : Int))), some (.ref R), v5, some (.ref D), some (.ref a7), some (.int (1 * 2 ^ ((i : Int)).toNat)), some (.ref a9), some (.ref a10), some (.ref f1), some (.ref f2), some (.ref f3)] ∧
          St6 H Hc M D f1 f2 f3 a9 a10 (spec n q r 0) (updF (updF idleF (thereL (2 ^ n) i) (A1 q r)) ((missL (2 ^ n) i).take k) (A2 r)) idleF idleF (thereL (2 ^ n) i) (missL (2 ^ n) i))
        ⟨v5, rfl, by rw [List.take_zero, updF_nil]; exact S⟩ (fun k σ Hc _ ⟨_, _, S⟩ => SqL.of S.e10) (fun k x σ Hc hx ⟨v5, es, S⟩ => ?_) (fun σ Hc ⟨v5, es, S⟩ => ?_)⟩
      · subst es
        obtain ⟨m, hm, rfl⟩ := nv_inv hx
        obtain ⟨hmO, hmb⟩ := mlt' hm
        have key : ∀ (t0 : Addr) (x y : Int), Hc t0 = none → (some (x.toNat, (-1 : Int), y.toNat) : TR) = A2 r m → 0 ≤ x → 0 ≤ y → rSetL (.ref f1) (.int (m : Int)) (.ref t0) (upd Hc t0 (.tup [.int x, .int (-1), .int y])) fun H3 => ∃ w5, ([some (.ref p), some (.int (q : Int)), some (.ref a), some (.int (4 * (q : Int))), some (.ref R), some (.int (m : Int)), some (.ref D), some (.ref a7), some (.int (1 * 2 ^ ((i : Int)).toNat)), some (.ref a9), some (.ref a10), some (.ref f1), some (.ref f2), some (.ref f3)] : L2.St) = [some (.ref p), some (.int (q : Int)), some (.ref a), some (.int (4 * (q : Int))), some (.ref R), w5, some (.ref D), some (.ref a7), some (.int (1 * 2 ^ ((i : Int)).toNat)), some (.ref a9), some (.ref a10), some (.ref f1), some (.ref f2), some (.ref f3)] ∧
            St6 H H3 M D f1 f2 f3 a9 a10 (spec n q r 0) (updF (updF idleF (thereL (2 ^ n) i) (A1 q r)) ((missL (2 ^ n) i).take (k + 1)) (A2 r)) idleF idleF (thereL (2 ^ n) i) (missL (2 ^ n) i) := fun t0 x y n0 ey x0 y0 => by
          have st := same_upd (o := HO.tup [V.int x, V.int (-1), V.int y]) n0
          refine (S.same st).setF NE rfl (by omega) (TRv.mk' (m := x.toNat) (q := y.toNat) upd_same (by omega) (by omega)) fun H3 S3 => ⟨_, rfl, ?_⟩
          rw [take_snoc hm, ← updF_snoc, ← ey]
          exact S3
        refine ⟨_, rfl, a, _, _, _, rfl, rfl, SqT.of (S.sm _ _ ha), at_of (j := 0) rfl rfl, rfl, _, rfl, ?_⟩
        rcases hkind with ⟨rfl, rfl⟩ | ⟨u, rfl, rfl, rfl, hu⟩
        · refine ite2 (fun _ => ?_) (fun e => absurd (decide_eq_true rfl) e)
          refine ⟨_, rfl, _, rfl, _, _, rfl, rfl, _, rfl, _, rfl, a, _, _, _, rfl, rfl, SqT.of (S.sm _ _ ha), at_of (j := 2) rfl rfl, _, _, rfl, rfl, .inl ⟨by decide, by decide⟩, line1000 (by show 3 ≤ 1000; decide), fun t0 n0 => ⟨_, rfl, _, rfl, key t0 _ _ n0 ?_ ?_ (by omega)⟩⟩
          · show (some (((m : Int) + 1 * 2 ^ ((i : Int)).toNat).toNat, (-1 : Int), ((4 : Int) * t).toNat) : TR) = some (m + 2 ^ i, -1, 4 * t)
            rw [hsh, ← Int.natCast_add, Int.toNat_natCast, show ((4 : Int) * t).toNat = 4 * t by omega]
          · rw [hsh, ← Int.natCast_add]
            exact Int.natCast_nonneg _
        · refine ite2 (fun e => absurd (of_decide_eq_true e) ne_inc_dec) (fun _ => ?_)
          refine ⟨_, rfl, _, rfl, _, rfl, a, _, _, _, rfl, rfl, SqT.of (S.sm _ _ ha), at_of (j := 3) rfl rfl, _, _, rfl, rfl, .inl ⟨by decide, by decide⟩, line1000 (by show 3 ≤ 1000; decide), fun t0 n0 => ⟨_, rfl, _, rfl, key t0 _ _ n0 ?_ (by omega) (by omega)⟩⟩
          show (some (((m : Int)).toNat, (-1 : Int), ((4 : Int) * u).toNat) : TR) = some (m, -1, 4 * u)
          rw [Int.toNat_natCast, show ((4 : Int) * u).toNat = 4 * u by omega]
      subst es
      rw [show (nv (missL (2 ^ n) i)).length = (missL (2 ^ n) i).length from nv_len _, List.take_length] at S
      -- the end: home + first + second + third
      have fin : ∀ (v5 : Option V) (Hc : Hp), LFe Hc M D (spec n q r 0) → LFe Hc M f1 (spec n q r 1) → LFe Hc M f2 (spec n q r 2) → LFe Hc M f3 (spec n q r 3) → Same H Hc →
          tRet (tOp rCat (tOp rCat (tOp rCat (tVar 6) (tVar 11)) (tVar 12)) (tVar 13)) { nx := fun _ H' => Q .non H', rt := Q } [some (.ref p), some (.int (q : Int)), some (.ref a), some (.int (4 * (q : Int))), some (.ref R), v5, some (.ref D), some (.ref a7), some (.int (1 * 2 ^ ((i : Int)).toNat)), some (.ref a9), some (.ref a10), some (.ref f1), some (.ref f2), some (.ref f3)] Hc := fun v5 Hc l0 l1 l2 l3 sm => by
        obtain ⟨y0, e0, a0⟩ := l0
        obtain ⟨y1, e1, a1⟩ := l1
        obtain ⟨y2, e2, a2⟩ := l2
        obtain ⟨y3, e3, a3⟩ := l3
        have z0 : y0.length = M := by rw [a0.1, List.length_map, List.length_range]
        have z1 : y1.length = M := by rw [a1.1, List.length_map, List.length_range]
        have z2 : y2.length = M := by rw [a2.1, List.length_map, List.length_range]
        have z3 : y3.length = M := by rw [a3.1, List.length_map, List.length_range]
        refine ⟨_, rfl, _, rfl, D, f1, y0, y1, rfl, rfl, e0, e1, line1000 (by omega), fun b1 m1 => ?_⟩
        have u1 := same_upd (o := HO.lst (y0 ++ y1)) m1
        refine ⟨_, rfl, b1, f2, _, y2, rfl, rfl, upd_same, u1 _ _ e2, line1000 (by rw [List.length_append]; omega), fun b2 m2 => ?_⟩
        have u2 := same_upd (o := HO.lst (y0 ++ y1 ++ y2)) m2
        refine ⟨_, rfl, b2, f3, _, y3, rfl, rfl, upd_same, u2 _ _ (u1 _ _ e3), line1000 (by rw [List.length_append, List.length_append]; omega), fun b3 m3 => ?_⟩
        have u3 := same_upd (o := HO.lst (y0 ++ y1 ++ y2 ++ y3)) m3
        have uu := u1.trans (u2.trans u3)
        refine k _ b3 _ (sm.trans uu) upd_same ?_
        unfold rowsOf blk
        rw [hM]
        have mo := fun {x : V} {r : TR} (h : TRv Hc x r) => h.mono (TSame.of uu)
        exact (((a0.mono fun _ _ => mo).append (a1.mono fun _ _ => mo)).append (a2.mono fun _ _ => mo)).append (a3.mono fun _ _ => mo)
      refine ⟨_, rfl, a, _, _, _, rfl, rfl, SqT.of (S.sm _ _ ha), at_of (j := 0) rfl rfl, rfl, _, rfl, ?_⟩
      rcases hkind with ⟨rfl, rfl⟩ | ⟨u, rfl, rfl, rfl, hu⟩
      · refine ite2 (fun e => absurd (of_decide_eq_true e) ne_dec_inc) (fun _ => ?_)
        refine fin _ _ S.lh (S.lf.congr fun m _ => spec1_inc m) (S.ls.congr fun m _ => (spec_idle (.inr ⟨i, t, rfl, by decide, by decide⟩)).symm) (S.lt.congr fun m _ => (spec_idle (.inr ⟨i, t, rfl, by decide, by decide⟩)).symm) S.sm
      · refine ite2 (fun _ => ?_) (fun e => absurd (decide_eq_true rfl) e)
        -- for mark in there: second[mark] = ..; third[mark] = ..
        have LF1 := fun {Hc : Hp} (h : LFe Hc M f1 (updF (updF idleF (thereL (2 ^ n) i) (A1 q (.dec i t u))) (missL (2 ^ n) i) (A2 (.dec i t u)))) => h.congr (g := spec n q (.dec i t u) 1) fun m _ => spec1_dec m
        generalize updF (updF idleF (thereL (2 ^ n) i) (A1 q (.dec i t u))) (missL (2 ^ n) i) (A2 (.dec i t u)) = g1 at S LF1
        refine ⟨_, rfl, a9, rfl, ⟨_, SqL.of S.e9⟩, for_list (K := K) (a := a9) (xs := nv (thereL (2 ^ n) i)) (fun k σ Hc => ∃ v5, σ = [some (.ref p), some (.int (q : Int)), some (.ref a), some (.int (4 * (q : Int))), some (.ref R), v5, some (.ref D), some (.ref a7), some (.int (1 * 2 ^ ((i : Int)).toNat)), some (.ref a9), some (.ref a10), some (.ref f1), some (.ref f2), some (.ref f3)] ∧
            St6 H Hc M D f1 f2 f3 a9 a10 (spec n q (.dec i t u) 0) g1 (updF idleF ((thereL (2 ^ n) i).take k) (B1 q)) (updF idleF ((thereL (2 ^ n) i).take k) (C1 i t)) (thereL (2 ^ n) i) (missL (2 ^ n) i))
          ⟨v5, rfl, by rw [List.take_zero, updF_nil, updF_nil]; exact S⟩ (fun k σ Hc _ ⟨_, _, S⟩ => SqL.of S.e9) (fun k x σ Hc hx ⟨v5, es, S⟩ => ?_) (fun σ Hc ⟨v5, es, S⟩ => ?_)⟩
        · subst es
          obtain ⟨m, hm, rfl⟩ := nv_inv hx
          obtain ⟨hmO, hmb⟩ := mlt hm
          have hge : 2 ^ i ≤ m := Nat.ge_two_pow_of_testBit hmb
          refine ⟨_, rfl, _, rfl, _, _, rfl, rfl, line1000 (by show 3 ≤ 1000; decide), fun t0 n0 => ⟨_, rfl, _, rfl, ?_⟩⟩
          have st := same_upd (o := HO.tup [V.int (m : Int), V.int 1, V.int ((4 : Int) * q + 2)]) n0
          refine (S.same st).setS NE rfl (by omega) (TRv.mk' (m := m) (q := 4 * q + 2) upd_same rfl (by omega)) fun H3 S3 => ?_
          refine ⟨_, rfl, _, rfl, _, _, rfl, rfl, _, rfl, _, rfl, a, _, _, _, rfl, rfl, SqT.of (S3.sm _ _ ha), at_of (j := 2) rfl rfl, _, _, rfl, rfl, .inl ⟨by decide, by decide⟩, line1000 (by show 3 ≤ 1000; decide), fun t1 n1 => ⟨_, rfl, _, rfl, ?_⟩⟩
          have st1 := same_upd (o := HO.tup [V.int ((m : Int) - 1 * 2 ^ ((i : Int)).toNat), V.int (-1), V.int ((4 : Int) * t)]) n1
          refine (S3.same st1).setT NE rfl (by omega) (TRv.mk' (m := m - 2 ^ i) (q := 4 * t) upd_same (by rw [hsh]; omega) (by omega)) fun H4 S4 => ⟨_, rfl, ?_⟩
          rw [take_snoc hm, ← updF_snoc, ← updF_snoc]
          exact S4
        subst es
        rw [show (nv (thereL (2 ^ n) i)).length = (thereL (2 ^ n) i).length from nv_len _, List.take_length] at S
        -- for mark in missing: second[mark] = ..
        refine ⟨_, rfl, a10, rfl, ⟨_, SqL.of S.e10⟩, for_list (K := K) (a := a10) (xs := nv (missL (2 ^ n) i)) (fun k σ Hc => ∃ v5, σ = [some (.ref p), some (.int (q : Int)), some (.ref a), some (.int (4 * (q : Int))), some (.ref R), v5, some (.ref D), some (.ref a7), some (.int (1 * 2 ^ ((i : Int)).toNat)), some (.ref a9), some (.ref a10), some (.ref f1), some (.ref f2), some (.ref f3)] ∧
            St6 H Hc M D f1 f2 f3 a9 a10 (spec n q (.dec i t u) 0) g1 (updF (updF idleF (thereL (2 ^ n) i) (B1 q)) ((missL (2 ^ n) i).take k) (B2 q)) (updF idleF (thereL (2 ^ n) i) (C1 i t)) (thereL (2 ^ n) i) (missL (2 ^ n) i))
          ⟨v5, rfl, by rw [List.take_zero, updF_nil]; exact S⟩ (fun k σ Hc _ ⟨_, _, S⟩ => SqL.of S.e10) (fun k x σ Hc hx ⟨v5, es, S⟩ => ?_) (fun σ Hc ⟨v5, es, S⟩ => ?_)⟩
        · subst es
          obtain ⟨m, hm, rfl⟩ := nv_inv hx
          obtain ⟨hmO, hmb⟩ := mlt' hm
          refine ⟨_, rfl, _, rfl, _, rfl, _, _, rfl, rfl, line1000 (by show 3 ≤ 1000; decide), fun t0 n0 => ⟨_, rfl, _, rfl, ?_⟩⟩
          have st := same_upd (o := HO.tup [V.int (m : Int), V.int (-1), V.int ((4 : Int) * q + 3)]) n0
          refine (S.same st).setS NE rfl (by omega) (TRv.mk' (m := m) (q := 4 * q + 3) upd_same rfl (by omega)) fun H3 S3 => ⟨_, rfl, ?_⟩
          rw [take_snoc hm, ← updF_snoc]
          exact S3
        subst es
        rw [show (nv (missL (2 ^ n) i)).length = (missL (2 ^ n) i).length from nv_len _, List.take_length] at S
        exact fin _ _ S.lh (LF1 S.lf) (S.ls.congr fun m _ => spec2_dec m) (S.lt.congr fun m _ => spec3_dec m) S.sm
end
end K47

/-! K47P: the plain side of UpStair: the whole table, sums, counts. -/
namespace K47
open PySem PySem.Spec PyProof.Rows L2
/-! ### the whole table -/
theorem tab_rows {n : Nat} {rows : List CR} : ∀ s, (List.range s).flatMap (fun q => rowsOf n q (rowAt rows q)) = tabOf (2 * 2 ^ n) (4 * s) (tb n rows)
  | 0 => rfl
  | s + 1 => by
    have hb : ∀ ph, ph < 4 → (List.range (2 * 2 ^ n)).map (tb n rows (4 * s + ph)) = blk n s (rowAt rows s) ph := fun ph h => by
      unfold blk
      exact List.map_congr_left fun m _ => tb_at h
    rw [List.range_succ, List.flatMap_append, tab_rows s, show 4 * (s + 1) = 4 * s + 1 + 1 + 1 + 1 by omega, tabOf_succ, tabOf_succ, tabOf_succ, tabOf_succ]
    have h0 := hb 0 (by decide)
    have h1 := hb 1 (by decide)
    have h2 := hb 2 (by decide)
    have h3 := hb 3 (by decide)
    rw [Nat.add_zero] at h0
    rw [h0, h1, show 4 * s + 1 + 1 = 4 * s + 2 by omega, h2, show 4 * s + 2 + 1 = 4 * s + 3 by omega, h3]
    unfold rowsOf
    simp [List.append_assoc]
theorem spec_ok {n q s ph m : Nat} {row : CR} (hq : q < s) (hr : rowOk n s row) (hm : m < 2 * 2 ^ n) : trOk (2 * 2 ^ n) (4 * s) (spec n q row ph m) := by
  have hp : 0 < 2 ^ n := pow_pos2 n
  unfold spec
  split
  · split
    · cases row with
      | stop => exact True.intro
      | inc i t => exact ⟨by omega, .inl rfl, by omega⟩
      | dec i t u => exact ⟨by omega, .inl rfl, by omega⟩
    · exact ⟨hm, .inr rfl, by omega⟩
  · split
    · cases row with
      | stop => exact True.intro
      | inc i t =>
        obtain ⟨h1, h2⟩ := hr
        have h3 : 2 ^ i < 2 ^ n := Nat.pow_lt_pow_right (by decide) h1
        show trOk _ _ (if m < 2 ^ n then (if m.testBit i then some (m, 1, 4 * q + 1) else some (m + 2 ^ i, -1, 4 * t)) else none : TR)
        split
        · split
          · exact ⟨hm, .inl rfl, by omega⟩
          · exact ⟨by omega, .inr rfl, by omega⟩
        · exact True.intro
      | dec i t u =>
        obtain ⟨h1, h2, h4⟩ := hr
        show trOk _ _ (if m < 2 ^ n then (if m.testBit i then some (m, 1, 4 * q + 2) else some (m, -1, 4 * u)) else none : TR)
        split
        · split
          · exact ⟨hm, .inl rfl, by omega⟩
          · exact ⟨hm, .inr rfl, by omega⟩
        · exact True.intro
    · split
      · cases row with
        | stop => exact True.intro
        | inc i t => exact True.intro
        | dec i t u =>
          show trOk _ _ (if m < 2 ^ n then (if m.testBit i then some (m, 1, 4 * q + 2) else some (m, -1, 4 * q + 3)) else none : TR)
          split
          · split
            · exact ⟨hm, .inl rfl, by omega⟩
            · exact ⟨hm, .inr rfl, by omega⟩
          · exact True.intro
      · cases row with
        | stop => exact True.intro
        | inc i t => exact True.intro
        | dec i t u =>
          obtain ⟨h1, h2, h4⟩ := hr
          show trOk _ _ (if m < 2 ^ n then (if m.testBit i then some (m - 2 ^ i, -1, 4 * t) else none) else none : TR)
          split
          · split
            · exact ⟨Nat.lt_of_le_of_lt (Nat.sub_le _ _) hm, .inr rfl, by omega⟩
            · exact True.intro
          · exact True.intro
theorem rowAt_ok {n : Nat} {rows : List CR} (h : ∀ r ∈ rows, rowOk n rows.length r) {q : Nat} (hq : q < rows.length) : rowOk n rows.length (rowAt rows q) := h _ (List.mem_of_getElem? (rowAt_at hq))
theorem tb_ok {n : Nat} {rows : List CR} (h : ∀ r ∈ rows, rowOk n rows.length r) {k m : Nat} (hk : k < 4 * rows.length) (hm : m < 2 * 2 ^ n) : trOk (2 * 2 ^ n) (4 * rows.length) (tb n rows k m) := by
  unfold tb
  exact spec_ok (by omega) (rowAt_ok h (by omega)) hm
/-! ### the mark of a place as a sum -/
theorem sum_double : ∀ l : List Nat, (l.map fun i => 2 ^ (i + 1)).sum = 2 * (l.map fun i => 2 ^ i).sum
  | [] => rfl
  | x :: r => by
    rw [List.map_cons, List.sum_cons, List.map_cons, List.sum_cons, sum_double r, Nat.pow_succ]
    omega
theorem pm_sum : ∀ (cs : List Nat) (j : Nat), (((List.range cs.length).filter fun i => decide (j ≤ cs.getD i 0)).map fun i => 2 ^ i).sum = pm cs j
  | [], _ => rfl
  | c :: r, j => by
    have ih := pm_sum r j
    rw [List.length_cons, List.range_succ_eq_map, List.filter_cons]
    have e : ((List.map Nat.succ (List.range r.length)).filter fun i => decide (j ≤ (c :: r).getD i 0)) = (((List.range r.length).filter fun i => decide (j ≤ r.getD i 0)).map Nat.succ) := by
      rw [List.filter_map]
      rfl
    rw [e]
    have e2 : (((List.range r.length).filter fun i => decide (j ≤ r.getD i 0)).map Nat.succ).map (fun i => 2 ^ i) = ((List.range r.length).filter fun i => decide (j ≤ r.getD i 0)).map fun i => 2 ^ (i + 1) := by
      rw [List.map_map]
      rfl
    show _ = (if j ≤ c then 1 else 0) + 2 * pm r j
    by_cases h : j ≤ c
    · rw [if_pos (show decide (j ≤ (c :: r).getD 0 0) = true from decide_eq_true h), List.map_cons, List.sum_cons, e2, sum_double, ih, if_pos h]
    · rw [if_neg (show ¬ decide (j ≤ (c :: r).getD 0 0) = true from fun z => h (of_decide_eq_true z)), e2, sum_double, ih, if_neg h]
      rw [Nat.zero_add]
def bitsI (cs : List Nat) (j k : Nat) : List Int := ((List.range k).filter fun i => decide (j ≤ cs.getD i 0)).map fun i => ((2 ^ i : Nat) : Int)
theorem sum_cast {l : List Nat} (f : Nat → Nat) : (l.map fun i => ((f i : Nat) : Int)).sum = (((l.map f).sum : Nat) : Int) := by
  induction l with
  | nil => rfl
  | cons x r ih =>
    rw [List.map_cons, List.sum_cons, List.map_cons, List.sum_cons, ih, Int.natCast_add]
theorem bitsI_sum (cs : List Nat) (j : Nat) : (bitsI cs j cs.length).sum = ((pm cs j : Nat) : Int) := by
  unfold bitsI
  rw [sum_cast, pm_sum]
theorem bitsI_succ (cs : List Nat) (j k : Nat) : bitsI cs j (k + 1) = bitsI cs j k ++ (if j ≤ cs.getD k 0 then [((2 ^ k : Nat) : Int)] else []) := by
  unfold bitsI
  rw [filter_range_succ, List.map_append]
  by_cases h : j ≤ cs.getD k 0
  · rw [if_pos (decide_eq_true h), if_pos h]
    rfl
  · rw [if_neg (fun z => h (of_decide_eq_true z)), if_neg h]
    rfl
theorem bitsI_len (cs : List Nat) (j k : Nat) : (bitsI cs j k).length ≤ k := by
  unfold bitsI
  rw [List.length_map]
  have := List.length_filter_le (fun i => decide (j ≤ cs.getD i 0)) (List.range k)
  rw [List.length_range] at this
  exact this
/-! ### the counters read off the tape -/
theorem count_range (c : Nat) : ∀ m, ((List.range m).filter fun p => decide (p + 1 ≤ c)).length = min c m
  | 0 => by simp
  | m + 1 => by
    rw [filter_range_succ, List.length_append, count_range c m]
    by_cases h : m + 1 ≤ c
    · rw [if_pos (decide_eq_true h)]
      show min c m + 1 = min c (m + 1)
      omega
    · rw [if_neg (fun z => h (of_decide_eq_true z))]
      show min c m + 0 = min c (m + 1)
      omega
theorem count_down {cs : List Nat} {k : Nat} (hk : k < cs.length) : ((downR cs).filter fun m => m.testBit k).length = cs.getD k 0 := by
  unfold downR
  rw [List.filter_map, List.length_map]
  have e : ((List.range (mxl cs)).filter ((fun m : Nat => m.testBit k) ∘ fun p => pm cs (p + 1))) = (List.range (mxl cs)).filter fun p => decide (p + 1 ≤ cs.getD k 0) := by
    refine List.filter_congr fun p _ => ?_
    show (pm cs (p + 1)).testBit k = _
    exact pm_bit cs (p + 1) k hk
  rw [e, count_range]
  have h : cs.getD k 0 ≤ mxl cs := mxl_le cs _ (by
    rw [List.getD_eq_getElem?_getD, List.getElem?_eq_getElem hk]
    exact List.getElem_mem hk)
  exact Nat.min_eq_left h
theorem take_filter_succ {T : List Nat} {i x : Nat} (p : Nat → Bool) (h : T[i]? = some x) : (T.take (i + 1)).filter p = (T.take i).filter p ++ (if p x then [x] else []) := by
  rw [take_snoc h, List.filter_append]
  by_cases hp : p x <;> simp [hp]
end K47

/-! K47Q: UpStair.down, up, pace, ending. -/
namespace K47
open PySem PySem.Spec PyProof.Rows L2
section
variable {P : Program} {w : World} {K : PySem.W.Frag} {mg : Str → Option Value} {base : Heap}
/-! ### down -/
abbrev ND : List Str := ["self", "configuration", "state", "counters", "right", "place", "k"]
theorem scUDown : FnScope ND ["self", "configuration"] (defScope sUDown) := ⟨rfl, rfl, rfl, by decide +kernel, rfl, by decide +kernel, by decide +kernel⟩
def spUDown (CU : Addr) : Sp := fun vs H Q _ => ∃ (p dx : Addr) (q n : Nat) (fs : List (Str × V)) (v : V) (cs : List Nat), vs = [.ref p, v] ∧ H p = some (.ins CU dx fs) ∧ fs.lookup ("_origin" : Str) = some (.int ((2 ^ n : Nat) : Int)) ∧
  CCv H v q cs ∧ cs.length = n ∧ 1 ≤ n ∧ n ≤ 3 ∧ mxl cs ≤ 100 ∧ ∀ H' v', Same H H' → TCv H' v' (dn q cs) → Q v' H'
theorem nv_map (cs : List Nat) : nv cs = (cs.map fun (c : Nat) => (c : Int)).map V.int := by
  rw [List.map_map]
  rfl
theorem ok_uDown {f CU : Addr} {fd : FuncData} (F : Fun K "down" "UpStair.down" sUDown f fd) (T : UTxt K CU) (B : Blt mg) (nB : Num mg "BLOCK" 4) : FnOk P w K mg base CX0 1 f fd ["self", "configuration"] (spUDown CU) := by
  refine F.ok scUDown (fun vs H Q E h => ?_) (fun cdv A outer s H vs Q E hr h => ?_)
  · obtain ⟨p, dx, q, n, fs, v, cs, rfl, _⟩ := h
    rfl
  · obtain ⟨p, dx, q, n, fs, v, cs, rfl, hp, hO, hC, hn, hn1, hn3, hmx, k⟩ := h
    obtain ⟨a, b, rfl, ha, hb⟩ := hC
    obtain ⟨tB, gB⟩ := nB
    refine ⟨_, pss_cons (ps_asg (pv 1) (pg_tup (by rfl) (pgs_cons (pg_name (i := 2) scUDown.nd rfl (.inl rfl)) (pgs_cons (pg_name (i := 3) scUDown.nd rfl (.inr rfl)) pgs_nil))))
      (pss_cons (ps_set (i := 4) scUDown.nd rfl (.inl rfl) (pe_lst pa_nil))
      (pss_cons (ps_for PassesOwn.never rfl (pi_range2 (by rfl) B.range (pa_cons pe_int (pa_cons (pe_op op_add (pe_callB (cr_maxT rfl) (by rfl) B.max (by decide +kernel) (pa_cons (pv 3) pa_nil)) pe_int) pa_nil))) (pg_name (i := 5) scUDown.nd rfl (Or.inr rfl))
        (pss_one (ps_expr (pe_bm PySem.F.plainAttrs_list PySem.F.slot_list_append PySem.F.type_list_append mt_append (pv 4) (pa_cons (pe_callB (cr_sum rfl) (by rfl) B.sum (by decide +kernel) (pa_cons
          (pe_lc (own := [("k", 6)]) (g := gName 6) rfl scUDown.nd (pi_range1 (by rfl) B.range (pa_cons (pe_callB call_len_seq (by rfl) B.len PySem.boot_len (pa_cons (pv 3) pa_nil)) pa_nil)) (blkOk_by (N := ND) (sc := defScope sUDown) (by decide +kernel))
            (fun _ _ _ _ _ => pg_name (i := 6) scUDown.nd rfl (Or.inl rfl)) (fun _ _ _ _ _ => pts_one (pt_cmpR op_ge (pe_ix (ixTK K) (pv 3) (pv 6) (fun _ _ => rfl)) (pv 5) (nomark _))) (fun _ _ _ _ _ => pe_op op_shl pe_int (pv 6))) pa_nil)) pa_nil)))))
      (pss_one (ps_ret (pe_tup (pa_cons (pe_op op_mul (pe_glob (v := .int 4) (by rfl) gB ⟨_, rfl⟩) (pv 2)) (pa_cons (pe_tup pa_nil) (pa_cons (pe_fld (pv 0) rfl) (pa_cons (pe_callTy call_tuple_of (by rfl) B.tuple (by decide +kernel) (pa_cons (pv 4) pa_nil)) pa_nil))))))))), ?_⟩
    refine ⟨_, rfl, a, _, rfl, SqT.of ha, rfl, _, _, rfl, _, _, rfl, rfl, ?_⟩
    refine ⟨Nat.zero_le _, fun r nr => ?_⟩
    have s1 := same_upd (o := HO.lst []) nr
    have hb1 := s1 _ _ hb
    have h0 : upd H r (.lst []) r = some (.lst []) := upd_same
    generalize upd H r (.lst []) = H1 at s1 hb1 h0 ⊢
    refine ⟨_, rfl, b, cs.map fun (c : Nat) => (c : Int), rfl, by rw [← nv_map]; exact SqT.of hb1, by rw [List.length_map]; omega, fun m hm hle => ?_⟩
    obtain ⟨c, hc, rfl⟩ := List.mem_map.mp hm
    have ec : c = mxl cs := mxl_uniq hc fun d hd => by
      have := hle _ (List.mem_map.mpr ⟨d, hd, rfl⟩)
      omega
    subst ec
    refine ⟨_, _, rfl, rfl, 1, _, rfl, ⟨by omega, by omega, by omega, by omega⟩, ?_⟩
    rw [show ((mxl cs : Nat) : Int) + 1 - 1 = ((mxl cs : Nat) : Int) by omega, Int.toNat_natCast]
    refine for_range (fun i σ Hc => ∃ v5, σ = [some (.ref p), some (.ref a), some (.int (q : Int)), some (.ref b), some (.ref r), v5, none] ∧ Same H Hc ∧ Hc r = some (.lst (nv ((downR cs).take i)))) ⟨none, rfl, s1, h0⟩ (fun i σ Hc hi ⟨v5, es, sm, er⟩ => ?_) (fun σ Hc ⟨v5, es, sm, er⟩ => ?_)
    · subst es
      have hbc := sm _ _ hb
      refine ⟨_, rfl, .inl ⟨rfl, _, SqL.of er⟩, _, rfl, b, _, rfl, .inr (SqT.of hbc), _, rfl, by rw [nv_len]; omega, by rw [nv_len]; omega, fun D nD => ?_⟩
      have eln : (((nv cs).length : Nat) : Int).toNat = cs.length := by rw [nv_len, Int.toNat_natCast]
      refine lcR (acc := fun k => (bitsI cs (i + 1) k).map V.int) nD rfl (fun k hk => by rw [List.length_map]; have := bitsI_len cs (i + 1) k; omega) (fun k H2 hk s2 R1 Rn b1 b2 => ?_) (fun H2 s2 e2 => ?_)
      · rw [eln] at hk
        refine ⟨_, rfl, _, rfl, b, nv cs, _, _, rfl, rfl, SqT.of (s2 _ _ hbc), at_of (j := k) (Int.zero_add _) (nv_getD hk), _, rfl, _, _, rfl, rfl, _, rfl, ?_⟩
        rw [bitsI_succ] at b1 b2
        by_cases h : i + 1 ≤ cs.getD k 0
        · rw [if_pos h] at b1
          rw [decide_eq_true (show (1 : Int) + (i : Int) ≤ ((cs.getD k 0 : Nat) : Int) by omega)]
          refine iteT ⟨_, rfl, _, _, rfl, rfl, ⟨by omega, by omega, by decide⟩, b1 _ _ (Same.refl _) ?_⟩
          rw [List.map_append, Int.zero_add]
          show _ = _ ++ [V.int (1 * 2 ^ ((k : Int)).toNat)]
          rw [shl_pow]
          rfl
        · rw [if_neg h, List.append_nil] at b2
          rw [decide_eq_false (show ¬ (1 : Int) + (i : Int) ≤ ((cs.getD k 0 : Nat) : Int) by omega)]
          exact iteF (b2 _ (Same.refl _) rfl)
      · rw [eln] at e2
        have hlt : i < (downR cs).length := by rw [downR_len]; exact hi
        refine ⟨D, _, rfl, SqL.of e2, r, _, _, rfl, rfl, s2 _ _ er, small1000 (by rw [nv_len, List.length_take]; omega), ?_⟩
        refine ⟨_, rfl, fun x o e => ?_, ?_⟩
        · have hx : x ≠ r := ne_of_none e nr
          rw [upd_ne hx]
          exact s2 _ _ (sm _ _ e)
        · rw [upd_same, bitsI_sum]
          have e1 : (downR cs)[i]? = some (pm cs (i + 1)) := by
            have := downR_getD cs i
            rw [List.getD_eq_getElem?_getD, List.getElem?_eq_getElem hlt] at this
            rw [List.getElem?_eq_getElem hlt, Nat.add_comm i 1, ← this]
            rfl
          rw [take_snoc e1, nv_snoc]
    · subst es
      rw [show mxl cs = (downR cs).length from (downR_len cs).symm, List.take_length] at er
      refine ⟨_, rfl, _, _, rfl, rfl, .inl ⟨by decide, by decide⟩, Nat.zero_le _, fun l nl => ?_⟩
      have sl := same_upd (o := HO.tup []) nl
      refine ⟨_, rfl, p, CU, dx, fs, _, rfl, sl _ _ (sm _ _ hp), T.cl, T.n1, hO, _, rfl, r, _, rfl, .inl ⟨SqL.of (sl _ _ er), fun rt nrt => ⟨line1000 (by show 4 ≤ 1000; decide), fun t nt => ?_⟩⟩⟩
      have srt := same_upd (o := HO.tup (nv (downR cs))) nrt
      have st := same_upd (o := HO.tup [V.int ((4 : Int) * q), V.ref l, V.int ((2 ^ n : Nat) : Int), V.ref rt]) nt
      refine k _ _ (sm.trans (sl.trans (srt.trans st))) ⟨t, l, rt, rfl, ?_, st _ _ (srt _ _ upd_same), st _ _ upd_same⟩
      show upd _ t (HO.tup [V.int ((4 : Int) * q), V.ref l, V.int ((2 ^ n : Nat) : Int), V.ref rt]) t = some (HO.tup [V.int ((4 * q : Nat) : Int), V.ref l, V.int ((2 ^ cs.length : Nat) : Int), V.ref rt])
      rw [upd_same, hn, show ((4 * q : Nat) : Int) = (4 : Int) * q by omega]
end
end K47

/-! K47R: UpStair.up, pace, ending. -/
namespace K47
open PySem PySem.Spec PyProof.Rows L2
/-- the stair that stands at p, as its methods read it -/
def US (CU CC : Addr) (H : Hp) (p : Addr) (n : Nat) (rows : List CR) (pt : Addr) : Prop :=
  ∃ (dx pc : Addr) (fs : List (Str × V)), H p = some (.ins CU dx fs) ∧ fs.lookup ("_origin" : Str) = some (.int ((2 ^ n : Nat) : Int)) ∧ fs.lookup ("upper" : Str) = some (.ref pc) ∧ fs.lookup ("lower" : Str) = some (.ref pt) ∧
    fs.lookup ("down" : Str) = none ∧ fs.lookup ("up" : Str) = none ∧ fs.lookup ("pace" : Str) = none ∧ fs.lookup ("ending" : Str) = none ∧ CM CC H pc n rows
theorem US.mono {CU CC : Addr} {H H' : Hp} {p : Addr} {n : Nat} {rows : List CR} {pt : Addr} (s : Same H H') (h : US CU CC H p n rows pt) : US CU CC H' p n rows pt := by
  obtain ⟨dx, pc, fs, h1, h2, h3, h4, h5, h6, h7, h8, h9⟩ := h
  exact ⟨dx, pc, fs, s _ _ h1, h2, h3, h4, h5, h6, h7, h8, h9.mono s⟩
section
variable {P : Program} {w : World} {K : PySem.W.Frag} {mg : Str → Option Value} {base : Heap}
/-! ### up -/
abbrev NU : List Str := ["self", "configuration", "state", "left", "mark", "right", "counters", "found", "k", "one"]
theorem scUUp : FnScope NU ["self", "configuration"] (defScope sUUp) := ⟨rfl, rfl, rfl, by decide +kernel, rfl, by decide +kernel, by decide +kernel⟩
def upOuter : Scope := { kind := .function, names := [(".0", .local), ("k", .cell), ("len", .globalImplicit), ("right", .free)], isGenerator := false, isCoroutine := false, more := [] }
def spUUp (CU CC : Addr) : Sp := fun vs H Q _ => ∃ (p pt : Addr) (n : Nat) (rows : List CR) (v : V) (c : TC), vs = [.ref p, v] ∧ US CU CC H p n rows pt ∧ 1 ≤ n ∧ n ≤ 3 ∧ TCv H v c ∧
  ((Quiet c ∧ Q .non H) ∨ ∃ q cs, c = dn q cs ∧ cs.length = n ∧ mxl cs ≤ 100 ∧ ∀ H' v', Same H H' → CCv H' v' q cs → Q v' H')
theorem tru_bit2 {K : PySem.W.Frag} {H : Hp} (m i : Nat) : TruV K (.int (Builtin.bitAnd (m : Int) (1 * 2 ^ ((0 + (i : Int))).toNat))) H (m.testBit i) := by
  show m.testBit i = (Builtin.bitAnd (m : Int) (1 * 2 ^ ((0 + (i : Int))).toNat) != 0)
  rw [Int.zero_add, shl_pow, bit_truthN]
theorem nv_take (T : List Nat) (k : Nat) : (nv T).take k = nv (T.take k) := List.map_take.symm
theorem ok_uUp {f fD CU CC : Addr} {fd fdD : FuncData} (F : Fun K "up" "UpStair.up" sUUp f fd) (T : UTxt K CU) (TC' : CTxt K CC) (B : Blt mg) (nB : Num mg "BLOCK" 4)
    (R : MF P w K mg base CU "down" 1 ["self", "configuration"] (spUDown CU) fD fdD) : FnOk P w K mg base CX0 2 f fd ["self", "configuration"] (spUUp CU CC) := by
  refine F.ok scUUp (fun vs H Q E h => ?_) (fun cdv A outer s H vs Q E hr h => ?_)
  · obtain ⟨p, pt, n, rows, v, c, rfl, _⟩ := h
    rfl
  · obtain ⟨p, pt, n, rows, v, c, rfl, hU, hn1, hn3, hC, k⟩ := h
    obtain ⟨tB, gB⟩ := nB
    obtain ⟨dx, pc, fs, h1, h2, h3, h4, h5, h6, h7, h8, h9⟩ := id hU
    obtain ⟨a, l, r, rfl, ha, hl, hrr⟩ := id hC
    have hu : (A.deeper (envOfC "UpStair.up" (defScope sUUp) s.heap.objs.size f cdv)).units + 64 < cLine := hr.units
    refine ⟨_, pss_cons (ps_asg (pv 1) (pg_tup (by rfl) (pgs_cons (pg_name (i := 2) scUUp.nd rfl (.inl rfl)) (pgs_cons (pg_name (i := 3) scUUp.nd rfl (.inl rfl)) (pgs_cons (pg_name (i := 4) scUUp.nd rfl (.inl rfl)) (pgs_cons (pg_name (i := 5) scUUp.nd rfl (.inr rfl)) pgs_nil))))))
      (pss_cons (ps_if (PW.pt (pw_or (pt_cmpR op_ne (pe_op op_mod (pv 2) (pe_glob (v := .int 4) (by rfl) gB ⟨_, rfl⟩)) pe_int (nomark _)) (pw_or (truK K (pv 3)) (pw_or1 (pt_cmpR op_ne (pv 4) (pe_fld (pv 0) rfl) (nomark _)))))) (pss_one (ps_ret pe_non)) pss_nil)
      (pss_cons (ps_set (i := 6) scUUp.nd rfl (.inl rfl) (pe_callTy call_tuple_of (by rfl) B.tuple (by decide +kernel) (pa_cons
        (pe_lc (own := [("k", 8)]) (g := gName 8) (tt := tYes) rfl scUUp.nd (pi_range1 (by rfl) B.range (pa_cons (pe_fld (pe_fld (pv 0) rfl) rfl) pa_nil)) (blkOk_by (N := NU) (sc := defScope sUUp) (by decide +kernel))
          (fun _ _ _ _ _ => pg_name (i := 8) scUUp.nd rfl (Or.inr rfl)) (fun _ _ _ _ _ => pts_nil)
          (fun _ _ _ _ _ => pe_callB (lenK K) (by rfl) B.len PySem.boot_len (pa_cons
            (pe_lc (own := [("one", 9)]) (g := gName 9) rfl scUUp.nd (pi_tupK K (pv 5)) (blkOk_by (N := NU) (sc := relS upOuter (defScope sUUp)) (by decide +kernel))
              (fun _ _ _ _ _ => pg_name (i := 9) scUUp.nd rfl (Or.inl rfl)) (fun _ _ _ _ _ => pts_one (truK K (pe_op op_and (pv 9) (pe_op op_shl pe_int (pv 8))))) (fun _ _ _ _ _ => pv 9)) pa_nil))) pa_nil)))
      (pss_cons (ps_set (i := 7) scUUp.nd rfl (.inl rfl) (pe_tup (pa_cons (pe_op op_fdiv (pv 2) (pe_glob (v := .int 4) (by rfl) gB ⟨_, rfl⟩)) (pa_cons (pv 6) pa_nil))))
      (pss_one (ps_ret (pe_ifExp (pt_cmpR (op_eqD hu) (pe_meth (pv 0) T.cl R.m R.ok (hr.mono (by decide)) R.b .nil pass0 (pa_cons (pv 7) pa_nil)) (pv 1) (nomark _)) (pv 7) pe_non)))))), ?_⟩
    refine ⟨_, rfl, a, _, rfl, SqT.of ha, rfl, _, _, rfl, _, _, rfl, _, _, rfl, _, _, rfl, rfl, ?_⟩
    refine ⟨_, rfl, _, _, rfl, rfl, (by show (0 : Int) < 4; decide), rfl, _, rfl, ?_⟩
    rcases k with ⟨hQ, k⟩ | ⟨q, cs, rfl, hcs, hmx, k⟩
    · by_cases h4 : c.q % 4 = 0
      · rw [show (!decide (V.int ((c.q : Int) % 4) = V.int 0)) = false by rw [show ((c.q : Int) % 4) = 0 by omega]; rfl]
        refine iteF ?_
        have hne : c.l ≠ [] := by
          rcases hQ with e | e
          · exact absurd h4 e
          · exact e
        refine ⟨_, rfl, true, .inr (.inl ⟨_, SqT.of hl, ?_⟩), iteT (iteT k)⟩
        cases hc : c.l with
        | nil => exact absurd hc hne
        | cons x y => rfl
      · have e : (!decide (V.int ((c.q : Int) % 4) = V.int 0)) = true := by
          rw [decide_eq_false fun z => ?_]
          · rfl
          · have := V.int.inj z
            omega
        rw [e]
        exact iteT (iteT k)
    · have e0 : (!decide (V.int (((dn q cs).q : Int) % 4) = V.int 0)) = false := by
        have : (((dn q cs).q : Nat) : Int) % 4 = 0 := by
          show (((4 * q : Nat) : Int)) % 4 = 0
          omega
        rw [this]
        rfl
      rw [e0]
      refine iteF ⟨_, rfl, false, .inr (.inl ⟨_, SqT.of hl, rfl⟩), iteF ⟨_, rfl, _, rfl, p, CU, dx, fs, _, rfl, h1, T.cl, T.n1, h2, rfl, _, rfl, ?_⟩⟩
      have e1 : (!decide (V.int (((dn q cs).m : Nat) : Int) = V.int ((2 ^ n : Nat) : Int))) = false := by
        show (!decide (V.int ((2 ^ cs.length : Nat) : Int) = V.int ((2 ^ n : Nat) : Int))) = false
        rw [hcs, decide_eq_true rfl]
        rfl
      rw [e1]
      refine iteF ?_
      obtain ⟨cdx, cL, cfs, cxs, c1, c2, c3, c4, c5, c6, c7, c8, c9⟩ := h9
      -- counters
      refine ⟨_, rfl, p, CU, dx, fs, _, rfl, h1, T.cl, T.n2, h3, pc, CC, cdx, cfs, _, rfl, c1, TC'.cl, TC'.n2, c3, _, rfl, by omega, by omega, fun D nD => ?_⟩
      have hdl : (downR cs).length ≤ 100 := by rw [downR_len]; exact hmx
      refine lcR (acc := fun i => nv (cs.take i)) nD rfl (fun i hi => by rw [nv_len, List.length_take]; omega) (fun i H2 hi s2 R1 Rn b1 b2 => ?_) (fun H2 s2 e2 => ?_)
      · rw [Int.toNat_natCast] at hi
        have hic : i < cs.length := by omega
        have hr2 : H2 r = some (.tup (nv (downR cs))) := s2 _ _ hrr
        refine tyes ?_
        refine iteT ?_
        refine ⟨_, rfl, r, rfl, ⟨_, SqT.of hr2⟩, fun D2 nD2 => lcT (xs := nv (downR cs)) (acc := fun j => nv (((downR cs).take j).filter fun m => m.testBit i)) (SqT.of hr2) nD2 rfl (fun j hj => ?_) (fun j x H3 hx s3 R2 Rn2 d1 d2 => ?_) (fun H3 s3 e3 => ?_)⟩
        · rw [nv_len]
          have := List.length_filter_le (fun m : Nat => m.testBit i) ((downR cs).take j)
          rw [List.length_take] at this
          omega
        · obtain ⟨m, hm, rfl⟩ := nv_inv hx
          refine ⟨_, rfl, _, rfl, _, _, rfl, rfl, ⟨by omega, by omega, by decide⟩, _, _, rfl, rfl, m.testBit i, tru_bit2 m i, ?_⟩
          rw [take_filter_succ _ hm] at d1 d2
          cases hb : m.testBit i with
          | true =>
            rw [hb, if_pos rfl] at d1
            exact iteT ⟨_, rfl, d1 _ _ (Same.refl _) (nv_snoc _ _)⟩
          | false =>
            rw [hb, if_neg (by decide), List.append_nil] at d2
            exact iteF (d2 _ (Same.refl _) rfl)
        · refine ⟨D2, _, rfl, .inl (SqL.of e3), b1 _ _ s3 ?_⟩
          have e5 : cs[i]? = some (cs.getD i 0) := by
            rw [List.getD_eq_getElem?_getD, List.getElem?_eq_getElem hic]
            rfl
          rw [take_snoc e5, nv_snoc, nv_len, nv_len, List.take_length, count_down hic]
      · rw [Int.toNat_natCast, ← hcs, List.take_length] at e2
        refine ⟨D, _, rfl, .inl ⟨SqL.of e2, fun ct nct => ?_⟩⟩
        have sct := same_upd (o := HO.tup (nv cs)) nct
        have hct : upd H2 ct (.tup (nv cs)) ct = some (.tup (nv cs)) := upd_same
        have s3 := s2.trans sct
        generalize upd H2 ct (.tup (nv cs)) = H3 at s3 hct ⊢
        -- found
        refine ⟨_, rfl, _, _, rfl, rfl, ⟨by decide, by decide⟩, _, rfl, line1000 (by show 2 ≤ 1000; decide), fun fo nfo => ?_⟩
        have eq4 : (((dn q cs).q : Nat) : Int) / 4 = (q : Int) := by
          show (((4 * q : Nat) : Int)) / 4 = (q : Int)
          omega
        have sfo := same_upd (o := HO.tup [V.int ((((dn q cs).q : Nat) : Int) / 4), V.ref ct]) nfo
        have hfo : CCv (upd H3 fo (.tup [V.int ((((dn q cs).q : Nat) : Int) / 4), V.ref ct])) (.ref fo) q cs := ⟨fo, ct, rfl, by rw [upd_same, eq4], sfo _ _ hct⟩
        have s4 := s3.trans sfo
        refine ⟨_, rfl, p, dx, fs, rfl, s4 _ _ h1, h5, _, rfl, p, dx, q, n, fs, .ref fo, cs, rfl, s4 _ _ h1, h2, hfo, hcs, hn1, hn3, hmx, fun H5 v5 s5 hv5 => ?_⟩
        have s45 := s4.trans s5
        refine ⟨_, rfl, tdat (dn q cs), tdat (dn q cs), hv5.dp, (hC.mono (TSame.of s45)).dp, tdat_shaped _, tdat_shaped _, _, rfl, ?_⟩
        rw [SeqAt.eqv_refl _ (tdat_can _)]
        exact iteT ⟨_, rfl, k _ _ s45 (hfo.mono (TSame.of s5))⟩
/-! ### pace, ending -/
theorem scUPace : FnScope ["self", "configuration", "row"] ["self", "configuration"] (defScope sUPace) := ⟨rfl, rfl, rfl, by decide +kernel, rfl, by decide +kernel, by decide +kernel⟩
def spUPace (CU CC : Addr) : Sp := fun vs H Q _ => ∃ (p pt : Addr) (n q : Nat) (rows : List CR) (v : V) (cs : List Nat), vs = [.ref p, v] ∧ US CU CC H p n rows pt ∧ CCv H v q cs ∧ q < rows.length ∧ cs.length = n ∧ rowOk n rows.length (rowAt rows q) ∧
  Q (.int ((pace (rowAt rows q) cs : Nat) : Int)) H
theorem ok_uPace {f fR CU CC : Addr} {fd fdR : FuncData} (F : Fun K "pace" "UpStair.pace" sUPace f fd) (T : UTxt K CU) (TC' : CTxt K CC)
    (R : MF P w K mg base CC "row" 2 ["self", "state"] (spCRow CC) fR fdR) : FnOk P w K mg base CX0 3 f fd ["self", "configuration"] (spUPace CU CC) := by
  refine F.ok scUPace (fun vs H Q E h => ?_) (fun cdv A outer s H vs Q E hr h => ?_)
  · obtain ⟨p, pt, n, q, rows, v, cs, rfl, _⟩ := h
    rfl
  · obtain ⟨p, pt, n, q, rows, v, cs, rfl, hU, hC, hq, hcs, hok, k⟩ := h
    obtain ⟨dx, pc, fs, h1, h2, h3, h4, h5, h6, h7, h8, h9⟩ := id hU
    obtain ⟨a, b, rfl, ha, hb⟩ := id hC
    obtain ⟨cdx, cL, cfs, cxs, c1, c2, c3, c4, c5, c6, c7, c8, c9⟩ := id h9
    refine ⟨_, pss_cons (ps_set (i := 2) scUPace.nd rfl (.inl rfl) (pe_meth (pe_fld (pv 0) rfl) TC'.cl R.m R.ok hr R.b .nil pass0 (pa_cons (pe_ix ix_tup (pv 1) pe_int (fun _ _ => rfl)) pa_nil)))
      (pss_cons (ps_if (pt_cmpR op_isN (pv 2) pe_non (nomark _)) (pss_one (ps_ret pe_int)) pss_nil)
      (pss_one (ps_ret (pe_op op_add (pe_op op_mul pe_int (pe_ix ix_tup (pe_ix ix_tup (pv 1) pe_int (fun _ _ => rfl)) (pe_ix ix_tup (pv 2) pe_int (fun _ _ => rfl)) (fun _ _ => rfl))) pe_int)))), ?_⟩
    refine ⟨_, rfl, p, CU, dx, fs, _, rfl, h1, T.cl, T.n2, h3, pc, cdx, cfs, rfl, c1, c5, _, rfl, a, _, _, _, rfl, rfl, SqT.of ha, at_of (j := 0) rfl rfl, pc, n, q, rows, rfl, h9, hq, fun x rx => ?_⟩
    refine ⟨_, rfl, rfl, _, rfl, ?_⟩
    rw [rx.stop_iff]
    cases hr0 : rowAt rows q with
    | stop =>
      rw [hr0] at k
      exact iteT k
    | inc i t =>
      rw [hr0] at rx hok k
      obtain ⟨c, rfl, hc⟩ := rx
      obtain ⟨hi, ht⟩ := hok
      refine iteF ⟨_, rfl, a, _, _, _, rfl, rfl, SqT.of ha, at_of (j := 1) rfl rfl, _, rfl, c, _, _, _, rfl, rfl, SqT.of hc, at_of (j := 1) rfl rfl, b, _, _, _, rfl, rfl, SqT.of hb, atI_nat (nv_getD (by omega)), _, _, rfl, rfl, .inl ⟨by decide, by decide⟩, _, _, rfl, rfl, ?_⟩
      have e : (2 : Int) * ((cs.getD i 0 : Nat) : Int) + 2 = ((pace (.inc i t) cs : Nat) : Int) := by
        show _ = ((2 * cs.getD i 0 + 2 : Nat) : Int)
        omega
      show Q (.int ((2 : Int) * ((cs.getD i 0 : Nat) : Int) + 2)) H
      rw [e]
      exact k
    | dec i t u =>
      rw [hr0] at rx hok k
      obtain ⟨c, rfl, hc⟩ := rx
      obtain ⟨hi, ht, hu⟩ := hok
      refine iteF ⟨_, rfl, a, _, _, _, rfl, rfl, SqT.of ha, at_of (j := 1) rfl rfl, _, rfl, c, _, _, _, rfl, rfl, SqT.of hc, at_of (j := 1) rfl rfl, b, _, _, _, rfl, rfl, SqT.of hb, atI_nat (nv_getD (by omega)), _, _, rfl, rfl, .inl ⟨by decide, by decide⟩, _, _, rfl, rfl, ?_⟩
      have e : (2 : Int) * ((cs.getD i 0 : Nat) : Int) + 2 = ((pace (.dec i t u) cs : Nat) : Int) := by
        show _ = ((2 * cs.getD i 0 + 2 : Nat) : Int)
        omega
      show Q (.int ((2 : Int) * ((cs.getD i 0 : Nat) : Int) + 2)) H
      rw [e]
      exact k
theorem scUEnding : FnScope ["self", "configuration"] ["self", "configuration"] (defScope sUEnding) := ⟨rfl, rfl, rfl, by decide +kernel, rfl, by decide +kernel, by decide +kernel⟩
def spUEnding : Sp := fun vs H Q _ => ∃ (p : Addr) (v : V), vs = [.ref p, v] ∧ Q (.int 0) H
theorem ok_uEnding {f : Addr} {fd : FuncData} (F : Fun K "ending" "UpStair.ending" sUEnding f fd) : FnOk P w K mg base CX0 1 f fd ["self", "configuration"] spUEnding := by
  refine F.ok scUEnding (fun vs H Q E h => ?_) (fun cdv A outer s H vs Q E hr h => ?_)
  · obtain ⟨p, v, rfl, _⟩ := h
    rfl
  · obtain ⟨p, v, rfl, k⟩ := h
    exact ⟨_, pss_one (ps_ret pe_int), k⟩
end
end K47

/-! K47S: UpStair(..). -/
namespace K47
open PySem PySem.Spec PyProof.Rows L2
/-- what is left when the instance at p is written -/
theorem TM.upd {CT : Addr} {H : Hp} {p pt : Addr} {M S : Nat} {tab : List TR} {C dx : Addr} {fs : List (Str × V)} {o : HO} (h : TM CT H pt M S tab) (hp : H p = some (.ins C dx fs)) (hne : pt ≠ p) : TM CT (L2.upd H p o) pt M S tab := by
  obtain ⟨dx1, L, fs1, xs, h1, h2, h3, h4, h5, h6, h7, h7', h8, h9⟩ := h
  refine ⟨dx1, L, fs1, xs, by rw [upd_ne hne]; exact h1, h2, h3, h4, h5, h6, h7, h7', ?_, h9.mono fun x r => TRv.mono fun a ys e => ?_⟩
  · rw [upd_ne (ne_of h8 hp (by intro z; cases z))]
    exact h8
  · rw [upd_ne (ne_of e hp (by intro z; cases z))]
    exact e
theorem CM.upd {CC : Addr} {H : Hp} {p pc : Addr} {n : Nat} {rows : List CR} {C dx : Addr} {fs : List (Str × V)} {o : HO} (h : CM CC H pc n rows) (hp : H p = some (.ins C dx fs)) (hne : pc ≠ p) : CM CC (L2.upd H p o) pc n rows := by
  obtain ⟨dx1, L, fs1, xs, h1, h2, h3, h4, h5, h6, h7, h8, h9⟩ := h
  refine ⟨dx1, L, fs1, xs, by rw [upd_ne hne]; exact h1, h2, h3, h4, h5, h6, h7, ?_, h9.mono fun x r => CRv.mono fun a ys e => ?_⟩
  · rw [upd_ne (ne_of h8 hp (by intro z; cases z))]
    exact h8
  · rw [upd_ne (ne_of e hp (by intro z; cases z))]
    exact e
def uf2 (pc : Addr) (O : Int) : List (Str × V) := putF "_origin" (.int O) (putF "upper" (.ref pc) [])
def uf3 (pc pt : Addr) (O : Int) : List (Str × V) := putF "lower" (.ref pt) (uf2 pc O)
theorem uf2_origin (pc : Addr) (O : Int) : (uf2 pc O).lookup ("_origin" : Str) = some (.int O) := by
  unfold uf2
  rw [lookup_putF, if_pos rfl]
theorem uf2_upper (pc : Addr) (O : Int) : (uf2 pc O).lookup ("upper" : Str) = some (.ref pc) := by
  unfold uf2
  rw [lookup_putF, if_neg (by decide +kernel), lookup_putF, if_pos rfl]
theorem uf2_no (pc : Addr) (O : Int) {m : Str} (h1 : ¬ m = "_origin") (h2 : ¬ m = "upper") : (uf2 pc O).lookup m = none := by
  unfold uf2
  rw [lookup_putF, if_neg h1, lookup_putF, if_neg h2]
  rfl
theorem uf3_o (pc pt : Addr) (O : Int) {m : Str} (h : ¬ m = "lower") : (uf3 pc pt O).lookup m = (uf2 pc O).lookup m := by
  unfold uf3
  rw [lookup_putF, if_neg h]
theorem uf2_len (pc : Addr) (O : Int) : (uf2 pc O).length ≤ 2 := by
  have := length_putF "_origin" (V.int O) (putF "upper" (V.ref pc) [])
  have := length_putF "upper" (V.ref pc) []
  have e : ([] : List (Str × V)).length = 0 := rfl
  show (putF _ _ (putF _ _ [])).length ≤ 2
  omega
section
variable {P : Program} {w : World} {K : PySem.W.Frag} {mg : Str → Option Value} {base : Heap}
theorem scUInit : FnScope ["self", "upper", "rows", "state"] ["self", "upper"] (defScope sUInit) := ⟨rfl, rfl, rfl, by decide +kernel, rfl, by decide +kernel, by decide +kernel⟩
def spUInit (CU CC CT : Addr) : Sp := fun vs H Q _ => ∃ (p dx pc : Addr) (n : Nat) (rows : List CR), vs = [.ref p, .ref pc] ∧ H p = some (.ins CU dx []) ∧ pc ≠ p ∧ CM CC H pc n rows ∧ 1 ≤ n ∧ n ≤ 3 ∧ 1 ≤ rows.length ∧ rows.length ≤ 100 ∧ (∀ r ∈ rows, rowOk n rows.length r) ∧
  ∀ H' pt, (∀ b o, H b = some o → b ≠ p → H' b = some o) → US CU CC H' p n rows pt → TM CT H' pt (2 * 2 ^ n) (4 * rows.length) (tabOf (2 * 2 ^ n) (4 * rows.length) (tb n rows)) → Q .non H'
theorem ok_uInit {f fA fR fT CU CC CT : Addr} {fd fdA fdR fdT : FuncData} (F : Fun K "__init__" "UpStair.__init__" sUInit f fd) (T : UTxt K CU) (TC' : CTxt K CC) (B : Blt mg) (A1' : MF P w K mg base CU "_rows" 1 ["self", "state", "row"] (spURows CU) fA fdA)
    (R : MF P w K mg base CC "row" 2 ["self", "state"] (spCRow CC) fR fdR) (MT : Mk K CT fT) (gT : mg "Tape" = some (.ref CT)) (GT : FnOk P w K mg base CX0 3 fT fdT ["self", "marks", "states", "rows"] (spTInit CT)) (bT : Binds K fdT ["self", "marks", "states", "rows"] [])
    (nB : Num mg "BLOCK" 4) (n1 : Num mg "MOST_COUNTERS_upstair" 3) (n2 : Num mg "MOST_STATES_upstair" 1000) :
    FnOk P w K mg base CX0 5 f fd ["self", "upper"] (spUInit CU CC CT) := by
  refine F.ok scUInit (fun vs H Q E h => ?_) (fun cdv A outer s H vs Q E hr h => ?_)
  · obtain ⟨p, dx, pc, n, rows, rfl, _⟩ := h
    rfl
  · obtain ⟨p, dx, pc, n, rows, rfl, hp, hpc, hM, hn1, hn3, hl1, hl2, hok, k⟩ := h
    obtain ⟨tB, gB⟩ := nB
    obtain ⟨t1, g1⟩ := n1
    obtain ⟨t2, g2⟩ := n2
    have hr1 : Room 1 _ := hr.mono (by decide)
    have hr2 : Room 2 _ := hr.mono (by decide)
    refine ⟨_, pss_cons (ps_if (PW.pt (pw_or (pt_cmpR op_gt (pe_fld (pv 1) rfl) (pe_glob (v := .int 3) (by rfl) g1 ⟨_, rfl⟩) (nomark _)) (pw_or1 (pt_cmpR op_gt (pe_fld (pv 1) rfl) (pe_glob (v := .int 1000) (by rfl) g2 ⟨_, rfl⟩) (nomark _))))) pss_never pss_nil)
      (pss_cons (ps_fld (pv 0) (pv 1) rfl)
      (pss_cons (ps_fld (pv 0) (pe_op op_shl pe_int (pe_fld (pv 1) rfl)) rfl)
      (pss_cons (ps_set (i := 2) scUInit.nd rfl (.inl rfl) (pe_lst pa_nil))
      (pss_cons (ps_for PassesOwn.never rfl (pi_range1 (by rfl) B.range (pa_cons (pe_fld (pv 1) rfl) pa_nil)) (pg_name (i := 3) scUInit.nd rfl (Or.inl rfl))
        (pss_one (ps_expr (pe_bm PySem.F.plainAttrs_list PySem.F.slot_list_extend PySem.F.type_list_extend mt_extend (pv 2) (pa_cons (pe_meth (pv 0) T.cl A1'.m A1'.ok hr1 A1'.b .nil pass0
          (pa_cons (pv 3) (pa_cons (pe_meth (pv 1) TC'.cl R.m R.ok hr2 R.b .nil pass0 (pa_cons (pv 3) pa_nil)) pa_nil))) pa_nil)))))
      (pss_one (ps_fld (pv 0) (pe_make MT GT hr (by rfl) gT bT .nil pass0 (pa_cons (pe_op op_mul pe_int (pe_fld (pv 0) rfl)) (pa_cons (pe_op op_mul (pe_glob (v := .int 4) (by rfl) gB ⟨_, rfl⟩) (pe_fld (pv 1) rfl)) (pa_cons (pv 2) pa_nil)))) rfl)))))), ?_⟩
    obtain ⟨cdx, cL, cfs, cxs, c1, c2, c3, c4, c5, c6, c7, c8, c9⟩ := id hM
    -- the test
    refine ⟨_, rfl, pc, CC, cdx, cfs, _, rfl, c1, TC'.cl, TC'.n2, c3, _, _, rfl, rfl, _, rfl, ?_⟩
    rw [decide_eq_false (show ¬ (3 : Int) < (n : Int) by omega)]
    refine iteF ⟨_, rfl, pc, CC, cdx, cfs, _, rfl, c1, TC'.cl, TC'.n3, c4, _, _, rfl, rfl, _, rfl, ?_⟩
    rw [decide_eq_false (show ¬ (1000 : Int) < (rows.length : Int) by omega)]
    refine iteF ?_
    -- self.upper, self._origin
    refine ⟨_, rfl, _, rfl, p, CU, dx, [], rfl, hp, T.cl, T.n2, (by show 0 < 1000; decide), ?_⟩
    refine ⟨_, rfl, pc, CC, cdx, cfs, _, rfl, by rw [upd_ne hpc]; exact c1, TC'.cl, TC'.n2, c3, _, _, rfl, rfl, ⟨by omega, by omega, by decide⟩, _, rfl, p, CU, dx, _, rfl, upd_same, T.cl, T.n1, (by show 1 < 1000; decide), ?_⟩
    rw [upd_upd]
    dsimp only
    rw [shl_pow]
    have eF : (putF "_origin" (V.int ((2 ^ n : Nat) : Int)) (putF "upper" (V.ref pc) [])) = uf2 pc ((2 ^ n : Nat) : Int) := rfl
    rw [eF]
    have hp1 : (L2.upd H p (.ins CU dx (uf2 pc ((2 ^ n : Nat) : Int)))) p = some (.ins CU dx (uf2 pc ((2 ^ n : Nat) : Int))) := upd_same
    have hM1 : CM CC (L2.upd H p (.ins CU dx (uf2 pc ((2 ^ n : Nat) : Int)))) pc n rows := hM.upd hp hpc
    have fr1 : ∀ b o, H b = some o → b ≠ p → (L2.upd H p (.ins CU dx (uf2 pc ((2 ^ n : Nat) : Int)))) b = some o := fun b o e hb => by
      rw [upd_ne hb]
      exact e
    generalize L2.upd H p (.ins CU dx (uf2 pc ((2 ^ n : Nat) : Int))) = H1 at hp1 hM1 fr1 ⊢
    -- rows = []
    refine ⟨Nat.zero_le _, fun r nr => ?_⟩
    have sr := same_upd (o := HO.lst []) nr
    obtain ⟨cdx', cL', cfs', cxs', d1, d2, d3, d4, d5, d6, d7, d8, d9⟩ := id hM1
    refine ⟨_, rfl, pc, CC, cdx', cfs', _, rfl, sr _ _ d1, TC'.cl, TC'.n3, d4, _, rfl, by omega, by omega, ?_⟩
    rw [Int.toNat_natCast]
    have hO8 : 2 ^ n ≤ 8 := by
      have : 2 ^ n ≤ 2 ^ 3 := Nat.pow_le_pow_right (by decide) hn3
      exact this
    have hO1 : 2 ≤ 2 ^ n := by
      have : 2 ^ 1 ≤ 2 ^ n := Nat.pow_le_pow_right (by decide) hn1
      exact this
    have lenT : ∀ i, ((List.range i).flatMap fun q => rowsOf n q (rowAt rows q)).length = 2 * 2 ^ n * (4 * i) := fun i => by
      rw [tab_rows, tabOf_len]
    refine for_range (fun i σ Hc => ∃ v3, σ = [some (.ref p), some (.ref pc), some (.ref r), v3] ∧ Same H1 Hc ∧ ∃ xs, Hc r = some (.lst xs) ∧ All2 (TRv Hc) xs ((List.range i).flatMap fun q => rowsOf n q (rowAt rows q)))
      ⟨none, rfl, sr, [], upd_same, All2.nil⟩ (fun i σ Hc hi ⟨v3, es, sm, xs, er, ax⟩ => ?_) (fun σ Hc ⟨v3, es, sm, xs, er, ax⟩ => ?_)
    · subst es
      rw [Int.zero_add]
      have hlx : xs.length ≤ 16 * (4 * 100) := by
        rw [ax.1, lenT]
        exact Nat.mul_le_mul (by omega) (by omega)
      refine ⟨_, rfl, .inl ⟨rfl, _, SqL.of er⟩, _, rfl, p, dx, _, rfl, sm _ _ hp1, uf2_no _ _ (by decide +kernel) (by decide +kernel), _, rfl, _, rfl, pc, cdx', cfs', rfl, sm _ _ d1, d5, _, rfl, pc, n, i, rows, rfl, hM1.mono sm, hi, fun x rx => ?_⟩
      refine ⟨p, dx, n, i, _, x, rowAt rows i, rfl, sm _ _ hp1, uf2_origin _ _, hn3, by omega, rx, ⟨rows.length, by omega, rowAt_ok hok hi⟩, fun H2 L ys s2 eL ay => ?_⟩
      have hly : ys.length ≤ 16 * 4 := by
        rw [ay.1]
        unfold rowsOf blk
        simp only [List.length_append, List.length_map, List.length_range]
        omega
      have er2 := s2 _ _ er
      refine ⟨r, L, xs, ys, rfl, rfl, er2, eL, ?_, ?_⟩
      · rw [sizeLine_eq]
        omega
      · have ts : TSame H2 (L2.upd H2 r (.lst (xs ++ ys))) := TSame.lst er2
        refine ⟨_, rfl, fun b o e => ?_, xs ++ ys, upd_same, ?_⟩
        · rw [upd_ne (ne_of_none e nr)]
          exact s2 _ _ (sm _ _ e)
        · rw [List.range_succ, List.flatMap_append]
          refine (ax.mono fun x r => TRv.mono ((TSame.of s2).trans ts)).append ?_
          rw [show (List.flatMap (fun q => rowsOf n q (rowAt rows q)) [i]) = rowsOf n i (rowAt rows i) by simp]
          exact ay.mono fun x r => TRv.mono ts
    · subst es
      rw [tab_rows] at ax
      -- self.lower = Tape(..)
      refine ⟨_, rfl, p, CU, dx, _, _, rfl, sm _ _ hp1, T.cl, T.n1, uf2_origin _ _, _, _, rfl, rfl, .inl ⟨by decide, by decide⟩, _, rfl, pc, CC, cdx', cfs', _, rfl, sm _ _ d1, TC'.cl, TC'.n3, d4, _, _, rfl, rfl, .inl ⟨by decide, by decide⟩, _, rfl, fun pt dxt npt ndt net => ?_⟩
      have s3 : Same Hc (L2.upd (L2.upd Hc dxt (.own pt)) pt (.ins CT dxt [])) := fun b o e => by
        rw [upd_ne (ne_of_none e npt), upd_ne (ne_of_none e ndt)]
        exact e
      refine ⟨pt, dxt, r, 2 * 2 ^ n, 4 * rows.length, xs, _, ?_, upd_same, s3 _ _ er, ax.mono fun x r => TRv.mono (TSame.of s3), ⟨by omega, by omega⟩, ⟨by omega, by omega⟩, tabOf_len _ _ _, tabOf_ok fun q m hq hm => tb_ok hok hq hm, fun H4 fr4 hT4 => ⟨rfl, ?_⟩⟩
      · show [V.ref pt, V.int ((2 : Int) * ((2 ^ n : Nat) : Int)), V.int ((4 : Int) * (rows.length : Int)), V.ref r] = [V.ref pt, V.int ((2 * 2 ^ n : Nat) : Int), V.int ((4 * rows.length : Nat) : Int), V.ref r]
        rw [show (2 : Int) * ((2 ^ n : Nat) : Int) = ((2 * 2 ^ n : Nat) : Int) by rw [Int.natCast_mul]; rfl, show (4 : Int) * (rows.length : Int) = ((4 * rows.length : Nat) : Int) by omega]
      have s4 : Same Hc H4 := fun b o e => fr4 b o (s3 _ _ e) (ne_of_none e npt)
      have hp4 := s4 _ _ (sm _ _ hp1)
      have npp : pt ≠ p := (ne_of_none (sm _ _ hp1) npt).symm
      refine ⟨_, rfl, p, CU, dx, _, rfl, hp4, T.cl, T.n3, Nat.lt_of_le_of_lt (uf2_len _ _) (by decide), ?_⟩
      have hM4 : CM CC (L2.upd H4 p (.ins CU dx (uf3 pc pt ((2 ^ n : Nat) : Int)))) pc n rows := ((hM1.mono sm).mono s4).upd hp4 hpc
      refine k _ pt (fun b o e hb => ?_) ⟨dx, pc, uf3 pc pt ((2 ^ n : Nat) : Int), upd_same, ?_, ?_, ?_, ?_, ?_, ?_, ?_, hM4⟩ (hT4.upd hp4 npp)
      · rw [upd_ne hb]
        exact s4 _ _ (sm _ _ (fr1 b o e hb))
      · rw [uf3_o _ _ _ (by decide +kernel)]
        exact uf2_origin _ _
      · rw [uf3_o _ _ _ (by decide +kernel)]
        exact uf2_upper _ _
      · unfold uf3
        rw [lookup_putF, if_pos rfl]
      · rw [uf3_o _ _ _ (by decide +kernel)]
        exact uf2_no _ _ (by decide +kernel) (by decide +kernel)
      · rw [uf3_o _ _ _ (by decide +kernel)]
        exact uf2_no _ _ (by decide +kernel) (by decide +kernel)
      · rw [uf3_o _ _ _ (by decide +kernel)]
        exact uf2_no _ _ (by decide +kernel) (by decide +kernel)
      · rw [uf3_o _ _ _ (by decide +kernel)]
        exact uf2_no _ _ (by decide +kernel) (by decide +kernel)
end
end K47

/-! K47T: the law's draws and rows. -/
namespace K47
open PySem PySem.Spec PyProof.Rows L2
abbrev sDraws : Stmt := topS 25
abbrev sCRows : Stmt := topS 27
abbrev sPromise : Stmt := topS 29
abbrev sLaw : Stmt := topS 30
theorem line4000 {n : Nat} (h : n ≤ 4000) : n < sizeLine := by
  rw [sizeLine_eq]
  omega
theorem cut_all (xs : List V) (k : Nat) (h : xs.length ≤ k) : cutV xs none (some (k : Int)) = xs := by
  unfold cutV
  rw [HT.sIx_none, HT.sIx_nat, Nat.min_eq_right h]
  exact List.take_length
theorem nonneg_cast {z : Int} (h : 0 ≤ z) : V.int z = V.int ((z.toNat : Nat) : Int) := by rw [Int.toNat_of_nonneg h]
theorem nv_snocI (T : List Nat) {z : Int} (h : 0 ≤ z) : nv T ++ [V.int z] = nv (T ++ [z.toNat]) := by
  rw [nv_snoc, ← nonneg_cast h]
section
variable {P : Program} {w : World} {K : PySem.W.Frag} {mg : Str → Option Value} {base : Heap}
/-! ### _law_draws -/
theorem scDraws : FnScope ["_law_script", "_law_many", "_law_draws_here", "_law_at", "_law_cell", "_law_number", "_law_k"] ["_law_script", "_law_many"] (defScope sDraws) := ⟨rfl, rfl, rfl, by decide +kernel, rfl, by decide +kernel, by decide +kernel⟩
def spDraws (K : PySem.W.Frag) : Sp := fun vs H Q _ => ∃ (a : Addr) (ns : List Int), vs = [.ref a, .int 40] ∧ SqL K H a (ns.map V.int) ∧ ns.length ≤ 63 ∧ ∀ H' p (ds : List Nat), Same H H' → ds.length = 40 → H' p = some (.lst (nv ds)) → Q (.ref p) H'
theorem ok_draws {f : Addr} {fd : FuncData} (F : Fun K "_law_draws" "_law_draws" sDraws f fd) (B : Blt mg) : FnOk P w K mg base CX0 1 f fd ["_law_script", "_law_many"] (spDraws K) := by
  refine F.ok scDraws (fun vs H Q E h => ?_) (fun cdv A outer s H vs Q E hr h => ?_)
  · obtain ⟨a, ns, rfl, _⟩ := h
    rfl
  · obtain ⟨a, ns, rfl, hS, hlen, k⟩ := h
    refine ⟨_, pss_cons (ps_set (i := 2) scDraws.nd rfl (.inl rfl) (pe_lst pa_nil))
      (pss_cons (ps_set (i := 3) scDraws.nd rfl (.inl rfl) pe_int)
      (pss_cons (ps_for PassesOwn.never rfl (pi_list (pe_slice sl_list (pv 0) po_none (po_some pe_int))) (pg_name (i := 4) scDraws.nd rfl (Or.inl rfl))
        (pss_cons (ps_set (i := 5) scDraws.nd rfl (.inl rfl) (pe_callB call_abs (by rfl) B.abs (by decide +kernel) (pa_cons (pv 4) pa_nil)))
        (pss_cons (ps_if (pt_cmpR op_ge (pv 5) (pe_op op_pow pe_int pe_int) (nomark _))
          (pss_one (ps_for PassesOwn.never rfl (pi_range1 (by rfl) B.range (pa_cons pe_int pa_nil)) (pg_name (i := 6) scDraws.nd rfl (Or.inl rfl))
            (pss_one (ps_if (pt_cmpR op_gt (pv 5) pe_int (nomark _))
              (pss_cons (ps_expr (pe_bm PySem.F.plainAttrs_list PySem.F.slot_list_append PySem.F.type_list_append mt_append (pv 2) (pa_cons (pe_op op_mod (pe_callTy call_int1 (by rfl) B.int (by decide +kernel) (pa_cons (pv 5) pa_nil)) pe_int) pa_nil)))
              (pss_one (ps_set (i := 5) scDraws.nd rfl (.inl rfl) (pe_op op_fdiv (pv 5) pe_int)))) pss_nil))))
          (pss_cons (ps_expr (pe_bm PySem.F.plainAttrs_list PySem.F.slot_list_append PySem.F.type_list_append mt_append (pv 2) (pa_cons (pe_op op_mod (pe_callTy call_int1 (by rfl) B.int (by decide +kernel)
              (pa_cons (pe_op op_add (pe_op op_add (pe_op op_mul (pv 5) pe_int) (pe_op op_mul (pv 3) pe_int)) pe_int) pa_nil)) pe_int) pa_nil)))
          (pss_one (ps_expr (pe_bm PySem.F.plainAttrs_list PySem.F.slot_list_append PySem.F.type_list_append mt_append (pv 2) (pa_cons (pe_op op_mod (pe_callTy call_int1 (by rfl) B.int (by decide +kernel)
              (pa_cons (pe_op op_add (pe_op op_add (pe_op op_add (pe_op op_mul (pv 5) pe_int) (pe_op op_mul (pv 3) pe_int)) pe_int) (pe_op op_mul (pv 5) (pv 5))) pa_nil)) pe_int) pa_nil))))))
        (pss_one (ps_set (i := 3) scDraws.nd rfl (.inl rfl) (pe_op op_add (pv 3) pe_int))))))
      (pss_cons (ps_for PassesOwn.never rfl (pi_range1 (by rfl) B.range (pa_cons (pv 1) pa_nil)) (pg_name (i := 6) scDraws.nd rfl (Or.inl rfl))
        (pss_one (ps_if (pt_cmpR op_lt (pe_callB call_len_seq (by rfl) B.len PySem.boot_len (pa_cons (pv 2) pa_nil)) (pv 1) (nomark _))
          (pss_one (ps_expr (pe_bm PySem.F.plainAttrs_list PySem.F.slot_list_append PySem.F.type_list_append mt_append (pv 2) (pa_cons (pe_op op_mod (pe_callTy call_int1 (by rfl) B.int (by decide +kernel)
            (pa_cons (pe_op op_add (pe_op op_add (pe_op op_mul (pe_callB call_len_seq (by rfl) B.len PySem.boot_len (pa_cons (pv 2) pa_nil)) pe_int) (pe_op op_mul pe_int (pv 3))) (pe_op op_mul (pe_op op_mul (pv 6) (pv 6)) pe_int)) pa_nil)) pe_int) pa_nil)))) pss_nil)))
      (pss_one (ps_ret (pe_slice sl_list (pv 2) po_none (po_some (pv 1)))))))), ?_⟩
    refine ⟨Nat.zero_le _, fun L nL => ?_⟩
    have s1 := same_upd (o := HO.lst []) nL
    have e1 : L2.upd H L (.lst []) L = some (.lst (nv [])) := upd_same
    generalize L2.upd H L (.lst []) = H1 at s1 e1 ⊢
    refine ⟨_, rfl, 63, rfl, a, _, rfl, s1.seq hS, fun c nc => ?_⟩
    have ecut : cutV (ns.map V.int) none (some 63) = ns.map V.int := cut_all _ 63 (by rw [List.length_map]; exact hlen)
    rw [ecut]
    have s2 := same_upd (o := HO.lst (ns.map V.int)) nc
    have hc : L2.upd H1 c (.lst (ns.map V.int)) c = some (.lst (ns.map V.int)) := upd_same
    have cL : c ≠ L := (ne_of_none e1 nc).symm
    have s12 := s1.trans s2
    have e2 := s2 _ _ e1
    generalize L2.upd H1 c (.lst (ns.map V.int)) = H2 at s12 hc e2 ⊢
    clear s1 s2 e1 nc
    -- the heap in the loops: L is filled, all else stands
    have grow : ∀ {Hc : Hp} {o : HO}, Same H Hc → Hc c = some (.lst (ns.map V.int)) → Same H (L2.upd Hc L o) ∧ (L2.upd Hc L o) c = some (.lst (ns.map V.int)) := fun {Hc o} sm ec => ⟨fun b x e => by
      rw [upd_ne (ne_of_none e nL)]
      exact sm _ _ e, by rw [upd_ne cL]; exact ec⟩
    refine ⟨_, rfl, ⟨_, SqL.of hc⟩, for_list (K := K) (a := c) (xs := ns.map V.int) (fun i σ Hc => ∃ v4 v5 v6, σ = [some (.ref a), some (.int 40), some (.ref L), some (.int (i : Int)), v4, v5, v6] ∧ Same H Hc ∧ Hc c = some (.lst (ns.map V.int)) ∧ ∃ ds : List Nat, Hc L = some (.lst (nv ds)) ∧ ds.length ≤ 24 * i)
      ⟨none, none, none, rfl, s12, hc, [], e2, Nat.zero_le _⟩ (fun i σ Hc _ ⟨_, _, _, _, _, ec, _⟩ => SqL.of ec) (fun i x σ Hc hx ⟨v4, v5, v6, es, sm, ec, ds, eL, hd⟩ => ?_) (fun σ Hc ⟨v4, v5, v6, es, sm, ec, ds, eL, hd⟩ => ?_)⟩
    · subst es
      have hi : i < ns.length := by
        have := (List.getElem?_eq_some_iff.mp hx).1
        rwa [List.length_map] at this
      obtain ⟨z, rfl⟩ : ∃ z, x = V.int z := by
        rw [List.getElem?_map] at hx
        cases e : ns[i]? with
        | none =>
          rw [e] at hx
          cases hx
        | some z =>
          rw [e] at hx
          exact ⟨z, (Option.some.inj hx).symm⟩
      refine ⟨_, rfl, z, rfl, ?_⟩
      have hN : 0 ≤ (if z < 0 then -z else z) := by split <;> omega
      generalize (if z < 0 then -z else z) = N at hN
      -- behind the if
      have last : ∀ (v5 v6 : Option V) (Hc : Hp) (ds : List Nat), Same H Hc → Hc c = some (.lst (ns.map V.int)) → Hc L = some (.lst (nv ds)) → ds.length ≤ 24 * (i + 1) →
          ∃ w4 w5 w6, ([some (.ref a), some (.int 40), some (.ref L), some (.int ((i : Int) + 1)), some (.int z), v5, v6] : L2.St) = [some (.ref a), some (.int 40), some (.ref L), some (.int ((i + 1 : Nat) : Int)), w4, w5, w6] ∧ Same H Hc ∧ Hc c = some (.lst (ns.map V.int)) ∧ ∃ ds : List Nat, Hc L = some (.lst (nv ds)) ∧ ds.length ≤ 24 * (i + 1) :=
        fun v5 v6 Hc ds sm ec eL hd => ⟨_, _, _, by rw [show ((i : Int) + 1) = ((i + 1 : Nat) : Int) by omega], sm, ec, ds, eL, hd⟩
      refine ⟨_, rfl, _, _, rfl, rfl, ⟨by decide, by decide, by decide⟩, _, _, rfl, rfl, _, rfl, ite2 (fun hge => ?_) (fun hlt => ?_)⟩
      · -- a large number
        refine ⟨_, rfl, by decide, by decide, for_range (lo := 0) (n := (24 : Int).toNat) (fun j σ Hc => ∃ v6 N, 0 ≤ N ∧ σ = [some (.ref a), some (.int 40), some (.ref L), some (.int (i : Int)), some (.int z), some (.int N), v6] ∧ Same H Hc ∧ Hc c = some (.lst (ns.map V.int)) ∧ ∃ ds : List Nat, Hc L = some (.lst (nv ds)) ∧ ds.length ≤ 24 * i + j)
          ⟨v6, N, hN, rfl, sm, ec, ds, eL, hd⟩ (fun j σ Hc hj ⟨v6, N, hN, es, sm, ec, ds, eL, hd⟩ => ?_) (fun σ Hc ⟨v6, N, hN, es, sm, ec, ds, eL, hd⟩ => ?_)⟩
        · subst es
          have hj24 : j < 24 := hj
          refine ⟨_, rfl, _, _, rfl, rfl, _, rfl, ite2 (fun hpos => ?_) (fun _ => ⟨_, N, hN, rfl, sm, ec, ds, eL, by omega⟩)⟩
          refine ⟨_, rfl, .inl ⟨rfl, _, SqL.of eL⟩, _, rfl, .inl ⟨_, rfl, _, _, rfl, rfl, (by show (0 : Int) < 1009; decide), L, _, _, rfl, rfl, eL, line4000 (by rw [nv_len]; omega), ?_⟩⟩
          obtain ⟨g1, g2⟩ := grow (o := HO.lst (nv ds ++ [V.int (N % 1009)])) sm ec
          refine ⟨_, rfl, _, _, rfl, rfl, ⟨by decide, by decide⟩, _, N / 1009, Int.ediv_nonneg hN (by decide), rfl, g1, g2, ds ++ [(N % 1009).toNat], ?_, by rw [List.length_append]; show ds.length + 1 ≤ _; omega⟩
          rw [← nv_snocI ds (Int.emod_nonneg _ (by decide))]
          exact upd_same
        · subst es
          refine ⟨_, rfl, _, _, rfl, rfl, last _ _ Hc ds sm ec eL ?_⟩
          have : ds.length ≤ 24 * i + 24 := hd
          omega
      · -- a small number
        have hlt' : N < 10 ^ 18 := by
          have h1 : ¬ ((10 : Int) ^ ((18 : Int).toNat) ≤ N) := fun q => hlt (decide_eq_true q)
          have h2 : (10 : Int) ^ ((18 : Int).toNat) = 10 ^ 18 := rfl
          rw [h2] at h1
          exact Int.not_le.mp h1
        have hNb : -(2 ^ 64) < N ∧ N < 2 ^ 64 := by omega
        refine ⟨_, rfl, .inl ⟨rfl, _, SqL.of eL⟩, _, rfl, _, _, rfl, rfl, .inl hNb, _, rfl, _, _, rfl, rfl, .inl (by omega), _, _, rfl, rfl, _, _, rfl, rfl, .inl ⟨_, rfl, _, _, rfl, rfl, (by show (0 : Int) < 65537; decide), L, _, _, rfl, rfl, eL, line4000 (by rw [nv_len]; omega), ?_⟩⟩
        have p1 : (0 : Int) ≤ (N * 48271 + (i : Int) * 69621 + 11) % 65537 := Int.emod_nonneg _ (by decide)
        obtain ⟨g1, g2⟩ := grow (o := HO.lst (nv ds ++ [V.int ((N * 48271 + (i : Int) * 69621 + 11) % 65537)])) sm ec
        have g3 : (L2.upd Hc L (.lst (nv ds ++ [V.int ((N * 48271 + (i : Int) * 69621 + 11) % 65537)]))) L = some (.lst (nv (ds ++ [((N * 48271 + (i : Int) * 69621 + 11) % 65537).toNat]))) := by
          rw [← nv_snocI ds p1]
          exact upd_same
        dsimp only
        have hd2 : (ds ++ [((N * 48271 + (i : Int) * 69621 + 11) % 65537).toNat]).length ≤ 24 * i + 1 := by
          rw [List.length_append]
          show ds.length + 1 ≤ _
          omega
        generalize (ds ++ [((N * 48271 + (i : Int) * 69621 + 11) % 65537).toNat]) = ds2 at g3 hd2
        generalize L2.upd Hc L (.lst (nv ds ++ [V.int ((N * 48271 + (i : Int) * 69621 + 11) % 65537)])) = H3 at g1 g2 g3 ⊢
        refine ⟨_, rfl, .inl ⟨rfl, _, SqL.of g3⟩, _, rfl, _, _, rfl, rfl, .inl hNb, _, rfl, _, _, rfl, rfl, .inl (by omega), _, _, rfl, rfl, _, _, rfl, rfl, _, rfl, _, rfl, _, _, rfl, rfl, .inl hNb, _, _, rfl, rfl, .inl ⟨_, rfl, _, _, rfl, rfl, (by show (0 : Int) < 65521; decide), L, _, _, rfl, rfl, g3, line4000 (by rw [nv_len]; omega), ?_⟩⟩
        obtain ⟨g4, g5⟩ := grow (o := HO.lst (nv ds2 ++ [V.int ((N * 16807 + (i : Int) * 40692 + 7 + N * N) % 65521)])) g1 g2
        refine ⟨_, rfl, _, _, rfl, rfl, last _ _ _ (ds2 ++ [((N * 16807 + (i : Int) * 40692 + 7 + N * N) % 65521).toNat]) g4 g5 ?_ (by rw [List.length_append]; show ds2.length + 1 ≤ _; omega)⟩
        rw [← nv_snocI ds2 (Int.emod_nonneg _ (by decide))]
        exact upd_same
    · -- fill up
      subst es
      rw [List.length_map] at hd
      have hd63 : ds.length ≤ 1512 := by omega
      refine ⟨_, rfl, _, rfl, by decide, by decide, for_range (lo := 0) (n := (40 : Int).toNat) (fun j σ Hc => ∃ v6, σ = [some (.ref a), some (.int 40), some (.ref L), some (.int ((ns.map V.int).length : Int)), v4, v5, v6] ∧ Same H Hc ∧ Hc c = some (.lst (ns.map V.int)) ∧ ∃ ds : List Nat, Hc L = some (.lst (nv ds)) ∧ ds.length ≤ 1512 + j ∧ (j ≤ ds.length ∨ 40 ≤ ds.length))
        ⟨v6, rfl, sm, ec, ds, eL, by omega, .inl (Nat.zero_le _)⟩ (fun j σ Hc hj ⟨v6, es, sm, ec, ds, eL, hd, hm⟩ => ?_) (fun σ Hc ⟨v6, es, sm, ec, ds, eL, hd, hm⟩ => ?_)⟩
      · subst es
        have hj40 : j < 40 := hj
        refine ⟨_, rfl, L, _, rfl, .inl (SqL.of eL), _, rfl, _, _, rfl, rfl, _, rfl, ite2 (fun hlt => ?_) (fun hge => ?_)⟩
        · have hlt' : ds.length < 40 := by
            have := of_decide_eq_true hlt
            rw [nv_len] at this
            omega
          refine ⟨_, rfl, .inl ⟨rfl, _, SqL.of eL⟩, _, rfl, L, _, rfl, .inl (SqL.of eL), _, _, rfl, rfl, .inl (by rw [nv_len]; omega), _, rfl, _, _, rfl, rfl, .inl ⟨by decide, by decide⟩, _, _, rfl, rfl, _, rfl, _, rfl, _, _, rfl, rfl, .inl (by omega), _, _, rfl, rfl, .inr ⟨by decide, by decide⟩, _, _, rfl, rfl, .inl ⟨_, rfl, _, _, rfl, rfl, (by show (0 : Int) < 65521; decide), L, _, _, rfl, rfl, eL, line4000 (by rw [nv_len]; omega), ?_⟩⟩
          obtain ⟨g1, g2⟩ := grow (o := HO.lst (nv ds ++ [V.int (((((nv ds).length : Nat) : Int) * 69621 + 977 * (((ns.map V.int).length : Nat) : Int) + (0 + (j : Int)) * (0 + (j : Int)) * 31) % 65521)])) sm ec
          refine ⟨_, rfl, g1, g2, ds ++ [(((((nv ds).length : Nat) : Int) * 69621 + 977 * (((ns.map V.int).length : Nat) : Int) + (0 + (j : Int)) * (0 + (j : Int)) * 31) % 65521).toNat], ?_, by rw [List.length_append]; show ds.length + 1 ≤ _; omega, by rw [List.length_append]; show _ ≤ ds.length + 1 ∨ _; omega⟩
          rw [← nv_snocI ds (Int.emod_nonneg _ (by decide))]
          exact upd_same
        · have hge' : 40 ≤ ds.length := by
            have : ¬ ((((nv ds).length : Nat) : Int) < 40) := fun q => hge (decide_eq_true q)
            rw [nv_len] at this
            omega
          exact ⟨_, rfl, sm, ec, ds, eL, by omega, .inr hge'⟩
      · subst es
        have hj40 : 40 ≤ ds.length := by
          rcases hm with q | q
          · exact q
          · exact q
        refine ⟨_, rfl, _, rfl, _, rfl, L, _, rfl, SqL.of eL, fun p np => ?_⟩
        have ecut : cutV (nv ds) none (some 40) = nv (ds.take 40) := by
          have := cut_take (nv ds) 40 (by rw [nv_len]; exact hj40)
          rw [nv_take] at this
          exact this
        rw [ecut]
        exact k _ p (ds.take 40) (sm.trans (same_upd np)) (by rw [List.length_take]; omega) upd_same
end
end K47

/-! K47U: the law's rows, the promise of a stair. -/
namespace K47
open PySem PySem.Spec PyProof.Rows L2
section
variable {P : Program} {w : World} {K : PySem.W.Frag} {mg : Str → Option Value} {base : Heap}
/-! ### _law_counter_rows -/
theorem scCRows : FnScope ["_law_draws_here", "_law_count", "_law_states", "_law_rows", "_law_k", "_law_draw", "_law_row"] ["_law_draws_here", "_law_count", "_law_states"] (defScope sCRows) := ⟨rfl, rfl, rfl, by decide +kernel, rfl, by decide +kernel, by decide +kernel⟩
def spCRows : Sp := fun vs H Q _ => ∃ (a : Addr) (ds : List Nat) (n s : Nat), vs = [.ref a, .int (n : Int), .int (s : Int)] ∧ H a = some (.lst (nv ds)) ∧ 1 ≤ n ∧ n ≤ 3 ∧ 1 ≤ s ∧ s ≤ 5 ∧ 5 ≤ ds.length ∧
  ∀ H' p xs rows, Same H H' → H' p = some (.lst xs) → All2 (CRv H') xs rows → rows.length = s → (∀ r ∈ rows, rowOk n s r) → Q (.ref p) H'
theorem ok_cRows {f : Addr} {fd : FuncData} (F : Fun K "_law_counter_rows" "_law_counter_rows" sCRows f fd) (B : Blt mg) : FnOk P w K mg base CX0 1 f fd ["_law_draws_here", "_law_count", "_law_states"] spCRows := by
  refine F.ok scCRows (fun vs H Q E h => ?_) (fun cdv A outer s H vs Q E hr h => ?_)
  · obtain ⟨a, ds, n, s, rfl, _⟩ := h
    rfl
  · obtain ⟨a, ds, n, z, rfl, ha, hn1, hn3, hz1, hz5, hds, k⟩ := h
    refine ⟨_, pss_cons (ps_set (i := 3) scCRows.nd rfl (.inl rfl) (pe_lst pa_nil))
      (pss_cons (ps_for PassesOwn.never rfl (pi_range1 (by rfl) B.range (pa_cons (pv 2) pa_nil)) (pg_name (i := 4) scCRows.nd rfl (Or.inl rfl))
        (pss_cons (ps_set (i := 5) scCRows.nd rfl (.inl rfl) (pe_ix ix_list (pv 0) (pv 4) (fun _ _ => rfl)))
        (pss_cons (ps_set (i := 6) scCRows.nd rfl (.inl rfl) (pe_tup (pa_cons pe_str (pa_cons (pe_op op_mod (pv 5) (pv 1)) (pa_cons (pe_op op_mod (pe_op op_fdiv (pv 5) pe_int) (pv 2)) (pa_cons (pe_op op_mod (pe_op op_fdiv (pv 5) pe_int) (pv 2)) pa_nil))))))
        (pss_cons (ps_if (pt_cmpR op_lt (pe_op op_mod (pe_op op_fdiv (pv 5) pe_int) pe_int) pe_int (nomark _))
          (pss_one (ps_set (i := 6) scCRows.nd rfl (.inl rfl) (pe_tup (pa_cons pe_str (pa_cons (pe_op op_mod (pv 5) (pv 1)) (pa_cons (pe_op op_mod (pe_op op_fdiv (pv 5) pe_int) (pv 2)) pa_nil)))))) pss_nil)
        (pss_cons (ps_if (pt_cmpR op_eq (pe_op op_mod (pe_op op_fdiv (pv 5) pe_int) pe_int) pe_int (nomark _)) (pss_one (ps_set (i := 6) scCRows.nd rfl (.inl rfl) pe_non)) pss_nil)
        (pss_one (ps_expr (pe_bm PySem.F.plainAttrs_list PySem.F.slot_list_append PySem.F.type_list_append mt_append (pv 3) (pa_cons (pv 6) pa_nil)))))))))
      (pss_one (ps_ret (pv 3)))), ?_⟩
    refine ⟨Nat.zero_le _, fun L nL => ?_⟩
    have s1 := same_upd (o := HO.lst []) nL
    have e1 : L2.upd H L (.lst []) L = some (.lst []) := upd_same
    generalize L2.upd H L (.lst []) = H1 at s1 e1 ⊢
    refine ⟨_, rfl, _, rfl, by omega, by omega, ?_⟩
    rw [Int.toNat_natCast]
    refine for_range (fun i σ Hc => ∃ v4 v5 v6, σ = [some (.ref a), some (.int (n : Int)), some (.int (z : Int)), some (.ref L), v4, v5, v6] ∧ Same H Hc ∧ ∃ xs rows, Hc L = some (.lst xs) ∧ All2 (CRv Hc) xs rows ∧ rows.length = i ∧ ∀ r ∈ rows, rowOk n z r)
      ⟨none, none, none, rfl, s1, [], [], e1, All2.nil, rfl, fun r h => by cases h⟩ (fun i σ Hc hi ⟨v4, v5, v6, es, sm, xs, rows, eL, ax, hl, hok⟩ => ?_) (fun σ Hc ⟨v4, v5, v6, es, sm, xs, rows, eL, ax, hl, hok⟩ => ?_)
    · subst es
      have hid : i < ds.length := by omega
      have hlx : xs.length = i := by rw [ax.1, hl]
      generalize hdd : ds.getD i 0 = d
      -- the last statement
      have app : ∀ (w4 w5 : Option V) (Hd : Hp) (v : V) (r : CR), Same Hc Hd → CRv Hd v r → rowOk n z r →
          rAppend (.ref L) [v] Hd fun _ H3 => ∃ v4 v5 v6, ([some (.ref a), some (.int (n : Int)), some (.int (z : Int)), some (.ref L), w4, w5, some v] : L2.St) = [some (.ref a), some (.int (n : Int)), some (.int (z : Int)), some (.ref L), v4, v5, v6] ∧ Same H H3 ∧
            ∃ xs rows, H3 L = some (.lst xs) ∧ All2 (CRv H3) xs rows ∧ rows.length = i + 1 ∧ ∀ r ∈ rows, rowOk n z r := fun w4 w5 Hd v r sd hv hr => by
        have eLd := sd _ _ eL
        have ts : TSame Hd (L2.upd Hd L (.lst (xs ++ [v]))) := TSame.lst eLd
        refine ⟨L, xs, v, rfl, rfl, eLd, small1000 (by omega), _, _, _, rfl, fun b o e => ?_, xs ++ [v], rows ++ [r], upd_same, ?_, ?_, fun r' h' => ?_⟩
        · rw [upd_ne (ne_of_none e nL)]
          exact sd _ _ (sm _ _ e)
        · exact (ax.mono fun x r => CRv.mono ((TSame.of sd).trans ts)).snoc (hv.mono ts)
        · rw [List.length_append, hl]
          rfl
        · rcases List.mem_append.mp h' with h' | h'
          · exact hok _ h'
          · have : r' = r := by simpa using h'
            rw [this]
            exact hr
      refine ⟨_, rfl, _, rfl, a, nv ds, _, _, rfl, rfl, SqL.of (sm _ _ ha), at_of (j := i) (Int.zero_add _) (nv_getD hid), ?_⟩
      rw [hdd]
      have q1 : (d : Int) % (n : Int) = ((d % n : Nat) : Int) := rfl
      have q2 : (d : Int) / 4 % (z : Int) = ((d / 4 % z : Nat) : Int) := rfl
      have q3 : (d : Int) / 32 % (z : Int) = ((d / 32 % z : Nat) : Int) := rfl
      have b1 : d % n < n := Nat.mod_lt _ (by omega)
      have b2 : d / 4 % z < z := Nat.mod_lt _ (by omega)
      have b3 : d / 32 % z < z := Nat.mod_lt _ (by omega)
      refine ⟨_, rfl, _, rfl, _, _, rfl, rfl, (by show (0 : Int) < (n : Int); omega), _, rfl, _, _, rfl, rfl, ⟨by decide, by decide⟩, _, rfl, _, _, rfl, rfl, (by show (0 : Int) < (z : Int); omega), _, rfl, _, _, rfl, rfl, ⟨by decide, by decide⟩, _, rfl, _, _, rfl, rfl, (by show (0 : Int) < (z : Int); omega), line1000 (by show 4 ≤ 1000; decide), fun t0 n0 => ?_⟩
      have st := same_upd (o := HO.tup [V.str "dec", V.int ((d : Int) % (n : Int)), V.int ((d : Int) / 4 % (z : Int)), V.int ((d : Int) / 32 % (z : Int))]) n0
      have hdec : CRv (L2.upd Hc t0 (.tup [V.str "dec", V.int ((d : Int) % (n : Int)), V.int ((d : Int) / 4 % (z : Int)), V.int ((d : Int) / 32 % (z : Int))])) (.ref t0) (.dec (d % n) (d / 4 % z) (d / 32 % z)) := ⟨t0, rfl, upd_same⟩
      refine ⟨_, rfl, _, _, rfl, rfl, ⟨by decide, by decide⟩, _, _, rfl, rfl, (by show (0 : Int) < 5; decide), _, _, rfl, rfl, _, rfl, ite2 (fun _ => ?_) (fun _ => ?_)⟩
      · refine ⟨_, rfl, _, rfl, _, _, rfl, rfl, (by show (0 : Int) < (n : Int); omega), _, rfl, _, _, rfl, rfl, ⟨by decide, by decide⟩, _, rfl, _, _, rfl, rfl, (by show (0 : Int) < (z : Int); omega), line1000 (by show 3 ≤ 1000; decide), fun t1 n1 => ?_⟩
        have st1 := same_upd (o := HO.tup [V.str "inc", V.int ((d : Int) % (n : Int)), V.int ((d : Int) / 4 % (z : Int))]) n1
        refine ⟨_, rfl, _, _, rfl, rfl, ⟨by decide, by decide⟩, _, _, rfl, rfl, (by show (0 : Int) < 8; decide), rfl, _, rfl, ite2 (fun _ => ?_) (fun _ => ?_)⟩
        · exact ⟨_, rfl, .inl ⟨rfl, _, SqL.of (st1 _ _ (st _ _ eL))⟩, _, rfl, app _ _ _ _ .stop (st.trans st1) rfl True.intro⟩
        · exact ⟨_, rfl, .inl ⟨rfl, _, SqL.of (st1 _ _ (st _ _ eL))⟩, _, rfl, app _ _ _ _ (.inc (d % n) (d / 4 % z)) (st.trans st1) ⟨t1, rfl, upd_same⟩ ⟨b1, b2⟩⟩
      · refine ⟨_, rfl, _, _, rfl, rfl, ⟨by decide, by decide⟩, _, _, rfl, rfl, (by show (0 : Int) < 8; decide), rfl, _, rfl, ite2 (fun _ => ?_) (fun _ => ?_)⟩
        · exact ⟨_, rfl, .inl ⟨rfl, _, SqL.of (st _ _ eL)⟩, _, rfl, app _ _ _ _ .stop st rfl True.intro⟩
        · exact ⟨_, rfl, .inl ⟨rfl, _, SqL.of (st _ _ eL)⟩, _, rfl, app _ _ _ _ _ st hdec ⟨b1, b2, b3⟩⟩
    · subst es
      exact ⟨_, rfl, k _ L xs rows sm eL ax hl hok⟩
/-! ### _law_promise -/
theorem mxl_set : ∀ (cs : List Nat) (i x : Nat), mxl (cs.set i x) ≤ max (mxl cs) x
  | [], _, _ => Nat.zero_le _
  | c :: r, 0, x => by
    show max x (mxl r) ≤ max (max c (mxl r)) x
    omega
  | c :: r, i + 1, x => by
    have := mxl_set r i x
    show max c (mxl (r.set i x)) ≤ max (max c (mxl r)) x
    omega
theorem getD_mxl (cs : List Nat) (i : Nat) : cs.getD i 0 ≤ mxl cs := by
  by_cases h : i < cs.length
  · refine mxl_le cs _ ?_
    rw [List.getD_eq_getElem?_getD, List.getElem?_eq_getElem h]
    exact List.getElem_mem h
  · rw [List.getD_eq_getElem?_getD, List.getElem?_eq_none (by omega)]
    exact Nat.zero_le _
theorem mxl_cstep (row : CR) (q : Nat) (cs : List Nat) : mxl (cstep row q cs).2 ≤ mxl cs + 1 := by
  cases row with
  | stop => exact Nat.le_succ _
  | inc i t =>
    have := mxl_set cs i (cs.getD i 0 + 1)
    have := getD_mxl cs i
    show mxl (cs.set i (cs.getD i 0 + 1)) ≤ mxl cs + 1
    omega
  | dec i t u =>
    show mxl (if cs.getD i 0 = 0 then (u, cs) else (t, cs.set i (cs.getD i 0 - 1))).2 ≤ mxl cs + 1
    split
    · exact Nat.le_succ _
    · have := mxl_set cs i (cs.getD i 0 - 1)
      have := getD_mxl cs i
      show mxl (cs.set i (cs.getD i 0 - 1)) ≤ mxl cs + 1
      omega
theorem pace_le (row : CR) (cs : List Nat) : pace row cs ≤ 2 * mxl cs + 2 := by
  cases row with
  | stop => exact Nat.zero_le _
  | inc i t =>
    have := getD_mxl cs i
    show 2 * cs.getD i 0 + 2 ≤ _
    omega
  | dec i t u =>
    have := getD_mxl cs i
    show 2 * cs.getD i 0 + 2 ≤ _
    omega
theorem cstep_q {n s : Nat} {row : CR} {q : Nat} {cs : List Nat} (h : rowOk n s row) (hq : q < s) : (cstep row q cs).1 < s := by
  cases row with
  | stop => exact hq
  | inc i t => exact h.2
  | dec i t u =>
    show (if cs.getD i 0 = 0 then (u, cs) else (t, cs.set i (cs.getD i 0 - 1))).1 < s
    split
    · exact h.2.2
    · exact h.2.1
theorem tb_stop {n : Nat} {rows : List CR} {q : Nat} (h : rowAt rows q = .stop) : tb n rows (4 * q) (2 ^ n) = none := by
  have e := tb_at (n := n) (rows := rows) (q := q) (ph := 0) (m := 2 ^ n) (by decide)
  rw [Nat.add_zero] at e
  rw [e, h]
  unfold spec
  rw [if_pos rfl, if_pos rfl]
theorem scPromise : FnScope ["_law_stair", "_law_here", "_law_low", "_law_pace", "_law_later", "_law_k"] ["_law_stair", "_law_here"] (defScope sPromise) := ⟨rfl, rfl, rfl, by decide +kernel, rfl, by decide +kernel, by decide +kernel⟩
abbrev theTab (n : Nat) (rows : List CR) : List TR := tabOf (2 * 2 ^ n) (4 * rows.length) (tb n rows)
def spPromise (CU CC CT : Addr) : Sp := fun vs H Q _ => ∃ (p pt : Addr) (n q : Nat) (rows : List CR) (v : V) (cs : List Nat), vs = [.ref p, v] ∧ US CU CC H p n rows pt ∧ TM CT H pt (2 * 2 ^ n) (4 * rows.length) (theTab n rows) ∧ CCv H v q cs ∧ q < rows.length ∧ cs.length = n ∧ 1 ≤ n ∧ n ≤ 3 ∧
  (∀ r ∈ rows, rowOk n rows.length r) ∧ mxl cs ≤ 90 ∧ ∀ H', Same H H' → Q (.bl true) H'
structure Lower (P : Program) (w : World) (K : PySem.W.Frag) (mg : Str → Option Value) (base : Heap) (CT : Addr) (f1 f2 f3 : Addr) (d1 d2 d3 : FuncData) : Prop where
  T : TTxt K CT
  stopped : MF P w K mg base CT "stopped" 3 ["self", "configuration"] (spTStopped CT) f1 d1
  step : MF P w K mg base CT "step" 3 ["self", "configuration"] (spTStep CT) f2 d2
  run : MF P w K mg base CT "run" 4 ["self", "configuration", "steps"] (spTRun CT) f3 d3
structure Upper (P : Program) (w : World) (K : PySem.W.Frag) (mg : Str → Option Value) (base : Heap) (CC : Addr) (f1 f2 : Addr) (d1 d2 : FuncData) : Prop where
  T : CTxt K CC
  stopped : MF P w K mg base CC "stopped" 1 ["self", "configuration"] (spCStopped CC) f1 d1
  step : MF P w K mg base CC "step" 2 ["self", "configuration"] (spCStep CC) f2 d2
structure Stair (P : Program) (w : World) (K : PySem.W.Frag) (mg : Str → Option Value) (base : Heap) (CU CC : Addr) (f1 f2 f3 f4 : Addr) (d1 d2 d3 d4 : FuncData) : Prop where
  T : UTxt K CU
  down : MF P w K mg base CU "down" 1 ["self", "configuration"] (spUDown CU) f1 d1
  up : MF P w K mg base CU "up" 2 ["self", "configuration"] (spUUp CU CC) f2 d2
  pace : MF P w K mg base CU "pace" 3 ["self", "configuration"] (spUPace CU CC) f3 d3
  ending : MF P w K mg base CU "ending" 1 ["self", "configuration"] spUEnding f4 d4
theorem ok_promise {f CU CC CT : Addr} {fd : FuncData} {l1 l2 l3 u1 u2 s1 s2 s3 s4 : Addr} {e1 e2 e3 g1 g2 h1 h2 h3 h4 : FuncData} (F : Fun K "_law_promise" "_law_promise" sPromise f fd) (B : Blt mg) (LO : Lower P w K mg base CT l1 l2 l3 e1 e2 e3) (UP : Upper P w K mg base CC u1 u2 g1 g2) (ST : Stair P w K mg base CU CC s1 s2 s3 s4 h1 h2 h3 h4) :
    FnOk P w K mg base CX0 4 f fd ["_law_stair", "_law_here"] (spPromise CU CC CT) := by
  refine F.ok scPromise (fun vs H Q E h => ?_) (fun cdv A outer s H vs Q E hr h => ?_)
  · obtain ⟨p, pt, n, q, rows, v, cs, rfl, _⟩ := h
    rfl
  · obtain ⟨p, pt, n, q, rows, v, cs, rfl, hU, hT, hC, hq, hcs, hn1, hn3, hok, hmx, k⟩ := h
    have hu : (A.deeper (envOfC "_law_promise" (defScope sPromise) s.heap.objs.size f cdv)).units + 64 < cLine := hr.units
    have hr1 : Room 1 _ := hr.mono (by decide)
    have hr2 : Room 2 _ := hr.mono (by decide)
    refine ⟨_, pss_cons (ps_set (i := 2) scPromise.nd rfl (.inl rfl) (pe_meth (pv 0) ST.T.cl ST.down.m ST.down.ok hr1 ST.down.b .nil pass0 (pa_cons (pv 1) pa_nil)))
      (pss_cons (ps_if (pt_cmpR (op_neD hu) (pe_meth (pv 0) ST.T.cl ST.up.m ST.up.ok hr2 ST.up.b .nil pass0 (pa_cons (pv 2) pa_nil)) (pv 1) (nomark _)) (pss_one (ps_ret pe_bl)) pss_nil)
      (pss_cons (ps_set (i := 3) scPromise.nd rfl (.inl rfl) (pe_meth (pv 0) ST.T.cl ST.pace.m ST.pace.ok hr ST.pace.b .nil pass0 (pa_cons (pv 1) pa_nil)))
      (pss_cons (ps_if (pt_val (pe_meth (pe_fld (pv 0) rfl) UP.T.cl UP.stopped.m UP.stopped.ok hr1 UP.stopped.b .nil pass0 (pa_cons (pv 1) pa_nil)))
        (pss_cons (ps_set (i := 4) scPromise.nd rfl (.inl rfl) (pv 2))
        (pss_cons (ps_for PassesOwn.never rfl (pi_range1 (by rfl) B.range (pa_cons (pe_meth (pv 0) ST.T.cl ST.ending.m ST.ending.ok hr1 ST.ending.b .nil pass0 (pa_cons (pv 1) pa_nil)) pa_nil)) (pg_name (i := 5) scPromise.nd rfl (Or.inl rfl)) pss_never)
        (pss_one (ps_ret (pe_and (pe_cmpR op_eq (pv 3) pe_int (nomark _)) (pe_and (pe_cmpR op_isBl (pe_meth (pe_fld (pv 0) rfl) LO.T.cl LO.stopped.m LO.stopped.ok hr LO.stopped.b .nil pass0 (pa_cons (pv 4) pa_nil)) pe_bl (nomark _))
          (pe_one (pe_cmpR op_isN (pe_meth (pe_fld (pv 0) rfl) LO.T.cl LO.step.m LO.step.ok hr LO.step.b .nil pass0 (pa_cons (pv 4) pa_nil)) pe_non (nomark _)))))))))
        pss_nil)
      (pss_cons (ps_if (PW.pt (pw_or (pt_cmpR op_lt (pv 3) pe_int (nomark _)) (pw_or1 (pt_cmpR op_ne (pe_meth (pv 0) ST.T.cl ST.ending.m ST.ending.ok hr1 ST.ending.b .nil pass0 (pa_cons (pv 1) pa_nil)) pe_int (nomark _))))) (pss_one (ps_ret pe_bl)) pss_nil)
      (pss_cons (ps_for PassesOwn.never rfl (pi_range1 (by rfl) B.range (pa_cons (pv 3) pa_nil)) (pg_name (i := 5) scPromise.nd rfl (Or.inl rfl))
        (pss_cons (ps_set (i := 2) scPromise.nd rfl (.inl rfl) (pe_meth (pe_fld (pv 0) rfl) LO.T.cl LO.step.m LO.step.ok hr LO.step.b .nil pass0 (pa_cons (pv 2) pa_nil)))
        (pss_one (ps_if (PW.pt (pw_or (pt_cmpR op_isN (pv 2) pe_non (nomark _)) (pw_or1 (PW.pt (pw_and (pt_cmpR op_lt (pe_op op_add (pv 5) pe_int) (pv 3) (nomark _))
          (pw_and1 (pt_cmpR op_notN (pe_meth (pv 0) ST.T.cl ST.up.m ST.up.ok hr2 ST.up.b .nil pass0 (pa_cons (pv 2) pa_nil)) pe_non (nomark _)))))))) (pss_one (ps_ret pe_bl)) pss_nil))))
      (pss_one (ps_ret (pe_cmpR (op_eqD hu) (pv 2) (pe_meth (pv 0) ST.T.cl ST.down.m ST.down.ok hr1 ST.down.b .nil pass0 (pa_cons (pe_meth (pe_fld (pv 0) rfl) UP.T.cl UP.step.m UP.step.ok hr2 UP.step.b .nil pass0 (pa_cons (pv 1) pa_nil)) pa_nil)) (nomark _))))))))), ?_⟩
    obtain ⟨dx, pc, fs, q1, q2, q3, q4, q5, q6, q7, q8, q9⟩ := id hU
    obtain ⟨cdx, cL, cfs, cxs, c1, c2, c3, c4, c5, c6, c7, c8, c9⟩ := id q9
    obtain ⟨tdx, tL, tfs, txs, t1, t2, t3, t4, t5, t6, t7, t7', t8, t9⟩ := id hT
    have hM16 : 2 * 2 ^ n ≤ 16 := by
      have : 2 ^ n ≤ 2 ^ 3 := Nat.pow_le_pow_right (by decide) hn3
      omega
    have hrow := rowAt_ok hok hq
    -- low = down(here)
    refine ⟨_, rfl, p, dx, fs, rfl, q1, q5, _, rfl, p, dx, q, n, fs, v, cs, rfl, q1, q2, hC, hcs, hn1, hn3, by omega, fun H1 vlow m1 hlow => ?_⟩
    -- up(low) != here
    refine ⟨_, rfl, p, dx, fs, rfl, m1 _ _ q1, q6, _, rfl, p, pt, n, rows, vlow, dn q cs, rfl, hU.mono m1, hn1, hn3, hlow, .inr ⟨q, cs, rfl, hcs, by omega, fun H2 vup m2 hup => ?_⟩⟩
    have m12 := m1.trans m2
    refine ⟨_, rfl, cdat q cs, cdat q cs, hup.dp, (hC.mono (TSame.of m12)).dp, cdat_shaped _ _, cdat_shaped _ _, _, rfl, ?_⟩
    rw [SeqAt.eqv_refl _ (cdat_can _ _)]
    refine iteF ?_
    have hlow2 := hlow.mono (TSame.of m2)
    have hC2 := hC.mono (TSame.of m12)
    -- pace
    refine ⟨_, rfl, p, dx, fs, rfl, m12 _ _ q1, q7, _, rfl, p, pt, n, q, rows, v, cs, rfl, hU.mono m12, hC2, hq, hcs, hrow, ?_⟩
    -- upper.stopped(here)
    refine ⟨_, rfl, p, CU, dx, fs, _, rfl, m12 _ _ q1, ST.T.cl, ST.T.n2, q3, pc, cdx, cfs, rfl, m12 _ _ c1, c6, _, rfl, pc, v, n, q, rows, cs, rfl, q9.mono m12, hC2, hq, _, rfl, ?_⟩
    have hdq : (dn q cs).q < 4 * rows.length := by
      show 4 * q < _
      omega
    have hdm : (dn q cs).m < 2 * 2 ^ n := by
      show 2 ^ cs.length < _
      rw [hcs]
      have := pow_pos2 n
      omega
    have hlen0 : (dn q cs).l.length + (dn q cs).r.length ≤ 100 := by
      show 0 + (downR cs).length ≤ 100
      rw [downR_len]
      omega
    cases hst : isStop (rowAt rows q) with
    | true =>
      have hrs : rowAt rows q = .stop := by
        cases hh : rowAt rows q with
        | stop => rfl
        | inc i t => rw [hh] at hst; cases hst
        | dec i t u => rw [hh] at hst; cases hst
      have hnone : tb n rows (dn q cs).q (dn q cs).m = none := by
        show tb n rows (4 * q) (2 ^ cs.length) = none
        rw [hcs]
        exact tb_stop hrs
      refine iteT ?_
      refine ⟨_, rfl, _, rfl, p, dx, fs, rfl, m12 _ _ q1, q8, _, rfl, p, v, rfl, _, rfl, by decide, by decide, for_range (lo := 0) (n := (0 : Int).toNat) (fun i σ Hc => σ = [some (.ref p), some v, some vlow, some (.int ((pace (rowAt rows q) cs : Nat) : Int)), some vlow, none] ∧ Hc = H2) ⟨rfl, rfl⟩ (fun i σ Hc hi _ => absurd hi (Nat.not_lt_zero _)) (fun σ Hc ⟨es, eH⟩ => ?_)⟩
      subst es eH
      have ep : pace (rowAt rows q) cs = 0 := by rw [hrs]; rfl
      refine ⟨_, rfl, rfl, _, rfl, ?_⟩
      rw [ep, show decide (V.int ((0 : Nat) : Int) = V.int 0) = true from decide_eq_true rfl]
      refine iteT ⟨_, rfl, p, CU, dx, fs, _, rfl, m12 _ _ q1, ST.T.cl, ST.T.n3, q4, pt, tdx, tfs, rfl, m12 _ _ t1, t6, _, rfl, pt, vlow, _, _, tb n rows, dn q cs, rfl, hT.mono m12, hM16, hlow2, hdq, hdm, _, _, rfl, rfl, _, rfl, ?_⟩
      rw [hnone]
      refine iteT ⟨_, rfl, p, CU, dx, fs, _, rfl, m12 _ _ q1, ST.T.cl, ST.T.n3, q4, pt, tdx, tfs, rfl, m12 _ _ t1, t7, _, rfl, pt, vlow, _, _, tb n rows, dn q cs, rfl, hT.mono m12, hM16, hlow2, hdq, hdm, by omega, fun _ => ⟨rfl, ?_⟩, fun d hd => ?_⟩
      · exact k _ m12
      · unfold tstep at hd
        rw [hnone] at hd
        cases hd
    | false =>
      have hns : rowAt rows q ≠ .stop := fun e => by
        rw [e] at hst
        cases hst
      refine iteF ?_
      have hway := way_of hq (by rw [hcs]; exact hrow) hns
      rw [hcs] at hway
      have hpc := pace_le (rowAt rows q) cs
      have hp1 : 1 ≤ pace (rowAt rows q) cs := by
        cases hh : rowAt rows q with
        | stop => exact absurd hh hns
        | inc i t => show 1 ≤ 2 * cs.getD i 0 + 2; omega
        | dec i t u => show 1 ≤ 2 * cs.getD i 0 + 2; omega
      generalize hpace : pace (rowAt rows q) cs = N at hway hpc hp1 ⊢
      -- pace < 1 or ending(here) != 0
      refine ⟨_, rfl, _, _, rfl, rfl, _, rfl, ?_⟩
      rw [decide_eq_false (show ¬ (N : Int) < 1 by omega)]
      refine iteF ⟨_, rfl, p, dx, fs, rfl, m12 _ _ q1, q8, _, rfl, p, v, rfl, rfl, _, rfl, ?_⟩
      rw [decide_eq_true rfl]
      refine iteF ?_
      -- the loop
      refine ⟨_, rfl, _, rfl, by omega, by omega, ?_⟩
      rw [Int.toNat_natCast]
      refine for_range (fun i σ Hc => ∃ vl x v5, σ = [some (.ref p), some v, some vl, some (.int (N : Int)), none, v5] ∧ Same H Hc ∧ TCv Hc vl x ∧ i ≤ N ∧ Way (tb n rows) (4 * rows.length) (2 * 2 ^ n) (dn (cstep (rowAt rows q) q cs).1 (cstep (rowAt rows q) q cs).2) (N - i) x ∧ x.l.length + x.r.length ≤ 100 + i)
        ⟨vlow, dn q cs, none, rfl, m12, hlow2, Nat.zero_le _, hway, hlen0⟩ (fun i σ Hc hi ⟨vl, x, v5, es, sm, hx, hiN, hw, hl⟩ => ?_) (fun σ Hc ⟨vl, x, v5, es, sm, hx, hiN, hw, hl⟩ => ?_)
      · subst es
        obtain ⟨m, hm⟩ : ∃ m, N - i = m + 1 := ⟨N - i - 1, by omega⟩
        rw [hm] at hw
        obtain ⟨⟨hxq, hxm⟩, y, hy, hquiet, hw'⟩ := hw
        refine ⟨_, rfl, p, CU, dx, fs, _, rfl, sm _ _ q1, ST.T.cl, ST.T.n3, q4, pt, tdx, tfs, rfl, sm _ _ t1, t7, _, rfl, pt, vl, _, _, tb n rows, x, rfl, hT.mono sm, hM16, hx, hxq, hxm, by omega, fun e => absurd (e.symm.trans hy) (by simp), fun d hd H3 v3 m3 h3 => ?_⟩
        obtain rfl : d = y := by
          rw [hd] at hy
          exact Option.some.inj hy
        have sm3 := sm.trans m3
        have hv3 : decide (v3 = V.non) = false := by
          obtain ⟨a, _, _, rfl, _⟩ := h3
          rfl
        have hlen' := tstep_len hd
        have nxt : ∃ vl x v5', ([some (.ref p), some v, some v3, some (.int (N : Int)), none, some (.int (0 + (i : Int)))] : L2.St) = [some (.ref p), some v, some vl, some (.int (N : Int)), none, v5'] ∧ Same H H3 ∧ TCv H3 vl x ∧ i + 1 ≤ N ∧ Way (tb n rows) (4 * rows.length) (2 * 2 ^ n) (dn (cstep (rowAt rows q) q cs).1 (cstep (rowAt rows q) q cs).2) (N - (i + 1)) x ∧ x.l.length + x.r.length ≤ 100 + (i + 1) :=
          ⟨v3, d, _, rfl, sm3, h3, by omega, by rw [show N - (i + 1) = m by omega]; exact hw', by omega⟩
        refine ⟨_, rfl, rfl, _, rfl, ?_⟩
        rw [hv3]
        refine iteF ⟨_, rfl, _, _, rfl, rfl, _, rfl, _, _, rfl, rfl, _, rfl, ?_⟩
        by_cases hm0 : m = 0
        · rw [decide_eq_false (show ¬ (0 : Int) + (i : Int) + 1 < (N : Int) by omega)]
          exact iteF (iteF nxt)
        · rw [decide_eq_true (show (0 : Int) + (i : Int) + 1 < (N : Int) by omega)]
          refine iteT ⟨_, rfl, p, dx, fs, rfl, sm3 _ _ q1, q6, _, rfl, p, pt, n, rows, v3, d, rfl, hU.mono sm3, hn1, hn3, h3, .inl ⟨hquiet hm0, rfl, _, rfl, iteF nxt⟩⟩
      · subst es
        rw [Nat.sub_self] at hw
        obtain rfl : x = _ := hw
        have hcl := cstep_len (rowAt rows q) q cs
        have hmc := mxl_cstep (rowAt rows q) q cs
        -- low == down(upper.step(here))
        refine ⟨_, rfl, _, rfl, p, dx, fs, rfl, sm _ _ q1, q5, _, rfl, p, CU, dx, fs, _, rfl, sm _ _ q1, ST.T.cl, ST.T.n2, q3, pc, cdx, cfs, rfl, sm _ _ c1, c7, _, rfl, pc, v, n, q, rows, cs, rfl, q9.mono sm, hC.mono (TSame.of sm), hq, hcs, hn3, hrow, hns, fun H3 v3 m3 h3 => ?_⟩
        have sm3 := sm.trans m3
        refine ⟨p, dx, _, n, fs, v3, _, rfl, sm3 _ _ q1, q2, h3, by rw [hcl]; exact hcs, hn1, hn3, by omega, fun H4 v4 m4 h4 => ?_⟩
        refine ⟨tdat _, tdat _, (hx.mono (TSame.of (m3.trans m4))).dp, h4.dp, tdat_shaped _, tdat_shaped _, ?_⟩
        rw [SeqAt.eqv_refl _ (tdat_can _)]
        exact k _ (sm3.trans m4)
end
end K47

/-! K47V: the law. -/
namespace K47
open PySem PySem.Spec PyProof.Rows L2
/-- N steps lead from x to e -/
def Lead (f : Nat → Nat → TR) (S M N : Nat) (x e : TC) : Prop := ∀ r, (Runs f S M r e → Runs f S M (N + r) x) ∧ runT f (N + r) x = ((runT f r e).1, (runT f r e).2 + N)
theorem Lead.refl {f : Nat → Nat → TR} {S M : Nat} (x : TC) : Lead f S M 0 x x := fun r => by
  rw [Nat.zero_add]
  exact ⟨id, rfl⟩
theorem Lead.trans {f : Nat → Nat → TR} {S M N N' : Nat} {x y z : TC} (a : Lead f S M N x y) (b : Lead f S M N' y z) : Lead f S M (N + N') x z := fun r => by
  obtain ⟨b1, b2⟩ := b r
  obtain ⟨a1, a2⟩ := a (N' + r)
  rw [Nat.add_assoc]
  refine ⟨fun h => a1 (b1 h), ?_⟩
  rw [a2, b2]
  show ((runT f r z).1, (runT f r z).2 + N' + N) = ((runT f r z).1, (runT f r z).2 + (N + N'))
  rw [Nat.add_assoc, Nat.add_comm N' N]
theorem Way.lead {f : Nat → Nat → TR} {S M : Nat} {e : TC} : ∀ {m : Nat} {x : TC}, Way f S M e m x → Lead f S M m x e
  | 0, x, h => by
    obtain rfl : x = e := h
    exact Lead.refl x
  | m + 1, x, h => by
    obtain ⟨hx, y, hy, _, hw⟩ := h
    have ih := Way.lead hw
    intro r
    obtain ⟨i1, i2⟩ := ih r
    rw [show m + 1 + r = m + r + 1 by omega]
    refine ⟨fun h => ⟨hx, fun d hd => ?_⟩, ?_⟩
    · rw [hy] at hd
      cases hd
      exact i1 h
    · show (match tstep f x with | none => (x, 0) | some d => ((runT f (m + r) d).1, (runT f (m + r) d).2 + 1)) = _
      rw [hy]
      show ((runT f (m + r) y).1, (runT f (m + r) y).2 + 1) = _
      rw [i2]
      rfl
theorem pdat_shaped (c : TC) (N : Nat) : SeqAt.shaped (.tuple [tdat c, .int (N : Int)]) = true := by
  unfold SeqAt.shaped
  have h1 : (PyData.tuple [tdat c, .int (N : Int)]).canLay0 = true := by
    show (PyData.canLay0 (tdat c) && (PyData.canLay0 (.int (N : Int)) && true)) = true
    rw [tdat_can]
    rfl
  rw [h1, Bool.true_and]
  refine decide_eq_true ?_
  have h2 := tdat_depth c
  show max (tdat c).depth (max (PyData.depth (.int (N : Int))) 0) + 1 ≤ 64
  have h3 : PyData.depth (.int (N : Int)) = 0 := rfl
  omega
theorem pdat_can (c : TC) (N : Nat) : (PyData.tuple [tdat c, .int (N : Int)]).canLay0 = true := by
  show (PyData.canLay0 (tdat c) && (PyData.canLay0 (.int (N : Int)) && true)) = true
  rw [tdat_can]
  rfl
theorem runs_stop {f : Nat → Nat → TR} {S M : Nat} {c : TC} (hq : c.q < S) (hm : c.m < M) (h : tstep f c = none) : ∀ r, Runs f S M r c
  | 0 => True.intro
  | r + 1 => ⟨⟨hq, hm⟩, fun d hd => by rw [h] at hd; cases hd⟩
theorem runT_stop {f : Nat → Nat → TR} {c : TC} (h : tstep f c = none) : ∀ r, runT f r c = (c, 0)
  | 0 => rfl
  | r + 1 => by
    show (match tstep f c with | none => (c, 0) | some d => ((runT f r d).1, (runT f r d).2 + 1)) = _
    rw [h]
section
variable {P : Program} {w : World} {K : PySem.W.Frag} {mg : Str → Option Value} {base : Heap}
abbrev NL : List Str := ["_law_script", "_law_draws_here", "_law_count", "_law_states", "_law_machine", "_law_stair", "_law_k", "_law_here", "_law_low", "_law_steps"]
theorem scLaw : FnScope NL ["_law_script"] (defScope sLaw) := ⟨rfl, rfl, rfl, by decide +kernel, rfl, by decide +kernel, by decide +kernel⟩
def spLaw (K : PySem.W.Frag) : Sp := fun vs H Q _ => ∃ (a : Addr) (ns : List Int), vs = [.ref a] ∧ SqL K H a (ns.map V.int) ∧ ns.length ≤ 63 ∧ ∀ H', Q (.bl true) H'
theorem ok_law {f CU CC CT fD fR fP fCI fUI : Addr} {fd fdD fdR fdP fdCI fdUI : FuncData} {l1 l2 l3 u1 u2 s1 s2 s3 s4 : Addr} {e1 e2 e3 g1 g2 h1 h2 h3 h4 : FuncData} (F : Fun K "law" "law" sLaw f fd) (B : Blt mg)
    (LO : Lower P w K mg base CT l1 l2 l3 e1 e2 e3) (UP : Upper P w K mg base CC u1 u2 g1 g2) (ST : Stair P w K mg base CU CC s1 s2 s3 s4 h1 h2 h3 h4)
    (D : GF P w K mg base "_law_draws" 1 ["_law_script", "_law_many"] (spDraws K) fD fdD) (R : GF P w K mg base "_law_counter_rows" 1 ["_law_draws_here", "_law_count", "_law_states"] spCRows fR fdR)
    (PR : GF P w K mg base "_law_promise" 4 ["_law_stair", "_law_here"] (spPromise CU CC CT) fP fdP)
    (MC : Mk K CC fCI) (gC : mg "Counters" = some (.ref CC)) (GC : FnOk P w K mg base CX0 3 fCI fdCI ["self", "count", "rows"] (spCInit CC)) (bC : Binds K fdCI ["self", "count", "rows"] [])
    (MU : Mk K CU fUI) (gU : mg "UpStair" = some (.ref CU)) (GU : FnOk P w K mg base CX0 5 fUI fdUI ["self", "upper"] (spUInit CU CC CT)) (bU : Binds K fdUI ["self", "upper"] []) :
    FnOk P w K mg base CX0 7 f fd ["_law_script"] (spLaw K) := by
  refine F.ok scLaw (fun vs H Q E h => ?_) (fun cdv A outer s H vs Q E hr h => ?_)
  · obtain ⟨a, ns, rfl, _⟩ := h
    rfl
  · obtain ⟨a, ns, rfl, hS, hlen, k⟩ := h
    have hu : (A.deeper (envOfC "law" (defScope sLaw) s.heap.objs.size f cdv)).units + 64 < cLine := hr.units
    have hr1 : Room 1 _ := hr.mono (by decide)
    have hr2 : Room 2 _ := hr.mono (by decide)
    have hr3 : Room 3 _ := hr.mono (by decide)
    have hr4 : Room 4 _ := hr.mono (by decide)
    refine ⟨_, pss_cons (ps_set (i := 1) scLaw.nd rfl (.inr rfl) (pe_call D.ok hr1 (by rfl) D.g D.kp D.b .nil pass0 (pa_cons (pv 0) (pa_cons pe_int pa_nil))))
      (pss_cons (ps_par (i := 2) (j := 3) rfl scLaw.nd rfl rfl (by decide) rfl rfl (pa_cons (pe_op op_add pe_int (pe_op op_mod (pe_ix ix_list (pv 1) pe_int (fun _ _ => rfl)) pe_int)) (pa_cons (pe_op op_add pe_int (pe_op op_mod (pe_ix ix_list (pv 1) pe_int (fun _ _ => rfl)) pe_int)) pa_nil)) (by rfl))
      (pss_cons (ps_set (i := 4) scLaw.nd rfl (.inl rfl) (pe_make MC GC hr4 (by rfl) gC bC .nil pass0 (pa_cons (pv 2) (pa_cons (pe_call R.ok hr1 (by rfl) R.g R.kp R.b .nil pass0 (pa_cons (pv 1) (pa_cons (pv 2) (pa_cons (pv 3) pa_nil)))) pa_nil))))
      (pss_cons (ps_set (i := 5) scLaw.nd rfl (.inl rfl) (pe_make MU GU hr (by rfl) gU bU .nil pass0 (pa_cons (pv 4) pa_nil)))
      (pss_cons (ps_set (i := 7) scLaw.nd rfl (.inl rfl) (pe_tup (pa_cons (pe_op op_mod (pe_ix ix_list (pv 1) pe_int (fun _ _ => rfl)) (pv 3)) (pa_cons (pe_callTy call_tuple_of (by rfl) B.tuple (by decide +kernel) (pa_cons
        (pe_lc (own := [("_law_k", 6)]) (g := gName 6) (tt := tYes) rfl scLaw.nd (pi_range1 (by rfl) B.range (pa_cons (pv 2) pa_nil)) (blkOk_by (N := NL) (sc := defScope sLaw) (by decide +kernel))
          (fun _ _ _ _ _ => pg_name (i := 6) scLaw.nd rfl (Or.inl rfl)) (fun _ _ _ _ _ => pts_nil) (fun _ _ _ _ _ => pe_op op_mod (pe_ix (ixLK K) (pv 1) (pe_op op_add pe_int (pv 6)) (fun _ _ => rfl)) pe_int)) pa_nil)) pa_nil))))
      (pss_cons (ps_set (i := 8) scLaw.nd rfl (.inl rfl) (pe_meth (pv 5) ST.T.cl ST.down.m ST.down.ok hr1 ST.down.b .nil pass0 (pa_cons (pv 7) pa_nil)))
      (pss_cons (ps_set (i := 9) scLaw.nd rfl (.inl rfl) pe_int)
      (pss_cons (ps_for PassesOwn.never rfl (pi_range1 (by rfl) B.range (pa_cons pe_int pa_nil)) (pg_name (i := 6) scLaw.nd rfl (Or.inl rfl))
        (pss_cons (ps_if (pt_not (pt_val (pe_call PR.ok hr4 (by rfl) PR.g PR.kp PR.b .nil pass0 (pa_cons (pv 5) (pa_cons (pv 7) pa_nil))))) (pss_one (ps_ret pe_bl)) pss_nil)
        (pss_cons (ps_if (pt_val (pe_meth (pv 4) UP.T.cl UP.stopped.m UP.stopped.ok hr1 UP.stopped.b .nil pass0 (pa_cons (pv 7) pa_nil)))
          (pss_one (ps_ret (pe_cmpR (op_eqD hu) (pe_meth (pe_fld (pv 5) rfl) LO.T.cl LO.run.m LO.run.ok hr4 LO.run.b .nil pass0 (pa_cons (pv 8) (pa_cons (pe_op op_add (pv 9) pe_int) pa_nil)))
            (pe_tup (pa_cons (pe_meth (pv 5) ST.T.cl ST.down.m ST.down.ok hr1 ST.down.b .nil pass0 (pa_cons (pv 7) pa_nil)) (pa_cons (pv 9) pa_nil))) (nomark _)))) pss_nil)
        (pss_cons (ps_set (i := 9) scLaw.nd rfl (.inl rfl) (pe_op op_add (pv 9) (pe_meth (pv 5) ST.T.cl ST.pace.m ST.pace.ok hr3 ST.pace.b .nil pass0 (pa_cons (pv 7) pa_nil))))
        (pss_one (ps_set (i := 7) scLaw.nd rfl (.inl rfl) (pe_meth (pv 4) UP.T.cl UP.step.m UP.step.ok hr2 UP.step.b .nil pass0 (pa_cons (pv 7) pa_nil))))))))
      (pss_one (ps_ret (pe_cmpR (op_eqD hu) (pe_meth (pe_fld (pv 5) rfl) LO.T.cl LO.run.m LO.run.ok hr4 LO.run.b .nil pass0 (pa_cons (pv 8) (pa_cons (pv 9) pa_nil)))
        (pe_tup (pa_cons (pe_meth (pv 5) ST.T.cl ST.down.m ST.down.ok hr1 ST.down.b .nil pass0 (pa_cons (pv 7) pa_nil)) (pa_cons (pv 9) pa_nil))) (nomark _))))))))))), ?_⟩
    -- the draws
    refine ⟨_, rfl, a, ns, rfl, hS, hlen, fun H1 dp ds m1 hds ed => ?_⟩
    have hd29 : 29 < ds.length := by omega
    have hd30 : 30 < ds.length := by omega
    refine ⟨_, rfl, dp, nv ds, _, _, rfl, rfl, SqL.of ed, at_of (j := 29) rfl (nv_getD hd29), _, _, rfl, rfl, (by show (0 : Int) < 3; decide), _, _, rfl, rfl,
      _, rfl, dp, nv ds, _, _, rfl, rfl, SqL.of ed, at_of (j := 30) rfl (nv_getD hd30), _, _, rfl, rfl, (by show (0 : Int) < 5; decide), _, _, rfl, rfl, _, _, rfl, ?_⟩
    dsimp only
    obtain ⟨n, hn, hn1, hn3⟩ : ∃ n : Nat, (1 : Int) + ((ds.getD 29 0 : Nat) : Int) % 3 = (n : Int) ∧ 1 ≤ n ∧ n ≤ 3 := ⟨1 + ds.getD 29 0 % 3, by omega, by omega, by omega⟩
    obtain ⟨z, hz, hz1, hz5⟩ : ∃ z : Nat, (1 : Int) + ((ds.getD 30 0 : Nat) : Int) % 5 = (z : Int) ∧ 1 ≤ z ∧ z ≤ 5 := ⟨1 + ds.getD 30 0 % 5, by omega, by omega, by omega⟩
    rw [hn, hz]
    -- Counters(count, rows)
    refine ⟨_, rfl, _, rfl, _, rfl, _, rfl, dp, ds, n, z, rfl, ed, hn1, hn3, hz1, hz5, by omega, fun H2 rp xs rows m2 er ax hrl hrok => ?_⟩
    intro pm dxm npm ndm nem
    have m3 : Same H2 (L2.upd (L2.upd H2 dxm (.own pm)) pm (.ins CC dxm [])) := fun b o e => by
      rw [upd_ne (ne_of_none e npm), upd_ne (ne_of_none e ndm)]
      exact e
    refine ⟨pm, dxm, rp, n, xs, rows, rfl, upd_same, m3 _ _ er, ax.mono fun x r => CRv.mono (TSame.of m3), ⟨hn1, hn3⟩, ⟨by omega, by omega⟩, by rw [hrl]; exact hrok, fun H4 fr4 hM4 => ⟨rfl, ?_⟩⟩
    have m4 : Same H2 H4 := fun b o e => fr4 b o (m3 _ _ e) (ne_of_none e npm)
    -- UpStair(machine)
    refine ⟨_, rfl, ?_⟩
    intro ps dxs nps nds nes
    obtain ⟨cdx, cL, cfs, cxs, c1, c2, c3, c4, c5, c6, c7, c8, c9⟩ := id hM4
    have m5 : Same H4 (L2.upd (L2.upd H4 dxs (.own ps)) ps (.ins CU dxs [])) := fun b o e => by
      rw [upd_ne (ne_of_none e nps), upd_ne (ne_of_none e nds)]
      exact e
    refine ⟨ps, dxs, pm, n, rows, rfl, upd_same, ne_of_none c1 nps, hM4.mono m5, hn1, hn3, by omega, by omega, by rw [hrl]; exact hrok, fun H5 pt fr5 hU5 hT5 => ⟨rfl, ?_⟩⟩
    have m6 : Same H4 H5 := fun b o e => fr5 b o (m5 _ _ e) (ne_of_none e nps)
    have m25 := m2.trans (m4.trans m6)
    have ed5 := m25 _ _ ed
    have hd31 : 31 < ds.length := by omega
    -- here
    refine ⟨_, rfl, dp, nv ds, _, _, rfl, rfl, SqL.of ed5, at_of (j := 31) rfl (nv_getD hd31), _, rfl, _, _, rfl, rfl, (by show (0 : Int) < (z : Int); omega), _, rfl, _, rfl, by omega, by omega, fun L nL => ?_⟩
    refine lcR (acc := fun i => nv ((List.range i).map fun i => ds.getD (32 + i) 0 % 13)) nL rfl (fun i hi => by rw [nv_len, List.length_map, List.length_range]; omega) (fun i Hc hi mc R1 Rn b1 b2 => ?_) (fun H6 m7 e6 => ?_)
    · rw [Int.toNat_natCast] at hi
      refine tyes ?_
      refine iteT ?_
      refine ⟨_, rfl, _, rfl, _, _, rfl, rfl, dp, nv ds, _, _, rfl, rfl, SqL.of (mc _ _ ed5), at_of (j := 32 + i) (by omega) (nv_getD (by omega)), _, _, rfl, rfl, (by show (0 : Int) < 13; decide), b1 _ _ (Same.refl _) ?_⟩
      rw [List.range_succ, List.map_append]
      show nv (_ ++ [ds.getD (32 + i) 0 % 13]) = _
      rw [nv_snoc]
      rfl
    rw [Int.toNat_natCast] at e6
    have hcs : ((List.range n).map fun i => ds.getD (32 + i) 0 % 13).length = n := by rw [List.length_map, List.length_range]
    have hcm : mxl ((List.range n).map fun i => ds.getD (32 + i) 0 % 13) ≤ 12 := by
      rcases mxl_mem ((List.range n).map fun i => ds.getD (32 + i) 0 % 13) with e | e
      · omega
      · obtain ⟨i, _, e⟩ := List.mem_map.mp e
        have := Nat.mod_lt (ds.getD (32 + i) 0) (show 0 < 13 by decide)
        omega
    generalize ((List.range n).map fun i => ds.getD (32 + i) 0 % 13) = cs0 at hcs hcm e6
    refine ⟨L, _, rfl, .inl ⟨SqL.of e6, fun ct nct => ⟨line1000 (by show 2 ≤ 1000; decide), fun hp nhp => ?_⟩⟩⟩
    have sct := same_upd (o := HO.tup (nv cs0)) nct
    have shp := same_upd (o := HO.tup [V.int (((ds.getD 31 0 : Nat) : Int) % (z : Int)), V.ref ct]) nhp
    obtain ⟨q0, hq0, hqz⟩ : ∃ q0 : Nat, ((ds.getD 31 0 : Nat) : Int) % (z : Int) = (q0 : Int) ∧ q0 < z := ⟨ds.getD 31 0 % z, rfl, Nat.mod_lt _ (by omega)⟩
    have hC7 : CCv (L2.upd (L2.upd H6 ct (.tup (nv cs0))) hp (.tup [V.int (((ds.getD 31 0 : Nat) : Int) % (z : Int)), V.ref ct])) (.ref hp) q0 cs0 := ⟨hp, ct, rfl, by rw [upd_same, hq0], shp _ _ upd_same⟩
    have m8 := m7.trans (sct.trans shp)
    dsimp only
    generalize L2.upd (L2.upd H6 ct (.tup (nv cs0))) hp (.tup [V.int (((ds.getD 31 0 : Nat) : Int) % (z : Int)), V.ref ct]) = H7 at hC7 m8 ⊢
    obtain ⟨dx, pc, fs, q1, q2, q3, q4, q5, q6, q7, q8, q9⟩ := id hU5
    -- low
    refine ⟨_, rfl, ps, dx, fs, rfl, m8 _ _ q1, q5, _, rfl, ps, dx, q0, n, fs, .ref hp, cs0, rfl, m8 _ _ q1, q2, hC7, hcs, hn1, hn3, by omega, fun H8 vlow m9 hlow => ?_⟩
    have m58 : Same H5 H8 := m8.trans m9
    have hU8 := hU5.mono m58
    have hT8 := hT5.mono m58
    have hM8 := hM4.mono (m6.trans m58)
    have hC8 := hC7.mono (TSame.of m9)
    have p1 := m58 _ _ q1
    have c18 := (m6.trans m58) _ _ c1
    have hM16 : 2 * 2 ^ n ≤ 16 := by
      have : 2 ^ n ≤ 2 ^ 3 := Nat.pow_le_pow_right (by decide) hn3
      omega
    have hrok' : ∀ r ∈ rows, rowOk n rows.length r := by rw [hrl]; exact hrok
    rw [← hrl] at hqz
    obtain ⟨tdx, tL, tfs, txs, t1, t2, t3, t4, t5, t6, t7, t7', t8, t9⟩ := id hT8
    -- the loop
    have inD : ∀ q (cs : List Nat), q < rows.length → cs.length = n → (dn q cs).q < 4 * rows.length ∧ (dn q cs).m < 2 * 2 ^ n := fun q cs hq hcs => by
      have := pow_pos2 n
      refine ⟨by show 4 * q < _; omega, ?_⟩
      show 2 ^ cs.length < _
      rw [hcs]
      omega
    have len0 : (dn q0 cs0).l.length + (dn q0 cs0).r.length ≤ 12 := by
      show 0 + (downR cs0).length ≤ 12
      rw [downR_len]
      omega
    refine ⟨_, rfl, by decide, by decide, for_range (lo := 0) (n := (10 : Int).toNat) (fun i σ Hc => ∃ (v6 : Option V) (vh : V) (q : Nat) (cs : List Nat) (N : Nat), σ = [some (.ref a), some (.ref dp), some (.int (n : Int)), some (.int (z : Int)), some (.ref pm), some (.ref ps), v6, some vh, some vlow, some (.int (N : Int))] ∧
        Same H8 Hc ∧ CCv Hc vh q cs ∧ q < rows.length ∧ cs.length = n ∧ mxl cs ≤ 12 + i ∧ N ≤ 50 * i ∧ Lead (tb n rows) (4 * rows.length) (2 * 2 ^ n) N (dn q0 cs0) (dn q cs))
      ⟨none, .ref hp, q0, cs0, 0, rfl, Same.refl _, hC8, hqz, hcs, by omega, Nat.zero_le _, Lead.refl _⟩ (fun i σ Hc hi ⟨v6, vh, q, cs, N, es, sm, hC, hq, hcs', hmx, hN, hlead⟩ => ?_) (fun σ Hc ⟨v6, vh, q, cs, N, es, sm, hC, hq, hcs', hmx, hN, hlead⟩ => ?_)⟩
    · subst es
      have hi10 : i < 10 := hi
      have hrow := rowAt_ok hrok' hq
      refine ⟨_, rfl, _, rfl, ps, pt, n, q, rows, vh, cs, rfl, hU8.mono sm, hT8.mono sm, hC, hq, hcs', hn1, hn3, hrok', by omega, fun Ha ma => ⟨_, rfl, iteF ?_⟩⟩
      have sma := sm.trans ma
      have hCa := hC.mono (TSame.of ma)
      refine ⟨_, rfl, pm, cdx, cfs, rfl, sma _ _ c18, c6, _, rfl, pm, vh, n, q, rows, cs, rfl, hM8.mono sma, hCa, hq, _, rfl, ?_⟩
      cases hst : isStop (rowAt rows q) with
      | true =>
        have hrs : rowAt rows q = .stop := by
          cases hh : rowAt rows q with
          | stop => rfl
          | inc i t => rw [hh] at hst; cases hst
          | dec i t u => rw [hh] at hst; cases hst
        have hnone : tstep (tb n rows) (dn q cs) = none := by
          unfold tstep
          rw [show tb n rows (dn q cs).q (dn q cs).m = none by
            show tb n rows (4 * q) (2 ^ cs.length) = none
            rw [hcs']
            exact tb_stop hrs]
        obtain ⟨i1, i2⟩ := inD q cs hq hcs'
        obtain ⟨l1, l2⟩ := hlead 9
        have hres : runT (tb n rows) (N + 9) (dn q0 cs0) = (dn q cs, N) := by
          rw [l2, runT_stop hnone]
          show (dn q cs, 0 + N) = _
          rw [Nat.zero_add]
        refine iteT ?_
        refine ⟨_, rfl, ps, CU, dx, fs, _, rfl, sma _ _ p1, ST.T.cl, ST.T.n3, q4, pt, tdx, tfs, rfl, sma _ _ t1, t7', _, rfl, _, rfl, _, _, rfl, rfl, pt, vlow, 2 * 2 ^ n, 4 * rows.length, N + 9, tb n rows, dn q0 cs0, ?_, hT8.mono sma, hM16, hlow.mono (TSame.of sma), l1 (runs_stop i1 i2 hnone 9), by omega, fun Hb pb vb mb eb hb => ?_⟩
        · rw [show ((N + 9 : Nat) : Int) = (N : Int) + 9 by omega]
          rfl
        rw [hres] at eb hb
        have smb := sma.trans mb
        refine ⟨_, rfl, ps, dx, fs, rfl, smb _ _ p1, q5, _, rfl, ps, dx, q, n, fs, vh, cs, rfl, smb _ _ p1, q2, hCa.mono (TSame.of mb), hcs', hn1, hn3, by omega, fun Hd vd md hd => ⟨_, rfl, line1000 (by show 2 ≤ 1000; decide), fun te nte => ?_⟩⟩
        have ste := same_upd (o := HO.tup [vd, V.int (N : Int)]) nte
        have md' := md.trans ste
        refine ⟨_, _, .tup (SqT.of (md' _ _ eb)) (.cons (hb.mono (TSame.of md')).dp (.cons (.int _) .nil)), .tup (SqT.of upd_same) (.cons (hd.mono (TSame.of ste)).dp (.cons (.int _) .nil)), pdat_shaped _ _, pdat_shaped _ _, ?_⟩
        rw [SeqAt.eqv_refl _ (pdat_can _ _)]
        exact k _
      | false =>
        have hns : rowAt rows q ≠ .stop := fun e => by
          rw [e] at hst
          cases hst
        have hway := way_of hq (by rw [hcs']; exact hrow) hns
        rw [hcs'] at hway
        have hpc := pace_le (rowAt rows q) cs
        refine iteF ?_
        refine ⟨_, rfl, _, rfl, ps, dx, fs, rfl, sma _ _ p1, q7, _, rfl, ps, pt, n, q, rows, vh, cs, rfl, hU8.mono sma, hCa, hq, hcs', hrow, _, _, rfl, rfl, ?_⟩
        refine ⟨_, rfl, pm, cdx, cfs, rfl, sma _ _ c18, c7, _, rfl, pm, vh, n, q, rows, cs, rfl, hM8.mono sma, hCa, hq, hcs', hn3, hrow, hns, fun Hb vb mb hb => ?_⟩
        have hcl := cstep_len (rowAt rows q) q cs
        have hmc := mxl_cstep (rowAt rows q) q cs
        refine ⟨some (.int (0 + (i : Int))), vb, _, _, N + pace (rowAt rows q) cs, ?_, sma.trans mb, hb, cstep_q hrow hq, by rw [hcl]; exact hcs', by omega, by omega, hlead.trans hway.lead⟩
        rw [show ((N + pace (rowAt rows q) cs : Nat) : Int) = (N : Int) + ((pace (rowAt rows q) cs : Nat) : Int) by omega]
        rfl
    · subst es
      have hN' : N ≤ 500 := by
        have : N ≤ 50 * 10 := hN
        omega
      have hmx' : mxl cs ≤ 22 := by
        have : mxl cs ≤ 12 + 10 := hmx
        omega
      obtain ⟨l1, l2⟩ := hlead 0
      have hres : runT (tb n rows) N (dn q0 cs0) = (dn q cs, N) := by
        have : runT (tb n rows) (N + 0) (dn q0 cs0) = (dn q cs, 0 + N) := l2
        rw [Nat.zero_add] at this
        exact this
      refine ⟨_, rfl, ps, CU, dx, fs, _, rfl, sm _ _ p1, ST.T.cl, ST.T.n3, q4, pt, tdx, tfs, rfl, sm _ _ t1, t7', _, rfl, _, rfl, pt, vlow, 2 * 2 ^ n, 4 * rows.length, N, tb n rows, dn q0 cs0, rfl, hT8.mono sm, hM16, hlow.mono (TSame.of sm), l1 True.intro, by omega, fun Hb pb vb mb eb hb => ?_⟩
      rw [hres] at eb hb
      have smb := sm.trans mb
      refine ⟨_, rfl, ps, dx, fs, rfl, smb _ _ p1, q5, _, rfl, ps, dx, q, n, fs, vh, cs, rfl, smb _ _ p1, q2, hC.mono (TSame.of mb), hcs', hn1, hn3, by omega, fun Hd vd md hd => ⟨_, rfl, line1000 (by show 2 ≤ 1000; decide), fun te nte => ?_⟩⟩
      have ste := same_upd (o := HO.tup [vd, V.int (N : Int)]) nte
      have md' := md.trans ste
      refine ⟨_, _, .tup (SqT.of (md' _ _ eb)) (.cons (hb.mono (TSame.of md')).dp (.cons (.int _) .nil)), .tup (SqT.of upd_same) (.cons (hd.mono (TSame.of ste)).dp (.cons (.int _) .nil)), pdat_shaped _ _, pdat_shaped _ _, ?_⟩
      rw [SeqAt.eqv_refl _ (pdat_can _ _)]
      exact k _
end
end K47

/-! K47W: what the top has written, joined (printed by gen_end.py). -/
namespace K47
open PySem PySem.Spec PyProof.Rows L2
theorem all_mk {l : PySem.W.OpenLaw} {w : World} {K : PySem.W.Frag} {h : Heap} {mg : Str → Option Value} {fa CT CU CC f0 f1 f2 f3 f4 f5 f6 f7 f8 f9 f10 f11 f12 f13 f14 f15 f16 f17 f18 f19 f20 f21 f22 f23 f24 : Addr} (X : K.In h) (G : h.Ns mainGlobals mg) (hfa : mg "law" = some (.ref fa))
    {tk0 tk1 tk2 tk3 tk4 tk5 tk6 : Tok}
    {od0 an0 : Option Addr} {sl0 : Array (Option Value)} {oc0 kV0 dc0 pm0 cd0 ct0 : Value}
    {od1 an1 : Option Addr} {sl1 : Array (Option Value)} {oc1 kV1 dc1 pm1 cd1 ct1 : Value}
    {od2 an2 : Option Addr} {sl2 : Array (Option Value)} {oc2 kV2 dc2 pm2 cd2 ct2 : Value}
    {od3 an3 : Option Addr} {sl3 : Array (Option Value)} {oc3 kV3 dc3 pm3 cd3 ct3 : Value}
    {od4 an4 : Option Addr} {sl4 : Array (Option Value)} {oc4 kV4 dc4 pm4 cd4 ct4 : Value}
    {od5 an5 : Option Addr} {sl5 : Array (Option Value)} {oc5 kV5 dc5 pm5 cd5 ct5 : Value}
    {od6 an6 : Option Addr} {sl6 : Array (Option Value)} {oc6 kV6 dc6 pm6 cd6 ct6 : Value}
    {od7 an7 : Option Addr} {sl7 : Array (Option Value)} {oc7 kV7 dc7 pm7 cd7 ct7 : Value}
    {od8 an8 : Option Addr} {sl8 : Array (Option Value)} {oc8 kV8 dc8 pm8 cd8 ct8 : Value}
    {od9 an9 : Option Addr} {sl9 : Array (Option Value)} {oc9 kV9 dc9 pm9 cd9 ct9 : Value}
    {od10 an10 : Option Addr} {sl10 : Array (Option Value)} {oc10 kV10 dc10 pm10 cd10 ct10 : Value}
    {od11 an11 : Option Addr} {sl11 : Array (Option Value)} {oc11 kV11 dc11 pm11 cd11 ct11 : Value}
    {od12 an12 : Option Addr} {sl12 : Array (Option Value)} {oc12 kV12 dc12 pm12 cd12 ct12 : Value}
    {od13 an13 : Option Addr} {sl13 : Array (Option Value)} {oc13 kV13 dc13 pm13 cd13 ct13 : Value}
    {od14 an14 : Option Addr} {sl14 : Array (Option Value)} {oc14 kV14 dc14 pm14 cd14 ct14 : Value}
    {od15 an15 : Option Addr} {sl15 : Array (Option Value)} {oc15 kV15 dc15 pm15 cd15 ct15 : Value}
    {od16 an16 : Option Addr} {sl16 : Array (Option Value)} {oc16 kV16 dc16 pm16 cd16 ct16 : Value}
    {od17 an17 : Option Addr} {sl17 : Array (Option Value)} {oc17 kV17 dc17 pm17 cd17 ct17 : Value}
    {od18 an18 : Option Addr} {sl18 : Array (Option Value)} {oc18 kV18 dc18 pm18 cd18 ct18 : Value}
    {od19 an19 : Option Addr} {sl19 : Array (Option Value)} {oc19 kV19 dc19 pm19 cd19 ct19 : Value}
    {od20 an20 : Option Addr} {sl20 : Array (Option Value)} {oc20 kV20 dc20 pm20 cd20 ct20 : Value}
    {od21 an21 : Option Addr} {sl21 : Array (Option Value)} {oc21 kV21 dc21 pm21 cd21 ct21 : Value}
    {od22 an22 : Option Addr} {sl22 : Array (Option Value)} {oc22 kV22 dc22 pm22 cd22 ct22 : Value}
    {od23 an23 : Option Addr} {sl23 : Array (Option Value)} {oc23 kV23 dc23 pm23 cd23 ct23 : Value}
    {od24 an24 : Option Addr} {sl24 : Array (Option Value)} {oc24 kV24 dc24 pm24 cd24 ct24 : Value}
    (aT : PySem.W.nsIn K mainGlobals "Tape" = some (some (.ref CT)))
    (aU : PySem.W.nsIn K mainGlobals "UpStair" = some (some (.ref CU)))
    (aC : PySem.W.nsIn K mainGlobals "Counters" = some (some (.ref CC)))
    (a0 : PySem.W.nsIn K mainGlobals "is_integer" = some (some (.ref f0)))
    (l0 : K.lookup f0 = some ⟨oc0, od0, .func (PySem.W.fnOf "is_integer" "is_integer" (defArgs sIsInt) (defBody sIsInt) (defScope sIsInt) .none kV0 dc0 pm0 an0 cd0 ct0), sl0⟩)
    (c0 : PySem.W.codeIn K cd0 "is_integer" = true)
    (k0 : PySem.W.keepIn K (.ref f0) = true)
    (a1 : PySem.W.nsIn K mainGlobals "trimmed" = some (some (.ref f1)))
    (l1 : K.lookup f1 = some ⟨oc1, od1, .func (PySem.W.fnOf "trimmed" "trimmed" (defArgs sTrim) (defBody sTrim) (defScope sTrim) .none kV1 dc1 pm1 an1 cd1 ct1), sl1⟩)
    (c1 : PySem.W.codeIn K cd1 "trimmed" = true)
    (k1 : PySem.W.keepIn K (.ref f1) = true)
    (a2 : PySem.W.nsIn K mainGlobals "is_number" = some (some (.ref f2)))
    (l2 : K.lookup f2 = some ⟨oc2, od2, .func (PySem.W.fnOf "is_number" "is_number" (defArgs sIsNum) (defBody sIsNum) (defScope sIsNum) .none kV2 dc2 pm2 an2 cd2 ct2), sl2⟩)
    (c2 : PySem.W.codeIn K cd2 "is_number" = true)
    (k2 : PySem.W.keepIn K (.ref f2) = true)
    (a3 : PySem.W.nsIn K mainGlobals "is_counter_row" = some (some (.ref f3)))
    (l3 : K.lookup f3 = some ⟨oc3, od3, .func (PySem.W.fnOf "is_counter_row" "is_counter_row" (defArgs sRowOk) (defBody sRowOk) (defScope sRowOk) .none kV3 dc3 pm3 an3 cd3 ct3), sl3⟩)
    (c3 : PySem.W.codeIn K cd3 "is_counter_row" = true)
    (k3 : PySem.W.keepIn K (.ref f3) = true)
    (a4 : PySem.W.nsIn K mainGlobals "changed" = some (some (.ref f4)))
    (l4 : K.lookup f4 = some ⟨oc4, od4, .func (PySem.W.fnOf "changed" "changed" (defArgs sChanged) (defBody sChanged) (defScope sChanged) .none kV4 dc4 pm4 an4 cd4 ct4), sl4⟩)
    (c4 : PySem.W.codeIn K cd4 "changed" = true)
    (k4 : PySem.W.keepIn K (.ref f4) = true)
    (a5 : PySem.W.nsIn K mainGlobals "_law_draws" = some (some (.ref f5)))
    (l5 : K.lookup f5 = some ⟨oc5, od5, .func (PySem.W.fnOf "_law_draws" "_law_draws" (defArgs sDraws) (defBody sDraws) (defScope sDraws) .none kV5 dc5 pm5 an5 cd5 ct5), sl5⟩)
    (c5 : PySem.W.codeIn K cd5 "_law_draws" = true)
    (k5 : PySem.W.keepIn K (.ref f5) = true)
    (a6 : PySem.W.nsIn K mainGlobals "_law_counter_rows" = some (some (.ref f6)))
    (l6 : K.lookup f6 = some ⟨oc6, od6, .func (PySem.W.fnOf "_law_counter_rows" "_law_counter_rows" (defArgs sCRows) (defBody sCRows) (defScope sCRows) .none kV6 dc6 pm6 an6 cd6 ct6), sl6⟩)
    (c6 : PySem.W.codeIn K cd6 "_law_counter_rows" = true)
    (k6 : PySem.W.keepIn K (.ref f6) = true)
    (a7 : PySem.W.nsIn K mainGlobals "_law_promise" = some (some (.ref f7)))
    (l7 : K.lookup f7 = some ⟨oc7, od7, .func (PySem.W.fnOf "_law_promise" "_law_promise" (defArgs sPromise) (defBody sPromise) (defScope sPromise) .none kV7 dc7 pm7 an7 cd7 ct7), sl7⟩)
    (c7 : PySem.W.codeIn K cd7 "_law_promise" = true)
    (k7 : PySem.W.keepIn K (.ref f7) = true)
    (a8 : PySem.W.nsIn K mainGlobals "law" = some (some (.ref f8)))
    (l8 : K.lookup f8 = some ⟨oc8, od8, .func (PySem.W.fnOf "law" "law" (defArgs sLaw) (defBody sLaw) (defScope sLaw) .none kV8 dc8 pm8 an8 cd8 ct8), sl8⟩)
    (c8 : PySem.W.codeIn K cd8 "law" = true)
    (k8 : PySem.W.keepIn K (.ref f8) = true)
    (a9 : PySem.W.findIn K (.ref CT) "__init__" = some (some (.ref f9)))
    (i9 : PySem.W.isFn K (.ref f9) = true)
    (l9 : K.lookup f9 = some ⟨oc9, od9, .func (PySem.W.fnOf "__init__" "Tape.__init__" (defArgs sTInit) (defBody sTInit) (defScope sTInit) .none kV9 dc9 pm9 an9 cd9 ct9), sl9⟩)
    (c9 : PySem.W.codeIn K cd9 "Tape.__init__" = true)
    (k9 : PySem.W.keepIn K (.ref f9) = true)
    (a10 : PySem.W.findIn K (.ref CT) "_is_row" = some (some (.ref f10)))
    (i10 : PySem.W.isFn K (.ref f10) = true)
    (l10 : K.lookup f10 = some ⟨oc10, od10, .func (PySem.W.fnOf "_is_row" "Tape._is_row" (defArgs sTIsRow) (defBody sTIsRow) (defScope sTIsRow) .none kV10 dc10 pm10 an10 cd10 ct10), sl10⟩)
    (c10 : PySem.W.codeIn K cd10 "Tape._is_row" = true)
    (k10 : PySem.W.keepIn K (.ref f10) = true)
    (a11 : PySem.W.findIn K (.ref CT) "row" = some (some (.ref f11)))
    (i11 : PySem.W.isFn K (.ref f11) = true)
    (l11 : K.lookup f11 = some ⟨oc11, od11, .func (PySem.W.fnOf "row" "Tape.row" (defArgs sTRow) (defBody sTRow) (defScope sTRow) .none kV11 dc11 pm11 an11 cd11 ct11), sl11⟩)
    (c11 : PySem.W.codeIn K cd11 "Tape.row" = true)
    (k11 : PySem.W.keepIn K (.ref f11) = true)
    (a12 : PySem.W.findIn K (.ref CT) "stopped" = some (some (.ref f12)))
    (i12 : PySem.W.isFn K (.ref f12) = true)
    (l12 : K.lookup f12 = some ⟨oc12, od12, .func (PySem.W.fnOf "stopped" "Tape.stopped" (defArgs sTStopped) (defBody sTStopped) (defScope sTStopped) .none kV12 dc12 pm12 an12 cd12 ct12), sl12⟩)
    (c12 : PySem.W.codeIn K cd12 "Tape.stopped" = true)
    (k12 : PySem.W.keepIn K (.ref f12) = true)
    (a13 : PySem.W.findIn K (.ref CT) "step" = some (some (.ref f13)))
    (i13 : PySem.W.isFn K (.ref f13) = true)
    (l13 : K.lookup f13 = some ⟨oc13, od13, .func (PySem.W.fnOf "step" "Tape.step" (defArgs sTStep) (defBody sTStep) (defScope sTStep) .none kV13 dc13 pm13 an13 cd13 ct13), sl13⟩)
    (c13 : PySem.W.codeIn K cd13 "Tape.step" = true)
    (k13 : PySem.W.keepIn K (.ref f13) = true)
    (a14 : PySem.W.findIn K (.ref CT) "run" = some (some (.ref f14)))
    (i14 : PySem.W.isFn K (.ref f14) = true)
    (l14 : K.lookup f14 = some ⟨oc14, od14, .func (PySem.W.fnOf "run" "Tape.run" (defArgs sTRun) (defBody sTRun) (defScope sTRun) .none kV14 dc14 pm14 an14 cd14 ct14), sl14⟩)
    (c14 : PySem.W.codeIn K cd14 "Tape.run" = true)
    (k14 : PySem.W.keepIn K (.ref f14) = true)
    (a15 : PySem.W.findIn K (.ref CU) "__init__" = some (some (.ref f15)))
    (i15 : PySem.W.isFn K (.ref f15) = true)
    (l15 : K.lookup f15 = some ⟨oc15, od15, .func (PySem.W.fnOf "__init__" "UpStair.__init__" (defArgs sUInit) (defBody sUInit) (defScope sUInit) .none kV15 dc15 pm15 an15 cd15 ct15), sl15⟩)
    (c15 : PySem.W.codeIn K cd15 "UpStair.__init__" = true)
    (k15 : PySem.W.keepIn K (.ref f15) = true)
    (a16 : PySem.W.findIn K (.ref CU) "_rows" = some (some (.ref f16)))
    (i16 : PySem.W.isFn K (.ref f16) = true)
    (l16 : K.lookup f16 = some ⟨oc16, od16, .func (PySem.W.fnOf "_rows" "UpStair._rows" (defArgs sURows) (defBody sURows) (defScope sURows) .none kV16 dc16 pm16 an16 cd16 ct16), sl16⟩)
    (c16 : PySem.W.codeIn K cd16 "UpStair._rows" = true)
    (k16 : PySem.W.keepIn K (.ref f16) = true)
    (a17 : PySem.W.findIn K (.ref CU) "down" = some (some (.ref f17)))
    (i17 : PySem.W.isFn K (.ref f17) = true)
    (l17 : K.lookup f17 = some ⟨oc17, od17, .func (PySem.W.fnOf "down" "UpStair.down" (defArgs sUDown) (defBody sUDown) (defScope sUDown) .none kV17 dc17 pm17 an17 cd17 ct17), sl17⟩)
    (c17 : PySem.W.codeIn K cd17 "UpStair.down" = true)
    (k17 : PySem.W.keepIn K (.ref f17) = true)
    (a18 : PySem.W.findIn K (.ref CU) "up" = some (some (.ref f18)))
    (i18 : PySem.W.isFn K (.ref f18) = true)
    (l18 : K.lookup f18 = some ⟨oc18, od18, .func (PySem.W.fnOf "up" "UpStair.up" (defArgs sUUp) (defBody sUUp) (defScope sUUp) .none kV18 dc18 pm18 an18 cd18 ct18), sl18⟩)
    (c18 : PySem.W.codeIn K cd18 "UpStair.up" = true)
    (k18 : PySem.W.keepIn K (.ref f18) = true)
    (a19 : PySem.W.findIn K (.ref CU) "pace" = some (some (.ref f19)))
    (i19 : PySem.W.isFn K (.ref f19) = true)
    (l19 : K.lookup f19 = some ⟨oc19, od19, .func (PySem.W.fnOf "pace" "UpStair.pace" (defArgs sUPace) (defBody sUPace) (defScope sUPace) .none kV19 dc19 pm19 an19 cd19 ct19), sl19⟩)
    (c19 : PySem.W.codeIn K cd19 "UpStair.pace" = true)
    (k19 : PySem.W.keepIn K (.ref f19) = true)
    (a20 : PySem.W.findIn K (.ref CU) "ending" = some (some (.ref f20)))
    (i20 : PySem.W.isFn K (.ref f20) = true)
    (l20 : K.lookup f20 = some ⟨oc20, od20, .func (PySem.W.fnOf "ending" "UpStair.ending" (defArgs sUEnding) (defBody sUEnding) (defScope sUEnding) .none kV20 dc20 pm20 an20 cd20 ct20), sl20⟩)
    (c20 : PySem.W.codeIn K cd20 "UpStair.ending" = true)
    (k20 : PySem.W.keepIn K (.ref f20) = true)
    (a21 : PySem.W.findIn K (.ref CC) "__init__" = some (some (.ref f21)))
    (i21 : PySem.W.isFn K (.ref f21) = true)
    (l21 : K.lookup f21 = some ⟨oc21, od21, .func (PySem.W.fnOf "__init__" "Counters.__init__" (defArgs sCInit) (defBody sCInit) (defScope sCInit) .none kV21 dc21 pm21 an21 cd21 ct21), sl21⟩)
    (c21 : PySem.W.codeIn K cd21 "Counters.__init__" = true)
    (k21 : PySem.W.keepIn K (.ref f21) = true)
    (a22 : PySem.W.findIn K (.ref CC) "row" = some (some (.ref f22)))
    (i22 : PySem.W.isFn K (.ref f22) = true)
    (l22 : K.lookup f22 = some ⟨oc22, od22, .func (PySem.W.fnOf "row" "Counters.row" (defArgs sCRow) (defBody sCRow) (defScope sCRow) .none kV22 dc22 pm22 an22 cd22 ct22), sl22⟩)
    (c22 : PySem.W.codeIn K cd22 "Counters.row" = true)
    (k22 : PySem.W.keepIn K (.ref f22) = true)
    (a23 : PySem.W.findIn K (.ref CC) "stopped" = some (some (.ref f23)))
    (i23 : PySem.W.isFn K (.ref f23) = true)
    (l23 : K.lookup f23 = some ⟨oc23, od23, .func (PySem.W.fnOf "stopped" "Counters.stopped" (defArgs sCStopped) (defBody sCStopped) (defScope sCStopped) .none kV23 dc23 pm23 an23 cd23 ct23), sl23⟩)
    (c23 : PySem.W.codeIn K cd23 "Counters.stopped" = true)
    (k23 : PySem.W.keepIn K (.ref f23) = true)
    (a24 : PySem.W.findIn K (.ref CC) "step" = some (some (.ref f24)))
    (i24 : PySem.W.isFn K (.ref f24) = true)
    (l24 : K.lookup f24 = some ⟨oc24, od24, .func (PySem.W.fnOf "step" "Counters.step" (defArgs sCStep) (defBody sCStep) (defScope sCStep) .none kV24 dc24 pm24 an24 cd24 ct24), sl24⟩)
    (c24 : PySem.W.codeIn K cd24 "Counters.step" = true)
    (k24 : PySem.W.keepIn K (.ref f24) = true)
    (pgT : PySem.W.plainGet K CT Str.empty = true)
    (hdT : PySem.W.hasDictIn K CT = true)
    (poT : PySem.W.plainOver K CT = true)
    (saT : PySem.W.findIn K (.ref CT) "__setattr__" = some (some (.builtin "object.__setattr__")))
    (mkT : PySem.W.makesIn K CT = true)
    (kcT : PySem.W.keepIn K (.ref CT) = true)
    (nT0 : PySem.W.findIn K (.ref CT) "_rows" = some none)
    (nT1 : PySem.W.findIn K (.ref CT) "marks" = some none)
    (nT2 : PySem.W.findIn K (.ref CT) "states" = some none)
    (pgU : PySem.W.plainGet K CU Str.empty = true)
    (hdU : PySem.W.hasDictIn K CU = true)
    (poU : PySem.W.plainOver K CU = true)
    (saU : PySem.W.findIn K (.ref CU) "__setattr__" = some (some (.builtin "object.__setattr__")))
    (mkU : PySem.W.makesIn K CU = true)
    (kcU : PySem.W.keepIn K (.ref CU) = true)
    (nU0 : PySem.W.findIn K (.ref CU) "_origin" = some none)
    (nU1 : PySem.W.findIn K (.ref CU) "upper" = some none)
    (nU2 : PySem.W.findIn K (.ref CU) "lower" = some none)
    (pgC : PySem.W.plainGet K CC Str.empty = true)
    (hdC : PySem.W.hasDictIn K CC = true)
    (poC : PySem.W.plainOver K CC = true)
    (saC : PySem.W.findIn K (.ref CC) "__setattr__" = some (some (.builtin "object.__setattr__")))
    (mkC : PySem.W.makesIn K CC = true)
    (kcC : PySem.W.keepIn K (.ref CC) = true)
    (nC0 : PySem.W.findIn K (.ref CC) "_rows" = some none)
    (nC1 : PySem.W.findIn K (.ref CC) "count" = some none)
    (nC2 : PySem.W.findIn K (.ref CC) "states" = some none)
    (v0 : PySem.W.nsIn K mainGlobals "MOST_MARKS" = some (some (.int 16 tk0)))
    (v1 : PySem.W.nsIn K mainGlobals "MOST_STATES_tape" = some (some (.int 4000 tk1)))
    (v2 : PySem.W.nsIn K mainGlobals "MOST_COUNTERS_upstair" = some (some (.int 3 tk2)))
    (v3 : PySem.W.nsIn K mainGlobals "MOST_STATES_upstair" = some (some (.int 1000 tk3)))
    (v4 : PySem.W.nsIn K mainGlobals "BLOCK" = some (some (.int 4 tk4)))
    (v5 : PySem.W.nsIn K mainGlobals "MOST_COUNTERS_counters" = some (some (.int 4 tk5)))
    (v6 : PySem.W.nsIn K mainGlobals "MOST_STATES_counters" = some (some (.int 40000 tk6)))
    (z0 : PySem.W.nsIn K mainGlobals "isinstance" = some none)
    (z1 : PySem.W.nsIn K mainGlobals "int" = some none)
    (z2 : PySem.W.nsIn K mainGlobals "bool" = some none)
    (z3 : PySem.W.nsIn K mainGlobals "tuple" = some none)
    (z4 : PySem.W.nsIn K mainGlobals "list" = some none)
    (z5 : PySem.W.nsIn K mainGlobals "len" = some none)
    (z6 : PySem.W.nsIn K mainGlobals "range" = some none)
    (z7 : PySem.W.nsIn K mainGlobals "max" = some none)
    (z8 : PySem.W.nsIn K mainGlobals "sum" = some none)
    (z9 : PySem.W.nsIn K mainGlobals "all" = some none)
    (z10 : PySem.W.nsIn K mainGlobals "abs" = some none) :
    ∃ fd : FuncData, (∀ (s : Shared) (v : Value), BindsTo s fd ⟨[v], []⟩ [("_law_script", v)]) ∧ ∀ base : Heap, K.In base → base.Ns mainGlobals mg → FnOk l.prog w K mg base CX0 7 fa fd ["_law_script"] (spLaw K) := by
  have e := hfa.symm.trans (PySem.W.mg_of X G a8)
  cases e
  have B : Blt mg := ⟨PySem.W.mg_none_of X G z0, PySem.W.mg_none_of X G z1, PySem.W.mg_none_of X G z2, PySem.W.mg_none_of X G z3, PySem.W.mg_none_of X G z4, PySem.W.mg_none_of X G z5, PySem.W.mg_none_of X G z6, PySem.W.mg_none_of X G z7, PySem.W.mg_none_of X G z8, PySem.W.mg_none_of X G z9, PySem.W.mg_none_of X G z10⟩
  have V0 : Num mg "MOST_MARKS" 16 := ⟨_, PySem.W.mg_of X G v0⟩
  have V1 : Num mg "MOST_STATES_tape" 4000 := ⟨_, PySem.W.mg_of X G v1⟩
  have V2 : Num mg "MOST_COUNTERS_upstair" 3 := ⟨_, PySem.W.mg_of X G v2⟩
  have V3 : Num mg "MOST_STATES_upstair" 1000 := ⟨_, PySem.W.mg_of X G v3⟩
  have V4 : Num mg "BLOCK" 4 := ⟨_, PySem.W.mg_of X G v4⟩
  have V5 : Num mg "MOST_COUNTERS_counters" 4 := ⟨_, PySem.W.mg_of X G v5⟩
  have V6 : Num mg "MOST_STATES_counters" 40000 := ⟨_, PySem.W.mg_of X G v6⟩
  have TT : TTxt K CT := ⟨⟨pgT, hdT, poT, saT⟩, nT0, nT1, nT2⟩
  have TU : UTxt K CU := ⟨⟨pgU, hdU, poU, saU⟩, nU0, nU1, nU2⟩
  have TC : CTxt K CC := ⟨⟨pgC, hdC, poC, saC⟩, nC0, nC1, nC2⟩
  have F0 := fun_mk (st := sIsInt) l0 c0 k0
  have b0 := F0.binds (ps := ["value", "least", "most"]) fun _ _ _ _ _ _ us hl => match us, hl with | [_, _, _], _ => rfl
  have F1 := fun_mk (st := sTrim) l1 c1 k1
  have b1 := F1.binds (ps := ["marks"]) fun _ _ _ _ _ _ us hl => match us, hl with | [_], _ => rfl
  have F2 := fun_mk (st := sIsNum) l2 c2 k2
  have b2 := F2.binds (ps := ["value", "bound"]) fun _ _ _ _ _ _ us hl => match us, hl with | [_, _], _ => rfl
  have F3 := fun_mk (st := sRowOk) l3 c3 k3
  have b3 := F3.binds (ps := ["row", "count", "states"]) fun _ _ _ _ _ _ us hl => match us, hl with | [_, _, _], _ => rfl
  have F4 := fun_mk (st := sChanged) l4 c4 k4
  have b4 := F4.binds (ps := ["counters", "number", "amount"]) fun _ _ _ _ _ _ us hl => match us, hl with | [_, _, _], _ => rfl
  have F5 := fun_mk (st := sDraws) l5 c5 k5
  have b5 := F5.binds (ps := ["_law_script", "_law_many"]) fun _ _ _ _ _ _ us hl => match us, hl with | [_, _], _ => rfl
  have F6 := fun_mk (st := sCRows) l6 c6 k6
  have b6 := F6.binds (ps := ["_law_draws_here", "_law_count", "_law_states"]) fun _ _ _ _ _ _ us hl => match us, hl with | [_, _, _], _ => rfl
  have F7 := fun_mk (st := sPromise) l7 c7 k7
  have b7 := F7.binds (ps := ["_law_stair", "_law_here"]) fun _ _ _ _ _ _ us hl => match us, hl with | [_, _], _ => rfl
  have F8 := fun_mk (st := sLaw) l8 c8 k8
  have b8 := F8.binds (ps := ["_law_script"]) fun _ _ _ _ _ _ us hl => match us, hl with | [_], _ => rfl
  have F9 := fun_mk (st := sTInit) l9 c9 k9
  have b9 := F9.binds (ps := ["self", "marks", "states", "rows"]) fun _ _ _ _ _ _ us hl => match us, hl with | [_, _, _, _], _ => rfl
  have F10 := fun_mk (st := sTIsRow) l10 c10 k10
  have b10 := F10.binds (ps := ["self", "row"]) fun _ _ _ _ _ _ us hl => match us, hl with | [_, _], _ => rfl
  have F11 := fun_mk (st := sTRow) l11 c11 k11
  have b11 := F11.binds (ps := ["self", "state", "mark"]) fun _ _ _ _ _ _ us hl => match us, hl with | [_, _, _], _ => rfl
  have F12 := fun_mk (st := sTStopped) l12 c12 k12
  have b12 := F12.binds (ps := ["self", "configuration"]) fun _ _ _ _ _ _ us hl => match us, hl with | [_, _], _ => rfl
  have F13 := fun_mk (st := sTStep) l13 c13 k13
  have b13 := F13.binds (ps := ["self", "configuration"]) fun _ _ _ _ _ _ us hl => match us, hl with | [_, _], _ => rfl
  have F14 := fun_mk (st := sTRun) l14 c14 k14
  have b14 := F14.binds (ps := ["self", "configuration", "steps"]) fun _ _ _ _ _ _ us hl => match us, hl with | [_, _, _], _ => rfl
  have F15 := fun_mk (st := sUInit) l15 c15 k15
  have b15 := F15.binds (ps := ["self", "upper"]) fun _ _ _ _ _ _ us hl => match us, hl with | [_, _], _ => rfl
  have F16 := fun_mk (st := sURows) l16 c16 k16
  have b16 := F16.binds (ps := ["self", "state", "row"]) fun _ _ _ _ _ _ us hl => match us, hl with | [_, _, _], _ => rfl
  have F17 := fun_mk (st := sUDown) l17 c17 k17
  have b17 := F17.binds (ps := ["self", "configuration"]) fun _ _ _ _ _ _ us hl => match us, hl with | [_, _], _ => rfl
  have F18 := fun_mk (st := sUUp) l18 c18 k18
  have b18 := F18.binds (ps := ["self", "configuration"]) fun _ _ _ _ _ _ us hl => match us, hl with | [_, _], _ => rfl
  have F19 := fun_mk (st := sUPace) l19 c19 k19
  have b19 := F19.binds (ps := ["self", "configuration"]) fun _ _ _ _ _ _ us hl => match us, hl with | [_, _], _ => rfl
  have F20 := fun_mk (st := sUEnding) l20 c20 k20
  have b20 := F20.binds (ps := ["self", "configuration"]) fun _ _ _ _ _ _ us hl => match us, hl with | [_, _], _ => rfl
  have F21 := fun_mk (st := sCInit) l21 c21 k21
  have b21 := F21.binds (ps := ["self", "count", "rows"]) fun _ _ _ _ _ _ us hl => match us, hl with | [_, _, _], _ => rfl
  have F22 := fun_mk (st := sCRow) l22 c22 k22
  have b22 := F22.binds (ps := ["self", "state"]) fun _ _ _ _ _ _ us hl => match us, hl with | [_, _], _ => rfl
  have F23 := fun_mk (st := sCStopped) l23 c23 k23
  have b23 := F23.binds (ps := ["self", "configuration"]) fun _ _ _ _ _ _ us hl => match us, hl with | [_, _], _ => rfl
  have F24 := fun_mk (st := sCStep) l24 c24 k24
  have b24 := F24.binds (ps := ["self", "configuration"]) fun _ _ _ _ _ _ us hl => match us, hl with | [_, _], _ => rfl
  refine ⟨PySem.W.fnOf "law" "law" (defArgs sLaw) (defBody sLaw) (defScope sLaw) .none kV8 dc8 pm8 an8 cd8 ct8, fun s v => .of_eq rfl, fun base _ _ => ?_⟩
  have gIsInt : GF l.prog w K mg base "is_integer" 1 ["value", "least", "most"] spIsInt f0 _ := ⟨ok_isInt F0 B.isi B.int B.bool, PySem.W.mg_of X G a0, F0.kp, b0⟩
  have gIsNum : GF l.prog w K mg base "is_number" 1 ["value", "bound"] spIsNum f2 _ := ⟨ok_isNum F2 B.isi B.int B.bool, PySem.W.mg_of X G a2, F2.kp, b2⟩
  have gTrim : GF l.prog w K mg base "trimmed" 1 ["marks"] spTrim f1 _ := ⟨ok_trim F1 B.len B.tuple, PySem.W.mg_of X G a1, F1.kp, b1⟩
  have gRowOk : GF l.prog w K mg base "is_counter_row" 2 ["row", "count", "states"] spRowOk f3 _ := ⟨ok_rowOk F3 B gIsNum, PySem.W.mg_of X G a3, F3.kp, b3⟩
  have gChg : GF l.prog w K mg base "changed" 1 ["counters", "number", "amount"] spChanged f4 _ := ⟨ok_changed F4, PySem.W.mg_of X G a4, F4.kp, b4⟩
  have mCRow : MF l.prog w K mg base CC "row" 2 ["self", "state"] (spCRow CC) f22 _ := ⟨ok_cRow F22 TC gIsNum, ⟨a22, i22, k22⟩, b22⟩
  have mCStopped : MF l.prog w K mg base CC "stopped" 1 ["self", "configuration"] (spCStopped CC) f23 _ := ⟨ok_cStopped F23 TC, ⟨a23, i23, k23⟩, b23⟩
  have mCStep : MF l.prog w K mg base CC "step" 2 ["self", "configuration"] (spCStep CC) f24 _ := ⟨ok_cStep F24 TC gChg, ⟨a24, i24, k24⟩, b24⟩
  have gCInit : FnOk l.prog w K mg base CX0 3 f21 _ ["self", "count", "rows"] (spCInit CC) := ok_cInit F21 TC B gIsNum gRowOk V5 V6
  have mTIsRow : MF l.prog w K mg base CT "_is_row" 2 ["self", "row"] (spTIsRow CT) f10 _ := ⟨ok_tIsRow F10 TT B gIsInt, ⟨a10, i10, k10⟩, b10⟩
  have mTRow : MF l.prog w K mg base CT "row" 2 ["self", "state", "mark"] (spTRow CT) f11 _ := ⟨ok_tRow F11 TT gIsInt, ⟨a11, i11, k11⟩, b11⟩
  have mTStopped : MF l.prog w K mg base CT "stopped" 3 ["self", "configuration"] (spTStopped CT) f12 _ := ⟨ok_tStopped F12 TT mTRow, ⟨a12, i12, k12⟩, b12⟩
  have mTStep : MF l.prog w K mg base CT "step" 3 ["self", "configuration"] (spTStep CT) f13 _ := ⟨ok_tStep F13 TT mTRow gTrim, ⟨a13, i13, k13⟩, b13⟩
  have mTRun : MF l.prog w K mg base CT "run" 4 ["self", "configuration", "steps"] (spTRun CT) f14 _ := ⟨ok_tRun F14 TT mTStep, ⟨a14, i14, k14⟩, b14⟩
  have gTInit : FnOk l.prog w K mg base CX0 3 f9 _ ["self", "marks", "states", "rows"] (spTInit CT) := ok_tInit F9 TT B gIsInt mTIsRow V0 V1
  have mURows : MF l.prog w K mg base CU "_rows" 1 ["self", "state", "row"] (spURows CU) f16 _ := ⟨ok_uRows F16 TU B V4, ⟨a16, i16, k16⟩, b16⟩
  have mUDown : MF l.prog w K mg base CU "down" 1 ["self", "configuration"] (spUDown CU) f17 _ := ⟨ok_uDown F17 TU B V4, ⟨a17, i17, k17⟩, b17⟩
  have mUUp : MF l.prog w K mg base CU "up" 2 ["self", "configuration"] (spUUp CU CC) f18 _ := ⟨ok_uUp F18 TU TC B V4 mUDown, ⟨a18, i18, k18⟩, b18⟩
  have mUPace : MF l.prog w K mg base CU "pace" 3 ["self", "configuration"] (spUPace CU CC) f19 _ := ⟨ok_uPace F19 TU TC mCRow, ⟨a19, i19, k19⟩, b19⟩
  have mUEnd : MF l.prog w K mg base CU "ending" 1 ["self", "configuration"] spUEnding f20 _ := ⟨ok_uEnding F20, ⟨a20, i20, k20⟩, b20⟩
  have gUInit : FnOk l.prog w K mg base CX0 5 f15 _ ["self", "upper"] (spUInit CU CC CT) := ok_uInit F15 TU TC B mURows mCRow ⟨mkT, a9, i9, kcT⟩ (PySem.W.mg_of X G aT) gTInit b9 V4 V2 V3
  have gDraws : GF l.prog w K mg base "_law_draws" 1 ["_law_script", "_law_many"] (spDraws K) f5 _ := ⟨ok_draws F5 B, PySem.W.mg_of X G a5, F5.kp, b5⟩
  have gCRows : GF l.prog w K mg base "_law_counter_rows" 1 ["_law_draws_here", "_law_count", "_law_states"] spCRows f6 _ := ⟨ok_cRows F6 B, PySem.W.mg_of X G a6, F6.kp, b6⟩
  have LO : Lower l.prog w K mg base CT _ _ _ _ _ _ := ⟨TT, mTStopped, mTStep, mTRun⟩
  have UP : Upper l.prog w K mg base CC _ _ _ _ := ⟨TC, mCStopped, mCStep⟩
  have ST : Stair l.prog w K mg base CU CC _ _ _ _ _ _ _ _ := ⟨TU, mUDown, mUUp, mUPace, mUEnd⟩
  have gProm : GF l.prog w K mg base "_law_promise" 4 ["_law_stair", "_law_here"] (spPromise CU CC CT) f7 _ := ⟨ok_promise F7 B LO UP ST, PySem.W.mg_of X G a7, F7.kp, b7⟩
  exact ok_law F8 B LO UP ST gDraws gCRows gProm ⟨mkC, a21, i21, kcC⟩ (PySem.W.mg_of X G aC) gCInit b21 ⟨mkU, a15, i15, kcU⟩ (PySem.W.mg_of X G aU) gUInit b15
theorem walk {l : PySem.W.OpenLaw} {q : Program} {loose : List Str} {XP : (Str → Option Value) → Heap → Prop} {YP : World → Heap → Prop} {d : DefRec} {K : Params → PySem.W.Frag} (hn : l.most = some 63) (hdf : d.params.defaults = [])
    (hY : ∀ (w : World) (h : Heap), YP w h → (K w.params).In h)
    (F : ∀ (w : World) (mg : Str → Option Value) (fa : Addr) (h : Heap), (K w.params).In h → h.Ns mainGlobals mg → mg d.name = some (.ref fa) →
      ∃ fd : FuncData, (∀ (s : Shared) (u : Value), BindsTo s fd ⟨[u], []⟩ [("_law_script", u)]) ∧ ∀ base : Heap, (K w.params).In base → base.Ns mainGlobals mg → FnOk l.prog w (K w.params) mg base CX0 7 fa fd ["_law_script"] (spLaw (K w.params))) :
    PySem.W.WalkO q loose XP YP l.row.toRowW d [] (fun f vs => PySem.call f vs) :=
  L2.walk_of (n := 63) (k := 7) (x := "_law_script") (CX := fun _ => CX0) (sp := fun w => spLaw (K w.params)) hn (by decide) hdf ⟨rfl, by decide, by decide⟩ hY F (fun _ _ a ns hl _ hS => ⟨a, ns, rfl, hS, hl, fun _ => rfl⟩) fun _ _ _ _ _ z => z
end K47

open PySem PySem.W PyProof.Rows
set_option maxRecDepth 100000 in
set_option maxHeartbeats 0 in
theorem PySem.Challenge.cw_stepdown_k47_whole_a_tape_does_what_coun_holds : PySem.Challenge.rw_stepdown_k47_whole_a_tape_does_what_coun.Holds := by
  w_on; o_law; k_head; (case hw => w_witness2)
  k_fill
  refine K47.walk (l := PySem.Challenge.rw_stepdown_k47_whole_a_tape_does_what_coun) rfl rfl (fun w h Y => PySem.W.kIn_of Y) ?F
  case F =>
    intro w mg fa h KX G hmg
    refine' K47.all_mk KX G hmg ?aT ?aU ?aC ?a0 ?l0 ?c0 ?k0 ?a1 ?l1 ?c1 ?k1 ?a2 ?l2 ?c2 ?k2 ?a3 ?l3 ?c3 ?k3 ?a4 ?l4 ?c4 ?k4 ?a5 ?l5 ?c5 ?k5 ?a6 ?l6 ?c6 ?k6 ?a7 ?l7 ?c7 ?k7 ?a8 ?l8 ?c8 ?k8 ?a9 ?i9 ?l9 ?c9 ?k9 ?a10 ?i10 ?l10 ?c10 ?k10 ?a11 ?i11 ?l11 ?c11 ?k11 ?a12 ?i12 ?l12 ?c12 ?k12 ?a13 ?i13 ?l13 ?c13 ?k13 ?a14 ?i14 ?l14 ?c14 ?k14 ?a15 ?i15 ?l15 ?c15 ?k15 ?a16 ?i16 ?l16 ?c16 ?k16 ?a17 ?i17 ?l17 ?c17 ?k17 ?a18 ?i18 ?l18 ?c18 ?k18 ?a19 ?i19 ?l19 ?c19 ?k19 ?a20 ?i20 ?l20 ?c20 ?k20 ?a21 ?i21 ?l21 ?c21 ?k21 ?a22 ?i22 ?l22 ?c22 ?k22 ?a23 ?i23 ?l23 ?c23 ?k23 ?a24 ?i24 ?l24 ?c24 ?k24 ?pgT ?hdT ?poT ?saT ?mkT ?kcT ?nT0 ?nT1 ?nT2 ?pgU ?hdU ?poU ?saU ?mkU ?kcU ?nU0 ?nU1 ?nU2 ?pgC ?hdC ?poC ?saC ?mkC ?kcC ?nC0 ?nC1 ?nC2 ?v0 ?v1 ?v2 ?v3 ?v4 ?v5 ?v6 ?z0 ?z1 ?z2 ?z3 ?z4 ?z5 ?z6 ?z7 ?z8 ?z9 ?z10
    (case aT => k_is)
    (case aU => k_is)
    (case aC => k_is)
    (case a0 => k_is)
    (case l0 => k_is)
    (case c0 => k_is)
    (case k0 => k_is)
    (case a1 => k_is)
    (case l1 => k_is)
    (case c1 => k_is)
    (case k1 => k_is)
    (case a2 => k_is)
    (case l2 => k_is)
    (case c2 => k_is)
    (case k2 => k_is)
    (case a3 => k_is)
    (case l3 => k_is)
    (case c3 => k_is)
    (case k3 => k_is)
    (case a4 => k_is)
    (case l4 => k_is)
    (case c4 => k_is)
    (case k4 => k_is)
    (case a5 => k_is)
    (case l5 => k_is)
    (case c5 => k_is)
    (case k5 => k_is)
    (case a6 => k_is)
    (case l6 => k_is)
    (case c6 => k_is)
    (case k6 => k_is)
    (case a7 => k_is)
    (case l7 => k_is)
    (case c7 => k_is)
    (case k7 => k_is)
    (case a8 => k_is)
    (case l8 => k_is)
    (case c8 => k_is)
    (case k8 => k_is)
    (case a9 => k_is)
    (case i9 => k_is)
    (case l9 => k_is)
    (case c9 => k_is)
    (case k9 => k_is)
    (case a10 => k_is)
    (case i10 => k_is)
    (case l10 => k_is)
    (case c10 => k_is)
    (case k10 => k_is)
    (case a11 => k_is)
    (case i11 => k_is)
    (case l11 => k_is)
    (case c11 => k_is)
    (case k11 => k_is)
    (case a12 => k_is)
    (case i12 => k_is)
    (case l12 => k_is)
    (case c12 => k_is)
    (case k12 => k_is)
    (case a13 => k_is)
    (case i13 => k_is)
    (case l13 => k_is)
    (case c13 => k_is)
    (case k13 => k_is)
    (case a14 => k_is)
    (case i14 => k_is)
    (case l14 => k_is)
    (case c14 => k_is)
    (case k14 => k_is)
    (case a15 => k_is)
    (case i15 => k_is)
    (case l15 => k_is)
    (case c15 => k_is)
    (case k15 => k_is)
    (case a16 => k_is)
    (case i16 => k_is)
    (case l16 => k_is)
    (case c16 => k_is)
    (case k16 => k_is)
    (case a17 => k_is)
    (case i17 => k_is)
    (case l17 => k_is)
    (case c17 => k_is)
    (case k17 => k_is)
    (case a18 => k_is)
    (case i18 => k_is)
    (case l18 => k_is)
    (case c18 => k_is)
    (case k18 => k_is)
    (case a19 => k_is)
    (case i19 => k_is)
    (case l19 => k_is)
    (case c19 => k_is)
    (case k19 => k_is)
    (case a20 => k_is)
    (case i20 => k_is)
    (case l20 => k_is)
    (case c20 => k_is)
    (case k20 => k_is)
    (case a21 => k_is)
    (case i21 => k_is)
    (case l21 => k_is)
    (case c21 => k_is)
    (case k21 => k_is)
    (case a22 => k_is)
    (case i22 => k_is)
    (case l22 => k_is)
    (case c22 => k_is)
    (case k22 => k_is)
    (case a23 => k_is)
    (case i23 => k_is)
    (case l23 => k_is)
    (case c23 => k_is)
    (case k23 => k_is)
    (case a24 => k_is)
    (case i24 => k_is)
    (case l24 => k_is)
    (case c24 => k_is)
    (case k24 => k_is)
    (case pgT => k_is)
    (case hdT => k_is)
    (case poT => k_is)
    (case saT => k_is)
    (case mkT => k_is)
    (case kcT => k_is)
    (case nT0 => k_is)
    (case nT1 => k_is)
    (case nT2 => k_is)
    (case pgU => k_is)
    (case hdU => k_is)
    (case poU => k_is)
    (case saU => k_is)
    (case mkU => k_is)
    (case kcU => k_is)
    (case nU0 => k_is)
    (case nU1 => k_is)
    (case nU2 => k_is)
    (case pgC => k_is)
    (case hdC => k_is)
    (case poC => k_is)
    (case saC => k_is)
    (case mkC => k_is)
    (case kcC => k_is)
    (case nC0 => k_is)
    (case nC1 => k_is)
    (case nC2 => k_is)
    (case v0 => k_is)
    (case v1 => k_is)
    (case v2 => k_is)
    (case v3 => k_is)
    (case v4 => k_is)
    (case v5 => k_is)
    (case v6 => k_is)
    (case z0 => k_is)
    (case z1 => k_is)
    (case z2 => k_is)
    (case z3 => k_is)
    (case z4 => k_is)
    (case z5 => k_is)
    (case z6 => k_is)
    (case z7 => k_is)
    (case z8 => k_is)
    (case z9 => k_is)
    (case z10 => k_is)
