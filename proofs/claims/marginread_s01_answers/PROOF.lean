import PyProof.Rows.All
import Wide.All
import OpenK.AllK
import Wide.FinOn
import Open.SpecLaws
import KE.OsGo
import HandS.ForSpec
import HandS.Comp
import HandS.Iter
import HandS.Walk
import HandS.Dict
import HandS.IsInst
import HandS.ExcInit
import HandS.ExcField
import HandS.SortInts
import PySem.Challenge.RW_marginread_s01_answers
import PySq16
import KE.KDictZip
import KE.KItemsList
/-! ## MrMath -/
set_option Elab.async false
set_option linter.all false
/-! # The plain side of reading: a line's beginning, a word; spans, sizes, depths. -/
namespace Mr
open Sq16

/-! ### one word, one line's beginning -/
def wordStep (ks : List Kind) (n w : Nat) (last : Bool) (s : State) : Read :=
  match s.brackets, kindOf ks w with
  | b, .opens c => .ok ⟨putWord (.word w n) s.stack, c :: b, false⟩
  | b :: bs, .closes => if b = w then .ok ⟨putWord (.word w n) s.stack, bs, false⟩ else .error 5
  | [], .closes => .error 5
  | [], .block => if last = true then .ok ⟨putWord (.word w n) s.stack, [], true⟩ else if DEEP ≤ (putWord (.word w n) s.stack).length then .error 7 else .ok ⟨⟨none, [], []⟩ :: putWord (.word w n) s.stack, [], false⟩
  | b, _ => .ok ⟨putWord (.word w n) s.stack, b, false⟩

theorem words_cons (ks : List Kind) (n w : Nat) (l : List Nat) (s : State) :
    words ks n (w :: l) s = match wordStep ks n w l.isEmpty s with
      | .error e => .error e
      | .ok t => words ks n l t := by
  obtain ⟨st, br, du⟩ := s
  conv => lhs; unfold words
  unfold wordStep
  cases hk : kindOf ks w <;> cases br <;> cases l <;> first | rfl | (simp; done) | (simp only; split <;> rfl) | (simp; split <;> first | rfl | (split <;> rfl))

theorem words_due (ks : List Kind) (n w : Nat) (l : List Nat) (s : State) (d : Bool) : words ks n (w :: l) { s with due := d } = words ks n (w :: l) s := by
  obtain ⟨st, br, du⟩ := s
  rw [words_cons, words_cons]
  rfl

/-- a line begins, outside of brackets -/
def beginLine (ks : List Kind) (x : Line) (s : State) : Read :=
  match s.stack with
  | [] => if isOn ks x = true then .error 3 else .ok ⟨[⟨some x.column, [], []⟩], s.brackets, false⟩
  | _ :: _ =>
    if s.due = true then
      if x.column ≤ columnOf s.stack then .error 2
      else if isOn ks x = true then .error 3
      else if DEEP ≤ s.stack.length then .error 7
      else .ok ⟨⟨some x.column, [], []⟩ :: s.stack, s.brackets, false⟩
    else
      match (settle x.column s.stack.length false s.stack).2 with
      | [] => .error 1
      | o :: l =>
        if x.column < columnOf (o :: l) then .error 1
        else if x.column = columnOf (o :: l) then
          if isOn ks x = true then .ok ⟨o :: l, s.brackets, false⟩
          else .ok ⟨⟨o.column, o.now.reverse :: o.done, []⟩ :: l, s.brackets, false⟩
        else if (settle x.column s.stack.length false s.stack).1 = true then .error 1
        else if (endsInBlock o && !isOn ks x) = true then .error 4
        else .ok ⟨o :: l, s.brackets, false⟩

theorem line_eq (ks : List Kind) (n : Nat) (x : Line) (s : State) : line ks n x s =
    if x.words = [] then .ok s
    else if s.brackets ≠ [] then words ks n x.words s
    else match beginLine ks x s with
      | .error e => .error e
      | .ok t => words ks n x.words t := by
  obtain ⟨c, ws⟩ := x
  obtain ⟨st, br, du⟩ := s
  cases ws with
  | nil => simp [line]
  | cons w l =>
    unfold line beginLine
    by_cases hb : br = []
    · subst hb
      simp only [reduceCtorEq, if_false, ne_eq, not_true_eq_false]
      cases st with
      | nil =>
        simp only
        split
        · rfl
        · exact (words_due ks n w l ⟨_, _, du⟩ false).symm
      | cons o r =>
        simp only
        cases du with
        | true =>
          simp only [if_true]
          split
          · rfl
          · split
            · rfl
            · split
              · rfl
              · exact (words_due ks n w l ⟨_, _, true⟩ false).symm
        | false =>
          simp only [Bool.false_eq_true, if_false]
          cases hq : (settle c (o :: r).length false (o :: r)).2 with
          | nil => simp
          | cons o' l' =>
            simp only
            split
            · rfl
            · split
              · split
                · rfl
                · rfl
              · split
                · rfl
                · split
                  · rfl
                  · rfl
    · simp [hb]

/-! ### spans -/
abbrev Span := Option (Nat × Nat)
def touch (n : Nat) : Span → Span
  | none => some (n, n)
  | some x => some (min x.1 n, max x.2 n)
theorem spanItems_cons_word (a : Span) (w n : Nat) (l : List Item) : spanItems a (.word w n :: l) = spanItems (touch n a) l := by
  cases a with
  | none => rw [spanItems, touch]
  | some x => rw [spanItems, touch]
theorem spanItems_cons_block (a : Span) (b : List (List Item)) (l : List Item) : spanItems a (.block b :: l) = spanItems (spanAll a b) l := by rw [spanItems]
theorem spanItems_append : ∀ (l m : List Item) (a : Span), spanItems a (l ++ m) = spanItems (spanItems a l) m
  | [], m, a => by rw [List.nil_append, spanItems]
  | .word w n :: l, m, a => by
    rw [List.cons_append, spanItems_cons_word, spanItems_cons_word]
    exact spanItems_append l m _
  | .block b :: l, m, a => by
    rw [List.cons_append, spanItems_cons_block, spanItems_cons_block]
    exact spanItems_append l m _
theorem spanAll_append : ∀ (l m : List (List Item)) (a : Span), spanAll a (l ++ m) = spanAll (spanAll a l) m
  | [], m, a => by simp [spanAll]
  | s :: l, m, a => by
    rw [List.cons_append]
    simp only [spanAll]
    exact spanAll_append l m _
theorem spanItems_word (a : Span) (w n : Nat) : spanItems a [.word w n] = touch n a := by
  cases a <;> simp [spanItems, touch]
theorem spanItems_block (a : Span) (b : List (List Item)) : spanItems a [.block b] = spanAll a b := by simp [spanItems]
theorem spanAll_one (a : Span) (s : List Item) : spanAll a [s] = spanItems a s := by simp [spanAll]
theorem spanItems_nil (a : Span) : spanItems a [] = a := by simp [spanItems]
theorem spanAll_nil (a : Span) : spanAll a [] = a := by simp [spanAll]

def spanOpen (m : Span) (o : Open) : Span := spanItems (spanAll m o.done.reverse) o.now.reverse
/-- the spans of the statements that are being read, the inner first; g: what the blocks within add -/
def spansG (g : Span → Span) : List Open → List Span
  | [] => []
  | o :: l => g (spanItems none o.now.reverse) :: spansG (fun m => g (spanOpen m o)) l
abbrev spans (l : List Open) : List Span := spansG id l
theorem spansG_map (n : Nat) : ∀ (l : List Open) (g : Span → Span), spansG (fun m => touch n (g m)) l = (spansG g l).map (touch n)
  | [], _ => rfl
  | o :: l, g => by
    show touch n (g (spanItems none o.now.reverse)) :: spansG (fun m => touch n (g (spanOpen m o))) l = touch n (g (spanItems none o.now.reverse)) :: (spansG (fun m => g (spanOpen m o)) l).map (touch n)
    rw [spansG_map n l (fun m => g (spanOpen m o))]
theorem spansG_len : ∀ (l : List Open) (g : Span → Span), (spansG g l).length = l.length
  | [], _ => rfl
  | o :: l, g => by simp [spansG, spansG_len l]
theorem spanOpen_put (m : Span) (o : Open) (w n : Nat) : spanOpen m (o.put (.word w n)) = touch n (spanOpen m o) := by
  unfold spanOpen Open.put
  simp only [List.reverse_cons]
  rw [spanItems_append, spanItems_word]
theorem spans_put (w n : Nat) : ∀ l : List Open, spans (putWord (.word w n) l) = (spans l).map (touch n)
  | [] => rfl
  | o :: l => by
    unfold spans
    simp only [putWord, spansG, List.map_cons]
    have e : (fun m => id (spanOpen m (o.put (.word w n)))) = (fun m => touch n ((fun m => id (spanOpen m o)) m)) := by
      funext m
      exact spanOpen_put m o w n
    rw [e, spansG_map n l (fun m => id (spanOpen m o))]
    simp [Open.put, spanItems_append, spanItems_word]
theorem spanOpen_nil (c : Option Nat) (m : Span) : spanOpen m ⟨c, [], []⟩ = m := by simp [spanOpen, spanAll, spanItems]
theorem spans_open (c : Option Nat) (l : List Open) : spans (⟨c, [], []⟩ :: l) = none :: spans l := by
  unfold spans
  simp only [spansG]
  have e : (fun m => id (spanOpen m ⟨c, [], []⟩)) = (id : Span → Span) := by
    funext m
    exact spanOpen_nil c m
  rw [e]
  simp [spanItems]
theorem spanOpen_begin (m : Span) (o : Open) : spanOpen m ⟨o.column, o.now.reverse :: o.done, []⟩ = spanOpen m o := by
  unfold spanOpen
  simp only [List.reverse_cons, List.reverse_nil]
  rw [spanAll_append, spanAll_one, spanItems_nil]
theorem spans_begin (o : Open) (l : List Open) : spans (⟨o.column, o.now.reverse :: o.done, []⟩ :: l) = none :: (spans (o :: l)).tail := by
  unfold spans
  simp only [spansG, List.tail_cons]
  have e : (fun m => id (spanOpen m ⟨o.column, o.now.reverse :: o.done, []⟩)) = (fun m => id (spanOpen m o)) := by
    funext m
    exact spanOpen_begin m o
  rw [e]
  simp [spanItems]
theorem spanAll_statements (m : Span) (o : Open) : spanAll m o.statements = spanOpen m o := by
  unfold Open.statements spanOpen
  cases h : o.now with
  | nil => simp [spanItems]
  | cons x r =>
    simp only [List.isEmpty_cons, Bool.false_eq_true, if_false, List.reverse_cons]
    rw [spanAll_append, spanAll_one]
theorem spans_close (o p : Open) (l : List Open) : spans (close (o :: p :: l)) = (spans (o :: p :: l)).tail := by
  unfold spans close
  simp only [spansG, List.tail_cons]
  have e : (fun m => id (spanOpen m (p.put (.block o.statements)))) = (fun m => id (spanOpen (spanOpen m p) o)) := by
    funext m
    show spanOpen m (p.put (.block o.statements)) = spanOpen (spanOpen m p) o
    unfold spanOpen Open.put
    simp only [List.reverse_cons]
    rw [spanItems_append, spanItems_block, spanAll_statements]
    rfl
  rw [e]
  congr 1
  show spanItems none (p.put (.block o.statements)).now.reverse = spanOpen (spanItems none p.now.reverse) o
  unfold Open.put
  simp only [List.reverse_cons]
  rw [spanItems_append, spanItems_block, spanAll_statements]

/-! ### sizes -/
mutual
def szItem : Item → Nat
  | .word _ _ => 1
  | .block l => 1 + szAll l
def szItems : List Item → Nat
  | [] => 0
  | x :: l => szItem x + szItems l
def szAll : List (List Item) → Nat
  | [] => 0
  | s :: l => 1 + szItems s + szAll l
end
theorem szItems_append : ∀ l m : List Item, szItems (l ++ m) = szItems l + szItems m
  | [], m => by simp [szItems]
  | x :: l, m => by
    rw [List.cons_append]
    simp only [szItems]
    rw [szItems_append l m]
    omega
theorem szAll_append : ∀ l m : List (List Item), szAll (l ++ m) = szAll l + szAll m
  | [], m => by simp [szAll]
  | x :: l, m => by
    rw [List.cons_append]
    simp only [szAll]
    rw [szAll_append l m]
    omega
theorem szItems_rev : ∀ l : List Item, szItems l.reverse = szItems l
  | [] => rfl
  | x :: l => by
    rw [List.reverse_cons, szItems_append, szItems_rev l]
    simp only [szItems]
    omega
theorem szAll_rev : ∀ l : List (List Item), szAll l.reverse = szAll l
  | [] => rfl
  | x :: l => by
    rw [List.reverse_cons, szAll_append, szAll_rev l]
    simp only [szAll]
    omega
theorem szItem_pos : ∀ x : Item, 1 ≤ szItem x
  | .word _ _ => by simp [szItem]
  | .block l => by simp [szItem]
theorem szItems_len : ∀ l : List Item, l.length ≤ szItems l
  | [] => Nat.le_refl _
  | x :: l => by
    have a := szItem_pos x
    have b := szItems_len l
    simp only [szItems, List.length_cons]
    omega
theorem szAll_len : ∀ l : List (List Item), l.length ≤ szAll l
  | [] => Nat.le_refl _
  | x :: l => by
    have b := szAll_len l
    simp only [szAll, List.length_cons]
    omega
theorem szItems_mem : ∀ {l : List Item} {x : Item}, x ∈ l → szItem x ≤ szItems l
  | y :: l, x, h => by
    simp only [szItems]
    rcases List.mem_cons.mp h with e | h
    · subst e
      omega
    · have := szItems_mem h
      omega
theorem szAll_mem : ∀ {l : List (List Item)} {s : List Item}, s ∈ l → 1 + szItems s ≤ szAll l
  | y :: l, s, h => by
    simp only [szAll]
    rcases List.mem_cons.mp h with e | h
    · subst e
      omega
    · have := szAll_mem h
      omega
def szOpen (o : Open) : Nat := 2 + szAll o.done + szItems o.now
def szStack : List Open → Nat
  | [] => 0
  | o :: l => szOpen o + szStack l
theorem sz_statements (o : Open) : szAll o.statements + 1 ≤ szOpen o := by
  unfold Open.statements szOpen
  cases h : o.now with
  | nil =>
    simp [szAll_rev, szItems]
    omega
  | cons x r =>
    simp only [List.isEmpty_cons, Bool.false_eq_true, if_false]
    rw [szAll_rev, szAll, szItems_rev]
    omega
theorem sz_put (o : Open) (x : Item) : szOpen (o.put x) = szOpen o + szItem x := by
  unfold szOpen Open.put
  simp only [szItems]
  omega
theorem sz_putWord (w n : Nat) : ∀ l : List Open, szStack (putWord (.word w n) l) ≤ szStack l + 1
  | [] => by simp [putWord, szStack]
  | o :: l => by
    simp only [putWord, szStack, sz_put, szItem]
    omega
theorem sz_close : ∀ l : List Open, szStack (close l) ≤ szStack l
  | [] => Nat.le_refl _
  | [o] => Nat.le_refl _
  | o :: p :: l => by
    have := sz_statements o
    simp only [close, szStack, sz_put, szItem]
    omega
theorem sz_begin (o : Open) : szOpen ⟨o.column, o.now.reverse :: o.done, []⟩ = szOpen o + 1 := by
  unfold szOpen
  simp only [szAll, szItems, szItems_rev]
  omega

/-! ### depths -/
theorem deepItems_append : ∀ l m : List Item, deepItems (l ++ m) = max (deepItems l) (deepItems m)
  | [], m => by simp [deepItems]
  | .word w n :: l, m => by
    rw [List.cons_append]
    simp only [deepItems]
    exact deepItems_append l m
  | .block b :: l, m => by
    rw [List.cons_append]
    simp only [deepItems]
    rw [deepItems_append l m]
    omega
theorem deepAll_append : ∀ l m : List (List Item), deepAll (l ++ m) = max (deepAll l) (deepAll m)
  | [], m => by simp [deepAll]
  | s :: l, m => by
    rw [List.cons_append]
    simp only [deepAll]
    rw [deepAll_append l m]
    omega
theorem deepItems_rev : ∀ l : List Item, deepItems l.reverse = deepItems l
  | [] => rfl
  | x :: l => by
    rw [List.reverse_cons, deepItems_append, deepItems_rev l]
    cases x <;> simp only [deepItems] <;> omega
theorem deepAll_rev : ∀ l : List (List Item), deepAll l.reverse = deepAll l
  | [] => rfl
  | x :: l => by
    rw [List.reverse_cons, deepAll_append, deepAll_rev l]
    simp only [deepAll]
    omega
def deepOpen (o : Open) : Nat := max (deepAll o.done) (deepItems o.now)
def DeepOk : List Open → Prop
  | [] => True
  | o :: l => deepOpen o + l.length + 1 ≤ 20 ∧ DeepOk l
theorem deep_statements (o : Open) : deepAll o.statements ≤ deepOpen o := by
  unfold Open.statements deepOpen
  cases h : o.now with
  | nil =>
    simp [deepAll_rev, deepItems]
  | cons x r =>
    simp only [List.isEmpty_cons, Bool.false_eq_true, if_false]
    rw [deepAll_rev, deepAll, deepItems_rev]
    omega
theorem deep_putWord (w n : Nat) : ∀ l : List Open, DeepOk l → DeepOk (putWord (.word w n) l)
  | [], h => h
  | o :: l, h => by
    have e : deepOpen (o.put (.word w n)) = deepOpen o := by simp [deepOpen, Open.put, deepItems]
    exact ⟨by rw [e]; exact h.1, h.2⟩
theorem deep_close : ∀ l : List Open, DeepOk l → DeepOk (close l)
  | [], h => h
  | [o], h => h
  | o :: p :: l, h => by
    obtain ⟨h1, h2, h3⟩ := h
    have d := deep_statements o
    refine ⟨?_, h3⟩
    have e : deepOpen (p.put (.block o.statements)) ≤ max (deepOpen p) (1 + deepOpen o) := by
      simp only [deepOpen, Open.put, deepItems]
      simp only [deepOpen] at d
      omega
    simp only [List.length_cons] at h1
    omega
theorem deep_begin (o : Open) : deepOpen ⟨o.column, o.now.reverse :: o.done, []⟩ = deepOpen o := by
  simp only [deepOpen, deepAll, deepItems, deepItems_rev]
  omega
theorem putWord_len (x : Item) : ∀ l : List Open, (putWord x l).length = l.length
  | [] => rfl
  | _ :: _ => rfl
theorem close_len (o p : Open) (l : List Open) : (close (o :: p :: l)).length = l.length + 1 := rfl
end Mr

/-! ## MrRun -/
set_option Elab.async false
set_option linter.all false
/-! # What holds of the state while a text is read -/
namespace Mr
open Sq16

/-- within a line: ahead of a word of line n -/
structure Mid (n c : Nat) (s : State) : Prop where
  ne : s.stack ≠ []
  due : s.due = false
  col : ∀ o, s.stack.getLast? = some o → o.column ≠ none
  len : s.stack.length ≤ 20
  tl : ∀ x ∈ (spans s.stack).tail, x ≠ none
  le : ∀ x ∈ spans s.stack, ∀ y, x = some y → y.1 ≤ n ∧ y.2 ≤ n
  deep : DeepOk s.stack
  sz : szStack s.stack + s.brackets.length ≤ c
/-- between two lines: ahead of line n -/
structure Rdy (n c : Nat) (s : State) : Prop where
  em : s.stack = [] → s.brackets = [] ∧ s.due = false
  bd : s.brackets ≠ [] → s.due = false
  col : ∀ o, s.stack.getLast? = some o → o.column ≠ none
  len : s.stack.length ≤ 20
  all : ∀ x ∈ spans s.stack, x ≠ none
  le : ∀ x ∈ spans s.stack, ∀ y, x = some y → y.1 ≤ n ∧ y.2 ≤ n
  deep : DeepOk s.stack
  sz : szStack s.stack + s.brackets.length ≤ c
theorem Rdy.mid {n c : Nat} {s : State} (h : Rdy n c s) (hb : s.brackets ≠ []) : Mid n c s where
  ne := fun e => hb (h.em e).1
  due := h.bd hb
  col := h.col
  len := h.len
  tl := fun x hx => h.all x (List.mem_of_mem_tail hx)
  le := h.le
  deep := h.deep
  sz := h.sz
theorem Rdy.start : Rdy 0 0 ⟨[], [], false⟩ where
  em := fun _ => ⟨rfl, rfl⟩
  bd := fun h => absurd rfl h
  col := fun o h => by cases h
  len := Nat.zero_le _
  all := fun x h => by cases h
  le := fun x h => by cases h
  deep := True.intro
  sz := Nat.le_refl _
theorem Rdy.up {n m c d : Nat} {s : State} (h : Rdy n c s) (hn : n ≤ m) (hc : c ≤ d) : Rdy m d s :=
  ⟨h.em, h.bd, h.col, h.len, h.all, fun x hx y e => ⟨Nat.le_trans (h.le x hx y e).1 hn, Nat.le_trans (h.le x hx y e).2 hn⟩, h.deep, Nat.le_trans h.sz hc⟩
theorem Mid.up {n c d : Nat} {s : State} (h : Mid n c s) (hc : c ≤ d) : Mid n d s :=
  ⟨h.ne, h.due, h.col, h.len, h.tl, h.le, h.deep, Nat.le_trans h.sz hc⟩

theorem touch_some (n : Nat) (x : Span) : touch n x ≠ none := by cases x <;> simp [touch]
theorem touch_le {n : Nat} {x : Span} (h : ∀ y, x = some y → y.1 ≤ n ∧ y.2 ≤ n) : ∀ y, touch n x = some y → y.1 ≤ n ∧ y.2 ≤ n := by
  intro y e
  cases x with
  | none =>
    simp only [touch, Option.some.injEq] at e
    subst e
    exact ⟨Nat.le_refl _, Nat.le_refl _⟩
  | some z =>
    have hz := h z rfl
    simp only [touch, Option.some.injEq] at e
    subst e
    simp only
    omega
theorem putWord_last (x : Item) : ∀ (l : List Open) (o : Open), (putWord x l).getLast? = some o → ∃ p, l.getLast? = some p ∧ p.column = o.column
  | [], o, h => by cases h
  | [a], o, h => by
    simp only [putWord, List.getLast?_singleton, Option.some.injEq] at h
    exact ⟨a, rfl, by rw [← h]; rfl⟩
  | a :: b :: l, o, h => ⟨o, by simpa [putWord, List.getLast?_cons_cons] using h, rfl⟩
theorem spans_put_some (w n : Nat) (l : List Open) : ∀ x ∈ spans (putWord (.word w n) l), x ≠ none := by
  intro x hx
  rw [spans_put] at hx
  obtain ⟨y, _, rfl⟩ := List.mem_map.mp hx
  exact touch_some n y
theorem spans_put_le {w n : Nat} {l : List Open} (h : ∀ x ∈ spans l, ∀ y, x = some y → y.1 ≤ n ∧ y.2 ≤ n) : ∀ x ∈ spans (putWord (.word w n) l), ∀ y, x = some y → y.1 ≤ n ∧ y.2 ≤ n := by
  intro x hx
  rw [spans_put] at hx
  obtain ⟨z, hz, rfl⟩ := List.mem_map.mp hx
  exact touch_le (h z hz)

/-- a word put: all is ready, if nothing else changes -/
theorem Mid.put {n c : Nat} {s : State} (h : Mid n c s) (w : Nat) {br : List Nat} {d : Bool} (hb : br.length ≤ s.brackets.length + 1) (hd : br ≠ [] → d = false) : Rdy n (c + 4) ⟨putWord (.word w n) s.stack, br, d⟩ where
  em := fun e => by
    have : (putWord (.word w n) s.stack).length = 0 := by
      show (putWord (.word w n) s.stack).length = 0
      rw [show putWord (.word w n) s.stack = [] from e]
      rfl
    rw [putWord_len] at this
    exact absurd (List.length_eq_zero_iff.mp this) h.ne
  bd := hd
  col := fun o e => by
    obtain ⟨p, hp, hc⟩ := putWord_last _ _ o e
    rw [← hc]
    exact h.col p hp
  len := by
    show (putWord (.word w n) s.stack).length ≤ 20
    rw [putWord_len]
    exact h.len
  all := spans_put_some w n s.stack
  le := spans_put_le h.le
  deep := deep_putWord w n _ h.deep
  sz := by
    have a := sz_putWord w n s.stack
    have b := h.sz
    show szStack (putWord (.word w n) s.stack) + br.length ≤ c + 4
    omega
theorem Rdy.opened {n c : Nat} {l : List Open} {col : Option Nat} {br : List Nat} {d : Bool} (h : Rdy n c ⟨l, br, d⟩) (hl : l.length < 20) (hn : l ≠ [] ∨ col ≠ none) : Mid n (c + 2) ⟨⟨col, [], []⟩ :: l, br, false⟩ where
  ne := by simp
  due := rfl
  col := fun o e => by
    cases l with
    | nil =>
      simp only [List.getLast?_singleton, Option.some.injEq] at e
      subst e
      rcases hn with hn | hn
      · exact absurd rfl hn
      · exact hn
    | cons a r =>
      have e' : (a :: r).getLast? = some o := by simpa [List.getLast?_cons_cons] using e
      exact h.col o e'
  len := by
    show l.length + 1 ≤ 20
    omega
  tl := by
    show ∀ x ∈ (spans (⟨col, [], []⟩ :: l)).tail, x ≠ none
    rw [spans_open]
    exact h.all
  le := by
    show ∀ x ∈ spans (⟨col, [], []⟩ :: l), _
    rw [spans_open]
    intro x hx y e
    rcases List.mem_cons.mp hx with z | z
    · rw [z] at e
      cases e
    · exact h.le x z y e
  deep := ⟨by
    have : deepOpen ⟨col, [], []⟩ = 0 := by simp [deepOpen, deepAll, deepItems]
    rw [this]
    omega, h.deep⟩
  sz := by
    have := h.sz
    show szOpen ⟨col, [], []⟩ + szStack l + br.length ≤ c + 2
    have e : szOpen ⟨col, [], []⟩ = 2 := by simp [szOpen, szAll, szItems]
    rw [e]
    have : szStack l + br.length ≤ c := this
    omega

theorem wordStep_ok {ks : List Kind} {n c w : Nat} {last : Bool} {s t : State} (h : Mid n c s) (e : wordStep ks n w last s = .ok t) : if last = true then Rdy n (c + 4) t else Mid n (c + 6) t := by
  obtain ⟨st, br, du⟩ := s
  have dd : du = false := h.due
  subst dd
  have key : ∀ {br' : List Nat} {d : Bool}, br'.length ≤ br.length + 1 → (br' ≠ [] → d = false) → (last = false → d = false) → t = ⟨putWord (.word w n) st, br', d⟩ → if last = true then Rdy n (c + 4) t else Mid n (c + 6) t := by
    intro br' d hb hd hl et
    have R : Rdy n (c + 4) t := by
      rw [et]
      exact h.put w hb hd
    cases last with
    | true => simpa using R
    | false =>
      rw [if_neg Bool.false_ne_true]
      refine ⟨?_, ?_, R.col, R.len, fun x hx => R.all x (List.mem_of_mem_tail hx), R.le, R.deep, Nat.le_trans R.sz (by omega)⟩
      · rw [et]
        intro z
        have z' : putWord (.word w n) st = [] := z
        have : (putWord (.word w n) st).length = 0 := by rw [z']; rfl
        rw [putWord_len] at this
        exact h.ne (List.length_eq_zero_iff.mp this)
      · rw [et]
        exact hl rfl
  unfold wordStep at e
  cases hk : kindOf ks w with
  | opens cl =>
    rw [hk] at e
    simp only [Except.ok.injEq] at e
    exact key (by simp) (fun _ => rfl) (fun _ => rfl) e.symm
  | closes =>
    rw [hk] at e
    cases br with
    | nil => cases e
    | cons b bs =>
      simp only at e
      split at e
      · simp only [Except.ok.injEq] at e
        exact key (by simp; omega) (fun _ => rfl) (fun _ => rfl) e.symm
      · cases e
  | block =>
    rw [hk] at e
    cases br with
    | nil =>
      simp only at e
      split at e
      · rename_i hl
        simp only [Except.ok.injEq] at e
        exact key (by simp) (fun z => absurd rfl z) (fun z => by rw [hl] at z; cases z) e.symm
      · rename_i hl
        split at e
        · cases e
        · rename_i hdp
          simp only [Except.ok.injEq] at e
          rw [if_neg hl, ← e]
          have R := h.put w (br := []) (d := false) (by simp) (fun _ => rfl)
          have hdp' : ¬ 20 ≤ (putWord (.word w n) st).length := hdp
          refine (R.opened (by show (putWord (.word w n) st).length < 20; omega) (.inl fun z => ?_)).up (by omega)
          have : (putWord (.word w n) st).length = 0 := by rw [z]; rfl
          rw [putWord_len] at this
          exact h.ne (List.length_eq_zero_iff.mp this)
    | cons b bs =>
      simp only [Except.ok.injEq] at e
      exact key (by simp) (fun _ => rfl) (fun _ => rfl) e.symm
  | plain =>
    rw [hk] at e
    cases br with
    | nil =>
      simp only [Except.ok.injEq] at e
      exact key (by simp) (fun _ => rfl) (fun _ => rfl) e.symm
    | cons b bs =>
      simp only [Except.ok.injEq] at e
      exact key (by simp) (fun _ => rfl) (fun _ => rfl) e.symm
  | on =>
    rw [hk] at e
    cases br with
    | nil =>
      simp only [Except.ok.injEq] at e
      exact key (by simp) (fun _ => rfl) (fun _ => rfl) e.symm
    | cons b bs =>
      simp only [Except.ok.injEq] at e
      exact key (by simp) (fun _ => rfl) (fun _ => rfl) e.symm

theorem words_ok : ∀ {ks : List Kind} {n c : Nat} {ws : List Nat} {s t : State}, ws ≠ [] → Mid n c s → words ks n ws s = .ok t → Rdy n (c + 6 * ws.length) t
  | ks, n, c, [], s, t, hn, _, _ => absurd rfl hn
  | ks, n, c, w :: l, s, t, _, h, e => by
    rw [words_cons] at e
    cases hw : wordStep ks n w l.isEmpty s with
    | error k =>
      rw [hw] at e
      cases e
    | ok u =>
      rw [hw] at e
      have q := wordStep_ok h hw
      cases l with
      | nil =>
        have e' : u = t := by
          simp only [words, Except.ok.injEq] at e
          exact e
        subst e'
        exact (show Rdy n (c + 4) u by simpa using q).up (Nat.le_refl _) (by simp)
      | cons w2 l2 =>
        have q' : Mid n (c + 6) u := by simpa using q
        exact (words_ok (by simp) q' e).up (Nat.le_refl _) (by simp only [List.length_cons]; omega)

/-! ### a line's beginning -/
theorem settle_zero (c : Nat) (b : Bool) (l : List Open) : settle c 0 b l = (b, l) := by simp [settle]
theorem settle_one (c f : Nat) (b : Bool) (o : Open) : settle c f b [o] = (b, [o]) := by cases f <;> simp [settle]
theorem settle_two (c f : Nat) (b : Bool) (o p : Open) (l : List Open) : settle c (f + 1) b (o :: p :: l) = match o.column with
    | none => settle c f b (close (o :: p :: l))
    | some d => if c < d then settle c f true (close (o :: p :: l)) else (b, o :: p :: l) := by
  rw [settle]
  cases o.column <;> rfl
theorem close_last : ∀ (l : List Open) (o : Open), (close l).getLast? = some o → ∃ p, l.getLast? = some p ∧ p.column = o.column
  | [], o, h => ⟨o, h, rfl⟩
  | [a], o, h => ⟨o, h, rfl⟩
  | [a, b], o, h => by
    simp only [close, List.getLast?_singleton, Option.some.injEq] at h
    exact ⟨b, rfl, by rw [← h]; rfl⟩
  | a :: b :: c :: l, o, h => ⟨o, by simpa [close, List.getLast?_cons_cons] using h, rfl⟩
theorem Rdy.close {n c : Nat} {o p : Open} {l : List Open} {br : List Nat} {d : Bool} (h : Rdy n c ⟨o :: p :: l, br, d⟩) : Rdy n c ⟨Sq16.close (o :: p :: l), br, d⟩ where
  em := fun e => by cases e
  bd := h.bd
  col := fun q e => by
    obtain ⟨z, hz, hc⟩ := close_last (o :: p :: l) q e
    rw [← hc]
    exact h.col z hz
  len := by
    have := h.len
    simp only [List.length_cons] at this
    show l.length + 1 ≤ 20
    omega
  all := by
    show ∀ x ∈ spans (Sq16.close (o :: p :: l)), x ≠ none
    rw [spans_close]
    exact fun x hx => h.all x (List.mem_of_mem_tail hx)
  le := by
    show ∀ x ∈ spans (Sq16.close (o :: p :: l)), _
    rw [spans_close]
    exact fun x hx => h.le x (List.mem_of_mem_tail hx)
  deep := deep_close _ h.deep
  sz := by
    have a := sz_close (o :: p :: l)
    have b := h.sz
    show szStack (Sq16.close (o :: p :: l)) + br.length ≤ c
    have b' : szStack (o :: p :: l) + br.length ≤ c := b
    omega
/-- what settle leaves -/
theorem settle_ok (col : Nat) : ∀ (f n c : Nat) (b : Bool) (l : List Open) (br : List Nat) (d : Bool), l ≠ [] → Rdy n c ⟨l, br, d⟩ → Rdy n c ⟨(settle col f b l).2, br, d⟩ ∧ (settle col f b l).2 ≠ []
  | 0, n, c, b, l, br, d, hl, h => by
    rw [settle_zero]
    exact ⟨h, hl⟩
  | f + 1, n, c, b, [], br, d, hl, h => absurd rfl hl
  | f + 1, n, c, b, [o], br, d, hl, h => by
    rw [settle_one]
    exact ⟨h, hl⟩
  | f + 1, n, c, b, o :: p :: l, br, d, hl, h => by
    rw [settle_two]
    cases hc : o.column with
    | none =>
      simp only
      exact settle_ok col f n c b _ br d (by simp [Sq16.close]) h.close
    | some x =>
      simp only
      split
      · exact settle_ok col f n c true _ br d (by simp [Sq16.close]) h.close
      · exact ⟨h, hl⟩
/-- with enough turns: the inner block has a column, not further right than the line's, or it is the outermost -/
theorem settle_stop (col : Nat) : ∀ (f : Nat) (b : Bool) (l : List Open), l.length ≤ f + 1 → (∀ o, l.getLast? = some o → o.column ≠ none) → ∀ o r, (settle col f b l).2 = o :: r → ∃ d, o.column = some d
  | 0, b, l, hf, hc, o, r, e => by
    rw [settle_zero] at e
    have e' : l = o :: r := e
    subst e'
    have hr : r = [] := by
      simp only [List.length_cons] at hf
      exact List.length_eq_zero_iff.mp (by omega)
    subst hr
    cases hd : o.column with
    | none => exact absurd hd (hc o rfl)
    | some d => exact ⟨d, rfl⟩
  | f + 1, b, [], hf, hc, o, r, e => by
    simp [settle] at e
  | f + 1, b, [a], hf, hc, o, r, e => by
    rw [settle_one] at e
    have e' : [a] = o :: r := e
    obtain ⟨rfl, rfl⟩ := List.cons.inj e'
    cases hd : a.column with
    | none => exact absurd hd (hc a rfl)
    | some d => exact ⟨d, rfl⟩
  | f + 1, b, a :: p :: l, hf, hc, o, r, e => by
    have hcl : ∀ o, (close (a :: p :: l)).getLast? = some o → o.column ≠ none := fun q hq => by
      obtain ⟨z, hz, hcc⟩ := close_last _ q hq
      rw [← hcc]
      exact hc z hz
    have hlen : (close (a :: p :: l)).length ≤ f + 1 := by
      simp only [List.length_cons] at hf
      show l.length + 1 ≤ f + 1
      omega
    rw [settle_two] at e
    cases hd : a.column with
    | none =>
      rw [hd] at e
      exact settle_stop col f b _ hlen hcl o r e
    | some x =>
      rw [hd] at e
      simp only at e
      split at e
      · exact settle_stop col f true _ hlen hcl o r e
      · have e' : a :: p :: l = o :: r := e
        obtain ⟨rfl, rfl⟩ := List.cons.inj e'
        exact ⟨x, hd⟩
theorem Rdy.begun {n c : Nat} {o : Open} {l : List Open} {br : List Nat} {d : Bool} (h : Rdy n c ⟨o :: l, br, d⟩) : Mid n (c + 2) ⟨⟨o.column, o.now.reverse :: o.done, []⟩ :: l, br, false⟩ where
  ne := by simp
  due := rfl
  col := fun q e => by
    cases l with
    | nil =>
      simp only [List.getLast?_singleton, Option.some.injEq] at e
      subst e
      exact h.col o rfl
    | cons a r =>
      exact h.col q (by simpa [List.getLast?_cons_cons] using e)
  len := h.len
  tl := by
    show ∀ x ∈ (spans (⟨o.column, o.now.reverse :: o.done, []⟩ :: l)).tail, x ≠ none
    rw [spans_begin]
    exact fun x hx => h.all x (List.mem_of_mem_tail hx)
  le := by
    show ∀ x ∈ spans (⟨o.column, o.now.reverse :: o.done, []⟩ :: l), _
    rw [spans_begin]
    intro x hx y e
    rcases List.mem_cons.mp hx with z | z
    · rw [z] at e
      cases e
    · exact h.le x (List.mem_of_mem_tail z) y e
  deep := ⟨by
    rw [deep_begin]
    exact h.deep.1, h.deep.2⟩
  sz := by
    have := h.sz
    simp only [szStack] at this
    show szOpen ⟨o.column, o.now.reverse :: o.done, []⟩ + szStack l + br.length ≤ c + 2
    rw [sz_begin]
    omega
theorem Rdy.asMid {n c : Nat} {l : List Open} {br : List Nat} {d : Bool} (h : Rdy n c ⟨l, br, d⟩) (hl : l ≠ []) : Mid n (c + 2) ⟨l, br, false⟩ :=
  ⟨hl, rfl, h.col, h.len, fun x hx => h.all x (List.mem_of_mem_tail hx), h.le, h.deep, Nat.le_trans h.sz (Nat.le_add_right _ _)⟩
theorem beginLine_ok {ks : List Kind} {n c : Nat} {x : Line} {s t : State} (h : Rdy n c s) (e : beginLine ks x s = .ok t) : Mid n (c + 2) t := by
  obtain ⟨st, br, du⟩ := s
  unfold beginLine at e
  cases st with
  | nil =>
    simp only at e
    split at e
    · cases e
    · simp only [Except.ok.injEq] at e
      rw [← e]
      exact h.opened (by simp) (.inr (by simp))
  | cons o r =>
    simp only at e
    split at e
    · split at e
      · cases e
      · split at e
        · cases e
        · split at e
          · cases e
          · rename_i hdp
            simp only [Except.ok.injEq] at e
            rw [← e]
            exact h.opened (by unfold DEEP at hdp; omega) (.inl (by simp))
    · have S := settle_ok x.column (o :: r).length n c false (o :: r) br du (by simp) h
      cases hq : (settle x.column (o :: r).length false (o :: r)).2 with
      | nil =>
        exact absurd hq S.2
      | cons a l =>
        rw [hq] at e
        rw [hq] at S
        simp only at e
        split at e
        · cases e
        · split at e
          · split at e
            · simp only [Except.ok.injEq] at e
              rw [← e]
              exact S.1.asMid (by simp)
            · simp only [Except.ok.injEq] at e
              rw [← e]
              exact S.1.begun
          · split at e
            · cases e
            · split at e
              · cases e
              · simp only [Except.ok.injEq] at e
                rw [← e]
                exact S.1.asMid (by simp)
theorem line_ok {ks : List Kind} {n c : Nat} {x : Line} {s t : State} (h : Rdy n c s) (e : line ks n x s = .ok t) : Rdy (n + 1) (c + 2 + 6 * x.words.length) t := by
  rw [line_eq] at e
  split at e
  · simp only [Except.ok.injEq] at e
    subst e
    exact h.up (Nat.le_succ _) (by omega)
  · rename_i hw
    split at e
    · rename_i hb
      exact (words_ok hw (h.mid hb) e).up (Nat.le_succ _) (by omega)
    · cases hl : beginLine ks x s with
      | error k =>
        rw [hl] at e
        cases e
      | ok u =>
        rw [hl] at e
        exact (words_ok hw (beginLine_ok h hl) e).up (Nat.le_succ _) (by omega)
def wsum : List Line → Nat
  | [] => 0
  | x :: l => 2 + 6 * x.words.length + wsum l
theorem lines_ok : ∀ {ks : List Kind} {l : List Line} {n c : Nat} {s t : State}, Rdy n c s → lines ks n l s = .ok t → Rdy (n + l.length) (c + wsum l) t
  | ks, [], n, c, s, t, h, e => by
    simp only [lines, Except.ok.injEq] at e
    subst e
    exact h
  | ks, x :: l, n, c, s, t, h, e => by
    simp only [lines] at e
    cases hl : line ks n x s with
    | error k =>
      rw [hl] at e
      cases e
    | ok u =>
      rw [hl] at e
      have q := lines_ok (line_ok h hl) e
      refine q.up ?_ ?_
      · simp only [List.length_cons]
        omega
      · simp only [wsum]
        omega
theorem lines_append : ∀ (ks : List Kind) (l m : List Line) (n : Nat) (s : State), lines ks n (l ++ m) s = match lines ks n l s with
    | .error e => .error e
    | .ok t => lines ks (n + l.length) m t
  | ks, [], m, n, s => by simp [lines]
  | ks, x :: l, m, n, s => by
    rw [List.cons_append]
    simp only [lines]
    cases hl : line ks n x s with
    | error k => rfl
    | ok u =>
      simp only
      rw [lines_append ks l m (n + 1) u]
      simp only [List.length_cons, Nat.add_assoc, Nat.add_comm 1]
/-- a text's limits -/
def TextOk (many : Nat) (l : List Line) : Prop := l.length ≤ 40 ∧ ∀ x ∈ l, x.column ≤ 63 ∧ x.words.length ≤ 16 ∧ ∀ w ∈ x.words, w < many
theorem wsum_le : ∀ l : List Line, (∀ x ∈ l, x.words.length ≤ 16) → wsum l ≤ 98 * l.length
  | [], _ => Nat.le_refl _
  | x :: l, h => by
    have a := h x (List.mem_cons_self ..)
    have b := wsum_le l fun y hy => h y (List.mem_cons_of_mem _ hy)
    simp only [wsum, List.length_cons]
    omega
theorem TextOk.wsum {many : Nat} {l : List Line} (h : TextOk many l) : wsum l ≤ 3920 := by
  have a := wsum_le l fun x hx => (h.2 x hx).2.1
  have b := h.1
  omega

/-! ### the end -/
theorem closeAll_one (f : Nat) (o : Open) : closeAll f [o] = [o] := by cases f <;> simp [closeAll]
theorem closeAll_two (f : Nat) (o p : Open) (l : List Open) : closeAll (f + 1) (o :: p :: l) = closeAll f (close (o :: p :: l)) := by rw [closeAll]
theorem closeAll_ok : ∀ (f n c : Nat) (l : List Open) (br : List Nat) (d : Bool), l ≠ [] → l.length ≤ f + 1 → Rdy n c ⟨l, br, d⟩ → ∃ o, closeAll f l = [o] ∧ Rdy n c ⟨[o], br, d⟩
  | f, n, c, [], br, d, hl, _, _ => absurd rfl hl
  | f, n, c, [o], br, d, hl, _, h => ⟨o, closeAll_one f o, h⟩
  | 0, n, c, o :: p :: l, br, d, hl, hf, _ => by
    simp only [List.length_cons] at hf
    omega
  | f + 1, n, c, o :: p :: l, br, d, hl, hf, h => by
    rw [closeAll_two]
    refine closeAll_ok f n c _ br d (by simp [close]) ?_ h.close
    simp only [List.length_cons] at hf
    show l.length + 1 ≤ f + 1
    omega
def finish (s : State) : List Statement := match closeAll s.stack.length s.stack with
  | [o] => o.statements
  | _ => []
theorem read_eq (ks : List Kind) (l : List Line) : Sq16.read ks l = match lines ks 0 l ⟨[], [], false⟩ with
    | .error e => .error e
    | .ok s => if s.brackets ≠ [] then .error (6, l.length) else if s.due = true then .error (2, l.length) else .ok (finish s) := by
  unfold Sq16.read finish
  cases lines ks 0 l ⟨[], [], false⟩ with
  | error e => rfl
  | ok s =>
    simp only
    split
    · rfl
    · split
      · rfl
      · cases closeAll s.stack.length s.stack with
        | nil => rfl
        | cons a r => cases r <;> rfl
theorem finish_ok {n c : Nat} {s : State} (h : Rdy n c s) : szAll (finish s) ≤ c ∧ deepAll (finish s) ≤ 19 := by
  unfold finish
  obtain ⟨st, br, du⟩ := s
  cases st with
  | nil => simp [closeAll, szAll, deepAll]
  | cons o r =>
    obtain ⟨a, ha, R⟩ := closeAll_ok (o :: r).length n c (o :: r) br du (by simp) (by simp) h
    simp only [ha]
    have s1 := sz_statements a
    have s2 := R.sz
    have d1 := deep_statements a
    have d2 := R.deep.1
    simp only [szStack, List.length_nil] at s2 d2
    omega
theorem read_ok {ks : List Kind} {many : Nat} {l : List Line} {sts : List Statement} (h : TextOk many l) (e : Sq16.read ks l = .ok sts) : szAll sts ≤ 3920 ∧ deepAll sts ≤ 19 := by
  rw [read_eq] at e
  cases hl : lines ks 0 l ⟨[], [], false⟩ with
  | error k =>
    rw [hl] at e
    cases e
  | ok s =>
    rw [hl] at e
    simp only at e
    split at e
    · cases e
    · split at e
      · cases e
      · simp only [Except.ok.injEq] at e
        rw [← e]
        have R := lines_ok Rdy.start hl
        have q := finish_ok R
        have := h.wsum
        omega
end Mr

/-! ## MrBase -/
set_option Elab.async false
set_option linter.all false
set_option maxRecDepth 100000
set_option maxHeartbeats 2000000
/-! # The program's defs by their places, what the top leaves of them, the objects' fields -/
namespace Mr
open PySem PySem.Spec PyProof.Rows L2
def top (i : Nat) : Stmt := PySem.Challenge.pw_marginread_s01_answers.main.body.getD i (.Pass ⟨0, 0, 0, 0⟩)
abbrev stAreKinds : Stmt := top 10
abbrev stIsPair : Stmt := top 11
abbrev stPairsIn : Stmt := top 12
abbrev stLinesIn : Stmt := top 13
abbrev stIsLine : Stmt := top 14
abbrev stNumbersOf : Stmt := top 15
abbrev stShapeOf : Stmt := top 22
abbrev stAllSt : Stmt := top 23
abbrev stReadText : Stmt := top 35
abbrev stWordLines : Stmt := top 37
abbrev stStLines : Stmt := top 38
abbrev stBlLines : Stmt := top 39
abbrev stOfTexts : Stmt := top 51
abbrev stOfLines : Stmt := top 52
abbrev stRowsAt : Stmt := top 53
abbrev stAnswers : Stmt := top 54
abbrev stSInit : Stmt := inClass (top 20) 0
abbrev stSTouch : Stmt := inClass (top 20) 1
abbrev stSEnds : Stmt := inClass (top 20) 2
abbrev stBInit : Stmt := inClass (top 21) 0
abbrev stRInit : Stmt := inClass (top 34) 0
abbrev stRCurrent : Stmt := inClass (top 34) 1
abbrev stRBeginSt : Stmt := inClass (top 34) 2
abbrev stROpen : Stmt := inClass (top 34) 3
abbrev stRPut : Stmt := inClass (top 34) 4
abbrev stRBracket : Stmt := inClass (top 34) 5
abbrev stRWord : Stmt := inClass (top 34) 6
abbrev stRWant : Stmt := inClass (top 34) 7
abbrev stRBeginText : Stmt := inClass (top 34) 8
abbrev stRBeginDue : Stmt := inClass (top 34) 9
abbrev stRToClose : Stmt := inClass (top 34) 10
abbrev stRClose : Stmt := inClass (top 34) 11
abbrev stRGoOn : Stmt := inClass (top 34) 12
abbrev stRBeginLine : Stmt := inClass (top 34) 13
abbrev stRLine : Stmt := inClass (top 34) 14
abbrev stREnd : Stmt := inClass (top 34) 15
abbrev stDInit : Stmt := inClass (top 47) 0
abbrev stDPut : Stmt := inClass (top 47) 1
abbrev stDBegin : Stmt := inClass (top 47) 2
abbrev stDTold : Stmt := inClass (top 47) 3
abbrev stDText : Stmt := inClass (top 47) 4
abbrev stDShape : Stmt := inClass (top 47) 5
abbrev stDSet : Stmt := inClass (top 47) 6
abbrev stDTell : Stmt := inClass (top 47) 7
abbrev stDAround : Stmt := inClass (top 47) 8
abbrev stDFold : Stmt := inClass (top 47) 9
abbrev stDMoved : Stmt := inClass (top 47) 10
abbrev stWInit : Stmt := inClass (top 33) 0
/-- a def of the module -/
structure FnT (K : PySem.W.Frag) (mg : Str → Option Value) (x : Str) (st : Stmt) (ps : List Str) (f : Addr) (fd : FuncData) : Prop where
  fn : Fun K x x st f fd
  b : L2.Binds K fd ps []
  g : mg x = some (.ref f)
/-- a method -/
structure MeT (K : PySem.W.Frag) (C : Addr) (x qual : Str) (st : Stmt) (ps : List Str) (f : Addr) (fd : FuncData) : Prop where
  fn : Fun K x qual st f fd
  b : L2.Binds K fd ps []
  m : Meth K C x f
/-- a class that is made by its __init__ -/
structure InT (K : PySem.W.Frag) (mg : Str → Option Value) (x : Str) (C : Addr) (qual : Str) (st : Stmt) (ps : List Str) (f : Addr) (fd : FuncData) : Prop where
  fn : Fun K "__init__" qual st f fd
  b : L2.Binds K fd ps []
  made : Mk K C f
  g : mg x = some (.ref C)
theorem lk_here {k : Str} {v : V} {r : List (Str × V)} : List.lookup k ((k, v) :: r) = some v := by
  have e : (k == k) = true := beq_self_eq_true k
  simp only [List.lookup, e]
theorem lk_past {k g : Str} {v : V} {r : List (Str × V)} (h : (k == g) = false) : List.lookup k ((g, v) :: r) = List.lookup k r := by
  simp only [List.lookup, h]
theorem lkn {m : Str} : ∀ {l : List (Str × V)}, (l.map (·.1)).all (fun x => !(m == x)) = true → l.lookup m = none
  | [], _ => rfl
  | (g, v) :: r, h => by
    simp only [List.map_cons, List.all_cons, Bool.and_eq_true, Bool.not_eq_true'] at h
    rw [lk_past h.1]
    exact lkn h.2
theorem put_here {f : Str} {v x : V} {r : List (Str × V)} : putF f v ((f, x) :: r) = (f, v) :: r := if_pos rfl
theorem put_past {f g : Str} {v x : V} {r : List (Str × V)} (h : ¬ g = f) : putF f v ((g, x) :: r) = (g, x) :: putF f v r := if_neg h
def sF (T : Addr) (f l : V) : List (Str × V) := [("things", .ref T), ("first", f), ("last", l)]
def sN : List Str := ["things", "first", "last"]
theorem sF_no {T : Addr} {f l : V} {m : Str} (h : sN.all (fun x => !(m == x)) = true) : (sF T f l).lookup m = none := lkn (l := sF T f l) h
theorem sF_things (T : Addr) (f l : V) : (sF T f l).lookup ("things" : Str) = some (.ref T) := lk_here
theorem sF_first (T : Addr) (f l : V) : (sF T f l).lookup ("first" : Str) = some (f) := (lk_past (by decide +kernel)).trans (lk_here)
theorem sF_last (T : Addr) (f l : V) : (sF T f l).lookup ("last" : Str) = some (l) := (lk_past (by decide +kernel)).trans ((lk_past (by decide +kernel)).trans (lk_here))
def bF (c : V) (L : Addr) : List (Str × V) := [("column", c), ("statements", .ref L)]
def bN : List Str := ["column", "statements"]
theorem bF_no {c : V} {L : Addr} {m : Str} (h : bN.all (fun x => !(m == x)) = true) : (bF c L).lookup m = none := lkn (l := bF c L) h
theorem bF_column (c : V) (L : Addr) : (bF c L).lookup ("column" : Str) = some (c) := lk_here
theorem bF_statements (c : V) (L : Addr) : (bF c L).lookup ("statements" : Str) = some (.ref L) := (lk_past (by decide +kernel)).trans (lk_here)
def rF (k c B G : Addr) (d : Bool) : List (Str × V) := [("kinds", .ref k), ("closing", .ref c), ("blocks", .ref B), ("brackets", .ref G), ("is_due", .bl d)]
def rN : List Str := ["kinds", "closing", "blocks", "brackets", "is_due"]
theorem rF_no {k c B G : Addr} {d : Bool} {m : Str} (h : rN.all (fun x => !(m == x)) = true) : (rF k c B G d).lookup m = none := lkn (l := rF k c B G d) h
theorem rF_kinds (k c B G : Addr) (d : Bool) : (rF k c B G d).lookup ("kinds" : Str) = some (.ref k) := lk_here
theorem rF_closing (k c B G : Addr) (d : Bool) : (rF k c B G d).lookup ("closing" : Str) = some (.ref c) := (lk_past (by decide +kernel)).trans (lk_here)
theorem rF_blocks (k c B G : Addr) (d : Bool) : (rF k c B G d).lookup ("blocks" : Str) = some (.ref B) := (lk_past (by decide +kernel)).trans ((lk_past (by decide +kernel)).trans (lk_here))
theorem rF_brackets (k c B G : Addr) (d : Bool) : (rF k c B G d).lookup ("brackets" : Str) = some (.ref G) := (lk_past (by decide +kernel)).trans ((lk_past (by decide +kernel)).trans ((lk_past (by decide +kernel)).trans (lk_here)))
theorem rF_is_due (k c B G : Addr) (d : Bool) : (rF k c B G d).lookup ("is_due" : Str) = some (.bl d) := (lk_past (by decide +kernel)).trans ((lk_past (by decide +kernel)).trans ((lk_past (by decide +kernel)).trans ((lk_past (by decide +kernel)).trans (lk_here))))
def dF (k c l : Addr) (b : V) (fl : Addr) : List (Str × V) := [("kinds", .ref k), ("closing", .ref c), ("lines", .ref l), ("block", b), ("fault", .ref fl)]
def dN : List Str := ["kinds", "closing", "lines", "block", "fault"]
theorem dF_no {k c l : Addr} {b : V} {fl : Addr} {m : Str} (h : dN.all (fun x => !(m == x)) = true) : (dF k c l b fl).lookup m = none := lkn (l := dF k c l b fl) h
theorem dF_kinds (k c l : Addr) (b : V) (fl : Addr) : (dF k c l b fl).lookup ("kinds" : Str) = some (.ref k) := lk_here
theorem dF_closing (k c l : Addr) (b : V) (fl : Addr) : (dF k c l b fl).lookup ("closing" : Str) = some (.ref c) := (lk_past (by decide +kernel)).trans (lk_here)
theorem dF_lines (k c l : Addr) (b : V) (fl : Addr) : (dF k c l b fl).lookup ("lines" : Str) = some (.ref l) := (lk_past (by decide +kernel)).trans ((lk_past (by decide +kernel)).trans (lk_here))
theorem dF_block (k c l : Addr) (b : V) (fl : Addr) : (dF k c l b fl).lookup ("block" : Str) = some (b) := (lk_past (by decide +kernel)).trans ((lk_past (by decide +kernel)).trans ((lk_past (by decide +kernel)).trans (lk_here)))
theorem dF_fault (k c l : Addr) (b : V) (fl : Addr) : (dF k c l b fl).lookup ("fault" : Str) = some (.ref fl) := (lk_past (by decide +kernel)).trans ((lk_past (by decide +kernel)).trans ((lk_past (by decide +kernel)).trans ((lk_past (by decide +kernel)).trans (lk_here))))
theorem sF_setFirst (T : Addr) (f l v : V) : putF "first" v (sF T f l) = sF T v l := (put_past (by decide +kernel)).trans (congrArg _ put_here)
theorem sF_setLast (T : Addr) (f l v : V) : putF "last" v (sF T f l) = sF T f v := (put_past (by decide +kernel)).trans (congrArg _ ((put_past (by decide +kernel)).trans (congrArg _ put_here)))
theorem bF_setColumn (c : V) (L : Addr) (v : V) : putF "column" v (bF c L) = bF v L := put_here
theorem rF_setDue (k c B G : Addr) (d e : Bool) : putF "is_due" (.bl e) (rF k c B G d) = rF k c B G e := (put_past (by decide +kernel)).trans (congrArg _ ((put_past (by decide +kernel)).trans (congrArg _ ((put_past (by decide +kernel)).trans (congrArg _ ((put_past (by decide +kernel)).trans (congrArg _ put_here)))))))
theorem dF_setKinds (k c l : Addr) (b : V) (fl x : Addr) : putF "kinds" (.ref x) (dF k c l b fl) = dF x c l b fl := put_here
theorem dF_setClosing (k c l : Addr) (b : V) (fl x : Addr) : putF "closing" (.ref x) (dF k c l b fl) = dF k x l b fl := (put_past (by decide +kernel)).trans (congrArg _ (put_here))
theorem dF_setLines (k c l : Addr) (b : V) (fl x : Addr) : putF "lines" (.ref x) (dF k c l b fl) = dF k c x b fl := (put_past (by decide +kernel)).trans (congrArg _ ((put_past (by decide +kernel)).trans (congrArg _ (put_here))))
theorem dF_setBlock (k c l : Addr) (b : V) (fl : Addr) (x : V) : putF "block" x (dF k c l b fl) = dF k c l x fl := (put_past (by decide +kernel)).trans (congrArg _ ((put_past (by decide +kernel)).trans (congrArg _ ((put_past (by decide +kernel)).trans (congrArg _ (put_here))))))
theorem dF_setFault (k c l : Addr) (b : V) (fl x : Addr) : putF "fault" (.ref x) (dF k c l b fl) = dF k c l b x := (put_past (by decide +kernel)).trans (congrArg _ ((put_past (by decide +kernel)).trans (congrArg _ ((put_past (by decide +kernel)).trans (congrArg _ ((put_past (by decide +kernel)).trans (congrArg _ (put_here))))))))
structure Ad where
  cS : Addr
  cB : Addr
  cW : Addr
  cR : Addr
  cD : Addr
  aN : Addr
  aR : Addr
  fAreKinds : Addr
  dAreKinds : FuncData
  fIsPair : Addr
  dIsPair : FuncData
  fPairsIn : Addr
  dPairsIn : FuncData
  fLinesIn : Addr
  dLinesIn : FuncData
  fIsLine : Addr
  dIsLine : FuncData
  fNumbersOf : Addr
  dNumbersOf : FuncData
  fShapeOf : Addr
  dShapeOf : FuncData
  fAllSt : Addr
  dAllSt : FuncData
  fReadText : Addr
  dReadText : FuncData
  fWordLines : Addr
  dWordLines : FuncData
  fStLines : Addr
  dStLines : FuncData
  fBlLines : Addr
  dBlLines : FuncData
  fOfTexts : Addr
  dOfTexts : FuncData
  fOfLines : Addr
  dOfLines : FuncData
  fRowsAt : Addr
  dRowsAt : FuncData
  fAnswers : Addr
  dAnswers : FuncData
  fSInit : Addr
  dSInit : FuncData
  fSTouch : Addr
  dSTouch : FuncData
  fSEnds : Addr
  dSEnds : FuncData
  fBInit : Addr
  dBInit : FuncData
  fRInit : Addr
  dRInit : FuncData
  fRCurrent : Addr
  dRCurrent : FuncData
  fRBeginSt : Addr
  dRBeginSt : FuncData
  fROpen : Addr
  dROpen : FuncData
  fRPut : Addr
  dRPut : FuncData
  fRBracket : Addr
  dRBracket : FuncData
  fRWord : Addr
  dRWord : FuncData
  fRWant : Addr
  dRWant : FuncData
  fRBeginText : Addr
  dRBeginText : FuncData
  fRBeginDue : Addr
  dRBeginDue : FuncData
  fRToClose : Addr
  dRToClose : FuncData
  fRClose : Addr
  dRClose : FuncData
  fRGoOn : Addr
  dRGoOn : FuncData
  fRBeginLine : Addr
  dRBeginLine : FuncData
  fRLine : Addr
  dRLine : FuncData
  fREnd : Addr
  dREnd : FuncData
  fDInit : Addr
  dDInit : FuncData
  fDPut : Addr
  dDPut : FuncData
  fDBegin : Addr
  dDBegin : FuncData
  fDTold : Addr
  dDTold : FuncData
  fDText : Addr
  dDText : FuncData
  fDShape : Addr
  dDShape : FuncData
  fDSet : Addr
  dDSet : FuncData
  fDTell : Addr
  dDTell : FuncData
  fDAround : Addr
  dDAround : FuncData
  fDFold : Addr
  dDFold : FuncData
  fDMoved : Addr
  dDMoved : FuncData
  fWInit : Addr
  dWInit : FuncData
structure Tx (K : PySem.W.Frag) (mg : Str → Option Value) (a : Ad) : Prop where
  areKinds : FnT K mg "are_kinds" stAreKinds ["kinds"] a.fAreKinds a.dAreKinds
  isPair : FnT K mg "is_pair" stIsPair ["kinds", "opening", "closing"] a.fIsPair a.dIsPair
  pairsIn : FnT K mg "pairs_in" stPairsIn ["kinds", "numbers"] a.fPairsIn a.dPairsIn
  linesIn : FnT K mg "lines_in" stLinesIn ["numbers"] a.fLinesIn a.dLinesIn
  isLine : FnT K mg "is_line" stIsLine ["line", "many"] a.fIsLine a.dIsLine
  numbersOf : FnT K mg "numbers_of" stNumbersOf ["lines"] a.fNumbersOf a.dNumbersOf
  shapeOf : FnT K mg "shape_of" stShapeOf ["block"] a.fShapeOf a.dShapeOf
  allSt : FnT K mg "all_statements" stAllSt ["block", "depth"] a.fAllSt a.dAllSt
  readText : FnT K mg "read_text" stReadText ["kinds", "closing", "lines"] a.fReadText a.dReadText
  wordLines : FnT K mg "word_lines" stWordLines ["words", "column", "step", "length"] a.fWordLines a.dWordLines
  stLines : FnT K mg "statement_lines" stStLines ["statement", "depth", "step", "length"] a.fStLines a.dStLines
  blLines : FnT K mg "block_lines" stBlLines ["block", "depth", "step", "length"] a.fBlLines a.dBlLines
  ofTexts : FnT K mg "of_texts" stOfTexts ["desk", "call", "own", "rows"] a.fOfTexts a.dOfTexts
  ofLines : FnT K mg "of_lines" stOfLines ["desk", "call", "own"] a.fOfLines a.dOfLines
  rowsAt : FnT K mg "rows_at" stRowsAt ["calls", "at", "many"] a.fRowsAt a.dRowsAt
  answers : FnT K mg "answers" stAnswers ["calls"] a.fAnswers a.dAnswers
  clS : Cls K a.cS
  sInit : InT K mg "Statement" a.cS "Statement.__init__" stSInit ["self"] a.fSInit a.dSInit
  sTouch : MeT K a.cS "touch" "Statement.touch" stSTouch ["self", "line"] a.fSTouch a.dSTouch
  sEnds : MeT K a.cS "ends_with_block" "Statement.ends_with_block" stSEnds ["self"] a.fSEnds a.dSEnds
  nS_things : NoAttr K a.cS "things"
  nS_first : NoAttr K a.cS "first"
  nS_last : NoAttr K a.cS "last"
  clB : Cls K a.cB
  bInit : InT K mg "Block" a.cB "Block.__init__" stBInit ["self", "column"] a.fBInit a.dBInit
  nB_column : NoAttr K a.cB "column"
  nB_statements : NoAttr K a.cB "statements"
  clR : Cls K a.cR
  rInit : InT K mg "Reader" a.cR "Reader.__init__" stRInit ["self", "kinds", "closing"] a.fRInit a.dRInit
  rCurrent : MeT K a.cR "current" "Reader.current" stRCurrent ["self"] a.fRCurrent a.dRCurrent
  rBeginSt : MeT K a.cR "begin_statement" "Reader.begin_statement" stRBeginSt ["self"] a.fRBeginSt a.dRBeginSt
  rOpen : MeT K a.cR "open_block" "Reader.open_block" stROpen ["self", "column"] a.fROpen a.dROpen
  rPut : MeT K a.cR "put_word" "Reader.put_word" stRPut ["self", "word", "number"] a.fRPut a.dRPut
  rBracket : MeT K a.cR "read_bracket" "Reader.read_bracket" stRBracket ["self", "word"] a.fRBracket a.dRBracket
  rWord : MeT K a.cR "read_word" "Reader.read_word" stRWord ["self", "word", "number", "is_last"] a.fRWord a.dRWord
  rWant : MeT K a.cR "want_beginning" "Reader.want_beginning" stRWant ["self", "word"] a.fRWant a.dRWant
  rBeginText : MeT K a.cR "begin_text" "Reader.begin_text" stRBeginText ["self", "column", "word"] a.fRBeginText a.dRBeginText
  rBeginDue : MeT K a.cR "begin_due" "Reader.begin_due" stRBeginDue ["self", "column", "word"] a.fRBeginDue a.dRBeginDue
  rToClose : MeT K a.cR "is_to_close" "Reader.is_to_close" stRToClose ["self", "column"] a.fRToClose a.dRToClose
  rClose : MeT K a.cR "close_blocks" "Reader.close_blocks" stRClose ["self", "column"] a.fRClose a.dRClose
  rGoOn : MeT K a.cR "go_on" "Reader.go_on" stRGoOn ["self", "column", "word"] a.fRGoOn a.dRGoOn
  rBeginLine : MeT K a.cR "begin_line" "Reader.begin_line" stRBeginLine ["self", "column", "word"] a.fRBeginLine a.dRBeginLine
  rLine : MeT K a.cR "read_line" "Reader.read_line" stRLine ["self", "number", "column", "words"] a.fRLine a.dRLine
  rEnd : MeT K a.cR "end" "Reader.end" stREnd ["self"] a.fREnd a.dREnd
  nR_kinds : NoAttr K a.cR "kinds"
  nR_closing : NoAttr K a.cR "closing"
  nR_blocks : NoAttr K a.cR "blocks"
  nR_brackets : NoAttr K a.cR "brackets"
  nR_is_due : NoAttr K a.cR "is_due"
  clD : Cls K a.cD
  dInit : InT K mg "Desk" a.cD "Desk.__init__" stDInit ["self"] a.fDInit a.dDInit
  dPut : MeT K a.cD "put_lines" "Desk.put_lines" stDPut ["self", "lines"] a.fDPut a.dDPut
  dBegin : MeT K a.cD "begin" "Desk.begin" stDBegin ["self", "kinds", "numbers"] a.fDBegin a.dDBegin
  dTold : MeT K a.cD "told" "Desk.told" stDTold ["self"] a.fDTold a.dDTold
  dText : MeT K a.cD "text" "Desk.text" stDText ["self", "numbers"] a.fDText a.dDText
  dShape : MeT K a.cD "shape" "Desk.shape" stDShape ["self"] a.fDShape a.dDShape
  dSet : MeT K a.cD "set_out" "Desk.set_out" stDSet ["self", "step", "length"] a.fDSet a.dDSet
  dTell : MeT K a.cD "tell_statements" "Desk.tell_statements" stDTell ["self"] a.fDTell a.dDTell
  dAround : MeT K a.cD "around" "Desk.around" stDAround ["self", "line"] a.fDAround a.dDAround
  dFold : MeT K a.cD "fold" "Desk.fold" stDFold ["self", "line"] a.fDFold a.dDFold
  dMoved : MeT K a.cD "moved" "Desk.moved" stDMoved ["self", "a", "b", "by"] a.fDMoved a.dDMoved
  nD_kinds : NoAttr K a.cD "kinds"
  nD_closing : NoAttr K a.cD "closing"
  nD_lines : NoAttr K a.cD "lines"
  nD_block : NoAttr K a.cD "block"
  nD_fault : NoAttr K a.cD "fault"
  nB_put : NoAttr K a.cB "put_lines"
  nS_put : NoAttr K a.cS "put_lines"
  wFn : Fun K "__init__" "Wrong.__init__" stWInit a.fWInit a.dWInit
  wB : Binds K a.dWInit ["self", "what"] []
  wOex : OexC K a.cW
  wXf : XfC K a.cW
  wWhat : PySem.W.findIn K (.ref a.cW) "what" = some none
  wExm : PySem.W.exmOne K (.ref a.cW) (.ref a.cW) = some true
  wInit : PySem.W.findIn K (.ref a.cW) "__init__" = some (some (.ref a.fWInit))
  wTy : PySem.W.typeIn K (.ref a.fWInit) = some (.type "function")
  wG : mg "Wrong" = some (.ref a.cW)
  vV : PySem.W.findCls K (.type "ValueError") (.type "type") "__init__" = some (.val (.builtin "ValueError.__init__"))
  bTy1 : PySem.W.findIn K (.ref a.cB) "__class__" = some (some (.builtin "object.__class__"))
  bTy2 : PySem.W.specialIn K (.builtin "object.__class__") "__get__" = some (some (.builtin "getset_descriptor.__get__"))
  bTy3 : PySem.W.takesIn K (.builtin "object.__class__") = some true
  bTy4 : PySem.W.mroIn K a.cB (.type "object") = some true
  bTy5 : PySem.W.kitOne K (.ref a.cB) (.type "int") = some false
  k_PLAIN : ∃ t, mg "PLAIN" = some (.int 0 t)
  k_OPENS : ∃ t, mg "OPENS" = some (.int 1 t)
  k_CLOSES : ∃ t, mg "CLOSES" = some (.int 2 t)
  k_BLOCK : ∃ t, mg "BLOCK" = some (.int 3 t)
  k_GOES_ON : ∃ t, mg "GOES_ON" = some (.int 4 t)
  k_MOST_WORDS : ∃ t, mg "MOST_WORDS" = some (.int 64 t)
  k_MOST_LINES : ∃ t, mg "MOST_LINES" = some (.int 40 t)
  k_MOST_IN_LINE : ∃ t, mg "MOST_IN_LINE" = some (.int 16 t)
  k_MOST_COLUMN : ∃ t, mg "MOST_COLUMN" = some (.int 63 t)
  k_BLOCK_BEGINS : ∃ t, mg "BLOCK_BEGINS" = some (.int 64 t)
  k_BLOCK_ENDS : ∃ t, mg "BLOCK_ENDS" = some (.int 65 t)
  k_STATEMENT_ENDS : ∃ t, mg "STATEMENT_ENDS" = some (.int 66 t)
  k_LESS_RIGHT : ∃ t, mg "LESS_RIGHT" = some (.int 1 t)
  k_NO_BLOCK : ∃ t, mg "NO_BLOCK" = some (.int 2 t)
  k_BEGINS_SO : ∃ t, mg "BEGINS_SO" = some (.int 3 t)
  k_BEHIND_BLOCK : ∃ t, mg "BEHIND_BLOCK" = some (.int 4 t)
  k_NOT_CLOSING : ∃ t, mg "NOT_CLOSING" = some (.int 5 t)
  k_BRACKET_OPEN : ∃ t, mg "BRACKET_OPEN" = some (.int 6 t)
  k_TOO_DEEP : ∃ t, mg "TOO_DEEP" = some (.int 7 t)
  k_MOST_OPEN : ∃ t, mg "MOST_OPEN" = some (.int 20 t)
  k_NOT_SO : ∃ t, mg "NOT_SO" = some (.int (-1) t)
  k_NONE_SUCH : ∃ t, mg "NONE_SUCH" = some (.int (-2) t)
  k_NOT_TOLD_SO : ∃ t, mg "NOT_TOLD_SO" = some (.int (-3) t)
  k_IS_WRONG : ∃ t, mg "IS_WRONG" = some (.int (-6) t)
  k_MOST_STEP : ∃ t, mg "MOST_STEP" = some (.int 8 t)
  k_MOST_LENGTH : ∃ t, mg "MOST_LENGTH" = some (.int 64 t)
  b_len : mg "len" = none
  b_all : mg "all" = none
  b_list : mg "list" = none
  b_zip : mg "zip" = none
  b_sorted : mg "sorted" = none
  b_enumerate : mg "enumerate" = none
  b_dict : mg "dict" = none
  b_isinstance : mg "isinstance" = none
  b_int : mg "int" = none
  b_range : mg "range" = none
  b_ValueError : mg "ValueError" = none
  gN : mg "NUMBERS" = some (.ref a.aN)
  gR : mg "ROWS" = some (.ref a.aR)
  tN : ∀ H, SqT K H a.aN ([.int 0, .int 0, .int 0, .int 0, .int 2, .int 0, .int 1, .int 1, .int 3, .int 3])
  tR : ∀ H, SqT K H a.aR ([.int 0, .int 2, .int 1, .int 0, .int 0, .int 0, .int 0, .int 0, .int 0, .int 0])
/-- a constant of the module -/
theorem pe_gi {X : Cx} {x : Str} {n : Int} {pos : Pos} (hg : Gl X x) (hm : ∃ t, X.mg x = some (.int n t)) (hd : (x == ("__debug__" : Str)) = false := by decide) : PE X (.Name x pos) (tC (.int n)) := by
  obtain ⟨t, h⟩ := hm
  exact pe_glob hg h ⟨t, rfl⟩ hd
end Mr

/-! ## MrThings -/
set_option Elab.async false
set_option linter.all false
set_option maxRecDepth 100000
set_option maxHeartbeats 2000000
/-! # Statements and blocks: made, touched; the trees in the heap -/
namespace Mr
open PySem PySem.Spec PyProof.Rows L2
open Sq16 (Item Open State Line Kind)
/-- all but p is as it was -/
def But (p : Addr) (H H' : Hp) : Prop := ∀ b o, H b = some o → b ≠ p → H' b = some o
theorem But.of_same {p : Addr} {H H' : Hp} (h : Same H H') : But p H H' := fun b o e _ => h b o e
theorem But.refl (p : Addr) (H : Hp) : But p H H := fun _ _ e _ => e
theorem But.trans {p : Addr} {H H1 H2 : Hp} (x : But p H H1) (y : But p H1 H2) : But p H H2 := fun b o e n => y b o (x b o e n) n
theorem But.upd (p : Addr) (H : Hp) (o : HO) : But p H (L2.upd H p o) := fun b u e n => by rw [upd_ne n]; exact e
theorem same_new {H : Hp} {p : Addr} (h : H p = none) (o : HO) : Same H (upd H p o) := fun b u q => by rw [upd_ne (ne_of_none q h)]; exact q
theorem But.same {p : Addr} {H H' : Hp} (h : But p H H') (n : H p = none) : Same H H' := fun b o e => h b o e (ne_of_none e n)
theorem if_true_of {c : Bool} {A B : Prop} (hc : c = true) (h : A) : if c = true then A else B := by
  rw [if_pos hc]
  exact h
theorem if_false_of {c : Bool} {A B : Prop} (hc : c = false) (h : B) : if c = true then A else B := by
  rw [hc, if_neg Bool.false_ne_true]
  exact h
theorem size_le {n : Nat} (h : n ≤ 16777216) : n ≤ sizeLine := h
theorem size_lt {n : Nat} (h : n < 16777216) : n < sizeLine := h
/-- a span as it stands in an object -/
def spF : Option (Nat × Nat) → V
  | none => .non
  | some x => .int x.1
def spL : Option (Nat × Nat) → V
  | none => .non
  | some x => .int x.2

/-! ### promises -/
def spSInit (a : Ad) : Sp := fun vs H Q _ => ∃ (p dx : Addr), vs = [.ref p] ∧ H p = some (.ins a.cS dx []) ∧
  ∀ (H' : Hp) (T : Addr), But p H H' → H T = none → T ≠ p → H' T = some (.lst []) → H' p = some (.ins a.cS dx (sF T .non .non)) → Q .non H'
def spSTouch (a : Ad) : Sp := fun vs H Q _ => ∃ (p dx T : Addr) (sp : Option (Nat × Nat)) (n : Nat), vs = [.ref p, .int n] ∧ H p = some (.ins a.cS dx (sF T (spF sp) (spL sp))) ∧ (∀ y, sp = some y → y.1 ≤ n ∧ y.2 ≤ n) ∧
  ∀ H' : Hp, But p H H' → H' p = some (.ins a.cS dx (sF T (spF (touch n sp)) (spL (touch n sp)))) → Q .non H'
def spSEnds (a : Ad) (K : PySem.W.Frag) : Sp := fun vs H Q _ => ∃ (p dx T : Addr) (f l : V) (ts : List V) (v : V) (b : Bool), vs = [.ref p] ∧ H p = some (.ins a.cS dx (sF T f l)) ∧ H T = some (.lst ts) ∧ ts.getLast? = some v ∧
  ((∃ i, v = .int i ∧ b = false) ∨ (∃ q dq fs, v = .ref q ∧ H q = some (.ins a.cB dq fs) ∧ b = true)) ∧ Q (.bl b) H
def spBInit (a : Ad) : Sp := fun vs H Q _ => ∃ (p dx : Addr) (c : V), vs = [.ref p, c] ∧ H p = some (.ins a.cB dx []) ∧
  ∀ (H' : Hp) (L : Addr), But p H H' → H L = none → L ≠ p → H' L = some (.lst []) → H' p = some (.ins a.cB dx (bF c L)) → Q .non H'
section
variable {P : Program} {w : World} {K : PySem.W.Frag} {mg : Str → Option Value} {base : Heap} {a : Ad}
theorem scSInit : FnScope ["self"] ["self"] (defScope stSInit) := ⟨rfl, rfl, rfl, by decide +kernel, rfl, by decide +kernel, by decide +kernel⟩
theorem ok_sInit (T : Tx K mg a) : FnOk P w K mg base CX0 1 a.fSInit a.dSInit ["self"] (spSInit a) := by
  refine T.sInit.fn.ok scSInit (fun vs H Q E h => ?_) (fun cdv A outer s H vs Q E hr h => ?_)
  · obtain ⟨p, dx, rfl, _⟩ := h
    rfl
  obtain ⟨p, dx, rfl, hp, k⟩ := h
  refine ⟨_, pss_cons (ps_fld (pv 0) (pe_lst pa_nil) rfl) (pss_cons (ps_fld (pv 0) pe_non rfl) (pss_one (ps_fld (pv 0) pe_non rfl))), ?_⟩
  refine ⟨by show 0 ≤ sizeLine; decide, fun t ht => ?_⟩
  have ne : p ≠ t := ne_of_none hp ht
  refine ⟨_, rfl, p, a.cS, dx, [], rfl, (upd_ne ne).trans hp, T.clS, T.nS_things, by decide, ?_⟩
  refine ⟨_, rfl, p, a.cS, dx, _, rfl, upd_same, T.clS, T.nS_first, by show 1 < 1000; decide, ?_⟩
  refine ⟨_, rfl, p, a.cS, dx, _, rfl, upd_same, T.clS, T.nS_last, by show 2 < 1000; decide, ?_⟩
  refine k _ t (fun b o e n => ?_) ht (Ne.symm ne) ?_ ?_
  · rw [upd_ne n, upd_ne n, upd_ne n, upd_ne (ne_of_none e ht)]
    exact e
  · rw [upd_ne (Ne.symm ne), upd_ne (Ne.symm ne), upd_ne (Ne.symm ne), upd_same]
  · exact upd_same.trans (congrArg (fun q => some (HO.ins a.cS dx q)) rfl)
theorem scSTouch : FnScope ["self", "line"] ["self", "line"] (defScope stSTouch) := ⟨rfl, rfl, rfl, by decide +kernel, rfl, by decide +kernel, by decide +kernel⟩
theorem ok_sTouch (T : Tx K mg a) : FnOk P w K mg base CX0 1 a.fSTouch a.dSTouch ["self", "line"] (spSTouch a) := by
  refine T.sTouch.fn.ok scSTouch (fun vs H Q E h => ?_) (fun cdv A outer s H vs Q E hr h => ?_)
  · obtain ⟨p, dx, t, sp, n, rfl, _⟩ := h
    rfl
  obtain ⟨p, dx, t, sp, n, rfl, hp, hb, k⟩ := h
  refine ⟨_, pss_cons (ps_if (pt_cmpR op_isN (pe_fld (pv 0) rfl) pe_non (nomark _)) (pss_one (ps_fld (pv 0) (pv 1) rfl)) pss_nil) (pss_one (ps_fld (pv 0) (pv 1) rfl)), ?_⟩
  refine ⟨_, rfl, p, a.cS, dx, _, _, rfl, hp, T.clS, T.nS_first, sF_first .., rfl, _, rfl, ?_⟩
  cases sp with
  | none =>
    refine if_true_of rfl ?_
    refine ⟨_, rfl, _, rfl, p, a.cS, dx, _, rfl, hp, T.clS, T.nS_first, by show 3 < 1000; decide, ?_⟩
    refine ⟨_, rfl, _, rfl, p, a.cS, dx, _, rfl, upd_same, T.clS, T.nS_last, by rw [sF_setFirst]; show 3 < 1000; decide, ?_⟩
    refine k _ (fun b o e m => ?_) ?_
    · rw [upd_ne m, upd_ne m]
      exact e
    · rw [upd_same, sF_setFirst, sF_setLast]
      rfl
  | some y =>
    obtain ⟨h1, h2⟩ := hb y rfl
    refine if_false_of rfl ?_
    refine ⟨_, rfl, _, rfl, p, a.cS, dx, _, rfl, hp, T.clS, T.nS_last, by show 3 < 1000; decide, ?_⟩
    refine k _ (fun b o e m => ?_) ?_
    · rw [upd_ne m]
      exact e
    · rw [upd_same, sF_setLast]
      have e1 : min y.1 n = y.1 := Nat.min_eq_left h1
      have e2 : max y.2 n = n := Nat.max_eq_right h2
      show some (HO.ins a.cS dx (sF t (.int y.1) (.int n))) = some (HO.ins a.cS dx (sF t (.int ((min y.1 n : Nat) : Int)) (.int ((max y.2 n : Nat) : Int))))
      rw [e1, e2]
theorem scSEnds : FnScope ["self"] ["self"] (defScope stSEnds) := ⟨rfl, rfl, rfl, by decide +kernel, rfl, by decide +kernel, by decide +kernel⟩
theorem at_last {ts : List V} {v : V} (h : ts.getLast? = some v) : atI ts (-1) = some v := by
  rw [List.getLast?_eq_getElem?] at h
  have hn : 0 < ts.length := by
    cases ts with
    | nil => cases h
    | cons x r => simp
  unfold atI ixN
  rw [if_neg (by decide), if_pos (by omega)]
  have e : (-1 + (ts.length : Int)).toNat = ts.length - 1 := by omega
  rw [e]
  exact h
theorem ok_sEnds (T : Tx K mg a) : FnOk P w K mg base CX0 1 a.fSEnds a.dSEnds ["self"] (spSEnds a K) := by
  refine T.sEnds.fn.ok scSEnds (fun vs H Q E h => ?_) (fun cdv A outer s H vs Q E hr h => ?_)
  · obtain ⟨p, dx, t, f, l, ts, v, b, rfl, _⟩ := h
    rfl
  obtain ⟨p, dx, t, f, l, ts, v, b, rfl, hp, ht, hv, hk, k⟩ := h
  refine ⟨_, pss_one (ps_ret (pe_not (pe_callB call_isi (by rfl) T.b_isinstance (by decide +kernel) (pa_cons (pe_ix ix_list (pe_fld (pv 0) rfl) (pe_un un_neg pe_int) (fun _ _ => rfl)) (pa_cons (pe_bltn (v := .ty "int") (by rfl) T.b_int (by decide +kernel) rfl) pa_nil))))), ?_⟩
  refine ⟨_, rfl, p, a.cS, dx, _, _, rfl, hp, T.clS, T.nS_things, sF_things .., _, rfl, t, ts, -1, v, rfl, rfl, SqL.of ht, at_last hv, ?_⟩
  rcases hk with ⟨i, rfl, rfl⟩ | ⟨q, dq, fs, rfl, hq, rfl⟩
  · exact ⟨_, _, _, _, true, rfl, .ty "int", .base (.int i), kit_ty (by decide +kernel), _, rfl, k⟩
  · exact ⟨_, _, _, _, false, rfl, .ty "int", .base (.ins hq T.clB T.bTy1 T.bTy2 T.bTy3 T.bTy4), T.bTy5, _, rfl, k⟩
theorem scBInit : FnScope ["self", "column"] ["self", "column"] (defScope stBInit) := ⟨rfl, rfl, rfl, by decide +kernel, rfl, by decide +kernel, by decide +kernel⟩
theorem ok_bInit (T : Tx K mg a) : FnOk P w K mg base CX0 1 a.fBInit a.dBInit ["self", "column"] (spBInit a) := by
  refine T.bInit.fn.ok scBInit (fun vs H Q E h => ?_) (fun cdv A outer s H vs Q E hr h => ?_)
  · obtain ⟨p, dx, c, rfl, _⟩ := h
    rfl
  obtain ⟨p, dx, c, rfl, hp, k⟩ := h
  refine ⟨_, pss_cons (ps_fld (pv 0) (pv 1) rfl) (pss_one (ps_fld (pv 0) (pe_lst pa_nil) rfl)), ?_⟩
  refine ⟨_, rfl, _, rfl, p, a.cB, dx, [], rfl, hp, T.clB, T.nB_column, by decide, ?_⟩
  refine ⟨by show 0 ≤ sizeLine; decide, fun t ht => ?_⟩
  have hp1 : upd H p (HO.ins a.cB dx (putF "column" c [])) p = some (HO.ins a.cB dx (putF "column" c [])) := upd_same
  have ne : p ≠ t := ne_of_none hp1 ht
  have hnt : H t = none := by
    rw [upd_ne (Ne.symm ne)] at ht
    exact ht
  refine ⟨_, rfl, p, a.cB, dx, _, rfl, (upd_ne ne).trans hp1, T.clB, T.nB_statements, by show 1 < 1000; decide, ?_⟩
  refine k _ t (fun b o e n => ?_) hnt (Ne.symm ne) ?_ ?_
  · rw [upd_ne n, upd_ne (ne_of_none e hnt), upd_ne n]
    exact e
  · rw [upd_ne (Ne.symm ne), upd_same]
  · exact upd_same.trans (congrArg (fun q => some (HO.ins a.cB dx q)) rfl)
end
end Mr

/-! ## MrTree -/
set_option Elab.async false
set_option linter.all false
set_option maxRecDepth 100000
set_option maxHeartbeats 2000000
/-! # Trees in the heap -/
namespace Mr
open PySem PySem.Spec PyProof.Rows L2
open Sq16 (Item Open State Line Kind)
mutual
/-- what stands for an item; M: addresses that no finished tree has -/
def ItemAt (a : Ad) (H : Hp) (M : List Addr) : V → Item → Prop
  | v, .word w _ => v = .int w
  | v, .block l => ∃ (b dx L : Addr) (c : V) (ss : List V), v = .ref b ∧ b ∉ M ∧ L ∉ M ∧ H b = some (.ins a.cB dx (bF c L)) ∧ H L = some (.lst ss) ∧ StmtsAt a H M ss l
def ItemsAt (a : Ad) (H : Hp) (M : List Addr) : List V → List Item → Prop
  | vs, [] => vs = []
  | vs, x :: l => ∃ v r, vs = v :: r ∧ ItemAt a H M v x ∧ ItemsAt a H M r l
def StmtsAt (a : Ad) (H : Hp) (M : List Addr) : List V → List (List Item) → Prop
  | vs, [] => vs = []
  | vs, s :: l => ∃ v r, vs = v :: r ∧ (∃ (st dx T : Addr) (f n : Nat) (ts : List V), v = .ref st ∧ st ∉ M ∧ T ∉ M ∧ H st = some (.ins a.cS dx (sF T (.int f) (.int n))) ∧ H T = some (.lst ts) ∧ ItemsAt a H M ts s ∧ Sq16.spanItems none s = some (f, n)) ∧ StmtsAt a H M r l
end
/-- what stands for a statement -/
def StmtAt (a : Ad) (H : Hp) (M : List Addr) (v : V) (s : List Item) : Prop :=
  ∃ (st dx T : Addr) (f n : Nat) (ts : List V), v = .ref st ∧ st ∉ M ∧ T ∉ M ∧ H st = some (.ins a.cS dx (sF T (.int f) (.int n))) ∧ H T = some (.lst ts) ∧ ItemsAt a H M ts s ∧ Sq16.spanItems none s = some (f, n)
section
variable {a : Ad} {H H' : Hp} {M M' : List Addr}
theorem itemAt_word {v : V} {w n : Nat} : ItemAt a H M v (.word w n) ↔ v = .int w := by rw [ItemAt]
theorem itemAt_block {v : V} {l : List (List Item)} : ItemAt a H M v (.block l) ↔ ∃ (b dx L : Addr) (c : V) (ss : List V), v = .ref b ∧ b ∉ M ∧ L ∉ M ∧ H b = some (.ins a.cB dx (bF c L)) ∧ H L = some (.lst ss) ∧ StmtsAt a H M ss l := by rw [ItemAt]
theorem itemsAt_nil {vs : List V} : ItemsAt a H M vs [] ↔ vs = [] := by rw [ItemsAt]
theorem itemsAt_cons {vs : List V} {x : Item} {l : List Item} : ItemsAt a H M vs (x :: l) ↔ ∃ v r, vs = v :: r ∧ ItemAt a H M v x ∧ ItemsAt a H M r l := by rw [ItemsAt]
theorem stmtsAt_nil {vs : List V} : StmtsAt a H M vs [] ↔ vs = [] := by rw [StmtsAt]
theorem stmtsAt_cons {vs : List V} {s : List Item} {l : List (List Item)} : StmtsAt a H M vs (s :: l) ↔ ∃ v r, vs = v :: r ∧ StmtAt a H M v s ∧ StmtsAt a H M r l := by rw [StmtsAt]; rfl
mutual
theorem ItemAt.keep (hM : ∀ x ∈ M', x ∈ M) (hk : ∀ b o, H b = some o → b ∉ M → H' b = some o) : ∀ {v : V} {x : Item}, ItemAt a H M v x → ItemAt a H' M' v x
  | v, .word w n, h => by
    rw [itemAt_word] at h ⊢
    exact h
  | v, .block l, h => by
    rw [itemAt_block] at h ⊢
    obtain ⟨b, dx, L, c, ss, e, h1, h2, h3, h4, h5⟩ := h
    exact ⟨b, dx, L, c, ss, e, fun z => h1 (hM _ z), fun z => h2 (hM _ z), hk _ _ h3 h1, hk _ _ h4 h2, StmtsAt.keep hM hk h5⟩
theorem ItemsAt.keep (hM : ∀ x ∈ M', x ∈ M) (hk : ∀ b o, H b = some o → b ∉ M → H' b = some o) : ∀ {vs : List V} {l : List Item}, ItemsAt a H M vs l → ItemsAt a H' M' vs l
  | vs, [], h => by
    rw [itemsAt_nil] at h ⊢
    exact h
  | vs, x :: l, h => by
    rw [itemsAt_cons] at h ⊢
    obtain ⟨v, r, e, h1, h2⟩ := h
    exact ⟨v, r, e, ItemAt.keep hM hk h1, ItemsAt.keep hM hk h2⟩
theorem StmtsAt.keep (hM : ∀ x ∈ M', x ∈ M) (hk : ∀ b o, H b = some o → b ∉ M → H' b = some o) : ∀ {vs : List V} {l : List (List Item)}, StmtsAt a H M vs l → StmtsAt a H' M' vs l
  | vs, [], h => by
    rw [stmtsAt_nil] at h ⊢
    exact h
  | vs, s :: l, h => by
    rw [stmtsAt_cons] at h ⊢
    obtain ⟨v, r, e, ⟨st, dx, T, f, n, ts, ev, m1, m2, h1, h2, h3, h4⟩, h5⟩ := h
    exact ⟨v, r, e, ⟨st, dx, T, f, n, ts, ev, fun z => m1 (hM _ z), fun z => m2 (hM _ z), hk _ _ h1 m1, hk _ _ h2 m2, ItemsAt.keep hM hk h3, h4⟩, StmtsAt.keep hM hk h5⟩
end
theorem StmtAt.keep (hM : ∀ x ∈ M', x ∈ M) (hk : ∀ b o, H b = some o → b ∉ M → H' b = some o) {v : V} {s : List Item} (h : StmtAt a H M v s) : StmtAt a H' M' v s := by
  obtain ⟨st, dx, T, f, n, ts, ev, m1, m2, h1, h2, h3, h4⟩ := h
  exact ⟨st, dx, T, f, n, ts, ev, fun z => m1 (hM _ z), fun z => m2 (hM _ z), hk _ _ h1 m1, hk _ _ h2 m2, ItemsAt.keep hM hk h3, h4⟩
mutual
/-- an address that is not there yet may be kept out, too -/
theorem ItemAt.fresh {p : Addr} (hp : H p = none) : ∀ {v : V} {x : Item}, ItemAt a H M v x → ItemAt a H (p :: M) v x
  | v, .word w n, h => by
    rw [itemAt_word] at h ⊢
    exact h
  | v, .block l, h => by
    rw [itemAt_block] at h ⊢
    obtain ⟨b, dx, L, c, ss, e, h1, h2, h3, h4, h5⟩ := h
    exact ⟨b, dx, L, c, ss, e, fun z => (List.mem_cons.mp z).elim (ne_of_none h3 hp) h1, fun z => (List.mem_cons.mp z).elim (ne_of_none h4 hp) h2, h3, h4, StmtsAt.fresh hp h5⟩
theorem ItemsAt.fresh {p : Addr} (hp : H p = none) : ∀ {vs : List V} {l : List Item}, ItemsAt a H M vs l → ItemsAt a H (p :: M) vs l
  | vs, [], h => by
    rw [itemsAt_nil] at h ⊢
    exact h
  | vs, x :: l, h => by
    rw [itemsAt_cons] at h ⊢
    obtain ⟨v, r, e, h1, h2⟩ := h
    exact ⟨v, r, e, ItemAt.fresh hp h1, ItemsAt.fresh hp h2⟩
theorem StmtsAt.fresh {p : Addr} (hp : H p = none) : ∀ {vs : List V} {l : List (List Item)}, StmtsAt a H M vs l → StmtsAt a H (p :: M) vs l
  | vs, [], h => by
    rw [stmtsAt_nil] at h ⊢
    exact h
  | vs, s :: l, h => by
    rw [stmtsAt_cons] at h ⊢
    obtain ⟨v, r, e, ⟨st, dx, T, f, n, ts, ev, m1, m2, h1, h2, h3, h4⟩, h5⟩ := h
    exact ⟨v, r, e, ⟨st, dx, T, f, n, ts, ev, fun z => (List.mem_cons.mp z).elim (ne_of_none h1 hp) m1, fun z => (List.mem_cons.mp z).elim (ne_of_none h2 hp) m2, h1, h2, ItemsAt.fresh hp h3, h4⟩, StmtsAt.fresh hp h5⟩
end
theorem ItemsAt.len : ∀ {vs : List V} {l : List Item}, ItemsAt a H M vs l → vs.length = l.length
  | vs, [], h => by
    rw [itemsAt_nil] at h
    rw [h]
    rfl
  | vs, x :: l, h => by
    rw [itemsAt_cons] at h
    obtain ⟨v, r, e, h1, h2⟩ := h
    rw [e, List.length_cons, List.length_cons, ItemsAt.len h2]
theorem StmtsAt.len : ∀ {vs : List V} {l : List (List Item)}, StmtsAt a H M vs l → vs.length = l.length
  | vs, [], h => by
    rw [stmtsAt_nil] at h
    rw [h]
    rfl
  | vs, x :: l, h => by
    rw [stmtsAt_cons] at h
    obtain ⟨v, r, e, h1, h2⟩ := h
    rw [e, List.length_cons, List.length_cons, StmtsAt.len h2]
theorem ItemsAt.get : ∀ {vs : List V} {l : List Item} {i : Nat} {v : V}, ItemsAt a H M vs l → vs[i]? = some v → ∃ x, l[i]? = some x ∧ ItemAt a H M v x
  | vs, [], i, v, h, e => by
    rw [itemsAt_nil] at h
    rw [h] at e
    cases e
  | vs, x :: l, i, v, h, e => by
    rw [itemsAt_cons] at h
    obtain ⟨u, r, rfl, h1, h2⟩ := h
    cases i with
    | zero =>
      obtain rfl : u = v := Option.some.inj e
      exact ⟨x, rfl, h1⟩
    | succ i => exact ItemsAt.get (i := i) h2 e
theorem StmtsAt.get : ∀ {vs : List V} {l : List (List Item)} {i : Nat} {v : V}, StmtsAt a H M vs l → vs[i]? = some v → ∃ x, l[i]? = some x ∧ StmtAt a H M v x
  | vs, [], i, v, h, e => by
    rw [stmtsAt_nil] at h
    rw [h] at e
    cases e
  | vs, x :: l, i, v, h, e => by
    rw [stmtsAt_cons] at h
    obtain ⟨u, r, rfl, h1, h2⟩ := h
    cases i with
    | zero =>
      obtain rfl : u = v := Option.some.inj e
      exact ⟨x, rfl, h1⟩
    | succ i => exact StmtsAt.get (i := i) h2 e
theorem ItemsAt.append : ∀ {vs us : List V} {l m : List Item}, ItemsAt a H M vs l → ItemsAt a H M us m → ItemsAt a H M (vs ++ us) (l ++ m)
  | vs, us, [], m, h, g => by
    rw [itemsAt_nil] at h
    rw [h]
    exact g
  | vs, us, x :: l, m, h, g => by
    rw [itemsAt_cons] at h
    obtain ⟨u, r, rfl, h1, h2⟩ := h
    rw [List.cons_append, List.cons_append, itemsAt_cons]
    exact ⟨u, r ++ us, rfl, h1, ItemsAt.append h2 g⟩
theorem StmtsAt.append : ∀ {vs us : List V} {l m : List (List Item)}, StmtsAt a H M vs l → StmtsAt a H M us m → StmtsAt a H M (vs ++ us) (l ++ m)
  | vs, us, [], m, h, g => by
    rw [stmtsAt_nil] at h
    rw [h]
    exact g
  | vs, us, x :: l, m, h, g => by
    rw [stmtsAt_cons] at h
    obtain ⟨u, r, rfl, h1, h2⟩ := h
    rw [List.cons_append, List.cons_append, stmtsAt_cons]
    exact ⟨u, r ++ us, rfl, h1, StmtsAt.append h2 g⟩
theorem ItemsAt.one {v : V} {x : Item} (h : ItemAt a H M v x) : ItemsAt a H M [v] [x] := by
  rw [itemsAt_cons]
  exact ⟨v, [], rfl, h, by rw [itemsAt_nil]⟩
theorem StmtsAt.one {v : V} {x : List Item} (h : StmtAt a H M v x) : StmtsAt a H M [v] [x] := by
  rw [stmtsAt_cons]
  exact ⟨v, [], rfl, h, by rw [stmtsAt_nil]⟩
theorem ItemsAt.nil : ItemsAt a H M [] [] := by rw [itemsAt_nil]
theorem StmtsAt.nil : StmtsAt a H M [] [] := by rw [stmtsAt_nil]
end
/-- a block and its statements -/
def BlockAt (a : Ad) (H : Hp) (M : List Addr) (b : Addr) (l : List (List Item)) : Prop :=
  ∃ (dx L : Addr) (c : V) (ss : List V), b ∉ M ∧ L ∉ M ∧ H b = some (.ins a.cB dx (bF c L)) ∧ H L = some (.lst ss) ∧ StmtsAt a H M ss l
theorem BlockAt.item {a : Ad} {H : Hp} {M : List Addr} {b : Addr} {l : List (List Item)} (h : BlockAt a H M b l) : ItemAt a H M (.ref b) (.block l) := by
  obtain ⟨dx, L, c, ss, h1, h2, h3, h4, h5⟩ := h
  rw [itemAt_block]
  exact ⟨b, dx, L, c, ss, rfl, h1, h2, h3, h4, h5⟩
theorem ItemAt.block {a : Ad} {H : Hp} {M : List Addr} {v : V} {l : List (List Item)} (h : ItemAt a H M v (.block l)) : ∃ b, v = .ref b ∧ BlockAt a H M b l := by
  rw [itemAt_block] at h
  obtain ⟨b, dx, L, c, ss, e, h1, h2, h3, h4, h5⟩ := h
  exact ⟨b, e, dx, L, c, ss, h1, h2, h3, h4, h5⟩
theorem BlockAt.keep {a : Ad} {H H' : Hp} {M M' : List Addr} {b : Addr} {l : List (List Item)} (hM : ∀ x ∈ M', x ∈ M) (hk : ∀ b o, H b = some o → b ∉ M → H' b = some o) (h : BlockAt a H M b l) : BlockAt a H' M' b l := by
  obtain ⟨dx, L, c, ss, h1, h2, h3, h4, h5⟩ := h
  exact ⟨dx, L, c, ss, fun z => h1 (hM _ z), fun z => h2 (hM _ z), hk _ _ h3 h1, hk _ _ h4 h2, h5.keep hM hk⟩
theorem BlockAt.same {a : Ad} {H H' : Hp} {b : Addr} {l : List (List Item)} (hk : Same H H') (h : BlockAt a H [] b l) : BlockAt a H' [] b l := h.keep (fun _ z => z) fun b o e _ => hk b o e
/-- one item more -/
theorem take_more {α : Type} {l : List α} {i : Nat} {x : α} (h : l[i]? = some x) : l.take (i + 1) = l.take i ++ [x] := by
  rw [List.take_add_one, h]
  rfl
theorem mem_of_at {α : Type} {l : List α} {i : Nat} {x : α} (h : l[i]? = some x) : x ∈ l := List.mem_of_getElem? h
end Mr

/-! ## MrShape -/
set_option Elab.async false
set_option linter.all false
set_option maxRecDepth 100000
set_option maxHeartbeats 2000000
/-! # shape_of, all_statements -/
namespace Mr
open PySem PySem.Spec PyProof.Rows L2
open Sq16 (Item Open State Line Kind)
/-- numbers as values -/
def nv (l : List Nat) : List V := l.map fun (n : Nat) => V.int (n : Int)
theorem nv_append (l m : List Nat) : nv (l ++ m) = nv l ++ nv m := by unfold nv; rw [List.map_append]
theorem nv_len (l : List Nat) : (nv l).length = l.length := by unfold nv; rw [List.length_map]
theorem shapeAll_append : ∀ l m : List (List Item), Sq16.shapeAll (l ++ m) = Sq16.shapeAll l ++ Sq16.shapeAll m
  | [], m => by simp [Sq16.shapeAll]
  | s :: l, m => by
    rw [List.cons_append]
    simp only [Sq16.shapeAll]
    rw [shapeAll_append l m]
    simp
theorem shapeItems_append : ∀ l m : List Item, Sq16.shapeItems (l ++ m) = Sq16.shapeItems l ++ Sq16.shapeItems m
  | [], m => by simp [Sq16.shapeItems]
  | s :: l, m => by
    rw [List.cons_append]
    simp only [Sq16.shapeItems]
    rw [shapeItems_append l m]
    simp
mutual
theorem shapeOf_len : ∀ x : Item, (Sq16.shapeOf x).length ≤ 2 * szItem x
  | .word w n => by simp [Sq16.shapeOf, szItem]
  | .block l => by
    have := shapeAll_len l
    simp only [Sq16.shapeOf, szItem, List.length_cons, List.length_append, List.length_nil]
    omega
theorem shapeItems_len : ∀ l : List Item, (Sq16.shapeItems l).length ≤ 2 * szItems l
  | [] => by simp [Sq16.shapeItems]
  | x :: l => by
    have h1 := shapeOf_len x
    have h2 := shapeItems_len l
    simp only [Sq16.shapeItems, szItems, List.length_append]
    omega
theorem shapeAll_len : ∀ l : List (List Item), (Sq16.shapeAll l).length ≤ 2 * szAll l
  | [] => by simp [Sq16.shapeAll]
  | s :: l => by
    have h1 := shapeItems_len s
    have h2 := shapeAll_len l
    simp only [Sq16.shapeAll, szAll, List.length_append, List.length_cons]
    omega
end
theorem szAll_take (l : List (List Item)) (i : Nat) : szAll (l.take i) ≤ szAll l := by
  have e := szAll_append (l.take i) (l.drop i)
  rw [List.take_append_drop] at e
  omega
theorem szItems_take (l : List Item) (i : Nat) : szItems (l.take i) ≤ szItems l := by
  have e := szItems_append (l.take i) (l.drop i)
  rw [List.take_append_drop] at e
  omega
theorem deepAll_mem : ∀ {l : List (List Item)} {s : List Item}, s ∈ l → Sq16.deepItems s ≤ Sq16.deepAll l
  | y :: l, s, h => by
    simp only [Sq16.deepAll]
    rcases List.mem_cons.mp h with e | h
    · subst e
      omega
    · have := deepAll_mem h
      omega
theorem deepItems_mem : ∀ {l : List Item} {b : List (List Item)}, Item.block b ∈ l → 1 + Sq16.deepAll b ≤ Sq16.deepItems l
  | y :: l, b, h => by
    rcases List.mem_cons.mp h with e | h
    · subst e
      simp only [Sq16.deepItems]
      omega
    · have := deepItems_mem h
      cases y <;> simp only [Sq16.deepItems] <;> omega
/-- shape_of, n calls in one another at the most -/
def spShape (a : Ad) (n : Nat) : Sp := fun vs H Q _ => ∃ (b : Addr) (l : List (List Item)), vs = [.ref b] ∧ BlockAt a H [] b l ∧ Sq16.deepAll l < n ∧ szAll l ≤ 4000 ∧
  ∀ (H' : Hp) (p : Addr), Same H H' → H' p = some (.lst (nv (Sq16.shapeAll l))) → Q (.ref p) H'
section
variable {P : Program} {w : World} {K : PySem.W.Frag} {mg : Str → Option Value} {base : Heap} {a : Ad}
theorem scShape : FnScope ["block", "found", "statement", "thing"] ["block"] (defScope stShapeOf) := ⟨rfl, rfl, rfl, by decide +kernel, rfl, by decide +kernel, by decide +kernel⟩
theorem ok_shape (T : Tx K mg a) : ∀ n : Nat, FnOk P w K mg base CX0 n a.fShapeOf a.dShapeOf ["block"] (spShape a n)
  | 0 => by
    have no : ∀ vs H Q E, ¬ spShape a 0 vs H Q E := fun vs H Q E h => by
      obtain ⟨b, l, _, _, h1, _⟩ := h
      omega
    exact ⟨fun vs H Q E h => absurd h (no vs H Q E), fun A outer s H args us vs Q E _ _ _ _ h => absurd h (no vs H Q E)⟩
  | n + 1 => by
    have G := ok_shape T n
    refine T.shapeOf.fn.ok scShape (fun vs H Q E h => ?_) (fun cdv A outer s H vs Q E hr h => ?_)
    · obtain ⟨b, l, rfl, _⟩ := h
      rfl
    obtain ⟨b, l, rfl, ⟨dx, L, c, ss, m1, m2, hb, hL, hs⟩, hdeep, hsz, k⟩ := h
    have nd := scShape.nd
    refine ⟨_, pss_cons (ps_set (i := 1) nd rfl (Or.inl rfl) (pe_lst pa_nil))
      (pss_cons (ps_for PassesOwn.never rfl (pi_list (pe_fld (pv 0) rfl)) (pg_name (i := 2) nd rfl (Or.inl rfl))
        (pss_cons (ps_for PassesOwn.never rfl (pi_list (pe_fld (pv 2) rfl)) (pg_name (i := 3) nd rfl (Or.inl rfl))
          (pss_one (ps_if (pt_val (pe_callB call_isi (by rfl) T.b_isinstance (by decide +kernel) (pa_cons (pv 3) (pa_cons (pe_bltn (v := .ty "int") (by rfl) T.b_int (by decide +kernel) rfl) pa_nil))))
            (pss_one (ps_expr (pe_bm PySem.F.plainAttrs_list PySem.F.slot_list_append PySem.F.type_list_append mt_append (pv 1) (pa_cons (pv 3) pa_nil))))
            (pss_one (ps_set (i := 1) nd rfl (Or.inl rfl) (pe_op op_cat (pe_op op_cat (pe_op op_cat (pv 1) (pe_lst (pa_cons (pe_gi rfl T.k_BLOCK_BEGINS) pa_nil)))
              (pe_call G hr rfl T.shapeOf.g T.shapeOf.fn.kp T.shapeOf.b .nil pass0 (pa_cons (pv 3) pa_nil))) (pe_lst (pa_cons (pe_gi rfl T.k_BLOCK_ENDS) pa_nil))))))))
        (pss_one (ps_expr (pe_bm PySem.F.plainAttrs_list PySem.F.slot_list_append PySem.F.type_list_append mt_append (pv 1) (pa_cons (pe_gi rfl T.k_STATEMENT_ENDS) pa_nil))))))
      (pss_one (ps_ret (pv 1)))), ?_⟩
    have shl := shapeAll_len l
    -- found = []
    refine ⟨by show 0 ≤ sizeLine; decide, fun f0 hf0 => ?_⟩
    have s0 : Same H (upd H f0 (.lst [])) := same_new hf0 _
    refine ⟨_, rfl, b, a.cB, dx, _, _, rfl, s0 _ _ hb, T.clB, T.nB_statements, bF_statements .., L, rfl, ⟨_, SqL.of (s0 _ _ hL)⟩, for_list (K := K) (a := L) (xs := ss)
      (fun i σ H' => ∃ (f : Addr) (v2 v3 : Option V), σ = [some (.ref b), some (.ref f), v2, v3] ∧ Same H H' ∧ H f = none ∧ H' f = some (.lst (nv (Sq16.shapeAll (l.take i)))))
      ⟨f0, none, none, rfl, s0, hf0, upd_same⟩ (fun i σ H' _ ⟨f, v2, v3, _, s1, _⟩ => SqL.of (s1 _ _ hL)) ?_ ?_⟩
    · rintro i y σ H1 hi ⟨f, v2, v3, rfl, s1, nf, hf⟩
      obtain ⟨st, hst, p, dp, Tt, ff, nn, ts, rfl, _, _, hp, hT, hits, _⟩ := hs.get hi
      have hts : 1 + szItems st ≤ szAll l := szAll_mem (mem_of_at hst)
      have take1 : szAll (l.take i) + 1 + szItems st ≤ szAll l := by
        have e := szAll_append (l.take (i + 1)) (l.drop (i + 1))
        rw [List.take_append_drop, take_more hst, szAll_append] at e
        simp only [szAll] at e
        omega
      have len1 := shapeAll_len (l.take i)
      refine ⟨_, rfl, p, a.cS, dp, _, _, rfl, s1 _ _ hp, T.clS, T.nS_things, sF_things .., Tt, rfl, ⟨_, SqL.of (s1 _ _ hT)⟩, for_list (K := K) (a := Tt) (xs := ts)
        (fun j σ H' => ∃ (f : Addr) (v3 : Option V), σ = [some (.ref b), some (.ref f), some (.ref p), v3] ∧ Same H H' ∧ H f = none ∧ H' f = some (.lst (nv (Sq16.shapeAll (l.take i) ++ Sq16.shapeItems (st.take j)))))
        ⟨f, v3, rfl, s1, nf, by rw [List.take_zero]; simpa [Sq16.shapeItems] using hf⟩ (fun j σ H' _ ⟨f, v3, _, s2, _⟩ => SqL.of (s2 _ _ hT)) ?_ ?_⟩
      · rintro j z σ H2 hj ⟨f, v3, rfl, s2, nf, hf⟩
        obtain ⟨x, hx, hxa⟩ := hits.get hj
        have more : Sq16.shapeItems (st.take (j + 1)) = Sq16.shapeItems (st.take j) ++ Sq16.shapeOf x := by
          rw [take_more hx, shapeItems_append]
          simp [Sq16.shapeItems]
        have lenj := shapeItems_len (st.take j)
        have szj : szItems (st.take j) + szItem x ≤ szItems st := by
          have e := szItems_append (st.take (j + 1)) (st.drop (j + 1))
          rw [List.take_append_drop, take_more hx, szItems_append] at e
          simp only [szItems] at e
          omega
        have lenx := shapeOf_len x
        cases x with
        | word ww nn2 =>
          have ez : z = .int ww := itemAt_word.mp hxa
          subst ez
          refine ⟨_, rfl, _, _, _, _, true, rfl, .ty "int", .base (.int _), kit_ty (by decide +kernel), _, rfl, if_true_of rfl ?_⟩
          refine ⟨_, rfl, .inl ⟨rfl, _, SqL.of hf⟩, _, rfl, f, _, _, rfl, rfl, hf, ?_, ?_⟩
          · rw [nv_len, List.length_append]
            exact size_lt (by omega)
          · refine ⟨f, _, rfl, fun c o e => ?_, nf, ?_⟩
            · rw [upd_ne (ne_of_none e nf)]
              exact s2 c o e
            · rw [upd_same, more, ← List.append_assoc, nv_append (Sq16.shapeAll (l.take i) ++ Sq16.shapeItems (st.take j))]
              rfl
        | block bl =>
          obtain ⟨q, rfl, hq⟩ := hxa.block
          obtain ⟨dq, Lq, cq, sq, _, _, hq1, _, _⟩ := id hq
          refine ⟨_, rfl, _, _, _, _, false, rfl, .ty "int", .base (.ins (s2 _ _ hq1) T.clB T.bTy1 T.bTy2 T.bTy3 T.bTy4), T.bTy5, _, rfl, if_false_of rfl ?_⟩
          have hdq : Sq16.deepAll bl < n := by
            have d1 := deepItems_mem (mem_of_at hx)
            have d2 := deepAll_mem (mem_of_at hst)
            omega
          have szq : szAll bl ≤ 4000 := by
            simp only [szItem] at szj
            omega
          have lenq := shapeAll_len bl
          simp only [szItem] at szj
          refine ⟨_, rfl, by show 1 ≤ sizeLine; decide, fun g1 hg1 => ?_⟩
          have s3 : Same H2 (upd H2 g1 (.lst [.int 64])) := same_new hg1 _
          refine ⟨f, g1, _, _, rfl, rfl, s3 _ _ hf, upd_same, ?_, fun g2 hg2 => ?_⟩
          · rw [nv_len, List.length_append, List.length_singleton]
            exact size_le (by omega)
          have s4 := s3.trans (same_new hg2 (.lst (nv (Sq16.shapeAll (l.take i) ++ Sq16.shapeItems (st.take j)) ++ [.int 64])))
          refine ⟨_, rfl, q, bl, rfl, hq.same (s2.trans s4), hdq, szq, fun H3 g3 s5 hg3 => ?_⟩
          refine ⟨g2, g3, _, _, rfl, rfl, s5 _ _ upd_same, hg3, ?_, fun g4 hg4 => ?_⟩
          · rw [List.length_append, nv_len, nv_len, List.length_append, List.length_singleton]
            exact size_le (by omega)
          have s6 := s5.trans (same_new hg4 (.lst ((nv (Sq16.shapeAll (l.take i) ++ Sq16.shapeItems (st.take j)) ++ [.int 64]) ++ nv (Sq16.shapeAll bl))))
          refine ⟨by show 1 ≤ sizeLine; decide, fun g5 hg5 => ?_⟩
          have ne45 : g4 ≠ g5 := ne_of_none upd_same hg5
          refine ⟨g4, g5, _, _, rfl, rfl, (upd_ne ne45).trans upd_same, upd_same, ?_, fun g6 hg6 => ?_⟩
          · rw [List.length_append, List.length_append, nv_len, nv_len, List.length_append, List.length_singleton, List.length_singleton]
            exact size_le (by omega)
          have s7 := ((s2.trans s4).trans s6).trans (same_new hg5 (.lst [.int 65]))
          refine ⟨g6, _, rfl, s7.trans (same_new hg6 _), s7.free hg6, ?_⟩
          rw [upd_same, more]
          simp only [Sq16.shapeOf, nv, List.map_append, List.map_cons, List.map_nil, List.append_assoc, List.cons_append, List.nil_append]
          rfl
      · rintro σ H2 ⟨f, v3, rfl, s2, nf, hf⟩
        have hlen : ts.length = st.length := hits.len
        rw [hlen, List.take_length] at hf
        have leni := shapeItems_len st
        refine ⟨_, rfl, .inl ⟨rfl, _, SqL.of hf⟩, f, _, _, rfl, rfl, hf, ?_, ?_⟩
        · rw [nv_len, List.length_append]
          exact size_lt (by omega)
        · refine ⟨f, _, _, rfl, fun c o e => ?_, nf, ?_⟩
          · rw [upd_ne (ne_of_none e nf)]
            exact s2 c o e
          · rw [upd_same, take_more hst, shapeAll_append]
            simp only [Sq16.shapeAll, nv, List.map_append, List.map_cons, List.map_nil, List.append_assoc]
            rfl
    · rintro σ H1 ⟨f, v2, v3, rfl, s1, nf, hf⟩
      have hlen : ss.length = l.length := hs.len
      rw [hlen, List.take_length] at hf
      exact ⟨_, rfl, k _ f s1 hf⟩
end
end Mr

/-! ## MrAllSt -/
set_option Elab.async false
set_option linter.all false
set_option maxRecDepth 100000
set_option maxHeartbeats 2000000
/-! # all_statements -/
namespace Mr
open PySem PySem.Spec PyProof.Rows L2
open Sq16 (Item Open State Line Kind)
theorem pa_append {α β : Type} {R : α → β → Prop} : ∀ {xs us : List α} {ys vs : List β}, Paired R xs ys → Paired R us vs → Paired R (xs ++ us) (ys ++ vs)
  | _, _, _, _, .nil, s => s
  | _, _, _, _, .cons r t, s => .cons r (pa_append t s)
theorem pa_imp {α β : Type} {R S : α → β → Prop} (h : ∀ x y, R x y → S x y) : ∀ {xs : List α} {ys : List β}, Paired R xs ys → Paired S xs ys
  | _, _, .nil => .nil
  | _, _, .cons r t => .cons (h _ _ r) (pa_imp h t)
theorem pa_get {α β : Type} {R : α → β → Prop} : ∀ {xs : List α} {ys : List β}, Paired R xs ys → ∀ {i : Nat} {x : α}, xs[i]? = some x → ∃ y, ys[i]? = some y ∧ R x y
  | _, _, .nil, i, x, h => by cases h
  | _, _, .cons r t, 0, x, h => by
    have e := Option.some.inj h
    subst e
    exact ⟨_, rfl, r⟩
  | _, _, .cons r t, i + 1, x, h => pa_get t h
theorem listItems_append (d : Nat) : ∀ l m : List Item, Sq16.listItems d (l ++ m) = Sq16.listItems d l ++ Sq16.listItems d m
  | [], m => by simp [Sq16.listItems]
  | .word w n :: l, m => by
    rw [List.cons_append]
    simp only [Sq16.listItems]
    exact listItems_append d l m
  | .block b :: l, m => by
    rw [List.cons_append]
    simp only [Sq16.listItems]
    rw [listItems_append d l m, List.append_assoc]
def spanRow (d : Nat) (s : List Item) : List (Nat × Nat × Nat) := match Sq16.spanItems none s with
  | none => []
  | some x => [(x.1, x.2, d)]
theorem listAll_cons (d : Nat) (s : List Item) (l : List (List Item)) : Sq16.listAll d (s :: l) = spanRow d s ++ (Sq16.listItems d s ++ Sq16.listAll d l) := by
  rw [Sq16.listAll.eq_def]
  rfl
theorem listAll_append (d : Nat) : ∀ l m : List (List Item), Sq16.listAll d (l ++ m) = Sq16.listAll d l ++ Sq16.listAll d m
  | [], m => by simp [Sq16.listAll]
  | s :: l, m => by
    rw [List.cons_append, listAll_cons, listAll_cons, listAll_append d l m]
    simp [List.append_assoc]
mutual
theorem listItems_len : ∀ (d : Nat) (l : List Item), (Sq16.listItems d l).length ≤ szItems l
  | d, [] => by simp [Sq16.listItems]
  | d, .word w n :: l => by
    have := listItems_len d l
    simp only [Sq16.listItems, szItems]
    omega
  | d, .block b :: l => by
    have h1 := listAll_len (d + 1) b
    have h2 := listItems_len d l
    simp only [Sq16.listItems, szItems, szItem, List.length_append]
    omega
theorem listAll_len : ∀ (d : Nat) (l : List (List Item)), (Sq16.listAll d l).length ≤ szAll l
  | d, [] => by simp [Sq16.listAll]
  | d, s :: l => by
    have h1 := listItems_len d s
    have h2 := listAll_len d l
    rw [listAll_cons]
    have h3 : (spanRow d s).length ≤ 1 := by
      unfold spanRow
      cases Sq16.spanItems none s <;> simp
    simp only [szAll, List.length_append]
    omega
end
theorem listAll_one {d f n : Nat} {s : List Item} (h : Sq16.spanItems none s = some (f, n)) : Sq16.listAll d [s] = (f, n, d) :: Sq16.listItems d s := by
  rw [listAll_cons]
  unfold spanRow
  rw [h]
  simp [Sq16.listAll]
/-- a tuple (a statement, how many blocks are around it) -/
def TripAt (a : Ad) (H : Hp) (v : V) (x : Nat × Nat × Nat) : Prop := ∃ (t st dx T : Addr), v = .ref t ∧ H t = some (.tup [.ref st, .int x.2.2]) ∧ H st = some (.ins a.cS dx (sF T (.int x.1) (.int x.2.1)))
theorem TripAt.same {a : Ad} {H H' : Hp} (s : Same H H') (v : V) (x : Nat × Nat × Nat) (h : TripAt a H v x) : TripAt a H' v x := by
  obtain ⟨t, st, dx, T, e, h1, h2⟩ := h
  exact ⟨t, st, dx, T, e, s _ _ h1, s _ _ h2⟩
def spAllSt (a : Ad) (n : Nat) : Sp := fun vs H Q _ => ∃ (b : Addr) (d : Nat) (l : List (List Item)), vs = [.ref b, .int d] ∧ BlockAt a H [] b l ∧ Sq16.deepAll l < n ∧ szAll l ≤ 4000 ∧
  ∀ (H' : Hp) (p : Addr) (us : List V), Same H H' → H' p = some (.lst us) → Paired (TripAt a H') us (Sq16.listAll d l) → Q (.ref p) H'
section
variable {P : Program} {w : World} {K : PySem.W.Frag} {mg : Str → Option Value} {base : Heap} {a : Ad}
theorem scAllSt : FnScope ["block", "depth", "found", "statement", "thing"] ["block", "depth"] (defScope stAllSt) := ⟨rfl, rfl, rfl, by decide +kernel, rfl, by decide +kernel, by decide +kernel⟩
theorem ok_allSt (T : Tx K mg a) : ∀ n : Nat, FnOk P w K mg base CX0 n a.fAllSt a.dAllSt ["block", "depth"] (spAllSt a n)
  | 0 => by
    have no : ∀ vs H Q E, ¬ spAllSt a 0 vs H Q E := fun vs H Q E h => by
      obtain ⟨b, d, l, _, _, h1, _⟩ := h
      omega
    exact ⟨fun vs H Q E h => absurd h (no vs H Q E), fun A outer s H args us vs Q E _ _ _ _ h => absurd h (no vs H Q E)⟩
  | n + 1 => by
    have G := ok_allSt T n
    refine T.allSt.fn.ok scAllSt (fun vs H Q E h => ?_) (fun cdv A outer s H vs Q E hr h => ?_)
    · obtain ⟨b, d, l, rfl, _⟩ := h
      rfl
    obtain ⟨b, d, l, rfl, ⟨dx, L, c, ss, m1, m2, hb, hL, hs⟩, hdeep, hsz, k⟩ := h
    have nd := scAllSt.nd
    refine ⟨_, pss_cons (ps_set (i := 2) nd rfl (Or.inl rfl) (pe_lst pa_nil))
      (pss_cons (ps_for PassesOwn.never rfl (pi_list (pe_fld (pv 0) rfl)) (pg_name (i := 3) nd rfl (Or.inl rfl))
        (pss_cons (ps_expr (pe_bm PySem.F.plainAttrs_list PySem.F.slot_list_append PySem.F.type_list_append mt_append (pv 2) (pa_cons (pe_tup (pa_cons (pv 3) (pa_cons (pv 1) pa_nil))) pa_nil)))
        (pss_one (ps_for PassesOwn.never rfl (pi_list (pe_fld (pv 3) rfl)) (pg_name (i := 4) nd rfl (Or.inl rfl))
          (pss_one (ps_if (pt_not (pt_val (pe_callB call_isi (by rfl) T.b_isinstance (by decide +kernel) (pa_cons (pv 4) (pa_cons (pe_bltn (v := .ty "int") (by rfl) T.b_int (by decide +kernel) rfl) pa_nil)))))
            (pss_one (ps_expr (pe_bm PySem.F.plainAttrs_list PySem.F.slot_list_extend PySem.F.type_list_extend mt_extend (pv 2) (pa_cons (pe_call G hr rfl T.allSt.g T.allSt.fn.kp T.allSt.b .nil pass0 (pa_cons (pv 4) (pa_cons (pe_op op_add (pv 1) pe_int) pa_nil))) pa_nil))))
            pss_nil))))))
      (pss_one (ps_ret (pv 2)))), ?_⟩
    have shl := listAll_len d l
    refine ⟨by show 0 ≤ sizeLine; decide, fun f0 hf0 => ?_⟩
    have s0 : Same H (upd H f0 (.lst [])) := same_new hf0 _
    refine ⟨_, rfl, b, a.cB, dx, _, _, rfl, s0 _ _ hb, T.clB, T.nB_statements, bF_statements .., L, rfl, ⟨_, SqL.of (s0 _ _ hL)⟩, for_list (K := K) (a := L) (xs := ss)
      (fun i σ H' => ∃ (us : List V) (v3 v4 : Option V), σ = [some (.ref b), some (.int d), some (.ref f0), v3, v4] ∧ Same H H' ∧ H' f0 = some (.lst us) ∧ Paired (TripAt a H') us (Sq16.listAll d (l.take i)))
      ⟨[], none, none, rfl, s0, upd_same, by rw [List.take_zero]; simp only [Sq16.listAll]; exact .nil⟩ (fun i σ H' _ ⟨us, v2, v3, _, s1, _⟩ => SqL.of (s1 _ _ hL)) ?_ ?_⟩
    · rintro i y σ H1 hi ⟨us, v3, v4, rfl, s1, hf, hp⟩
      obtain ⟨st, hst, p, dp, Tt, ff, nn, ts, rfl, _, _, hp1, hT, hits, hspan⟩ := hs.get hi
      have take1 : szAll (l.take i) + 1 + szItems st ≤ szAll l := by
        have e := szAll_append (l.take (i + 1)) (l.drop (i + 1))
        rw [List.take_append_drop, take_more hst, szAll_append] at e
        simp only [szAll] at e
        omega
      have len1 := listAll_len d (l.take i)
      have lus : us.length = (Sq16.listAll d (l.take i)).length := Paired.length hp
      -- found.append((statement, depth))
      refine ⟨_, rfl, .inl ⟨rfl, _, SqL.of hf⟩, _, rfl, _, rfl, by show 2 ≤ sizeLine; decide, fun t ht => ?_⟩
      have s2 := same_new ht (.tup [.ref p, .int d])
      have nft : f0 ≠ t := ne_of_none hf ht
      refine ⟨f0, _, _, rfl, rfl, s2 _ _ hf, size_lt (by omega), ?_⟩
      have s3 : Same H (upd (upd H1 t (.tup [.ref p, .int d])) f0 (.lst (us ++ [.ref t]))) := fun c o e => by
        rw [upd_ne (ne_of_none e hf0)]
        exact s2 c o (s1 c o e)
      have s3' : ∀ c o, H1 c = some o → c ≠ f0 → upd (upd H1 t (.tup [.ref p, .int d])) f0 (.lst (us ++ [.ref t])) c = some o := fun c o e ne => by
        rw [upd_ne ne]
        exact s2 c o e
      have trip : ∀ {H1 H2 : Hp} {v : V} {x : Nat × Nat × Nat} {xs : List V}, H1 f0 = some (.lst xs) → (∀ c o, H1 c = some o → c ≠ f0 → H2 c = some o) → TripAt a H1 v x → TripAt a H2 v x := by
        intro H1 H2 v x xs e0 kk h
        obtain ⟨t, st, dx, T, e, h1, h2⟩ := h
        exact ⟨t, st, dx, T, e, kk _ _ h1 (ne_of h1 e0 (by intro z; cases z)), kk _ _ h2 (ne_of h2 e0 (by intro z; cases z))⟩
      have tp : TripAt a (upd (upd H1 t (.tup [.ref p, .int d])) f0 (.lst (us ++ [.ref t]))) (.ref t) (ff, nn, d) :=
        ⟨t, p, dp, Tt, rfl, by rw [upd_ne (Ne.symm nft), upd_same], s3 _ _ hp1⟩
      refine ⟨_, rfl, p, a.cS, dp, _, _, rfl, s3 _ _ hp1, T.clS, T.nS_things, sF_things .., Tt, rfl, ⟨_, SqL.of (s3 _ _ hT)⟩, for_list (K := K) (a := Tt) (xs := ts)
        (fun j σ H' => ∃ (us : List V) (v4 : Option V), σ = [some (.ref b), some (.int d), some (.ref f0), some (.ref p), v4] ∧ Same H H' ∧ H' f0 = some (.lst us) ∧ Paired (TripAt a H') us (Sq16.listAll d (l.take i) ++ (ff, nn, d) :: Sq16.listItems d (st.take j)))
        ⟨us ++ [.ref t], v4, rfl, s3, upd_same, ?_⟩ (fun j σ H' _ ⟨us, v4, _, s4, _⟩ => SqL.of (s4 _ _ hT)) ?_ ?_⟩
      · refine pa_append (pa_imp (fun v x h => trip hf s3' h) hp) ?_
        rw [List.take_zero]
        simp only [Sq16.listItems]
        exact .cons tp .nil
      · rintro j z σ H2 hj ⟨us2, v4', rfl, s4, hf2, hp2⟩
        obtain ⟨x, hx, hxa⟩ := hits.get hj
        have szj : szItems (st.take j) + szItem x ≤ szItems st := by
          have e := szItems_append (st.take (j + 1)) (st.drop (j + 1))
          rw [List.take_append_drop, take_more hx, szItems_append] at e
          simp only [szItems] at e
          omega
        have lenj := listItems_len d (st.take j)
        have lus2 : us2.length = (Sq16.listAll d (l.take i) ++ (ff, nn, d) :: Sq16.listItems d (st.take j)).length := Paired.length hp2
        rw [List.length_append, List.length_cons] at lus2
        cases x with
        | word ww nn2 =>
          have ez : z = .int ww := itemAt_word.mp hxa
          subst ez
          refine ⟨_, rfl, _, _, _, _, true, rfl, .ty "int", .base (.int _), kit_ty (by decide +kernel), _, rfl, if_false_of rfl ?_⟩
          refine ⟨us2, _, rfl, s4, hf2, ?_⟩
          rw [take_more hx, listItems_append]
          simp only [Sq16.listItems, List.append_nil]
          exact hp2
        | block bl =>
          obtain ⟨q, rfl, hq⟩ := hxa.block
          obtain ⟨dq, Lq, cq, sq, _, _, hq1, _, _⟩ := id hq
          refine ⟨_, rfl, _, _, _, _, false, rfl, .ty "int", .base (.ins (s4 _ _ hq1) T.clB T.bTy1 T.bTy2 T.bTy3 T.bTy4), T.bTy5, _, rfl, if_true_of rfl ?_⟩
          have hdq : Sq16.deepAll bl < n := by
            have d1 := deepItems_mem (mem_of_at hx)
            have d2 := deepAll_mem (mem_of_at hst)
            omega
          simp only [szItem] at szj
          have szq : szAll bl ≤ 4000 := by omega
          have lenq := listAll_len (d + 1) bl
          refine ⟨_, rfl, .inl ⟨rfl, _, SqL.of hf2⟩, _, rfl, _, rfl, _, _, rfl, rfl, q, d + 1, bl, rfl, hq.same s4, hdq, szq, fun H3 g us3 s5 hg hp3 => ?_⟩
          have lus3 : us3.length = (Sq16.listAll (d + 1) bl).length := Paired.length hp3
          refine ⟨f0, g, _, _, rfl, rfl, s5 _ _ hf2, hg, size_le (by omega), ?_⟩
          have s6 : ∀ c o, H3 c = some o → c ≠ f0 → upd H3 f0 (.lst (us2 ++ us3)) c = some o := fun c o e ne => by rw [upd_ne ne]; exact e
          refine ⟨us2 ++ us3, _, rfl, fun c o e => s6 c o (s5 c o (s4 c o e)) (ne_of_none e hf0), upd_same, ?_⟩
          have e : Sq16.listAll d (l.take i) ++ (ff, nn, d) :: Sq16.listItems d (st.take (j + 1)) = (Sq16.listAll d (l.take i) ++ (ff, nn, d) :: Sq16.listItems d (st.take j)) ++ Sq16.listAll (d + 1) bl := by
            rw [take_more hx, listItems_append]
            simp only [Sq16.listItems, List.append_nil, List.append_assoc, List.cons_append]
          rw [e]
          exact pa_append (pa_imp (fun v x h => trip (s5 _ _ hf2) s6 (h.same s5)) hp2) (pa_imp (fun v x h => trip (s5 _ _ hf2) s6 h) hp3)
      · rintro σ H2 ⟨us2, v4', rfl, s4, hf2, hp2⟩
        have hlen : ts.length = st.length := hits.len
        rw [hlen, List.take_length] at hp2
        refine ⟨us2, _, _, rfl, s4, hf2, ?_⟩
        rw [take_more hst, listAll_append, listAll_one hspan]
        exact hp2
    · rintro σ H1 ⟨us, v3, v4, rfl, s1, hf, hp⟩
      have hlen : ss.length = l.length := hs.len
      rw [hlen, List.take_length] at hp
      exact ⟨_, rfl, k _ f0 us s1 hf hp⟩
end
end Mr

/-! ## MrRules -/
set_option Elab.async false
set_option linter.all false
set_option maxRecDepth 100000
set_option maxHeartbeats 2000000
/-! # Rules that the layer lacks: a list against [], slices by two, attributes as targets, methods that raise -/
namespace Mr
open PySem PySem.Spec PyProof.Rows L2
section
variable {X : Cx}
/-! ### l == [], whatever l holds -/
def rEqNil (K : PySem.W.Frag) : R2 := fun x y H Q => ∃ (p q : Addr) (xs : List V), x = .ref p ∧ y = .ref q ∧ SqL K H p xs ∧ SqL K H q [] ∧ Q (.bl xs.isEmpty) H
theorem op_eqNil (hu : X.A.units + 64 < cLine) : OpR X (compareOp .Eq) (rEqNil X.K) := by
  intro pins s σ H x y v u Q I rx ry h
  obtain ⟨p, q, xs, rfl, rfl, hp, hq, k⟩ := h
  cases xs with
  | nil =>
    have k' : rEqD X.K (.ref p) (.ref q) H Q := ⟨.list [], .list [], .lst hp .nil, .lst hq .nil, by decide, by decide, by simpa [PyData.eqv, PyData.eqvAll] using k⟩
    exact op_eqD hu pins s σ H _ _ v u Q I rx ry k'
  | cons z r =>
    cases rx
    cases ry
    obtain ⟨its, rv, ht, hz⟩ := I.list hp
    obtain ⟨its2, rv2, ht2, hz2⟩ := I.list hq
    have l1 := rv.length
    have l2 := rv2.length
    refine SeqAt.eq_list_lengthsAt ht.isList ht2.isList ?_ (by omega) ⟨.bl false, H, I, rfl, k⟩
    rw [List.size_toArray, List.size_toArray, ← l1, ← l2]
    simp
/-! ### lists of whole numbers compared -/
theorem dp_nv {K : PySem.W.Frag} {H : Hp} : ∀ l : List Nat, DpAll K H (nv l) (l.map fun (n : Nat) => PyData.int (n : Int))
  | [] => .nil
  | n :: l => .cons (.int _) (dp_nv l)
theorem lay_nv : ∀ l : List Nat, PyData.canLayAll0 (l.map fun (n : Nat) => PyData.int (n : Int)) = true
  | [] => rfl
  | n :: l => by
    have := lay_nv l
    simp only [List.map_cons, PyData.canLayAll0, PyData.canLay0, this]
    rfl
theorem depthAll_nv : ∀ l : List Nat, PyData.depthAll (l.map fun (n : Nat) => PyData.int (n : Int)) ≤ 1
  | [] => by simp [PyData.depthAll]
  | n :: l => by
    have := depthAll_nv l
    simp only [List.map_cons, PyData.depthAll, PyData.depth]
    omega
theorem shaped_nv (l : List Nat) : SeqAt.shaped (.list (l.map fun (n : Nat) => PyData.int (n : Int))) = true := by
  unfold SeqAt.shaped
  have h1 : PyData.canLay0 (.list (l.map fun (n : Nat) => PyData.int (n : Int))) = true := by
    simp only [PyData.canLay0, lay_nv l]
  have h2 : PyData.depth (.list (l.map fun (n : Nat) => PyData.int (n : Int))) ≤ 64 := by
    have := depthAll_nv l
    simp only [PyData.depth]
    omega
  rw [h1]
  simp [h2]
theorem eqvAll_nv : ∀ l m : List Nat, PyData.eqvAll (l.map fun (n : Nat) => PyData.int (n : Int)) (m.map fun (n : Nat) => PyData.int (n : Int)) = decide (l = m)
  | [], [] => by simp [PyData.eqvAll]
  | [], _ :: _ => by simp [PyData.eqvAll]
  | _ :: _, [] => by simp [PyData.eqvAll]
  | n :: l, k :: m => by
    simp only [List.map_cons, PyData.eqvAll, PyData.eqv]
    rw [eqvAll_nv l m]
    by_cases h1 : n = k
    · subst h1
      simp
    · have h2 : ((n : Int) == (k : Int)) = false := beq_eq_false_iff_ne.mpr fun z => h1 (by omega)
      rw [h2]
      simp [h1]
def rEqNat (K : PySem.W.Frag) : R2 := fun x y H Q => ∃ (p q : Addr) (l m : List Nat), x = .ref p ∧ y = .ref q ∧ SqL K H p (nv l) ∧ SqL K H q (nv m) ∧ Q (.bl (decide (l = m))) H
def rNeNat (K : PySem.W.Frag) : R2 := fun x y H Q => ∃ (p q : Addr) (l m : List Nat), x = .ref p ∧ y = .ref q ∧ SqL K H p (nv l) ∧ SqL K H q (nv m) ∧ Q (.bl (!decide (l = m))) H
theorem op_eqNat (hu : X.A.units + 64 < cLine) : OpR X (compareOp .Eq) (rEqNat X.K) := by
  intro pins s σ H x y v u Q I rx ry h
  obtain ⟨p, q, l, m, rfl, rfl, hp, hq, k⟩ := h
  refine op_eqD hu pins s σ H _ _ v u Q I rx ry ⟨_, _, .lst hp (dp_nv l), .lst hq (dp_nv m), shaped_nv l, shaped_nv m, ?_⟩
  rw [PyData.eqv, eqvAll_nv]
  exact k
theorem op_neNat (hu : X.A.units + 64 < cLine) : OpR X (compareOp .NotEq) (rNeNat X.K) := by
  intro pins s σ H x y v u Q I rx ry h
  obtain ⟨p, q, l, m, rfl, rfl, hp, hq, k⟩ := h
  refine op_neD hu pins s σ H _ _ v u Q I rx ry ⟨_, _, .lst hp (dp_nv l), .lst hq (dp_nv m), shaped_nv l, shaped_nv m, ?_⟩
  rw [PyData.eqv, eqvAll_nv]
  exact k
/-! ### o.f as a target -/
def gFld (K : PySem.W.Frag) (ta : TE) (f : Str) : TG := fun v σ H Q => ta σ H fun x H1 => ∃ (p C dx : Addr) (fs : List (Str × V)), x = .ref p ∧ H1 p = some (.ins C dx fs) ∧ Cls K C ∧ NoAttr K C f ∧ fs.length < 1000 ∧ Q σ (upd H1 p (.ins C dx (putF f v fs)))
theorem pg_fld {o : Expr} {f : Str} {pos : Pos} {ta : TE} (ha : PE X o ta) : PG X (.Attribute o f pos) (gFld X.K ta f) := by
  refine ⟨fun pins s σ H v u Q I r h => ?_⟩
  rw [assign_Attribute]
  refine wpAny_bind (wpAny_holding (thn (ha.run pins s σ H _ I h) fun ov s1 ⟨x, H1, I1, rx, p, C, dx, fs, ex, ep, c, n, l, q⟩ => ?_))
  subst ex
  obtain rfl : ov = Value.ref p := rx
  refine wpAny_bind (wpAny_standAt (wpAny_bind (wpAny_holding (setattr_ok I1 ep c n l r fun s2 I2 => ?_))))
  exact wpAny_release ⟨σ, _, I2, q⟩
/-! ### a method that may raise, called within a try -/
def tMethW (C : Addr) (m : Str) (sp : Sp) (E : L2.St → XK) (ta : TE) (t : TA) : TE := fun σ H Q => ta σ H fun x H1 => ∃ (p dx : Addr) (fs : List (Str × V)), x = .ref p ∧ H1 p = some (.ins C dx fs) ∧ fs.lookup m = none ∧ t σ H1 fun vs H2 => sp (x :: vs) H2 Q (E σ)
theorem pe_methW {CX : CXT} {k : Nat} {f C : Addr} {fd : FuncData} {ps : List Str} {sp : Sp} {E : L2.St → XK} {m : Str} {pos apos : Pos} {e o : Expr} {es : List Expr} {ta : TE} {t : TA} {pl : Sem Bool} (he : PE X o ta) (c : Cls X.K C) (hm : Meth X.K C m f)
    (F : FnOk X.prog X.w X.K X.mg X.base CX k f fd ps sp) (hr : Room k X.A) (hb : L2.Binds X.K fd ps []) (hx : ∀ σ, PassesAt CX X σ (E σ)) (ha : PA X (e :: es) t)
    (hst : starEach (e :: es) X.env = (false, eval e X.env) :: starEach es X.env := by rfl) (hpl : (backTo pos (starEach es X.env)).any (·.1) = false := by rfl)
    (ht : eval (.Call (.Attribute o m apos) (e :: es) [] pos) X.env = (do
      let ov ← eval o X.env
      standAt apos.atName
      let (f, first) ← holding [ov] (getMethod ov m pl)
      callWith pos f first (backTo pos (starEach (e :: es) X.env)) (backToKw pos (keywordEach [] X.env))) := by rfl) :
    PE X (.Call (.Attribute o m apos) (e :: es) [] pos) (tMethW C m sp E ta t) := by
  refine ⟨fun pins s σ H Q I h => ?_⟩
  refine PySem.W.methodCall_KW (pl := pl) (thn (he.run pins s σ H _ I h) fun u s1 hh => ?_) ht
  obtain ⟨x, H1, I1, rx, p, dx, fs, ex, ep, l, q⟩ := hh
  subst ex
  obtain rfl : u = Value.ref p := rx
  refine getmeth_ok I1 ep c hm l ?_
  refine PySem.W.callWith_K (first := [.ref p]) (h₀ := X.base) I.ok.mod.kin hm.kp (thn (ha.run pos pins s1 σ H1 _ I1 q) fun us s2 hh2 => ?_) hst hpl
  obtain ⟨vs, H2, I2, r, q2⟩ := hh2
  exact ⟨I2.kIn, run_fnS (us := .ref p :: us) (vs := .ref p :: vs) F hr hb (hx σ) I2 (.cons rfl r) q2⟩
theorem pe_methW0 {CX : CXT} {k : Nat} {f C : Addr} {fd : FuncData} {ps : List Str} {sp : Sp} {E : L2.St → XK} {m : Str} {pos apos : Pos} {o : Expr} {ta : TE} {pl : Sem Bool} (he : PE X o ta) (c : Cls X.K C) (hm : Meth X.K C m f)
    (F : FnOk X.prog X.w X.K X.mg X.base CX k f fd ps sp) (hr : Room k X.A) (hb : L2.Binds X.K fd ps []) (hx : ∀ σ, PassesAt CX X σ (E σ))
    (ht : eval (.Call (.Attribute o m apos) [] [] pos) X.env = (do
      let ov ← eval o X.env
      standAt apos.atName
      let (f, first) ← holding [ov] (getMethod ov m pl)
      callWith pos f first (backTo pos (starEach [] X.env)) (backToKw pos (keywordEach [] X.env))) := by rfl) :
    PE X (.Call (.Attribute o m apos) [] [] pos) (tMethW C m sp E ta tNil) := by
  refine ⟨fun pins s σ H Q I h => ?_⟩
  refine PySem.W.methodCall_KW (pl := pl) (thn (he.run pins s σ H _ I h) fun u s1 hh => ?_) ht
  obtain ⟨x, H1, I1, rx, p, dx, fs, ex, ep, l, q⟩ := hh
  subst ex
  obtain rfl : u = Value.ref p := rx
  refine getmeth_ok I1 ep c hm l ?_
  exact PySem.W.callWith_K0 (first := [.ref p]) I1.kIn hm.kp (run_fnS (us := [.ref p]) (vs := [.ref p]) F hr hb (hx σ) I1 (.cons rfl .nil) q)
/-! ### xs[a::2] -/
/-- each second item from a place on -/
def evs {α : Type} (a : Nat) (xs : List α) : List α := ((List.range ((xs.length - a + 1) / 2)).map fun k => a + 2 * k).filterMap fun i => xs[i]?
theorem pickV (f : List Nat) : ∀ {xs : List V} {its : List Value}, Vals xs its → Vals (f.filterMap fun i => xs[i]?) (f.filterMap fun i => its[i]?) := by
  intro xs its r
  induction f with
  | nil => exact .nil
  | cons i f ih =>
    cases e : xs[i]? with
    | none =>
      rw [List.filterMap_cons_none e, List.filterMap_cons_none (r.none_of e)]
      exact ih
    | some x =>
      obtain ⟨u, hu, ru⟩ := r.get e
      rw [List.filterMap_cons_some e, List.filterMap_cons_some hu]
      exact .cons ru ih
theorem range2 (a n : Nat) : sliceRange ((min a n : Nat) : Int) (n : Int) 2 = (List.range ((n - a + 1) / 2)).map fun k => a + 2 * k := by
  unfold sliceRange
  by_cases h : a < n
  · have e1 : min a n = a := by omega
    rw [e1]
    have e2 : ((n : Int) - (a : Int) + 2 - 1) / 2 = (((n - a + 1) / 2 : Nat) : Int) := by omega
    have h2 : (a : Int) < (n : Int) := by omega
    simp only [gt_iff_lt, Int.reduceLT, if_true, h2, e2, Int.toNat_natCast]
    apply List.map_congr_left
    intro k _
    omega
  · have e0 : (n - a + 1) / 2 = 0 := by omega
    have h2 : ¬ (((min a n : Nat) : Int) < (n : Int)) := by omega
    simp [h2, e0]
theorem pick2 (a : Nat) (items : Array Value) : slicePick items (some (a : Int)) none (some 2) = (evs a items.toList).toArray := by
  unfold slicePick evs
  have e : sliceBounds (some (a : Int)) none (some 2) items.size = (((min a items.size : Nat) : Int), (items.size : Int), 2) := by
    simp only [sliceBounds]
    simp
    omega
  have f : (fun (i : Nat) => items[i]?) = (fun (i : Nat) => items.toList[i]?) := by
    funext i
    simp
  rw [e, range2, Array.length_toList, f]
theorem evs_len {α : Type} (a : Nat) (xs : List α) : (evs a xs).length ≤ xs.length + 1 := by
  unfold evs
  refine Nat.le_trans (List.length_filterMap_le _ _) ?_
  rw [List.length_map, List.length_range]
  omega
def tStep (K : PySem.W.Frag) (a : Nat) (te : TE) : TE := fun σ H Q => te σ H fun x H1 => ∃ (p : Addr) (xs : List V), x = .ref p ∧ SqL K H1 p xs ∧ xs.length < sizeLine ∧ ∀ q, H1 q = none → Q (.ref q) (upd H1 q (.lst (evs a xs)))
theorem pe_step2 {e : Expr} {te : TE} {a k1 k2 : Nat} {p1 p2 p3 pos : Pos} (he : PE X e te) : PE X (.Subscript e (.Slice (some (.Constant (.int (a : Int)) k1 p1)) none (some (.Constant (.int 2) k2 p2)) p3) pos) (tStep X.K a te) := by
  refine ⟨fun pins s σ H Q I h => ?_⟩
  refine Subscript_ (thn (he.run pins s σ H _ I h) fun v s1 hh => ?_)
  obtain ⟨x, H1, I1, r1, p, xs, ex, hx, hlt, q⟩ := hh
  subst ex
  cases r1
  have hlo : PO X (some (.Constant (.int (a : Int)) k1 p1)) (tPart (tC (.int (a : Int)))) := po_some pe_int
  have hst : PO X (some (.Constant (.int 2) k2 p2)) (tPart (tC (.int 2))) := po_some pe_int
  refine wpAny_Slice (thn (hlo.run pins s1 σ H1 (fun o H2 => o = some (a : Int) ∧ H2 = H1) I1 ⟨_, rfl, rfl, rfl⟩) fun vl s2 hh2 => ?_)
  obtain ⟨l, H2, I2, pl, el, e2⟩ := hh2
  subst el e2
  refine thn (po_none.run pins s2 σ H2 (fun o H3 => o = none ∧ H3 = H2) I2 ⟨rfl, rfl⟩) fun vu s3 hh3 => ?_
  obtain ⟨u, H3, I3, pu, eu, e3⟩ := hh3
  subst eu e3
  refine thn (hst.run pins s3 σ H3 (fun o H4 => o = some 2 ∧ H4 = H3) I3 ⟨2, rfl, rfl, rfl⟩) fun vs s4 hh4 => ?_
  obtain ⟨o, H4, I4, ps, eo, e4⟩ := hh4
  subst eo e4
  have I5 : Inv X pins σ H4 { s4 with heap := s4.heap.push { cls := .type "slice", data := .fields #[vl, vu, vs] } } := I4.kept (t' := s4.toks) fun b ob z => Heap.get?_push_of_some _ z
  obtain ⟨its, r, ht, hz⟩ := I5.list hx
  have hlen := r.length
  show wpAny (model X.prog X.w) X.A (subscriptTail e (.Slice (some (.Constant (.int (a : Int)) k1 p1)) none (some (.Constant (.int 2) k2 p2)) p3) (.ref p) (.ref s4.heap.objs.size)) (EP X pins σ Q) X.xe _
  refine tail_any (ops := [.ref p, .ref s4.heap.objs.size]) ht.isList.typeIs (PySem.slot_list_getitem.lookup) ?_ (by with_unfolding_all rfl)
  refine wpAny_getItem_list_slice ht.isList (Heap.IsSliceOf.new _ vl vu vs) pl pu ps (by decide) ?_ (by rw [List.size_toArray]; omega)
  rw [pick2]
  refine ⟨.ref _, _, I5.laid (t' := s4.toks) (o := .lst (evs a xs)) (fun b ob z => Heap.get?_push_of_some _ z) (Nat.le_refl _) ?_, rfl, q _ (I5.hok.fresh (Nat.le_refl _))⟩
  have hl2 := evs_len a xs
  refine ⟨by omega, _, 0, ?_, Heap.get?_push_size _ rfl⟩
  unfold evs
  rw [hlen]
  exact pickV _ r
end
end Mr

/-! ## MrZip -/
set_option Elab.async false
set_option linter.all false
set_option maxRecDepth 100000
set_option maxHeartbeats 2000000
/-! # list(zip(xs, ys)) -/
namespace Mr
open PySem PySem.Spec PyProof.Rows PySem.W PySem.Calls
/-- the zip's own objects -/
structure ZipAt (h : Heap) (z TI TO i1 i2 l1 l2 S : Addr) (xs ys : Array Value) (i : Nat) : Prop where
  ti : IsPair h TI (.ref i1) (.ref i2)
  it1 : h.IsListIter i1 l1 i
  it2 : h.IsListIter i2 l2 i
  ls1 : h.IsList l1 xs
  ls2 : h.IsList l2 ys
  st : (IsZip h z TI TO .none ∧ ∃ u v, IsPair h TO u v) ∨ ∃ T f oT, IsZipHeld h z TI TO T f ∧ h.get? T = some oT ∧ T ≠ z ∧ T ≠ i1 ∧ T ≠ i2 ∧ T ≠ S
/-- the tuples that were given out -/
structure Given (xs ys : Array Value) (lo : Addr) (h : Heap) (as : List Addr) : Prop where
  rise : as.Pairwise (· < ·)
  above : ∀ t ∈ as, lo < t
  pair : ∀ (j : Nat) (t : Addr), as[j]? = some t → ∃ x y, xs[j]? = some x ∧ ys[j]? = some y ∧ IsPair h t x y
theorem Given.lt {xs ys : Array Value} {lo : Addr} {h : Heap} {as : List Addr} (g : Given xs ys lo h as) {t : Addr} (ht : t ∈ as) : t < h.objs.size := by
  obtain ⟨j, hj⟩ := List.mem_iff_getElem?.mp ht
  obtain ⟨_, _, _, _, e⟩ := g.pair j t hj
  exact Heap.lt_size e
theorem zip_no_len : typeLookup (.type "zip") "__len__" = pure none := am_miss_of_fast (by decide +kernel)
theorem zip_no_hint : typeLookup (.type "zip") "__length_hint__" = pure none := am_miss_of_fast (by decide +kernel)
section
variable {prog : Program} {w : World} {A : Around} {E : Value → Shared → Prop} {s : Shared} {R : Result → Shared → Prop} {z TI TO i1 i2 l1 l2 S : Addr} {xs ys : Array Value}
theorem zip_hint {Q : Bool → Shared → Prop} (hT : s.TypeIs (.ref z) "zip") (h : Q true s) : wpAny (model prog w) A (Builtin.List.listLengthHint (.ref z)) Q E s := by
  unfold Builtin.List.listLengthHint
  refine wpAny_bind (wpAny_specialOf hT zip_no_len ?_)
  refine wpAny_ite_split (fun hab => absurd hab (by decide)) (fun _ => ?_)
  refine wpAny_ite_split (fun hab => absurd hab (by decide)) (fun _ => ?_)
  refine wpAny_bind (wpAny_specialOf hT zip_no_hint ?_)
  exact wpAny_pure h
theorem zip_loop (hh : A.handled = none) (D : ZipApart z TI TO i1 i2 l1 l2) (hS : ∀ b, b = z ∨ b = TI ∨ b = TO ∨ b = i1 ∨ b = i2 ∨ b = l1 ∨ b = l2 → b < S) (hn : min xs.size ys.size ≤ sizeLine) (res : Value) {h0 : Heap}
    (hR : ∀ h' tk acc c as, (∀ b o, b ≠ S → b ≠ z → b ≠ TO → b ≠ i1 → b ≠ i2 → h0.get? b = some o → h'.get? b = some o) → h'.get? S = some { cls := .type "list", dict := none, data := .seq acc c, slots := #[] } →
      as.length = min xs.size ys.size → Given xs ys S h' as → acc.toList = as.map Value.ref → R (.ok (.ret res)) { s with heap := h', toks := tk }) :
    ∀ (k i : Nat) (h : Heap) (tk c : Nat) (acc : Array Value) (as : List Addr), min xs.size ys.size - i = k → i ≤ min xs.size ys.size → ZipAt h z TI TO i1 i2 l1 l2 S xs ys i →
      (∀ b o, b ≠ S → b ≠ z → b ≠ TO → b ≠ i1 → b ≠ i2 → h0.get? b = some o → h.get? b = some o) → h.get? S = some { cls := .type "list", dict := none, data := .seq acc c, slots := #[] } → acc.toList = as.map Value.ref → as.length = i →
      Given xs ys S h as → codeAny (model prog w) A (.builtin "list.extend.loop" ⟨[.ref S, .ref z, res], []⟩) R { s with heap := h, toks := tk } := by
  have zS := hS z (.inl rfl)
  have tiS := hS TI (.inr (.inl rfl))
  have toS := hS TO (.inr (.inr (.inl rfl)))
  have i1S := hS i1 (.inr (.inr (.inr (.inl rfl))))
  have i2S := hS i2 (.inr (.inr (.inr (.inr (.inl rfl)))))
  have l1S := hS l1 (.inr (.inr (.inr (.inr (.inr (.inl rfl))))))
  have l2S := hS l2 (.inr (.inr (.inr (.inr (.inr (.inr rfl))))))
  intro k
  induction k with
  | zero =>
    intro i h tk c acc as hk hi Z keep hSl hacc hal G
    have hend : xs[i]? = none ∨ ys[i]? = none := by
      rcases Nat.le_total xs.size ys.size with q | q
      · exact .inl (Array.getElem?_eq_none (by omega))
      · exact .inr (Array.getElem?_eq_none (by omega))
    refine codeAny_builtin PySem.F.entry_extend_loop ?_
    rw [Around.under_plainId PySem.F.plain_extend_loop _]
    show wpAny _ A.in1 (pyNext (.ref z) >>= _) _ _ _
    have fin : ∀ h' : Heap, (∀ b o, b ≠ z → b ≠ TO → b ≠ i1 → b ≠ i2 → h.get? b = some o → h'.get? b = some o) → R (.ok (.ret res)) { s with heap := h', toks := tk } := fun h' kk => by
      refine hR h' tk acc c as (fun b o n1 n2 n3 n4 n5 e => kk b o n2 n3 n4 n5 (keep b o n1 n2 n3 n4 n5 e)) (kk S _ (Nat.ne_of_gt zS) (Nat.ne_of_gt toS) (Nat.ne_of_gt i1S) (Nat.ne_of_gt i2S) hSl) (by omega) ⟨G.rise, G.above, fun j t hj => ?_⟩ hacc
      obtain ⟨x, y, e1, e2, e3⟩ := G.pair j t hj
      have ht := G.above t (List.mem_of_getElem? hj)
      exact ⟨x, y, e1, e2, kk t _ (Nat.ne_of_gt (Nat.lt_trans zS ht)) (Nat.ne_of_gt (Nat.lt_trans toS ht)) (Nat.ne_of_gt (Nat.lt_trans i1S ht)) (Nat.ne_of_gt (Nat.lt_trans i2S ht)) e3⟩
    rcases Z.st with ⟨hz, u, v, hTO⟩ | ⟨T, f, oT, hz, hT, r1, r2, r3, r4⟩
    · exact wpAny_bind (wpAny_pyNext_zip_end (s := { s with heap := h, toks := tk }) (A := A.in1) hh D hz Z.ti hTO Z.it1 Z.it2 Z.ls1 Z.ls2 hend fun h' kk => wpAny_pure (fin h' kk))
    · exact wpAny_bind (wpAny_pyNext_zip_end_held (s := { s with heap := h, toks := tk }) (A := A.in1) hh D hz hT Z.ti Z.it1 Z.it2 Z.ls1 Z.ls2 hend fun h' kk => wpAny_pure (fin h' fun b o n1 n2 n3 n4 e => kk b o n1 n3 n4 e))
  | succ k ih =>
    intro i h tk c acc as hk hi Z keep hSl hacc hal G
    have hix : i < xs.size := by omega
    have hiy : i < ys.size := by omega
    have ex := Array.getElem?_eq_getElem hix
    have ey := Array.getElem?_eq_getElem hiy
    have hsz : acc.size = i := by rw [← Array.length_toList, hacc, List.length_map, hal]
    have hlS : S < h.objs.size := Heap.lt_size hSl
    refine codeAny_builtin PySem.F.entry_extend_loop ?_
    rw [Around.under_plainId PySem.F.plain_extend_loop _]
    show wpAny _ A.in1 (pyNext (.ref z) >>= _) _ _ _
    -- what follows, whichever way the pair came
    have go : ∀ h' : Heap, ZipAt h' z TI TO i1 i2 l1 l2 S xs ys (i + 1) → IsPair h' h.objs.size xs[i] ys[i] → h'.objs.size = h.objs.size + 1 → (∀ b o, b ≠ z → b ≠ TO → b ≠ i1 → b ≠ i2 → h.get? b = some o → h'.get? b = some o) →
        wpAny (model prog w) A.in1 (updateSeq S (·.push (Value.ref h.objs.size)) >>= fun _ => (pure (PySem.Fin.again (.builtin "list.extend.loop" ⟨[.ref S, .ref z, res], []⟩)) : Sem PySem.Fin))
          (fun (fin : PySem.Fin) s' => match fin with | .done f => R (.ok f) s' | .again c' => c'.quiet = true ∧ codeAny (model prog w) A c' R s') (fun e s' => R (.error e) s') { s with heap := h', toks := tk } := by
      intro h' Z' hp hz' kk
      have hS' := kk S _ (Nat.ne_of_gt zS) (Nat.ne_of_gt toS) (Nat.ne_of_gt i1S) (Nat.ne_of_gt i2S) hSl
      have up : ∀ b o, b ≠ S → h'.get? b = some o → (h'.update S (Obj.mapSeq (·.push (Value.ref h.objs.size)))).get? b = some o := fun b o hb e => (Heap.get?_update_other _ _ (Ne.symm hb)).trans e
      refine wpAny_bind ?_
      refine wpAny_updateSeq hS' rfl (wpAny_pure ⟨plainId_quiet PySem.F.plain_extend_loop _, ih (i + 1) _ tk _ (acc.push (Value.ref h.objs.size)) (as ++ [h.objs.size]) (by omega) (by omega) ?_
        (fun b o n1 n2 n3 n4 n5 e => up b o n1 (kk b o n2 n3 n4 n5 (keep b o n1 n2 n3 n4 n5 e))) (Heap.get?_update_self _ hS' rfl) (by rw [Array.toList_push, hacc, List.map_append]; rfl) (by rw [List.length_append, hal]; rfl) ⟨?_, ?_, ?_⟩⟩) (by rw [hsz]; omega) (by show (acc.push (Value.ref h.objs.size)).size ≤ sizeLine + 1; rw [Array.size_push, hsz]; omega)
      · refine ⟨up _ _ (Nat.ne_of_lt tiS) Z'.ti, Z'.it1.at fun o e => up _ o (Nat.ne_of_lt i1S) e, Z'.it2.at fun o e => up _ o (Nat.ne_of_lt i2S) e, Z'.ls1.at fun o e => up _ o (Nat.ne_of_lt l1S) e, Z'.ls2.at fun o e => up _ o (Nat.ne_of_lt l2S) e, ?_⟩
        rcases Z'.st with ⟨hz, u, v, hTO⟩ | ⟨T, f, oT, hz, hT, r1, r2, r3, r4⟩
        · exact .inl ⟨up _ _ (Nat.ne_of_lt zS) hz, u, v, up _ _ (Nat.ne_of_lt toS) hTO⟩
        · exact .inr ⟨T, f, oT, up _ _ (Nat.ne_of_lt zS) hz, up _ _ r4 hT, r1, r2, r3, r4⟩
      · refine List.pairwise_append.mpr ⟨G.rise, List.pairwise_singleton _ _, fun t ht b hb => ?_⟩
        rw [List.mem_singleton.mp hb]
        exact G.lt ht
      · intro t ht
        rcases List.mem_append.mp ht with ht | ht
        · exact G.above t ht
        · rw [List.mem_singleton.mp ht]
          exact hlS
      · intro j t hj
        rcases Nat.lt_trichotomy j as.length with q | q | q
        · rw [List.getElem?_append_left q] at hj
          obtain ⟨x, y, e1, e2, e3⟩ := G.pair j t hj
          have ht := G.above t (List.mem_of_getElem? hj)
          exact ⟨x, y, e1, e2, up t _ (Nat.ne_of_gt ht) (kk t _ (Nat.ne_of_gt (Nat.lt_trans zS ht)) (Nat.ne_of_gt (Nat.lt_trans toS ht)) (Nat.ne_of_gt (Nat.lt_trans i1S ht)) (Nat.ne_of_gt (Nat.lt_trans i2S ht)) e3)⟩
        · subst q
          have ht : h.objs.size = t := by simpa using hj
          subst ht
          exact ⟨_, _, by rw [hal]; exact ex, by rw [hal]; exact ey, up _ _ (Nat.ne_of_gt hlS) hp⟩
        · have hnone : (as ++ [h.objs.size])[j]? = none := List.getElem?_eq_none (by rw [List.length_append, List.length_singleton]; omega)
          rw [hnone] at hj
          cases hj
    have nz : h.objs.size ≠ z := Nat.ne_of_gt (Nat.lt_trans zS hlS)
    have n1 : h.objs.size ≠ i1 := Nat.ne_of_gt (Nat.lt_trans i1S hlS)
    have n2 : h.objs.size ≠ i2 := Nat.ne_of_gt (Nat.lt_trans i2S hlS)
    rcases Z.st with ⟨hz, u, v, hTO⟩ | ⟨T, f, oT, hz, hT, r1, r2, r3, r4⟩
    · refine wpAny_bind (wpAny_pyNext_zip_item (s := { s with heap := h, toks := tk }) D hz Z.ti hTO Z.it1 Z.it2 Z.ls1 Z.ls2 ex ey fun h' a1 a2 a3 a4 a5 a6 kk => ?_)
      exact go h' ⟨kk _ _ D.TIz D.TITO D.TIi1 D.TIi2 Z.ti, a3, a4, Z.ls1.at fun o e => kk _ o D.l1z D.l1TO D.l1i1 D.l1i2 e, Z.ls2.at fun o e => kk _ o D.l2z D.l2TO D.l2i1 D.l2i2 e, .inr ⟨_, false, _, a1, a5, nz, n1, n2, Nat.ne_of_gt hlS⟩⟩ a5 a6 kk
    · refine wpAny_bind (wpAny_pyNext_zip_item_held (s := { s with heap := h, toks := tk }) D hz hT Z.ti Z.it1 Z.it2 Z.ls1 Z.ls2 ex ey fun h' a1 a3 a4 a5 a6 kk => ?_)
      exact go h' ⟨kk _ _ D.TIz D.TIi1 D.TIi2 Z.ti, a3, a4, Z.ls1.at fun o e => kk _ o D.l1z D.l1i1 D.l1i2 e, Z.ls2.at fun o e => kk _ o D.l2z D.l2i1 D.l2i2 e, .inr ⟨T, true, oT, a1, kk _ _ r1 r2 r3 hT, r1, r2, r3, r4⟩⟩ a5 a6 fun b o m1 m2 m3 m4 e => kk b o m1 m3 m4 e
end
end Mr

/-! ## MrZip2 -/
set_option Elab.async false
set_option linter.all false
set_option maxRecDepth 100000
set_option maxHeartbeats 2000000
/-! # list(zip(xs, ys)), as a rule of the layer -/
namespace Mr
open PySem PySem.Spec PyProof.Rows PySem.W PySem.Calls
section
variable {prog : Program} {w : World} {A : Around} {E : Value → Shared → Prop} {s : Shared} {R : Result → Shared → Prop} {z TI TO i1 i2 l1 l2 S : Addr} {xs ys : Array Value}
theorem zip_extend (hh : A.handled = none) (D : ZipApart z TI TO i1 i2 l1 l2) (hS : ∀ b, b = z ∨ b = TI ∨ b = TO ∨ b = i1 ∨ b = i2 ∨ b = l1 ∨ b = l2 → b < S) (hn : min xs.size ys.size ≤ sizeLine) (res : Value) (c0 : Nat) (hSl : s.heap.get? S = some { cls := .type "list", data := .seq #[] c0 })
    (Z : ZipAt s.heap z TI TO i1 i2 l1 l2 S xs ys 0) (hz0 : IsZip s.heap z TI TO .none)
    (hR : ∀ h' tk acc c as, (∀ b o, b ≠ S → b ≠ z → b ≠ TO → b ≠ i1 → b ≠ i2 → s.heap.get? b = some o → h'.get? b = some o) → h'.get? S = some { cls := .type "list", dict := none, data := .seq acc c, slots := #[] } →
      as.length = min xs.size ys.size → Given xs ys S h' as → acc.toList = as.map Value.ref → R (.ok (.ret res)) { s with heap := h', toks := tk }) :
    wpAny (model prog w) A.in1 (Builtin.List.listExtendWith (.ref S) (.ref z) res)
      (fun (fin : PySem.Fin) s' => match fin with | .done f => R (.ok f) s' | .again c' => c'.quiet = true ∧ codeAny (model prog w) A c' R s') (fun e s' => R (.error e) s') s := by
  have zS := hS z (.inl rfl)
  have tiS := hS TI (.inr (.inl rfl))
  have toS := hS TO (.inr (.inr (.inl rfl)))
  have i1S := hS i1 (.inr (.inr (.inr (.inl rfl))))
  have i2S := hS i2 (.inr (.inr (.inr (.inr (.inl rfl)))))
  have l1S := hS l1 (.inr (.inr (.inr (.inr (.inr (.inl rfl))))))
  have l2S := hS l2 (.inr (.inr (.inr (.inr (.inr (.inr rfl))))))
  have hT : s.TypeIs (.ref z) "zip" := ⟨_, hz0, rfl⟩
  have start : ∀ (h : Heap) (c1 tk : Nat), (∀ b o, b ≠ S → s.heap.get? b = some o → h.get? b = some o) → h.get? S = some { cls := .type "list", data := .seq #[] c1 } →
      codeAny (model prog w) A (.builtin "list.extend.loop" ⟨[.ref S, .ref z, res], []⟩) R { s with heap := h, toks := tk } := by
    intro h c1 tk kk hS1
    refine zip_loop (s := s) (h0 := s.heap) hh D hS hn res hR (min xs.size ys.size) 0 h tk c1 #[] [] (Nat.sub_zero _) (Nat.zero_le _) ?_ (fun b o n1 _ _ _ _ e => kk b o n1 e) hS1 rfl rfl ⟨List.Pairwise.nil, (fun _ ht => nomatch ht), fun j t hj => by simp at hj⟩
    refine ⟨kk _ _ (Nat.ne_of_lt tiS) Z.ti, Z.it1.at fun o e => kk _ o (Nat.ne_of_lt i1S) e, Z.it2.at fun o e => kk _ o (Nat.ne_of_lt i2S) e, Z.ls1.at fun o e => kk _ o (Nat.ne_of_lt l1S) e, Z.ls2.at fun o e => kk _ o (Nat.ne_of_lt l2S) e, ?_⟩
    rcases Z.st with ⟨hz, u, v, hTO⟩ | ⟨T, f, oT, hz, hT, r1, r2, r3, r4⟩
    · exact .inl ⟨kk _ _ (Nat.ne_of_lt zS) hz, u, v, kk _ _ (Nat.ne_of_lt toS) hTO⟩
    · exact .inr ⟨T, f, oT, kk _ _ (Nat.ne_of_lt zS) hz, kk _ _ r4 hT, r1, r2, r3, r4⟩
  unfold Builtin.List.listExtendWith
  refine wpAny_bind (wpAny_typeOf (T := "zip") hT ?_)
  have q1 : Builtin.List.listSameRef (.ref S) (.ref z) = false := by simp [Builtin.List.listSameRef, Nat.ne_of_gt zS]
  have q2 : (Value.type "zip" == Value.type "list") = false := by decide
  have q3 : (Value.type "zip" == Value.type "tuple") = false := by decide
  simp only [q1, q2, q3, Bool.or_false, Bool.false_eq_true, if_false]
  refine wpAny_bind (wpAny_pyIter_zip hz0 ?_)
  refine wpAny_bind (wpAny_holding (zip_hint hT ?_))
  refine wpAny_ite_split (fun _ => ?_) (fun _ => wpAny_pure ⟨plainId_quiet PySem.F.plain_extend_loop _, start _ c0 _ (fun b o _ e => e) hSl⟩)
  refine wpAny_bind (wpAny_rule ?_)
  refine wpAny_bind ?_
  show wpAny _ _ (updateSeq S (·.push .none) >>= fun _ => updateSeq S (·.pop)) _ _ _
  refine wpAny_bind (wpAny_updateSeq hSl rfl ?_)
  have g2 := Heap.get?_update_self (Obj.mapSeq (·.push Value.none)) hSl rfl
  refine wpAny_updateSeq (hz := by seq_fits) g2 rfl ?_
  have g3 := Heap.get?_update_self (Obj.mapSeq (·.pop)) g2 rfl
  refine wpAny_pure ⟨plainId_quiet PySem.F.plain_extend_loop _, start _ _ _ (fun b o hb e => ?_) g3⟩
  rw [Heap.get?_update_other _ _ (Ne.symm hb), Heap.get?_update_other _ _ (Ne.symm hb)]
  exact e
/-- list(z), z a zip over two lists that was just made -/
theorem zip_list {Q : Value → Shared → Prop} (hh : A.handled = none) (D : ZipApart z TI TO i1 i2 l1 l2) {u v : Value} (hz : IsZip s.heap z TI TO .none) (hTI : IsPair s.heap TI (.ref i1) (.ref i2)) (hTO : IsPair s.heap TO u v)
    (h1 : s.heap.IsListIter i1 l1 0) (h2 : s.heap.IsListIter i2 l2 0) (hl1 : s.heap.IsList l1 xs) (hl2 : s.heap.IsList l2 ys) (hn : min xs.size ys.size ≤ sizeLine)
    (hQ : ∀ h' tk acc c as, (∀ b o, b ≠ z → b ≠ TO → b ≠ i1 → b ≠ i2 → s.heap.get? b = some o → h'.get? b = some o) → h'.get? s.heap.objs.size = some { cls := .type "list", dict := none, data := .seq acc c, slots := #[] } →
      as.length = min xs.size ys.size → Given xs ys s.heap.objs.size h' as → acc.toList = as.map Value.ref → Q (.ref s.heap.objs.size) { s with heap := h', toks := tk }) :
    wpAny (model prog w) A (call (.type "list") [.ref z]) Q E s := by
  refine callType_codes (Q₁ := fun obj s₁ => obj = .ref s.heap.objs.size ∧ s₁ = { s with heap := s.heap.push { cls := .type "list", data := .seq #[] } }) PySem.F.called_list (PySem.F.typeCall_list_1 _) PySem.F.entry_list_init
    (code_list_new _ ⟨rfl, rfl⟩) fun obj s₁ h₁ => ?_
  obtain ⟨rfl, rfl⟩ := h₁
  have hS : (s.heap.push { cls := .type "list", data := .seq #[] }).get? s.heap.objs.size = some { cls := .type "list", data := .seq #[] } := Heap.get?_push_size _ rfl
  have lz : z < s.heap.objs.size := Heap.lt_size hz
  have lTI : TI < s.heap.objs.size := Heap.lt_size hTI
  have lTO : TO < s.heap.objs.size := Heap.lt_size hTO
  have li1 : i1 < s.heap.objs.size := let ⟨_, e, _⟩ := h1; Heap.lt_size e
  have li2 : i2 < s.heap.objs.size := let ⟨_, e, _⟩ := h2; Heap.lt_size e
  have ll1 : l1 < s.heap.objs.size := let ⟨_, e, _⟩ := hl1; Heap.lt_size e
  have ll2 : l2 < s.heap.objs.size := let ⟨_, e, _⟩ := hl2; Heap.lt_size e
  have all : ∀ b, b = z ∨ b = TI ∨ b = TO ∨ b = i1 ∨ b = i2 ∨ b = l1 ∨ b = l2 → b < s.heap.objs.size := fun b hb => by
    rcases hb with e | e | e | e | e | e | e <;> rw [e] <;> assumption
  refine ⟨⟨_, hS, rfl⟩, PySem.F.args_list_init_2 _ _, ?_⟩
  show wpAny _ _ (do let old ← Builtin.List.listItems (.ref s.heap.objs.size); Builtin.List.listUpdate (.ref s.heap.objs.size) (fun _ => #[]); letGo old.toList.reverse; Builtin.List.listExtendWith (.ref s.heap.objs.size) (.ref z) .none) _ _ _
  refine wpAny_bind ?_
  unfold Builtin.List.listItems
  refine wpAny_bind (wpAny_seqItems hS rfl (wpAny_pure ?_))
  show wpAny _ _ (updateSeq s.heap.objs.size (fun _ => #[]) >>= fun _ => letGo (#[] : Array Value).toList.reverse >>= fun _ => Builtin.List.listExtendWith (.ref s.heap.objs.size) (.ref z) .none) _ _ _
  refine wpAny_bind (wpAny_updateSeq hS rfl ?_)
  have hS2 := Heap.get?_update_self (Obj.mapSeq (fun _ => (#[] : Array Value))) hS rfl
  have oth : ∀ b o, s.heap.get? b = some o → ((s.heap.push { cls := .type "list", data := .seq #[] }).update s.heap.objs.size (Obj.mapSeq (fun _ => (#[] : Array Value)))).get? b = some o := fun b o e => by
    rw [Heap.get?_update_other _ _ (Nat.ne_of_gt (Heap.lt_size e))]
    exact Heap.get?_push_of_some _ e
  refine wpAny_bind (wpAny_letGo ?_)
  refine zip_extend (A := A.in1) hh D all hn .none _ hS2 ⟨oth _ _ hTI, h1.at fun o e => oth _ o e, h2.at fun o e => oth _ o e, hl1.at fun o e => oth _ o e, hl2.at fun o e => oth _ o e, .inl ⟨oth _ _ hz, u, v, oth _ _ hTO⟩⟩ (oth _ _ hz) (fun h' tk acc c as kk hS' hl hG hacc => ?_)
  exact ⟨rfl, hQ h' tk acc c as (fun b o n2 n3 n4 n5 e => kk b o (Nat.ne_of_lt (Heap.lt_size e)) n2 n3 n4 n5 (oth b o e)) hS' hl hG hacc⟩
end
end Mr
namespace Mr
open PySem PySem.Spec PyProof.Rows L2
/-- the tuples tracked at their addresses -/
def putP : Hp → List Addr → List (V × V) → Hp
  | H, t :: ts, p :: ps => putP (upd H t (.tup [p.1, p.2])) ts ps
  | H, _, _ => H
theorem putP_off {b : Addr} : ∀ (ts : List Addr) (ps : List (V × V)) (H : Hp), b ∉ ts → putP H ts ps b = H b
  | [], _, _, _ => rfl
  | _ :: _, [], _, _ => rfl
  | t :: ts, p :: ps, H, h => by
    show putP (upd H t (.tup [p.1, p.2])) ts ps b = H b
    rw [putP_off ts ps _ fun q => h (List.mem_cons_of_mem _ q), upd_ne fun q => h (by rw [q]; exact List.mem_cons_self)]
theorem putP_at : ∀ (ts : List Addr) (ps : List (V × V)) (H : Hp), ts.length = ps.length → ts.Nodup → Paired (fun (t : Addr) (p : V × V) => putP H ts ps t = some (.tup [p.1, p.2])) ts ps
  | [], [], _, _, _ => .nil
  | [], _ :: _, _, h, _ => by cases h
  | _ :: _, [], _, h, _ => by cases h
  | t :: ts, p :: ps, H, h, hn => by
    obtain ⟨n1, n2⟩ := List.nodup_cons.mp hn
    refine .cons ?_ (putP_at ts ps (upd H t (.tup [p.1, p.2])) (Nat.succ.inj h) n2)
    show putP (upd H t (.tup [p.1, p.2])) ts ps t = _
    rw [putP_off ts ps _ n1, upd_same]
theorem refs_rel : ∀ ts : List Addr, Vals (ts.map V.ref) (ts.map Value.ref)
  | [] => .nil
  | _ :: ts => .cons rfl (refs_rel ts)
theorem pa_mem {α β : Type} {R : α → β → Prop} : ∀ {xs : List α} {ys : List β}, Paired R xs ys → ∀ {x : α}, x ∈ xs → ∃ (j : Nat) (y : β), xs[j]? = some x ∧ ys[j]? = some y ∧ R x y
  | _, _, .cons r t, x, hx => by
    rcases List.mem_cons.mp hx with e | hx
    · subst e
      exact ⟨0, _, rfl, rfl, r⟩
    · obtain ⟨j, y, e1, e2, e3⟩ := pa_mem t hx
      exact ⟨j + 1, y, e1, e2, e3⟩
section
variable {X : Cx} {e e2 : Expr} {ta : TA} {p p2 pos pos2 : Pos}
theorem zip_laid {pins : List (Addr × Obj)} {σ : L2.St} {H : Hp} {s : Shared} {h' : Heap} {tk : Nat} {vx vy : List V} {ix iy : List Value} {acc : Array Value} {c : Nat} {as : List Addr} {S : Addr} (I : Inv X pins σ H s) (hS0 : s.heap.objs.size ≤ S) (rx : Vals vx ix) (ry : Vals vy iy) (hz : as.length ≤ sizeLine)
    (hk : ∀ b o, s.heap.get? b = some o → h'.get? b = some o) (hS : h'.get? S = some { cls := .type "list", dict := none, data := .seq acc c, slots := #[] }) (hl : as.length = min ix.length iy.length) (G : Given ix.toArray iy.toArray S h' as) (hacc : acc.toList = as.map Value.ref) :
    ∃ H' : Hp, Same H H' ∧ H S = none ∧ H' S = some (.lst (as.map V.ref)) ∧ Paired (fun (t : Addr) (q : V × V) => H' t = some (.tup [q.1, q.2])) as (vx.zip vy) ∧ Inv X pins σ H' { s with heap := h', toks := tk } := by
  have lx := rx.length
  have ly := ry.length
  have hSn : S ∉ as := fun q => Nat.lt_irrefl _ (G.above _ q)
  have nd : as.Nodup := List.Pairwise.imp (fun {a b} (h : a < b) => Nat.ne_of_lt h) G.rise
  have new : ∀ t ∈ as, H t = none := fun t ht => I.hok.fresh (Nat.le_trans hS0 (Nat.le_of_lt (G.above t ht)))
  have newS : H S = none := I.hok.fresh hS0
  have atP := putP_at as (vx.zip vy) (upd H S (.lst (as.map V.ref))) (by rw [List.length_zip]; omega) nd
  have off : ∀ b, b ∉ as → b ≠ S → putP (upd H S (.lst (as.map V.ref))) as (vx.zip vy) b = H b := fun b q1 q2 => by rw [putP_off as _ _ q1, upd_ne q2]
  have low : ∀ b o, s.heap.get? b = some o → b ∉ as ∧ b ≠ S := fun b o q => ⟨fun m => absurd (Heap.lt_size q) (Nat.not_lt.mpr (Nat.le_trans hS0 (Nat.le_of_lt (G.above b m)))), Nat.ne_of_lt (Nat.lt_of_lt_of_le (Heap.lt_size q) hS0)⟩
  have kp : Same H (putP (upd H S (.lst (as.map V.ref))) as (vx.zip vy)) := fun b o q => by
    rw [off b (fun m => by rw [new b m] at q; cases q) (ne_of_none q newS)]
    exact q
  have eS : putP (upd H S (.lst (as.map V.ref))) as (vx.zip vy) S = some (.lst (as.map V.ref)) := by rw [putP_off as _ _ hSn, upd_same]
  refine ⟨_, kp, newS, eS, atP, ?_⟩
  refine I.call' (ch := []) rfl ⟨fun b o q _ _ _ => hk b o q, fun b o q _ _ _ => ⟨o.slots, hk b o q⟩, fun b o q n _ => ?_, fun b o q _ => ⟨o, hk b o q⟩, fun b us q => kp b _ q, fun b o u q => kp b _ q, fun b ps q => ⟨#[], by rw [kp b _ q]; simp⟩⟩ (fun b u q => ?_) I.bare fun b m => by simp at m
  · obtain ⟨q1, q2⟩ := low b o q
    rw [off b q1 q2]
    exact n
  · by_cases hb : b ∈ as
    · obtain ⟨j, pk, e1, e2, e3⟩ := pa_mem atP hb
      rw [e3] at q
      cases q
      obtain ⟨x, y, f1, f2, f3⟩ := G.pair j b e1
      obtain ⟨g1, g2⟩ := List.getElem?_zip_eq_some.mp e2
      obtain ⟨u1, k1, r1⟩ := rx.get g1
      obtain ⟨u2, k2, r2⟩ := ry.get g2
      rw [List.getElem?_toArray] at f1 f2
      rw [k1] at f1
      rw [k2] at f2
      obtain rfl : u1 = x := Option.some.inj f1
      obtain rfl : u2 = y := Option.some.inj f2
      exact ⟨by show 2 ≤ sizeLine; decide, [u1, u2], .cons r1 (.cons r2 .nil), ⟨_, f3, rfl, _, rfl⟩⟩
    · by_cases hb2 : b = S
      · rw [hb2] at q ⊢
        rw [eS] at q
        cases q
        refine ⟨by rw [List.length_map]; exact hz, acc.toList, c, by rw [hacc]; exact refs_rel as, ?_⟩
        rw [Array.toArray_toList]
        exact hS
      · rw [off b hb hb2] at q
        exact (I.hok b u q).stay (fun d v _ y => hk d v y) (fun d y => kp d _ y) fun d us y => kp d _ y
def tListZip (K : PySem.W.Frag) (ta : TA) : TE := fun σ H Q => ta σ H fun vs H1 => ∃ (a b : Addr) (xs ys : List V), vs = [.ref a, .ref b] ∧ SqL K H1 a xs ∧ SqL K H1 b ys ∧
  ∀ (H' : Hp) (q : Addr) (ts : List Addr), Same H1 H' → H1 q = none → H' q = some (.lst (ts.map V.ref)) → Paired (fun (t : Addr) (z : V × V) => H' t = some (.tup [z.1, z.2])) ts (xs.zip ys) → Q (.ref q) H'
/-- list(zip(e, e2)) -/
theorem pe_listZip (hc : X.calm = true) (hg : Gl X "list") (hm : X.mg "list" = none) (hv : bootBuiltins "list" = some (.type "list")) (hg2 : Gl X "zip") (hm2 : X.mg "zip" = none) (ha : PA X [e, e2] ta)
    (hs : starEach [e, e2] X.env = (false, eval e X.env) :: starEach [e2] X.env := by rfl) (hpl : (backTo pos2 (starEach [e2] X.env)).any (·.1) = false := by rfl)
    (hs2 : starEach [.Call (.Name "zip" p2) [e, e2] [] pos2] X.env = (false, eval (.Call (.Name "zip" p2) [e, e2] [] pos2) X.env) :: starEach [] X.env := by rfl) :
    PE X (.Call (.Name "list" p) [.Call (.Name "zip" p2) [e, e2] [] pos2] [] pos) (tListZip X.K ta) := by
  refine ⟨fun pins s σ H Q I hq => ?_⟩
  refine wpAny_Call_Name_kw (ld_blt I hg hm hv ?_)
  refine PyProof.Rows.callWith_type1 ?_ hs2 rfl
  rw [hs2]
  show wpAny _ _ (spliced ((false, eval (.Call (.Name "zip" p2) [e, e2] [] pos2) X.env) :: backTo pos (starEach [] X.env))) _ _ _
  refine Calls.spliced_cons ?_
  refine wpAny_Call_Name_kw (ld_blt (I.tok _) hg2 hm2 PyProof.Rows.boot_zip ?_)
  refine PyProof.Rows.callWith_type1 (thn (ha.run pos2 pins _ σ H _ (I.tok _) hq) fun us s1 hh => ?_) hs hpl
  obtain ⟨vs, H1, I1, r1, a, b, xs, ys, ev, hx, hy, q⟩ := hh
  subst ev
  obtain ⟨u1, u2, rfl, r1, r2⟩ := vals2 r1
  cases r1
  cases r2
  obtain ⟨ix, rx, p1, hz1⟩ := I1.list hx
  obtain ⟨iy, ry, p2', hz2⟩ := I1.list hy
  have lx := rx.length
  have la : a < s1.heap.objs.size := p1.lt
  have lb : b < s1.heap.objs.size := p2'.lt
  refine call_zip_2 p1.isList p2'.isList fun h' hz hTI hTO h1 h2 hsz hk => ?_
  refine Calls.spliced_nil ?_
  have D := PySem.W.ktu_apart s1.heap.objs.size a b la lb
  refine zip_list (s := { s1 with heap := h' }) (xs := ix.toArray) (ys := iy.toArray) (I1.ok.hd hc) D hz hTI hTO h1 h2 (p1.isList.at fun o z => hk _ o z) (p2'.isList.at fun o z => hk _ o z) (by rw [List.size_toArray, List.size_toArray]; omega) fun h2' tk acc c as kk hS hl G hacc => ?_
  rw [List.size_toArray, List.size_toArray] at hl
  have hk2 : ∀ d o, s1.heap.get? d = some o → h2'.get? d = some o := fun d o z => by
    have hd := Heap.lt_size z
    exact kk d o (Nat.ne_of_lt (Nat.lt_of_lt_of_le hd (Nat.le_add_right _ _))) (Nat.ne_of_lt (Nat.lt_of_lt_of_le hd (Nat.le_add_right _ _))) (Nat.ne_of_lt hd) (Nat.ne_of_lt (Nat.lt_of_lt_of_le hd (Nat.le_add_right _ _))) (hk d o z)
  have hS0 : s1.heap.objs.size ≤ h'.objs.size := by
    rw [hsz]
    exact Nat.le_add_right _ _
  obtain ⟨H', k1, k2, k3, k4, J⟩ := zip_laid (tk := tk) I1 hS0 rx ry (by omega) hk2 hS hl G hacc
  exact ⟨.ref _, H', J, rfl, q H' _ as k1 k2 k3 k4⟩
end
end Mr

/-! ## MrLists -/
set_option Elab.async false
set_option linter.all false
set_option maxRecDepth 100000
set_option maxHeartbeats 2000000
/-! # lists: kinds, lines -/
namespace Mr
open PySem PySem.Spec PyProof.Rows L2
open Sq16 (Item Open State Line Kind)
theorem take_le {α : Type} (l : List α) (i : Nat) : (l.take i).length ≤ l.length := by
  rw [List.length_take]
  omega
theorem nv_get {l : List Nat} {i : Nat} {v : V} (h : (nv l)[i]? = some v) : ∃ n, l[i]? = some n ∧ v = .int n := by
  unfold nv at h
  rw [List.getElem?_map] at h
  cases e : l[i]? with
  | none =>
    rw [e] at h
    cases h
  | some n =>
    rw [e] at h
    exact ⟨n, rfl, (Option.some.inj h).symm⟩
theorem nv_at {l : List Nat} {i n : Nat} (h : l[i]? = some n) : atI (nv l) (i : Int) = some (.int n) := by
  refine atI_nat ?_
  unfold nv
  rw [List.getElem?_map, h]
  rfl
theorem upd_free {H : Hp} {D : Addr} {H' : Hp} (s : Same H H') (n : H D = none) (o : HO) : Same H (upd H' D o) := fun b u e => by
  rw [upd_ne (ne_of_none e n)]
  exact s b u e
/-- a line as a tuple -/
def LineAt (H : Hp) (v : V) (x : Line) : Prop := ∃ (t wl : Addr), v = .ref t ∧ H t = some (.tup [.int x.column, .ref wl]) ∧ H wl = some (.lst (nv x.words))
theorem LineAt.same {H H' : Hp} (s : Same H H') (v : V) (x : Line) (h : LineAt H v x) : LineAt H' v x := by
  obtain ⟨t, wl, e, h1, h2⟩ := h
  exact ⟨t, wl, e, s _ _ h1, s _ _ h2⟩
/-! ### are_kinds -/
def spAreKinds (K : PySem.W.Frag) : Sp := fun vs H Q _ => ∃ (p : Addr) (l : List Nat), vs = [.ref p] ∧ SqL K H p (nv l) ∧ l.length ≤ 2000 ∧ ∀ H', Same H H' → Q (.bl (l.all fun k => decide (k ≤ 4))) H'
def isPairB (l : List Nat) (o c : Nat) : Bool := (l[o]? == some 1) && (l[c]? == some 2)
def spIsPair (K : PySem.W.Frag) : Sp := fun vs H Q _ => ∃ (p : Addr) (l : List Nat) (o c : Nat), vs = [.ref p, .int o, .int c] ∧ SqL K H p (nv l) ∧ Q (.bl (isPairB l o c)) H
def lineOk (many : Nat) (x : Line) : Bool := decide (x.column ≤ 63) && (decide (x.words.length ≤ 16) && x.words.all fun w => decide (w < many))
def spIsLine : Sp := fun vs H Q _ => ∃ (v : V) (x : Line) (many : Nat), vs = [v, .int many] ∧ LineAt H v x ∧ x.words.length ≤ 2000 ∧ ∀ H', Same H H' → Q (.bl (lineOk many x)) H'
def spNumbersOf (K : PySem.W.Frag) : Sp := fun vs H Q _ => ∃ (p : Addr) (us : List V) (t : List Line), vs = [.ref p] ∧ SqL K H p us ∧ Paired (LineAt H) us t ∧ (t.flatMap Sq16.lineRow).length ≤ 1000000 ∧
  ∀ (H' : Hp) (q : Addr), Same H H' → H' q = some (.lst (nv (t.flatMap Sq16.lineRow))) → Q (.ref q) H'
section
variable {P : Program} {w : World} {K : PySem.W.Frag} {mg : Str → Option Value} {base : Heap} {a : Ad}
theorem scAreKinds : FnScope ["kinds", "kind"] ["kinds"] (defScope stAreKinds) := ⟨rfl, rfl, rfl, by decide +kernel, rfl, by decide +kernel, by decide +kernel⟩
theorem ok_areKinds (T : Tx K mg a) : FnOk P w K mg base CX0 1 a.fAreKinds a.dAreKinds ["kinds"] (spAreKinds K) := by
  refine T.areKinds.fn.ok scAreKinds (fun vs H Q E h => ?_) (fun cdv A outer s H vs Q E hr h => ?_)
  · obtain ⟨p, l, rfl, _⟩ := h
    rfl
  obtain ⟨p, l, rfl, hp, hlen, k⟩ := h
  have nd := scAreKinds.nd
  refine ⟨_, pss_one (ps_ret (pe_callB (cr_all rfl) (by rfl) T.b_all (by decide +kernel) (pa_cons (pe_lc (own := [("kind", 1)]) (g := gName 1) (tt := tYes) rfl nd (pi_list (pv 0))
    (blkOk_by (N := ["kinds", "kind"]) (sc := defScope stAreKinds) (by decide +kernel)) (fun _ _ _ _ _ => pg_name (i := 1) nd rfl (Or.inl rfl)) (fun _ _ _ _ _ => pts_nil)
    (fun _ _ _ _ _ => pe_cmpR op_le (pv 1) (pe_gi rfl T.k_GOES_ON) (nomark _))) pa_nil))), ?_⟩
  refine ⟨_, rfl, p, rfl, ⟨_, hp⟩, fun D hD => lc_list (K := K) (a := p) (xs := nv l) (fun i H' => Same H H' ∧ H' D = some (.lst ((l.take i).map fun k => V.bl (decide (k ≤ 4)))))
    ⟨same_new hD _, upd_same⟩ (fun i H' _ h => h.1.seq hp) ?_ ?_⟩
  · rintro i x H' hi ⟨s1, h1⟩
    obtain ⟨n, hn, rfl⟩ := nv_get hi
    refine ⟨rfl, _, rfl, _, _, rfl, rfl, _, h1, ?_, upd_free s1 hD _, ?_⟩
    · rw [List.length_map]
      have := take_le l i
      exact size_lt (by omega)
    · rw [upd_same, take_more hn, List.map_append]
      have e : decide ((n : Int) ≤ 4) = decide (n ≤ 4) := by
        by_cases q : n ≤ 4
        · rw [decide_eq_true q, decide_eq_true (by omega)]
        · rw [decide_eq_false q, decide_eq_false (by omega)]
      dsimp only
      rw [e]
      rfl
  · rintro H' ⟨s1, h1⟩
    rw [nv_len, List.take_length] at h1
    refine ⟨D, l.map fun k => decide (k ≤ 4), rfl, SqL.of (by rw [h1, List.map_map]; rfl), ?_⟩
    rw [List.all_map]
    exact k H' s1
theorem scIsPair : FnScope ["kinds", "opening", "closing"] ["kinds", "opening", "closing"] (defScope stIsPair) := ⟨rfl, rfl, rfl, by decide +kernel, rfl, by decide +kernel, by decide +kernel⟩
theorem ok_isPair (T : Tx K mg a) : FnOk P w K mg base CX0 1 a.fIsPair a.dIsPair ["kinds", "opening", "closing"] (spIsPair K) := by
  refine T.isPair.fn.ok scIsPair (fun vs H Q E h => ?_) (fun cdv A outer s H vs Q E hr h => ?_)
  · obtain ⟨p, l, o, c, rfl, _⟩ := h
    rfl
  obtain ⟨p, l, o, c, rfl, hp, k⟩ := h
  refine ⟨_, pss_cons (ps_if (PW.pt (pw_or (pt_cmpR op_ge (pv 1) (pe_callB call_len_seq (by rfl) T.b_len PySem.boot_len (pa_cons (pv 0) pa_nil)) (nomark _)) (pw_or1 (pt_cmpR op_ge (pv 2) (pe_callB call_len_seq (by rfl) T.b_len PySem.boot_len (pa_cons (pv 0) pa_nil)) (nomark _)))))
      (pss_one (ps_ret pe_bl)) pss_nil)
    (pss_one (ps_ret (pe_and (pe_cmpR op_eq (pe_ix ix_list (pv 0) (pv 1) (fun _ _ => rfl)) (pe_gi rfl T.k_OPENS) (nomark _)) (pe_one (pe_cmpR op_eq (pe_ix ix_list (pv 0) (pv 2) (fun _ _ => rfl)) (pe_gi rfl T.k_CLOSES) (nomark _)))))), ?_⟩
  have hl := nv_len l
  have none_of : ∀ {i : Nat}, ((nv l).length : Int) ≤ (i : Int) → l[i]? = none := fun {i} h => List.getElem?_eq_none (by omega)
  have some_of : ∀ {i : Nat}, ¬ ((nv l).length : Int) ≤ (i : Int) → ∃ n, l[i]? = some n := fun {i} h => ⟨l[i]'(by omega), List.getElem?_eq_getElem (by omega)⟩
  have dec : ∀ (n m : Nat), decide (V.int (n : Int) = V.int (m : Int)) = (some n == some m) := fun n m => by
    by_cases q : n = m
    · subst q
      simp
    · have q2 : ¬ V.int (n : Int) = V.int (m : Int) := fun z => q (by injection z with z; omega)
      rw [decide_eq_false q2]
      symm
      simpa using q
  refine ⟨_, rfl, _, rfl, p, _, rfl, .inl hp, _, _, rfl, rfl, _, rfl, ?_⟩
  refine ite2 (fun c1 => ?_) (fun c1 => ?_)
  · have e := none_of (of_decide_eq_true c1)
    refine if_true_of rfl ?_
    have q : isPairB l o c = false := by
      unfold isPairB
      rw [e]
      rfl
    rw [q] at k
    exact k
  · obtain ⟨n1, h1⟩ := some_of fun z => c1 (decide_eq_true z)
    refine ⟨_, rfl, _, rfl, p, _, rfl, .inl hp, _, _, rfl, rfl, _, rfl, ?_⟩
    refine ite2 (fun c2 => ?_) (fun c2 => ?_)
    · have e := none_of (of_decide_eq_true c2)
      have q : isPairB l o c = false := by
        unfold isPairB
        rw [e]
        simp
      rw [q] at k
      exact k
    · obtain ⟨n2, h2⟩ := some_of fun z => c2 (decide_eq_true z)
      refine ⟨_, rfl, _, rfl, p, _, _, _, rfl, rfl, hp, nv_at h1, rfl, _, rfl, ?_⟩
      rw [show decide (V.int (n1 : Int) = V.int 1) = (some n1 == some 1) from dec n1 1]
      unfold isPairB at k
      rw [h1, h2] at k
      cases q : (some n1 == some 1) with
      | false =>
        rw [q] at k
        exact if_false_of rfl k
      | true =>
        rw [q] at k
        refine if_true_of rfl ⟨_, rfl, _, rfl, p, _, _, _, rfl, rfl, hp, nv_at h2, rfl, ?_⟩
        rw [show decide (V.int (n2 : Int) = V.int 2) = (some n2 == some 2) from dec n2 2]
        exact k
theorem scIsLine : FnScope ["line", "many", "column", "words", "word"] ["line", "many"] (defScope stIsLine) := ⟨rfl, rfl, rfl, by decide +kernel, rfl, by decide +kernel, by decide +kernel⟩
theorem dec_le (n m : Nat) : decide ((n : Int) ≤ (m : Int)) = decide (n ≤ m) := by
  by_cases q : n ≤ m
  · rw [decide_eq_true q, decide_eq_true (by omega)]
  · rw [decide_eq_false q, decide_eq_false (by omega)]
theorem dec_lt (n m : Nat) : decide ((n : Int) < (m : Int)) = decide (n < m) := by
  by_cases q : n < m
  · rw [decide_eq_true q, decide_eq_true (by omega)]
  · rw [decide_eq_false q, decide_eq_false (by omega)]
theorem ok_isLine (T : Tx K mg a) : FnOk P w K mg base CX0 1 a.fIsLine a.dIsLine ["line", "many"] spIsLine := by
  refine T.isLine.fn.ok scIsLine (fun vs H Q E h => ?_) (fun cdv A outer s H vs Q E hr h => ?_)
  · obtain ⟨v, x, m, rfl, _⟩ := h
    rfl
  obtain ⟨v, x, m, rfl, ⟨t, wl, rfl, ht, hw⟩, hlen, k⟩ := h
  have nd := scIsLine.nd
  refine ⟨_, pss_cons (ps_asg (pv 0) (pg_tup rfl (pgs_cons (pg_name (i := 2) nd rfl (Or.inl rfl)) (pgs_cons (pg_name (i := 3) nd rfl (Or.inl rfl)) pgs_nil))))
    (pss_one (ps_ret (pe_and (pe_cmpR op_le (pv 2) (pe_gi rfl T.k_MOST_COLUMN) (nomark _)) (pe_and (pe_cmpR op_le (pe_callB call_len_seq (by rfl) T.b_len PySem.boot_len (pa_cons (pv 3) pa_nil)) (pe_gi rfl T.k_MOST_IN_LINE) (nomark _))
      (pe_one (pe_callB (cr_all rfl) (by rfl) T.b_all (by decide +kernel) (pa_cons (pe_lc (own := [("word", 4)]) (g := gName 4) (tt := tYes) rfl nd (pi_list (pv 3))
        (blkOk_by (N := ["line", "many", "column", "words", "word"]) (sc := defScope stIsLine) (by decide +kernel)) (fun _ _ _ _ _ => pg_name (i := 4) nd rfl (Or.inl rfl)) (fun _ _ _ _ _ => pts_nil)
        (fun _ _ _ _ _ => pe_cmpR op_lt (pv 4) (pv 1) (nomark _))) pa_nil))))))), ?_⟩
  unfold lineOk at k
  refine ⟨_, rfl, t, _, rfl, SqT.of ht, rfl, _, _, rfl, _, _, rfl, rfl, ?_⟩
  refine ⟨_, rfl, _, _, rfl, rfl, _, rfl, ?_⟩
  rw [show decide ((x.column : Int) ≤ 63) = decide (x.column ≤ 63) from dec_le _ 63]
  cases q1 : decide (x.column ≤ 63) with
  | false =>
    rw [q1] at k
    exact if_false_of rfl (k H (Same.refl H))
  | true =>
    rw [q1] at k
    refine if_true_of rfl ⟨_, rfl, wl, _, rfl, .inl (SqL.of hw), _, _, rfl, rfl, _, rfl, ?_⟩
    rw [nv_len, show decide ((x.words.length : Int) ≤ 16) = decide (x.words.length ≤ 16) from dec_le _ 16]
    cases q2 : decide (x.words.length ≤ 16) with
    | false =>
      rw [q2] at k
      exact if_false_of rfl (k H (Same.refl H))
    | true =>
      rw [q2] at k
      refine if_true_of rfl ⟨_, rfl, wl, rfl, ⟨_, SqL.of hw⟩, fun D hD => lc_list (K := K) (a := wl) (xs := nv x.words) (fun i H' => Same H H' ∧ H' D = some (.lst ((x.words.take i).map fun k => V.bl (decide (k < m)))))
        ⟨same_new hD _, upd_same⟩ (fun i H' _ h => SqL.of (h.1 _ _ hw)) ?_ ?_⟩
      · rintro i y H' hi ⟨s1, h1⟩
        obtain ⟨n, hn, rfl⟩ := nv_get hi
        refine ⟨rfl, _, rfl, _, rfl, _, _, rfl, rfl, _, h1, ?_, upd_free s1 hD _, ?_⟩
        · rw [List.length_map]
          have := take_le x.words i
          exact size_lt (by omega)
        · rw [upd_same, take_more hn, List.map_append]
          dsimp only
          rw [dec_lt]
          rfl
      · rintro H' ⟨s1, h1⟩
        rw [nv_len, List.take_length] at h1
        refine ⟨D, x.words.map fun k => decide (k < m), rfl, SqL.of (by rw [h1, List.map_map]; rfl), ?_⟩
        rw [List.all_map]
        exact k H' s1
theorem scNumbersOf : FnScope ["lines", "found", "column", "words"] ["lines"] (defScope stNumbersOf) := ⟨rfl, rfl, rfl, by decide +kernel, rfl, by decide +kernel, by decide +kernel⟩
theorem flat_take {α β : Type} (f : α → List β) {l : List α} {i : Nat} {x : α} (h : l[i]? = some x) : (l.take (i + 1)).flatMap f = (l.take i).flatMap f ++ f x := by
  rw [take_more h, List.flatMap_append]
  simp
theorem flat_le {α β : Type} (f : α → List β) (l : List α) (i : Nat) : ((l.take i).flatMap f).length ≤ (l.flatMap f).length := by
  have e : l.flatMap f = (l.take i).flatMap f ++ (l.drop i).flatMap f := by rw [← List.flatMap_append, List.take_append_drop]
  rw [e, List.length_append]
  omega
theorem ok_numbersOf (T : Tx K mg a) : FnOk P w K mg base CX0 1 a.fNumbersOf a.dNumbersOf ["lines"] (spNumbersOf K) := by
  refine T.numbersOf.fn.ok scNumbersOf (fun vs H Q E h => ?_) (fun cdv A outer s H vs Q E hr h => ?_)
  · obtain ⟨p, us, t, rfl, _⟩ := h
    rfl
  obtain ⟨p, us, t, rfl, hp, hP, hlen, k⟩ := h
  have nd := scNumbersOf.nd
  refine ⟨_, pss_cons (ps_set (i := 1) nd rfl (Or.inl rfl) (pe_lst pa_nil))
    (pss_cons (ps_for PassesOwn.never rfl (pi_list (pv 0)) (pg_tup rfl (pgs_cons (pg_name (i := 2) nd rfl (Or.inl rfl)) (pgs_cons (pg_name (i := 3) nd rfl (Or.inl rfl)) pgs_nil)))
      (pss_one (ps_set (i := 1) nd rfl (Or.inl rfl) (pe_op op_cat (pe_op op_cat (pv 1) (pe_lst (pa_cons (pv 2) (pa_cons (pe_callB call_len_seq (by rfl) T.b_len PySem.boot_len (pa_cons (pv 3) pa_nil)) pa_nil)))) (pv 3)))))
    (pss_one (ps_ret (pv 1)))), ?_⟩
  refine ⟨by show 0 ≤ sizeLine; decide, fun f0 hf0 => ?_⟩
  have s0 : Same H (upd H f0 (.lst [])) := same_new hf0 _
  have lus : us.length = t.length := Paired.length hP
  refine ⟨_, rfl, p, rfl, ⟨_, s0.seq hp⟩, for_list (K := K) (a := p) (xs := us)
    (fun i σ H' => ∃ (f : Addr) (v2 v3 : Option V), σ = [some (.ref p), some (.ref f), v2, v3] ∧ Same H H' ∧ H' f = some (.lst (nv ((t.take i).flatMap Sq16.lineRow))))
    ⟨f0, none, none, rfl, s0, upd_same⟩ (fun i σ H' _ ⟨f, v2, v3, _, s1, _⟩ => s1.seq hp) ?_ ?_⟩
  · rintro i y σ H1 hi ⟨f, v2, v3, rfl, s1, hf⟩
    obtain ⟨x, hx, tp, wl, rfl, ht, hw⟩ := pa_get hP hi
    have tk := flat_take Sq16.lineRow hx
    have tl := flat_le Sq16.lineRow t (i + 1)
    rw [tk, List.length_append] at tl
    have rl : (Sq16.lineRow x).length = 2 + x.words.length := by simp [Sq16.lineRow]; omega
    refine ⟨tp, _, rfl, SqT.of (s1 _ _ ht), rfl, _, _, rfl, _, _, rfl, rfl, ?_⟩
    refine ⟨_, rfl, _, rfl, _, rfl, wl, _, rfl, .inl (SqL.of (s1 _ _ hw)), by show 2 ≤ sizeLine; decide, fun g1 hg1 => ?_⟩
    have s2 := same_new hg1 (.lst [.int x.column, .int ((nv x.words).length : Int)])
    refine ⟨f, g1, _, _, rfl, rfl, s2 _ _ hf, upd_same, ?_, fun g2 hg2 => ?_⟩
    · rw [nv_len]
      exact size_le (by show _ + 2 ≤ _; omega)
    have s3 := s2.trans (same_new hg2 (.lst (nv ((t.take i).flatMap Sq16.lineRow) ++ [.int x.column, .int ((nv x.words).length : Int)])))
    refine ⟨_, rfl, g2, wl, _, _, rfl, rfl, upd_same, s3 _ _ (s1 _ _ hw), ?_, fun g3 hg3 => ?_⟩
    · rw [List.length_append, nv_len, nv_len]
      exact size_le (by show _ + 2 + _ ≤ _; omega)
    refine ⟨g3, _, _, rfl, (s1.trans s3).trans (same_new hg3 _), ?_⟩
    rw [upd_same, tk, nv_append]
    unfold Sq16.lineRow
    rw [nv_len]
    simp only [nv, List.map_cons, List.append_assoc, List.cons_append, List.nil_append]
  · rintro σ H1 ⟨f, v2, v3, rfl, s1, hf⟩
    rw [lus, List.take_length] at hf
    exact ⟨_, rfl, k _ f s1 hf⟩
end
end Mr

/-! ## MrPairs -/
set_option Elab.async false
set_option linter.all false
set_option maxRecDepth 100000
set_option maxHeartbeats 2000000
/-! # pairs_in -/
namespace Mr
open PySem PySem.Spec PyProof.Rows L2
open Sq16 (Item Open State Line Kind)
/-! ### the plain side -/
theorem evs0_cons {α : Type} (x y : α) (r : List α) : evs 0 (x :: y :: r) = x :: evs 0 r := by
  unfold evs
  have e : ((x :: y :: r).length - 0 + 1) / 2 = (r.length - 0 + 1) / 2 + 1 := by simp only [List.length_cons]; omega
  rw [e, List.range_succ_eq_map, List.map_cons, List.filterMap_cons_some (b := x) (by simp)]
  congr 1
  rw [List.map_map, List.filterMap_map, List.filterMap_map]
  have f : ((fun i => (x :: y :: r)[i]?) ∘ (fun k => 0 + 2 * k) ∘ Nat.succ) = ((fun i => r[i]?) ∘ fun k => 0 + 2 * k) := by
    funext k
    show (x :: y :: r)[0 + 2 * (k + 1)]? = r[0 + 2 * k]?
    have e2 : 0 + 2 * (k + 1) = (0 + 2 * k) + 1 + 1 := by omega
    rw [e2, List.getElem?_cons_succ, List.getElem?_cons_succ]
  rw [f]
theorem evs1_cons {α : Type} (x y : α) (r : List α) : evs 1 (x :: y :: r) = y :: evs 1 r := by
  unfold evs
  by_cases h : r.length = 0
  · have : r = [] := List.length_eq_zero_iff.mp h
    subst this
    simp
  have e : ((x :: y :: r).length - 1 + 1) / 2 = (r.length - 1 + 1) / 2 + 1 := by simp only [List.length_cons]; omega
  rw [e, List.range_succ_eq_map, List.map_cons, List.filterMap_cons_some (b := y) (by simp)]
  congr 1
  rw [List.map_map, List.filterMap_map, List.filterMap_map]
  have f : ((fun i => (x :: y :: r)[i]?) ∘ (fun k => 1 + 2 * k) ∘ Nat.succ) = ((fun i => r[i]?) ∘ fun k => 1 + 2 * k) := by
    funext k
    show (x :: y :: r)[1 + 2 * (k + 1)]? = r[1 + 2 * k]?
    have e2 : 1 + 2 * (k + 1) = (1 + 2 * k) + 1 + 1 := by omega
    rw [e2, List.getElem?_cons_succ, List.getElem?_cons_succ]
  rw [f]
theorem pairsOf_odd : ∀ m : List Nat, m.length % 2 ≠ 0 → Sq16.pairsOf m = none
  | [], h => absurd rfl h
  | [x], h => by simp [Sq16.pairsOf]
  | x :: y :: r, h => by
    have := pairsOf_odd r (by simp only [List.length_cons] at h; omega)
    simp [Sq16.pairsOf, this]
theorem pairsOf_even : ∀ m : List Nat, m.length % 2 = 0 → ∃ ps, Sq16.pairsOf m = some ps ∧ (evs 0 (nv m)).zip (evs 1 (nv m)) = ps.map fun p => (V.int p.1, V.int p.2)
  | [], h => ⟨[], by simp [Sq16.pairsOf], rfl⟩
  | [x], h => by simp at h
  | x :: y :: r, h => by
    obtain ⟨ps, h1, h2⟩ := pairsOf_even r (by simp only [List.length_cons] at h; omega)
    refine ⟨(x, y) :: ps, by simp [Sq16.pairsOf, h1], ?_⟩
    show (evs 0 (V.int x :: V.int y :: nv r)).zip (evs 1 (V.int x :: V.int y :: nv r)) = _
    rw [evs0_cons, evs1_cons, List.zip_cons_cons, h2]
    rfl
theorem pairsOf_len : ∀ {m : List Nat} {ps : List (Nat × Nat)}, Sq16.pairsOf m = some ps → ps.length ≤ m.length
  | [], ps, h => by
    simp only [Sq16.pairsOf, Option.some.injEq] at h
    subst h
    simp
  | [x], ps, h => by simp [Sq16.pairsOf] at h
  | x :: y :: r, ps, h => by
    simp only [Sq16.pairsOf] at h
    cases e : Sq16.pairsOf r with
    | none =>
      rw [e] at h
      cases h
    | some qs =>
      rw [e] at h
      have := pairsOf_len e
      simp only [Option.map_some, Option.some.injEq] at h
      subst h
      simp only [List.length_cons]
      omega
/-- the words of kind 1 -/
def idx1 (l : List Nat) : List Nat := (List.range l.length).filter fun k => l[k]? == some 1
def pairsGood (l m : List Nat) : Option (List (Nat × Nat)) := match Sq16.pairsOf m with
  | none => none
  | some ps => if (ps.all fun p => isPairB l p.1 p.2) = true ∧ (ps.map (·.1)).isPerm (idx1 l) = true then some ps else none
def dictOf (ps : List (Nat × Nat)) : List (Key × V) := mergeK [] (ps.map fun p => (Sum.inl (p.1 : Int), V.int p.2))
theorem ints_nat {l : List Nat} {ns : List Int} (h : ns.Perm (l.map fun (n : Nat) => (n : Int))) : ∃ m : List Nat, ns = (m.map fun (n : Nat) => (n : Int)) ∧ m.Perm l := by
  refine ⟨ns.map Int.toNat, ?_, ?_⟩
  · rw [List.map_map]
    have e : ∀ x ∈ ns, x = (((fun (n : Nat) => (n : Int)) ∘ Int.toNat) x) := fun x hx => by
      have hm := h.mem_iff.mp hx
      obtain ⟨n, _, rfl⟩ := List.mem_map.mp hm
      simp
    exact (List.map_id _).symm.trans (List.map_congr_left e)
  · have q := h.map Int.toNat
    rw [List.map_map] at q
    have e : (Int.toNat ∘ fun (n : Nat) => (n : Int)) = id := by
      funext n
      simp
    rw [e, List.map_id] at q
    exact q
theorem nv_ints (l : List Nat) : (l.map fun (n : Nat) => (n : Int)).map V.int = nv l := by
  unfold nv
  rw [List.map_map]
  rfl
theorem sorted_eq : ∀ {l m : List Nat}, l.Perm m → l.Pairwise (· ≤ ·) → m.Pairwise (· ≤ ·) → l = m := by
  intro l m p h1 h2
  exact p.eq_of_pairwise (le := (· ≤ ·)) (fun a b _ _ x y => Nat.le_antisymm x y) h1 h2
theorem idx1_sorted (l : List Nat) : (idx1 l).Pairwise (· ≤ ·) := by
  unfold idx1
  exact (List.pairwise_lt_range.imp fun h => Nat.le_of_lt h).filter _
def spPairsIn (K : PySem.W.Frag) : Sp := fun vs H Q _ => ∃ (p q : Addr) (l m : List Nat), vs = [.ref p, .ref q] ∧ SqL K H p (nv l) ∧ SqL K H q (nv m) ∧ l.length ≤ 1024 ∧ m.length ≤ 1024 ∧
  (pairsGood l m = none → ∀ H', Same H H' → Q .non H') ∧ (∀ ps, pairsGood l m = some ps → ∀ H' d, Same H H' → H' d = some (.dK (dictOf ps)) → Q (.ref d) H')
section
variable {P : Program} {w : World} {K : PySem.W.Frag} {mg : Str → Option Value} {base : Heap} {a : Ad}
theorem scPairsIn : FnScope ["kinds", "numbers", "pairs", "opening", "closing", "k", "kind"] ["kinds", "numbers"] (defScope stPairsIn) := ⟨rfl, rfl, rfl, by decide +kernel, rfl, by decide +kernel, by decide +kernel⟩
theorem ok_pairsIn (T : Tx K mg a) : FnOk P w K mg base CX0 2 a.fPairsIn a.dPairsIn ["kinds", "numbers"] (spPairsIn K) := by
  have G : FnOk P w K mg base CX0 1 a.fIsPair a.dIsPair ["kinds", "opening", "closing"] (spIsPair K) := ok_isPair T
  refine T.pairsIn.fn.ok scPairsIn (fun vs H Q E h => ?_) (fun cdv A outer s H vs Q E hr h => ?_)
  · obtain ⟨p, q, l, m, rfl, _⟩ := h
    rfl
  obtain ⟨p, q, l, m, rfl, hp, hq, hll, hlm, kN, kS⟩ := h
  have nd := scPairsIn.nd
  refine ⟨_, pss_cons (ps_if (pt_cmpR op_ne (pe_op op_mod (pe_callB call_len_seq (by rfl) T.b_len PySem.boot_len (pa_cons (pv 1) pa_nil)) pe_int) pe_int (nomark _)) (pss_one (ps_ret pe_non)) pss_nil)
    (pss_cons (ps_set (i := 2) nd rfl (Or.inl rfl) (pe_listZip rfl (by rfl) T.b_list (by decide +kernel) (by rfl) T.b_zip (pa_cons (pe_step2 (a := 0) (pv 1)) (pa_cons (pe_step2 (a := 1) (pv 1)) pa_nil))))
    (pss_cons (ps_if (pt_not (pt_val (pe_callB (cr_all rfl) (by rfl) T.b_all (by decide +kernel) (pa_cons (pe_lc (own := [("opening", 3), ("closing", 4)]) (g := gTup K 2 (gCons (gName 3) (gCons (gName 4) gNil))) (tt := tYes) rfl nd (pi_list (pv 2))
        (blkOk_by (N := ["kinds", "numbers", "pairs", "opening", "closing", "k", "kind"]) (sc := defScope stPairsIn) (by decide +kernel)) (fun _ _ _ _ _ => pg_tup rfl (pgs_cons (pg_name (i := 3) nd rfl (Or.inl rfl)) (pgs_cons (pg_name (i := 4) nd rfl (Or.inl rfl)) pgs_nil))) (fun _ _ _ _ _ => pts_nil)
        (fun _ _ _ _ _ => pe_call G hr rfl T.isPair.g T.isPair.fn.kp T.isPair.b .nil pass0 (pa_cons (pv 0) (pa_cons (pv 3) (pa_cons (pv 4) pa_nil))))) pa_nil)))) (pss_one (ps_ret pe_non)) pss_nil)
    (pss_cons (ps_if (pt_cmpR (op_neNat hr.units) (pe_callB cr_sortedI (by rfl) T.b_sorted (by decide +kernel) (pa_cons (pe_lc (own := [("opening", 3), ("closing", 4)]) (g := gTup K 2 (gCons (gName 3) (gCons (gName 4) gNil))) (tt := tYes) rfl nd (pi_list (pv 2))
        (blkOk_by (N := ["kinds", "numbers", "pairs", "opening", "closing", "k", "kind"]) (sc := defScope stPairsIn) (by decide +kernel)) (fun _ _ _ _ _ => pg_tup rfl (pgs_cons (pg_name (i := 3) nd rfl (Or.inl rfl)) (pgs_cons (pg_name (i := 4) nd rfl (Or.inl rfl)) pgs_nil))) (fun _ _ _ _ _ => pts_nil)
        (fun _ _ _ _ _ => pv 3)) pa_nil))
      (pe_lc (own := [("k", 5), ("kind", 6)]) (g := gTup K 2 (gCons (gName 5) (gCons (gName 6) gNil))) (tt := tTest (tOp rEq (tVar 6) (tC (.int 1)))) rfl nd (pi_enum (by rfl) T.b_enumerate (pa_cons (pv 0) pa_nil))
        (blkOk_by (N := ["kinds", "numbers", "pairs", "opening", "closing", "k", "kind"]) (sc := defScope stPairsIn) (by decide +kernel)) (fun _ _ _ _ _ => pg_tup rfl (pgs_cons (pg_name (i := 5) nd rfl (Or.inl rfl)) (pgs_cons (pg_name (i := 6) nd rfl (Or.inl rfl)) pgs_nil)))
        (fun _ _ _ _ _ => pts_one (pt_cmpR op_eq (pv 6) (pe_gi rfl T.k_OPENS) (nomark _))) (fun _ _ _ _ _ => pv 5)) (nomark _)) (pss_one (ps_ret pe_non)) pss_nil)
    (pss_one (ps_ret (pe_callTy (call_dictP rfl) (by rfl) T.b_dict (by decide +kernel) (pa_cons (pv 2) pa_nil))))))), ?_⟩
  -- an odd number
  refine ⟨_, rfl, q, _, rfl, .inl hq, _, _, rfl, rfl, by show (0 : Int) < 2; decide, rfl, _, rfl, ?_⟩
  rw [nv_len]
  by_cases odd : m.length % 2 = 0
  rotate_left
  · have e : decide (V.int ((m.length : Int) % 2) = V.int 0) = false := decide_eq_false fun z => odd (by injection z with z; omega)
    rw [e]
    refine if_true_of rfl (kN ?_ H (Same.refl H))
    unfold pairsGood
    rw [pairsOf_odd m odd]
  have e : decide (V.int ((m.length : Int) % 2) = V.int 0) = true := decide_eq_true (by congr 1; omega)
  rw [e]
  refine if_false_of rfl ?_
  obtain ⟨ps, hps, hz⟩ := pairsOf_even m odd
  have psl := pairsOf_len hps
  have good : pairsGood l m = if (ps.all fun p => isPairB l p.1 p.2) = true ∧ (ps.map (·.1)).isPerm (idx1 l) = true then some ps else none := by
    unfold pairsGood
    rw [hps]
  -- pairs
  refine ⟨_, rfl, q, _, rfl, hq, by rw [nv_len]; exact size_lt (by omega), fun e0 he0 => ?_⟩
  have s1 := same_new he0 (.lst (evs 0 (nv m)))
  refine ⟨_, rfl, q, _, rfl, s1.seq hq, by rw [nv_len]; exact size_lt (by omega), fun e1 he1 => ?_⟩
  have s2 := s1.trans (same_new he1 (.lst (evs 1 (nv m))))
  have ne01 : e0 ≠ e1 := ne_of_none upd_same he1
  refine ⟨e0, e1, _, _, rfl, SqL.of ((upd_ne ne01).trans upd_same), SqL.of upd_same, fun H2 pl ts s3 _ hpl hts => ?_⟩
  rw [hz] at hts
  have s4 := s2.trans s3
  have lts : ts.length = ps.length := by
    have := Paired.length hts
    rw [List.length_map] at this
    exact this
  have tup : ∀ {i : Nat} {y : V}, (ts.map V.ref)[i]? = some y → ∃ (t : Addr) (z : Nat × Nat), y = .ref t ∧ ps[i]? = some z ∧ H2 t = some (.tup [.int z.1, .int z.2]) := fun {i y} h => by
    rw [List.getElem?_map] at h
    cases et : ts[i]? with
    | none =>
      rw [et] at h
      cases h
    | some t =>
      rw [et] at h
      obtain ⟨zz, hz1, hz2⟩ := pa_get hts et
      rw [List.getElem?_map] at hz1
      cases ez : ps[i]? with
      | none =>
        rw [ez] at hz1
        cases hz1
      | some z =>
        rw [ez] at hz1
        obtain rfl : (V.int z.1, V.int z.2) = zz := Option.some.inj hz1
        exact ⟨t, z, (Option.some.inj h).symm, rfl, hz2⟩
  -- all of them are pairs
  refine ⟨_, rfl, pl, rfl, ⟨_, SqL.of hpl⟩, fun D hD => lc_list (K := K) (a := pl) (xs := ts.map V.ref) (fun i H' => Same H2 H' ∧ H' D = some (.lst ((ps.take i).map fun z => V.bl (isPairB l z.1 z.2))))
    ⟨same_new hD _, upd_same⟩ (fun i H' _ h => SqL.of (h.1 _ _ hpl)) ?_ ?_⟩
  · rintro i y H' hi ⟨s5, h5⟩
    obtain ⟨t, z, rfl, hz1, hz2⟩ := tup hi
    refine ⟨t, _, rfl, SqT.of (s5 _ _ hz2), rfl, _, _, rfl, _, _, rfl, rfl, rfl, ?_⟩
    refine ⟨_, rfl, _, rfl, _, rfl, p, l, z.1, z.2, rfl, (s4.trans s5).seq hp, _, h5, ?_, upd_free s5 hD _, ?_⟩
    · rw [List.length_map]
      have := take_le ps i
      exact size_lt (by omega)
    · rw [upd_same, take_more hz1, List.map_append]
      rfl
  rintro H3 ⟨s5, h5⟩
  rw [List.length_map, lts, List.take_length] at h5
  refine ⟨D, ps.map fun z => isPairB l z.1 z.2, rfl, SqL.of (by rw [h5, List.map_map]; rfl), _, rfl, ?_⟩
  rw [List.all_map]
  have hall : ps.all (id ∘ fun z => isPairB l z.1 z.2) = ps.all fun z => isPairB l z.1 z.2 := rfl
  rw [hall]
  have s6 := s4.trans s5
  cases ha : ps.all fun z => isPairB l z.1 z.2 with
  | false =>
    refine if_true_of rfl (kN ?_ H3 s6)
    rw [good, ha]
    simp
  | true =>
    refine if_false_of rfl ?_
    -- sorted([opening ..])
    refine ⟨_, rfl, pl, rfl, ⟨_, SqL.of (s5 _ _ hpl)⟩, fun D2 hD2 => lc_list (K := K) (a := pl) (xs := ts.map V.ref) (fun i H' => Same H3 H' ∧ H' D2 = some (.lst (nv ((ps.take i).map (·.1)))))
      ⟨same_new hD2 _, upd_same⟩ (fun i H' _ h => SqL.of (h.1 _ _ (s5 _ _ hpl))) ?_ ?_⟩
    · rintro i y H' hi ⟨s7, h7⟩
      obtain ⟨t, z, rfl, hz1, hz2⟩ := tup hi
      refine ⟨t, _, rfl, SqT.of (s7 _ _ (s5 _ _ hz2)), rfl, _, _, rfl, _, _, rfl, rfl, rfl, ?_⟩
      refine ⟨_, rfl, _, h7, ?_, upd_free s7 hD2 _, ?_⟩
      · rw [nv_len, List.length_map]
        have := take_le ps i
        exact size_lt (by omega)
      · rw [upd_same, take_more hz1, List.map_append, nv_append]
        rfl
    rintro H4 ⟨s7, h7⟩
    rw [List.length_map, lts, List.take_length] at h7
    refine ⟨D2, (ps.map (·.1)).map fun (n : Nat) => (n : Int), rfl, SqL.of (by rw [h7, nv_ints]), fun ns sp hperm hsort hsp => ?_⟩
    obtain ⟨so, rfl, hso⟩ := ints_nat hperm
    have hsorted : so.Pairwise (· ≤ ·) := by
      rw [List.pairwise_map] at hsort
      exact hsort.imp fun h => by omega
    rw [nv_ints]
    have s8 := (s6.trans s7).trans (same_new hsp (.lst (nv so)))
    have hsol : so.length = ps.length := by rw [hso.length_eq, List.length_map]
    -- [k for k, kind in enumerate(kinds) if kind == OPENS]
    refine ⟨_, rfl, p, _, rfl, s8.seq hp, fun D3 hD3 => lc_it (walk_enum (K := K) (a := p) (xs := nv l)) (fun i H' => Same (upd H4 sp (.lst (nv so))) H' ∧ H' D3 = some (.lst (nv ((List.range i).filter fun k => l[k]? == some 1))))
      ⟨same_new hD3 _, upd_same⟩ (fun i H' _ h => h.1.seq (s8.seq hp)) ?_ ?_⟩
    · rintro i v H5 H5' hi ⟨s9, h9⟩ ⟨t, x, y, rfl, ht, rfl, hx, hy⟩
      obtain rfl : V.int (i : Nat) = x := Option.some.inj hx
      obtain ⟨n, hn, rfl⟩ := nv_get hy
      have ne : D3 ≠ t := ne_of_none h9 ht
      refine ⟨t, _, rfl, SqT.of upd_same, rfl, _, _, rfl, _, _, rfl, rfl, rfl, ?_⟩
      refine ⟨_, rfl, rfl, _, rfl, ?_⟩
      have s10 : Same (upd H4 sp (.lst (nv so))) (upd H5 t (.tup [.int (i : Nat), .int n])) := s9.trans (same_new ht _)
      have hlen : ((List.range i).filter fun k => l[k]? == some 1).length ≤ i := by
        have := List.length_filter_le (fun k => l[k]? == some 1) (List.range i)
        rw [List.length_range] at this
        exact this
      rw [nv_len] at hi
      by_cases hone : n = 1
      · subst hone
        refine if_true_of (decide_eq_true rfl) ?_
        refine ⟨_, rfl, _, (upd_ne ne).trans h9, ?_, upd_free s10 hD3 _, ?_⟩
        · rw [nv_len]
          exact size_lt (by omega)
        · rw [upd_same, List.range_succ, List.filter_append, nv_append]
          simp [hn, nv]
      · refine if_false_of (decide_eq_false fun z => hone (by injection z with z; omega)) ⟨s10, ?_⟩
        rw [upd_ne ne, h9, List.range_succ, List.filter_append]
        simp [hn, hone]
    rintro H5 ⟨s9, h9⟩
    rw [nv_len] at h9
    refine ⟨sp, D3, so, idx1 l, rfl, rfl, SqL.of (s9 _ _ upd_same), SqL.of h9, _, rfl, ?_⟩
    have key : decide (so = idx1 l) = (ps.map (·.1)).isPerm (idx1 l) := by
      by_cases hp2 : (ps.map (·.1)).isPerm (idx1 l) = true
      · rw [hp2]
        have q := List.isPerm_iff.mp hp2
        exact decide_eq_true (sorted_eq (hso.trans q) hsorted (idx1_sorted l))
      · rw [Bool.eq_false_iff.mpr hp2]
        refine decide_eq_false fun z => hp2 (List.isPerm_iff.mpr ?_)
        rw [← z]
        exact hso.symm
    rw [key]
    have s11 := s8.trans s9
    cases hper : (ps.map (·.1)).isPerm (idx1 l) with
    | false =>
      refine if_true_of rfl (kN ?_ H5 s11)
      rw [good, hper]
      simp
    | true =>
      refine if_false_of rfl ?_
      have hts5 : Same H2 H5 := ((s5.trans s7).trans (same_new hsp _)).trans s9
      refine ⟨_, rfl, pl, ts, ps.map fun z => (Sum.inl (z.1 : Int), V.int z.2), rfl, SqL.of (hts5 _ _ hpl), ?_, fun d hd => ?_⟩
      · have conv : ∀ {ts : List Addr} {ps : List (Nat × Nat)}, Paired (fun (t : Addr) (z : V × V) => H2 t = some (.tup [z.1, z.2])) ts (ps.map fun p => (V.int p.1, V.int p.2)) →
            Paired (fun (p : Addr) (kv : Key × V) => SqT K H5 p [kV kv.1, kv.2]) ts (ps.map fun z => ((Sum.inl (z.1 : Int) : Key), V.int z.2)) := by
          intro ts ps h
          induction ps generalizing ts with
          | nil =>
            cases h
            exact .nil
          | cons z r ih =>
            cases h with
            | cons h1 h2 => exact .cons (SqT.of (hts5 _ _ h1)) (ih h2)
        exact conv hts
      · refine kS ps ?_ _ d (s11.trans (same_new hd _)) upd_same
        rw [good, ha, hper]
        simp
end
end Mr

/-! ## MrLinesIn -/
set_option Elab.async false
set_option linter.all false
set_option maxRecDepth 100000
set_option maxHeartbeats 2000000
/-! # lines_in -/
namespace Mr
open PySem PySem.Spec PyProof.Rows L2
open Sq16 (Item Open State Line Kind)
theorem cut_nat (xs : List V) {i j : Nat} (h1 : i ≤ j) (h2 : j ≤ xs.length) : cutV xs (some (i : Int)) (some (j : Int)) = (xs.drop i).take (j - i) := by
  unfold cutV
  rw [HT.sIx_nat, HT.sIx_nat, show min i xs.length = i by omega, show min j xs.length = j by omega]
theorem cut_over (xs : List V) (i j : Nat) (h : i ≤ xs.length) : cutV xs (some (i : Int)) (some (j : Int)) = (xs.drop i).take (j - i) := by
  unfold cutV
  rw [HT.sIx_nat, HT.sIx_nat, Nat.min_eq_left h]
  by_cases q : j ≤ xs.length
  · rw [Nat.min_eq_left q]
  · rw [Nat.min_eq_right (by omega), List.take_of_length_le (by rw [List.length_drop]; omega), List.take_of_length_le (by rw [List.length_drop]; omega)]
theorem cut_to (xs : List V) (j : Nat) : cutV xs none (some (j : Int)) = xs.take j := by
  unfold cutV
  rw [HT.sIx_none, HT.sIx_nat, List.drop_zero, Nat.sub_zero]
  by_cases q : j ≤ xs.length
  · rw [Nat.min_eq_left q]
  · rw [Nat.min_eq_right (by omega), List.take_of_length_le (Nat.le_refl _), List.take_of_length_le (by omega)]
theorem cut_from (xs : List V) (i : Nat) : cutV xs (some (i : Int)) none = xs.drop i := by
  unfold cutV
  rw [HT.sIx_none, HT.sIx_nat]
  by_cases q : i ≤ xs.length
  · rw [Nat.min_eq_left q, List.take_of_length_le (by rw [List.length_drop]; omega)]
  · rw [Nat.min_eq_right (by omega), Nat.sub_self, List.take_zero, List.drop_eq_nil_of_le (by omega)]
theorem nv_drop (l : List Nat) (i : Nat) : (nv l).drop i = nv (l.drop i) := by unfold nv; rw [List.map_drop]
theorem nv_take (l : List Nat) (i : Nat) : (nv l).take i = nv (l.take i) := by unfold nv; rw [List.map_take]
/-- a line, its words not in the list at f -/
def LineOff (f : Addr) (H : Hp) (v : V) (x : Line) : Prop := ∃ (t wl : Addr), v = .ref t ∧ wl ≠ f ∧ H t = some (.tup [.int x.column, .ref wl]) ∧ H wl = some (.lst (nv x.words))
/-! ### lines from a list -/
theorem lines_fuel : ∀ (f g : Nat) (l : List Nat), l.length ≤ f → l.length ≤ g → Sq16.linesOf f l = Sq16.linesOf g l
  | f, g, [], _, _ => by cases f <;> cases g <;> simp [Sq16.linesOf]
  | 0, g, x :: l, h, _ => by simp at h
  | f + 1, 0, x :: l, _, h => by simp at h
  | f + 1, g + 1, [x], _, _ => by simp [Sq16.linesOf]
  | f + 1, g + 1, c :: n :: l, h1, h2 => by
    simp only [List.length_cons] at h1 h2
    simp only [Sq16.linesOf]
    rw [lines_fuel f g (l.drop n) (by rw [List.length_drop]; omega) (by rw [List.length_drop]; omega)]
def linesF (l : List Nat) : Option (List Line) := Sq16.linesOf l.length l
theorem linesF_nil : linesF [] = some [] := by simp [linesF, Sq16.linesOf]
theorem linesF_one (c : Nat) : linesF [c] = none := by simp [linesF, Sq16.linesOf]
theorem linesF_two (c n : Nat) (l : List Nat) : linesF (c :: n :: l) = if l.length < n then none else (linesF (l.drop n)).map fun x => ⟨c, l.take n⟩ :: x := by
  unfold linesF
  simp only [List.length_cons, Sq16.linesOf]
  rw [lines_fuel (l.length + 1) (l.drop n).length (l.drop n) (by rw [List.length_drop]; omega) (Nat.le_refl _)]
def spLinesIn (K : PySem.W.Frag) : Sp := fun vs H Q _ => ∃ (p : Addr) (m : List Nat), vs = [.ref p] ∧ SqL K H p (nv m) ∧ m.length ≤ 1024 ∧ (linesF m = none → ∀ H', Same H H' → Q .non H') ∧
  (∀ t, linesF m = some t → ∀ (H' : Hp) (q : Addr) (us : List V), Same H H' → H' q = some (.lst us) → Paired (LineAt H') us t → Q (.ref q) H')
section
variable {P : Program} {w : World} {K : PySem.W.Frag} {mg : Str → Option Value} {base : Heap} {a : Ad}
theorem scLinesIn : FnScope ["numbers", "found", "at", "end"] ["numbers"] (defScope stLinesIn) := ⟨rfl, rfl, rfl, by decide +kernel, rfl, by decide +kernel, by decide +kernel⟩
theorem ok_linesIn (T : Tx K mg a) : FnOk P w K mg base CX0 1 a.fLinesIn a.dLinesIn ["numbers"] (spLinesIn K) := by
  refine T.linesIn.fn.ok scLinesIn (fun vs H Q E h => ?_) (fun cdv A outer s H vs Q E hr h => ?_)
  · obtain ⟨p, m, rfl, _⟩ := h
    rfl
  obtain ⟨p, m, rfl, hp, hlm, kN, kS⟩ := h
  have nd := scLinesIn.nd
  refine ⟨_, pss_cons (ps_set (i := 1) nd rfl (Or.inl rfl) (pe_lst pa_nil))
    (pss_cons (ps_set (i := 2) nd rfl (Or.inl rfl) pe_int)
    (pss_cons (ps_while PassesOwn.never (pt_cmpR op_lt (pv 2) (pe_callB call_len_seq (by rfl) T.b_len PySem.boot_len (pa_cons (pv 0) pa_nil)) (nomark _))
      (pss_cons (ps_if (PW.pt (pw_or (pt_cmpR op_eq (pe_op op_add (pv 2) pe_int) (pe_callB call_len_seq (by rfl) T.b_len PySem.boot_len (pa_cons (pv 0) pa_nil)) (nomark _))
          (pw_or1 (pt_cmpR op_gt (pe_ix ix_list (pv 0) (pe_op op_add (pv 2) pe_int) (fun _ _ => rfl)) (pe_op op_sub (pe_op op_sub (pe_callB call_len_seq (by rfl) T.b_len PySem.boot_len (pa_cons (pv 0) pa_nil)) (pv 2)) pe_int) (nomark _)))))
          (pss_one (ps_ret pe_non)) pss_nil)
      (pss_cons (ps_set (i := 3) nd rfl (Or.inl rfl) (pe_op op_add (pe_op op_add (pv 2) pe_int) (pe_ix ix_list (pv 0) (pe_op op_add (pv 2) pe_int) (fun _ _ => rfl))))
      (pss_cons (ps_expr (pe_bm PySem.F.plainAttrs_list PySem.F.slot_list_append PySem.F.type_list_append mt_append (pv 1)
          (pa_cons (pe_tup (pa_cons (pe_ix ix_list (pv 0) (pv 2) (fun _ _ => rfl)) (pa_cons (pe_slice sl_list (pv 0) (po_some (pe_op op_add (pv 2) pe_int)) (po_some (pv 3))) pa_nil))) pa_nil)))
      (pss_one (ps_set (i := 2) nd rfl (Or.inl rfl) (pv 3)))))))
    (pss_one (ps_ret (pv 1))))), ?_⟩
  have hl := nv_len m
  refine ⟨by show 0 ≤ sizeLine; decide, fun f0 hf0 => ?_⟩
  have s0 : Same H (upd H f0 (.lst [])) := same_new hf0 _
  refine ⟨fun k σ H' => ∃ (at_ : Nat) (v3 : Option V) (done : List Line) (us : List V), k = m.length - at_ ∧ at_ ≤ m.length ∧ done.length ≤ at_ ∧ σ = [some (.ref p), some (.ref f0), some (.int at_), v3] ∧ Same H H' ∧ H' f0 = some (.lst us) ∧ Paired (LineOff f0 H') us done ∧
    linesF m = (linesF (m.drop at_)).map fun r => done ++ r,
    ⟨_, 0, none, [], [], rfl, Nat.zero_le _, Nat.le_refl _, rfl, s0, upd_same, .nil, by rw [List.drop_zero]; cases linesF m <;> simp⟩, ?_⟩
  rintro k σ H1 ⟨at_, v3, done, us, rfl, hat, hdone, rfl, s1, hf, hP, hL⟩
  have lus : us.length = done.length := Paired.length hP
  refine ⟨_, rfl, _, rfl, p, _, rfl, .inl (s1.seq hp), _, _, rfl, rfl, _, rfl, ?_⟩
  rw [hl, dec_lt]
  by_cases hend : at_ < m.length
  rotate_left
  · -- the end
    refine if_false_of (decide_eq_false hend) ⟨_, rfl, ?_⟩
    have e : m.drop at_ = [] := List.drop_eq_nil_of_le (by omega)
    rw [e, linesF_nil] at hL
    exact kS done (by simpa using hL) H1 f0 us s1 hf (pa_imp (fun v x ⟨t, wl, e, _, g1, g2⟩ => ⟨t, wl, e, g1, g2⟩) hP)
  refine if_true_of (decide_eq_true hend) ⟨fun σ' H' => ∃ m', m' < m.length - at_ ∧ ∃ (at2 : Nat) (v3 : Option V) (done : List Line) (us : List V), m' = m.length - at2 ∧ at2 ≤ m.length ∧ done.length ≤ at2 ∧ σ' = [some (.ref p), some (.ref f0), some (.int at2), v3] ∧ Same H H' ∧ H' f0 = some (.lst us) ∧ Paired (LineOff f0 H') us done ∧
    linesF m = (linesF (m.drop at2)).map fun r => done ++ r, fun _ _ h => h, ?_⟩
  have hc : m[at_]? = some m[at_] := List.getElem?_eq_getElem hend
  have hd1 : m.drop at_ = m[at_] :: m.drop (at_ + 1) := List.drop_eq_getElem_cons hend
  refine ⟨_, rfl, _, _, rfl, rfl, _, rfl, p, _, rfl, .inl (s1.seq hp), rfl, _, rfl, ?_⟩
  rw [hl]
  by_cases h1 : at_ + 1 = m.length
  · -- no number of words
    have e0 : V.int ((at_ : Int) + 1) = V.int ((m.length : Nat) : Int) := by
      rw [← h1]
      rfl
    refine if_true_of (decide_eq_true e0) (if_true_of rfl (kN ?_ H1 s1))
    have e : m.drop (at_ + 1) = [] := List.drop_eq_nil_of_le (by omega)
    rw [hL, hd1, e, linesF_one]
    rfl
  refine if_false_of (decide_eq_false fun z => h1 (by injection z with z; omega)) ?_
  have hlt2 : at_ + 1 < m.length := by omega
  have hn : m[at_ + 1]? = some m[at_ + 1] := List.getElem?_eq_getElem hlt2
  have hd2 : m.drop (at_ + 1) = m[at_ + 1] :: m.drop (at_ + 1 + 1) := List.drop_eq_getElem_cons hlt2
  generalize hnn : m[at_ + 1] = n at hn hd2
  generalize hcc : m[at_] = c at hc hd1
  have ix1 : atI (nv m) ((at_ : Int) + 1) = some (.int n) := by
    have := nv_at hn
    rwa [show ((at_ + 1 : Nat) : Int) = (at_ : Int) + 1 by omega] at this
  refine ⟨_, rfl, _, rfl, _, _, rfl, rfl, p, _, _, _, rfl, rfl, s1.seq hp, ix1, _, rfl, p, _, rfl, .inl (s1.seq hp), _, rfl, _, _, rfl, rfl, _, _, rfl, rfl, _, _, rfl, rfl, _, rfl, ?_⟩
  rw [hl]
  have ld : (m.drop (at_ + 1 + 1)).length = m.length - (at_ + 2) := by rw [List.length_drop]
  by_cases h2 : (m.drop (at_ + 1 + 1)).length < n
  · -- too few words
    refine if_true_of (decide_eq_true (by omega)) (kN ?_ H1 s1)
    rw [hL, hd1, hd2, linesF_two, if_pos h2]
    rfl
  refine if_false_of (decide_eq_false (by omega)) ?_
  -- end
  refine ⟨_, rfl, _, _, rfl, rfl, _, rfl, _, rfl, _, _, rfl, rfl, p, _, _, _, rfl, rfl, s1.seq hp, ix1, _, _, rfl, rfl, ?_⟩
  -- found.append(..)
  refine ⟨_, rfl, .inl ⟨rfl, _, SqL.of hf⟩, _, rfl, _, rfl, p, _, _, _, rfl, rfl, s1.seq hp, nv_at hc, _, rfl, _, rfl, _, _, rfl, rfl, _, rfl, _, rfl, _, rfl, p, _, rfl, s1.seq hp, fun wl hwl => ?_⟩
  have ecut : cutV (nv m) (some ((at_ : Int) + 2)) (some ((at_ : Int) + 2 + (n : Int))) = nv ((m.drop (at_ + 1 + 1)).take n) := by
    have := cut_nat (nv m) (i := at_ + 2) (j := at_ + 2 + n) (by omega) (by rw [hl]; omega)
    rw [show ((at_ + 2 : Nat) : Int) = (at_ : Int) + 2 by omega, show ((at_ + 2 + n : Nat) : Int) = (at_ : Int) + 2 + (n : Int) by omega] at this
    rw [this, nv_drop, nv_take, show at_ + 2 + n - (at_ + 2) = n by omega]
  rw [ecut]
  have s2 := s1.trans (same_new hwl (.lst (nv ((m.drop (at_ + 1 + 1)).take n))))
  refine ⟨by show 2 ≤ sizeLine; decide, fun tp htp => ?_⟩
  have s3 := s2.trans (same_new htp (.tup [.int c, .ref wl]))
  have nf : f0 ≠ wl := ne_of_none hf hwl
  have nt : f0 ≠ tp := ne_of_none ((upd_ne nf).trans hf) htp
  have nwt : wl ≠ tp := ne_of_none upd_same htp
  refine ⟨f0, us, _, rfl, rfl, (upd_ne nt).trans ((upd_ne nf).trans hf), size_lt (by omega), _, rfl, ?_⟩
  have lift : ∀ (v : V) (x : Line), LineOff f0 H1 v x → LineOff f0 (upd (upd (upd H1 wl (.lst (nv ((m.drop (at_ + 1 + 1)).take n)))) tp (.tup [.int c, .ref wl])) f0 (.lst (us ++ [.ref tp]))) v x := fun v x h => by
    obtain ⟨t, wl2, e, hw2, g1, g2⟩ := h
    refine ⟨t, wl2, e, hw2, ?_, ?_⟩
    · rw [upd_ne (ne_of g1 hf (by intro z; cases z))]
      exact (same_new hwl _).trans (same_new htp _) _ _ g1
    · rw [upd_ne hw2]
      exact (same_new hwl _).trans (same_new htp _) _ _ g2
  refine ⟨m.length - (at_ + 2 + n), by omega, at_ + 2 + n, some (.int ((at_ : Int) + 2 + (n : Int))), done ++ [⟨c, (m.drop (at_ + 1 + 1)).take n⟩], us ++ [.ref tp], rfl, by omega, by rw [List.length_append, List.length_singleton]; omega, ?_, upd_free s3 hf0 _, upd_same, ?_, ?_⟩
  · rw [show ((at_ + 2 + n : Nat) : Int) = (at_ : Int) + 2 + (n : Int) by omega]
    rfl
  · refine pa_append (pa_imp lift hP) (.cons ⟨tp, wl, rfl, Ne.symm nf, ?_, ?_⟩ .nil)
    · rw [upd_ne (Ne.symm nt), upd_same]
    · rw [upd_ne (Ne.symm nf), upd_ne nwt, upd_same]
  · rw [hL, hd1, hd2, linesF_two, if_neg h2, List.drop_drop, show at_ + 1 + 1 + n = at_ + 2 + n by omega, Option.map_map]
    congr 1
    funext r
    simp
end
end Mr

/-! ## MrSetting -/
set_option Elab.async false
set_option linter.all false
set_option maxRecDepth 100000
set_option maxHeartbeats 2000000
/-! # word_lines -/
namespace Mr
open PySem PySem.Spec PyProof.Rows L2
open Sq16 (Item Open State Line Kind)
/-! ### rows of so many words -/
def manyOf (len n : Nat) : Nat := if 0 < len then len else n
theorem chunks_nil (most f : Nat) : Sq16.chunks most f [] = [] := by cases f <;> simp [Sq16.chunks]
/-- so many rows -/
def turns (n many : Nat) : Nat := if n = 0 then 0 else (n - 1) / many + 1
theorem chunks_eq (len : Nat) : ∀ (f : Nat) (l : List Nat), l.length ≤ f → Sq16.chunks len f l = (List.range (turns l.length (manyOf len l.length))).map fun i => (l.drop (i * manyOf len l.length)).take (manyOf len l.length)
  | 0, l, h => by
    have : l = [] := List.length_eq_zero_iff.mp (by omega)
    subst this
    simp [Sq16.chunks, turns]
  | f + 1, l, h => by
    by_cases hl : l = []
    · subst hl
      simp [Sq16.chunks, turns]
    have hpos : 0 < l.length := List.length_pos_iff.mpr hl
    simp only [Sq16.chunks, if_neg hl]
    by_cases hm : len = 0 ∨ l.length ≤ len
    · rw [if_pos hm]
      have hmany : l.length ≤ manyOf len l.length := by
        unfold manyOf
        split
        · rcases hm with z | z
          · omega
          · exact z
        · exact Nat.le_refl _
      have ht : turns l.length (manyOf len l.length) = 1 := by
        unfold turns
        rw [if_neg (by omega), Nat.div_eq_of_lt (by omega)]
      rw [ht]
      simp [List.take_of_length_le hmany]
    · rw [if_neg hm]
      have hlen : 0 < len := by omega
      have hlt : len < l.length := by omega
      have hmany : manyOf len l.length = len := by unfold manyOf; rw [if_pos hlen]
      have ih := chunks_eq len f (l.drop len) (by rw [List.length_drop]; omega)
      have hmany2 : manyOf len (l.drop len).length = len := by unfold manyOf; rw [if_pos hlen]
      rw [hmany2] at ih
      rw [hmany, ih]
      have ht : turns l.length len = turns (l.drop len).length len + 1 := by
        unfold turns
        rw [List.length_drop, if_neg (by omega), if_neg (by omega)]
        have e : l.length - 1 = (l.length - len - 1) + len := by omega
        rw [e, Nat.add_div_right _ hlen]
      rw [ht, List.range_succ_eq_map, List.map_cons, List.map_map]
      congr 1
      · simp
      · apply List.map_congr_left
        intro i _
        show ((l.drop len).drop (i * len)).take len = (l.drop ((i + 1) * len)).take len
        rw [List.drop_drop]
        congr 2
        rw [Nat.succ_mul]
        omega
theorem range_turns {n many : Nat} (hn : 0 < n) (hm : 0 < many) (h2 : many < 1000000) (h1 : n < 1000000) : RgC 0 (n : Int) (many : Int) (turns n many) := by
  refine ⟨by omega, by omega, ?_, ?_⟩
  · unfold Builtin.Range.small
    have e : Builtin.Range.rangeSize 0 (n : Int) (many : Int) ≤ 2000000 := by
      unfold Builtin.Range.rangeSize
      rw [if_pos (by omega), if_pos (by omega)]
      have := Int.ediv_le_self (many : Int) (show (0 : Int) ≤ (n : Int) - 0 - 1 by omega)
      omega
    have e0 : 0 ≤ Builtin.Range.rangeSize 0 (n : Int) (many : Int) := by
      unfold Builtin.Range.rangeSize
      rw [if_pos (by omega), if_pos (by omega)]
      have := Int.ediv_nonneg (show (0 : Int) ≤ (n : Int) - 0 - 1 by omega) (show (0 : Int) ≤ (many : Int) by omega)
      omega
    have hc : (many : Int) > 0 := by omega
    simp only [Builtin.Range.rangeFitsLong, Bool.and_eq_true, Bool.or_eq_true, decide_eq_true_eq, beq_iff_eq, hc, if_true]
    omega
  · unfold Builtin.Range.rangeSize turns
    rw [if_pos (by omega), if_pos (by omega), if_neg (by omega)]
    have e : ((n : Int) - 0 - 1) = ((n - 1 : Nat) : Int) := by omega
    rw [e]
    omega
theorem turns_le {n many : Nat} (hm : 0 < many) : turns n many ≤ n := by
  unfold turns
  split
  · omega
  · have := Nat.div_le_self (n - 1) many
    omega
theorem turn_in {n many i : Nat} (hm : 0 < many) (h : i < turns n many) : i * many < n := by
  unfold turns at h
  split at h
  · omega
  · have h1 : i ≤ (n - 1) / many := by omega
    have h2 := Nat.mul_le_mul_right many h1
    have h3 := Nat.div_mul_le_self (n - 1) many
    omega
/-- the rows' lines -/
theorem rowsOf_eq (st len c : Nat) (ws : List Nat) (hw : ws ≠ []) : ∃ x r, Sq16.chunks len ws.length ws = x :: r ∧ Sq16.rowsOf st len c ws = (⟨c, x⟩ : Line) :: r.map fun y => ⟨c + 2 * st, y⟩ := by
  cases e : Sq16.chunks len ws.length ws with
  | nil =>
    exfalso
    rw [chunks_eq len ws.length ws (Nat.le_refl _)] at e
    have hpos : 0 < ws.length := List.length_pos_iff.mpr hw
    have : (List.range (turns ws.length (manyOf len ws.length))).length = 0 := by
      have := congrArg List.length e
      simpa using this
    rw [List.length_range] at this
    unfold turns at this
    rw [if_neg (by omega)] at this
    exact Nat.succ_ne_zero _ this
  | cons x r =>
    refine ⟨x, r, rfl, ?_⟩
    unfold Sq16.rowsOf
    rw [e]
theorem rowsOf_nil (st len c : Nat) : Sq16.rowsOf st len c [] = [] := by
  unfold Sq16.rowsOf
  rw [chunks_nil]
/-- a line, its words in a list that was not there in H0 | nor is the one at f -/
def LineNew (H0 H : Hp) (v : V) (x : Line) : Prop := ∃ (t wl : Addr), v = .ref t ∧ H0 wl = none ∧ H t = some (.tup [.int x.column, .ref wl]) ∧ H wl = some (.lst (nv x.words))
def LineNo (H0 : Hp) (f : Addr) (H : Hp) (v : V) (x : Line) : Prop := ∃ (t wl : Addr), v = .ref t ∧ H0 wl = none ∧ wl ≠ f ∧ H t = some (.tup [.int x.column, .ref wl]) ∧ H wl = some (.lst (nv x.words))
theorem LineNew.at {H0 H : Hp} (v : V) (x : Line) (h : LineNew H0 H v x) : LineAt H v x := by
  obtain ⟨t, wl, e, _, g1, g2⟩ := h
  exact ⟨t, wl, e, g1, g2⟩
def spWordLines (K : PySem.W.Frag) : Sp := fun vs H Q _ => ∃ (p : Addr) (ws : List Nat) (c st len : Nat), vs = [.ref p, .int c, .int st, .int len] ∧ SqL K H p (nv ws) ∧ ws.length ≤ 4000 ∧ len ≤ 64 ∧
  ∀ (H' : Hp) (q : Addr) (us : List V), Same H H' → H' q = some (.lst us) → Paired (LineNew H H') us (Sq16.rowsOf st len c ws) → Q (.ref q) H'
section
variable {P : Program} {w : World} {K : PySem.W.Frag} {mg : Str → Option Value} {base : Heap} {a : Ad}
theorem scWordLines : FnScope ["words", "column", "step", "length", "many", "pieces", "at", "piece"] ["words", "column", "step", "length"] (defScope stWordLines) := ⟨rfl, rfl, rfl, by decide +kernel, rfl, by decide +kernel, by decide +kernel⟩
theorem ok_wordLines (T : Tx K mg a) : FnOk P w K mg base CX0 1 a.fWordLines a.dWordLines ["words", "column", "step", "length"] (spWordLines K) := by
  refine T.wordLines.fn.ok scWordLines (fun vs H Q E h => ?_) (fun cdv A outer s H vs Q E hr h => ?_)
  · obtain ⟨p, ws, c, st, len, rfl, _⟩ := h
    rfl
  obtain ⟨p, ws, c, st, len, rfl, hp, hws, hlen, k⟩ := h
  have nd := scWordLines.nd
  refine ⟨_, pss_cons (ps_if (pt_cmpR (op_eqNil hr.units) (pv 0) (pe_lst pa_nil) (nomark _)) (pss_one (ps_ret (pe_lst pa_nil))) pss_nil)
    (pss_cons (ps_set (i := 4) nd rfl (Or.inr rfl) (pe_ifExp (pt_cmpR op_gt (pv 3) pe_int (nomark _)) (pv 3) (pe_callB call_len_seq (by rfl) T.b_len PySem.boot_len (pa_cons (pv 0) pa_nil))))
    (pss_cons (ps_setLc (i := 5) (own := [("at", 6)]) (g := gName 6) (tt := tYes) (te := tSl (rSlL K) (tVar 0) (tPart (tVar 6)) (tPart (tOp (rI0 fun i j => .int (i + j)) (tVar 6) (tVar 4)))) rfl nd rfl rfl (sw_true rfl rfl rfl (by decide +kernel))
        (pi_range3 (by rfl) T.b_range (pa_cons pe_int (pa_cons (pe_callB call_len_seq (by rfl) T.b_len PySem.boot_len (pa_cons (pv 0) pa_nil)) (pa_cons (pv 4) pa_nil))))
        (blkOk_by (N := ["words", "column", "step", "length", "many", "pieces", "at", "piece"]) (sc := defScope stWordLines) (by decide +kernel)) (fun _ _ _ _ _ => pg_name (i := 6) nd rfl (Or.inl rfl)) (fun _ _ _ _ _ => pts_nil)
        (fun _ _ _ _ _ => pe_slice sl_list (pv 0) (po_some (pv 6)) (po_some (pe_op op_add (pv 6) (pv 4)))))
    (pss_one (ps_ret (pe_op op_cat (pe_lst (pa_cons (pe_tup (pa_cons (pv 1) (pa_cons (pe_ix ix_list (pv 5) pe_int (fun _ _ => rfl)) pa_nil))) pa_nil))
        (pe_lc (own := [("piece", 7)]) (g := gName 7) (tt := tYes) rfl nd (pi_list (pe_slice sl_list (pv 5) (po_some pe_int) po_none))
          (blkOk_by (N := ["words", "column", "step", "length", "many", "pieces", "at", "piece"]) (sc := defScope stWordLines) (by decide +kernel)) (fun _ _ _ _ _ => pg_name (i := 7) nd rfl (Or.inl rfl)) (fun _ _ _ _ _ => pts_nil)
          (fun _ _ _ _ _ => pe_tup (pa_cons (pe_op op_add (pv 1) (pe_op op_mul pe_int (pv 2))) (pa_cons (pv 7) pa_nil))))))))), ?_⟩
  refine ⟨_, rfl, by show 0 ≤ sizeLine; decide, fun e0 he0 => ?_⟩
  have s0 := same_new he0 (.lst [])
  refine ⟨p, e0, nv ws, rfl, rfl, s0.seq hp, SqL.of upd_same, _, rfl, ?_⟩
  by_cases hw : ws = []
  · subst hw
    refine if_true_of rfl ⟨by show 0 ≤ sizeLine; decide, fun e1 he1 => ?_⟩
    refine k _ e1 [] (s0.trans (same_new he1 _)) upd_same ?_
    rw [rowsOf_nil]
    exact .nil
  have hpos : 0 < ws.length := List.length_pos_iff.mpr hw
  refine if_false_of (by cases ws with | nil => exact absurd rfl hw | cons x r => rfl) ?_
  obtain ⟨x0, r0, hch, hrows⟩ := rowsOf_eq st len c ws hw
  rw [hrows] at k
  have hmany : 0 < manyOf len ws.length := by unfold manyOf; split <;> omega
  have hmany2 : manyOf len ws.length ≤ 4000 := by unfold manyOf; split <;> omega
  generalize hM : manyOf len ws.length = many at hmany hmany2
  have hch2 := chunks_eq len ws.length ws (Nat.le_refl _)
  rw [hM] at hch2
  -- many
  have manyR : ∀ {Q : VK} {σ : L2.St} {H' : Hp}, σ[3]? = some (some (.int (len : Int))) → σ[0]? = some (some (.ref p)) → SqL K H' p (nv ws) → Q (.int (many : Int)) H' →
      tIf (tTest (tOp (rI0 fun i j => .bl (decide (j < i))) (tVar 3) (tC (.int 0)))) (tVar 3) (tCB (fun xs H Q => ∃ p ys, xs = [.ref p] ∧ (SqL K H p ys ∨ SqT K H p ys) ∧ Q (.int ys.length) H) (tCons (tVar 0) tNil)) σ H' Q := by
    intro Q σ H' h3 h0 hS q
    refine ⟨_, h3, _, _, rfl, rfl, _, rfl, ?_⟩
    by_cases hl : 0 < len
    · refine if_true_of (decide_eq_true (by omega)) ⟨_, h3, ?_⟩
      have e : many = len := by rw [← hM]; unfold manyOf; rw [if_pos hl]
      rw [← e]
      exact q
    · refine if_false_of (decide_eq_false (by omega)) ⟨_, h0, p, _, rfl, .inl hS, ?_⟩
      have e : many = ws.length := by rw [← hM]; unfold manyOf; rw [if_neg hl]
      rw [nv_len, ← e]
      exact q
  refine manyR rfl rfl (s0.seq hp) ?_
  -- pieces
  refine ⟨_, rfl, p, _, rfl, .inl (s0.seq hp), _, rfl, _, _, _, _, rfl, by rw [nv_len]; exact range_turns hpos hmany (by omega) (by omega), fun D hD => lc_it (walk_rangeC (lo := 0) (c := (many : Int)) (n := turns ws.length many))
    (fun i H' => Same (upd H e0 (.lst [])) H' ∧ ∃ ps : List Addr, H' D = some (.lst (ps.map V.ref)) ∧ Paired (fun (t : Addr) (y : List Nat) => t ≠ D ∧ H t = none ∧ H' t = some (.lst (nv y))) ps ((List.range i).map fun i => (ws.drop (i * many)).take many))
    ⟨same_new hD _, [], upd_same, .nil⟩ (fun _ _ _ _ => True.intro) ?_ ?_⟩
  · rintro i x H1 H1' hi ⟨s1, ps, h1, h2⟩ ⟨rfl, rfl⟩
    have lps : ps.length = i := by
      have := Paired.length h2
      rw [List.length_map, List.length_range] at this
      exact this
    refine ⟨rfl, _, rfl, _, rfl, _, rfl, _, rfl, _, rfl, _, _, rfl, rfl, _, rfl, p, _, rfl, s1.seq (s0.seq hp), fun g hg => ?_⟩
    have hin := turn_in hmany hi
    have ecut : cutV (nv ws) (some ((0 : Int) + (i : Nat) * (many : Int))) (some ((0 : Int) + (i : Nat) * (many : Int) + (many : Int))) = nv ((ws.drop (i * many)).take many) := by
      have := cut_over (nv ws) (i * many) (i * many + many) (by rw [nv_len]; omega)
      have e1 : ((i * many : Nat) : Int) = 0 + (i : Nat) * (many : Int) := by rw [Int.zero_add, Int.natCast_mul]
      have e2 : ((i * many + many : Nat) : Int) = 0 + (i : Nat) * (many : Int) + (many : Int) := by rw [Int.natCast_add, e1]
      rw [e1, e2] at this
      rw [this, nv_drop, nv_take, show i * many + many - i * many = many by omega]
    dsimp only
    rw [ecut]
    have ng : D ≠ g := ne_of_none h1 hg
    have hle := turns_le (n := ws.length) hmany
    refine ⟨_, (upd_ne ng).trans h1, by rw [List.length_map]; exact size_lt (by omega), upd_free (s1.trans (same_new hg _)) hD _, ps ++ [g], ?_, ?_⟩
    · rw [upd_same, List.map_append]
      rfl
    · rw [List.range_succ, List.map_append]
      refine pa_append (pa_imp (fun t y h => ⟨h.1, h.2.1, ?_⟩) h2) (.cons ⟨Ne.symm ng, (s0.trans s1).free hg, ?_⟩ .nil)
      · rw [upd_ne (Ne.symm ng), upd_same]
      · rw [upd_ne h.1, upd_ne (ne_of_none h.2.2 hg)]
        exact h.2.2
  rintro H1 ⟨s1, ps, h1, h2⟩
  rw [← hch2, hch] at h2
  cases h2 with
  | @cons p0 _ ps' _ hp0 hps =>
  -- [(column, pieces[0])]
  refine ⟨_, rfl, _, rfl, D, _, 0, _, rfl, rfl, SqL.of h1, atI_nat (j := 0) rfl, by show 2 ≤ sizeLine; decide, fun t0 ht0 => ⟨by show 1 ≤ sizeLine; decide, fun l0 hl0 => ?_⟩⟩
  have s2 := (same_new ht0 (.tup [.int c, .ref p0])).trans (same_new hl0 (.lst [.ref t0]))
  -- [.. for piece in pieces[1:]]
  refine ⟨_, rfl, _, rfl, D, _, rfl, SqL.of (s2 _ _ h1), fun pt hpt => ?_⟩
  have ecut : cutV ((p0 :: ps').map V.ref) (some (1 : Int)) none = ps'.map V.ref := by
    have := cut_from ((p0 :: ps').map V.ref) 1
    rw [show ((1 : Nat) : Int) = 1 from rfl] at this
    rw [this]
    rfl
  rw [ecut]
  have s3 := s2.trans (same_new hpt (.lst (ps'.map V.ref)))
  refine ⟨pt, rfl, ⟨_, SqL.of upd_same⟩, fun D2 hD2 => lc_list (K := K) (a := pt) (xs := ps'.map V.ref)
    (fun i H' => Same (upd (upd (upd H1 t0 (.tup [.int c, .ref p0])) l0 (.lst [.ref t0])) pt (.lst (ps'.map V.ref))) H' ∧ ∃ us : List V, H' D2 = some (.lst us) ∧ Paired (LineNo H D2 H') us ((r0.take i).map fun y => ⟨c + 2 * st, y⟩))
    ⟨same_new hD2 _, [], upd_same, by rw [List.take_zero]; exact .nil⟩ (fun i H' _ h => SqL.of (h.1 _ _ upd_same)) ?_ ?_⟩
  · rintro i v H2 hi ⟨s4, us, h4, h5⟩
    rw [List.getElem?_map] at hi
    cases et : ps'[i]? with
    | none =>
      rw [et] at hi
      cases hi
    | some t =>
    rw [et] at hi
    obtain rfl : V.ref t = v := Option.some.inj hi
    obtain ⟨y, hy, hty⟩ := pa_get hps et
    have hH2t : H2 t = some (.lst (nv y)) := s4 _ _ (s3 _ _ hty.2.2)
    have lus : us.length = i := by
      have := Paired.length h5
      have hi2 : i < r0.length := by
        rcases Nat.lt_or_ge i r0.length with q | q
        · exact q
        · rw [List.getElem?_eq_none q] at hy
          cases hy
      rw [List.length_map, List.length_take] at this
      omega
    have hr0 : r0.length ≤ 4000 := by
      have := congrArg List.length hch2
      rw [hch, List.length_map, List.length_range, List.length_cons] at this
      have := turns_le (n := ws.length) hmany
      omega
    have hi2 : i < r0.length := by
      rcases Nat.lt_or_ge i r0.length with q | q
      · exact q
      · rw [List.getElem?_eq_none q] at hy
        cases hy
    refine ⟨rfl, _, rfl, _, rfl, _, _, rfl, rfl, .inl ⟨by decide, by decide⟩, _, _, rfl, rfl, _, rfl, by show 2 ≤ sizeLine; decide, fun tt htt => ?_⟩
    have ntt : D2 ≠ tt := ne_of_none h4 htt
    have ntD : t ≠ D2 := ne_of_none (s3 _ _ hty.2.2) hD2
    refine ⟨us, (upd_ne ntt).trans h4, size_lt (by omega), upd_free (s4.trans (same_new htt _)) hD2 _, us ++ [.ref tt], upd_same, ?_⟩
    rw [take_more hy, List.map_append]
    refine pa_append (pa_imp (fun v x h => ?_) h5) (.cons ⟨tt, t, rfl, hty.2.1, ntD, ?_, ?_⟩ .nil)
    · obtain ⟨t', wl, e, hw1, hw2, g1, g2⟩ := h
      refine ⟨t', wl, e, hw1, hw2, ?_, ?_⟩
      · rw [upd_ne (ne_of g1 h4 (by intro z; cases z)), upd_ne (ne_of_none g1 htt)]
        exact g1
      · rw [upd_ne hw2, upd_ne (ne_of_none g2 htt)]
        exact g2
    · rw [upd_ne (Ne.symm ntt), upd_same]
      have e : ((c + 2 * st : Nat) : Int) = (c : Int) + 2 * (st : Int) := by omega
      show some (HO.tup [V.int ((c : Int) + 2 * (st : Int)), V.ref t]) = some (HO.tup [V.int ((c + 2 * st : Nat) : Int), V.ref t])
      rw [e]
    · rw [upd_ne ntD, upd_ne (ne_of_none hH2t htt)]
      exact hH2t
  rintro H2 ⟨s4, us, h4, h5⟩
  have lps : ps'.length = r0.length := Paired.length hps
  rw [List.length_map, lps, List.take_length] at h5
  have lus : us.length = r0.length := by
    have := Paired.length h5
    rw [List.length_map] at this
    exact this
  have hr0 : r0.length ≤ 4000 := by
    have := congrArg List.length hch2
    rw [hch, List.length_map, List.length_range, List.length_cons] at this
    have := turns_le (n := ws.length) hmany
    omega
  have hl0' : upd (upd H1 t0 (.tup [.int c, .ref p0])) l0 (.lst [.ref t0]) l0 = some (.lst [.ref t0]) := upd_same
  refine ⟨l0, D2, _, _, rfl, rfl, s4 _ _ ((same_new hpt _) _ _ hl0'), h4, by show 1 + us.length ≤ _; exact size_le (by omega), fun fin hfin => ?_⟩
  refine k _ fin (.ref t0 :: us) ((((s0.trans s1).trans s3).trans s4).trans (same_new hfin _)) upd_same ?_
  have sf := same_new hfin (.lst ([.ref t0] ++ us))
  have n0 : t0 ≠ l0 := ne_of_none upd_same hl0
  refine .cons ⟨t0, p0, rfl, hp0.2.1, ?_, ?_⟩ (pa_imp (fun v x h => ?_) h5)
  · exact sf _ _ (s4 _ _ ((same_new hpt _) _ _ ((upd_ne n0).trans upd_same)))
  · exact sf _ _ (s4 _ _ (s3 _ _ hp0.2.2))
  · obtain ⟨t', wl, e, g0, _, g1, g2⟩ := h
    exact ⟨t', wl, e, g0, sf _ _ g1, sf _ _ g2⟩
end
end Mr

/-! ## MrSetting2 -/
set_option Elab.async false
set_option linter.all false
set_option maxRecDepth 100000
set_option maxHeartbeats 2000000
/-! # statement_lines, block_lines -/
namespace Mr
open PySem PySem.Spec PyProof.Rows L2
open Sq16 (Item Open State Line Kind)
/-! ### sizes -/
theorem rowsOf_len (st len c : Nat) (ws : List Nat) : (Sq16.rowsOf st len c ws).length ≤ ws.length := by
  by_cases hw : ws = []
  · subst hw
    rw [rowsOf_nil]
    exact Nat.le_refl _
  obtain ⟨x, r, h1, h2⟩ := rowsOf_eq st len c ws hw
  have hpos : 0 < ws.length := List.length_pos_iff.mpr hw
  rw [h2, List.length_cons, List.length_map]
  have e := congrArg List.length h1
  rw [chunks_eq len ws.length ws (Nat.le_refl _), List.length_map, List.length_range, List.length_cons] at e
  have hm : 0 < manyOf len ws.length := by unfold manyOf; split <;> omega
  have := turns_le (n := ws.length) hm
  omega
theorem chunks_sum (most : Nat) : ∀ (f : Nat) (l : List Nat), (Sq16.chunks most f l).flatten.length ≤ l.length
  | 0, l => by simp [Sq16.chunks]
  | f + 1, l => by
    simp only [Sq16.chunks]
    split
    · simp
    · split
      · simp
      · have := chunks_sum most f (l.drop most)
        rw [List.length_drop] at this
        rw [List.flatten_cons, List.length_append, List.length_take]
        omega
theorem flatRow : ∀ l : List Line, (l.flatMap Sq16.lineRow).length = 2 * l.length + (l.map (·.words)).flatten.length
  | [] => rfl
  | x :: l => by
    have := flatRow l
    rw [List.flatMap_cons, List.length_append, this, List.map_cons, List.flatten_cons, List.length_append, List.length_cons]
    simp [Sq16.lineRow]
    omega
theorem rowsOf_flat (st len c : Nat) (ws : List Nat) : ((Sq16.rowsOf st len c ws).flatMap Sq16.lineRow).length ≤ 3 * ws.length := by
  rw [flatRow]
  have h1 := rowsOf_len st len c ws
  have h2 : ((Sq16.rowsOf st len c ws).map (·.words)).flatten.length ≤ ws.length := by
    by_cases hw : ws = []
    · subst hw
      rw [rowsOf_nil]
      exact Nat.le_refl _
    obtain ⟨x, r, e1, e2⟩ := rowsOf_eq st len c ws hw
    have e3 : (Sq16.rowsOf st len c ws).map (·.words) = Sq16.chunks len ws.length ws := by
      rw [e1, e2, List.map_cons, List.map_map]
      congr 1
      exact (List.map_congr_left fun y _ => rfl).trans (List.map_id r)
    rw [e3]
    exact chunks_sum len ws.length ws
  omega
theorem setItems_nil (st len c : Nat) (ws : List Nat) : Sq16.setItems st len c ws [] = Sq16.rowsOf st len c ws := by simp [Sq16.setItems]
theorem setItems_word (st len c : Nat) (ws : List Nat) (w n : Nat) (l : List Item) : Sq16.setItems st len c ws (.word w n :: l) = Sq16.setItems st len c (ws ++ [w]) l := by simp [Sq16.setItems]
theorem setItems_block (st len c : Nat) (ws : List Nat) (b : List (List Item)) (l : List Item) : Sq16.setItems st len c ws (.block b :: l) = Sq16.rowsOf st len c ws ++ (Sq16.setAll st len (c + st) b ++ Sq16.setItems st len c [] l) := by simp [Sq16.setItems]
theorem setAll_nil (st len c : Nat) : Sq16.setAll st len c [] = [] := by simp [Sq16.setAll]
theorem setAll_cons (st len c : Nat) (s : List Item) (l : List (List Item)) : Sq16.setAll st len c (s :: l) = Sq16.setItems st len c [] s ++ Sq16.setAll st len c l := by simp [Sq16.setAll]
theorem setAll_append (st len c : Nat) : ∀ l m : List (List Item), Sq16.setAll st len c (l ++ m) = Sq16.setAll st len c l ++ Sq16.setAll st len c m
  | [], m => by simp [setAll_nil]
  | s :: l, m => by rw [List.cons_append, setAll_cons, setAll_cons, setAll_append st len c l m, List.append_assoc]
mutual
theorem setItems_len (st len : Nat) : ∀ (c : Nat) (ws : List Nat) (l : List Item), (Sq16.setItems st len c ws l).length ≤ ws.length + szItems l
  | c, ws, [] => by
    rw [setItems_nil]
    have := rowsOf_len st len c ws
    omega
  | c, ws, .word w n :: l => by
    rw [setItems_word]
    have := setItems_len st len c (ws ++ [w]) l
    rw [List.length_append, List.length_singleton] at this
    simp only [szItems, szItem]
    omega
  | c, ws, .block b :: l => by
    rw [setItems_block]
    have h1 := rowsOf_len st len c ws
    have h2 := setAll_len st len (c + st) b
    have h3 := setItems_len st len c [] l
    rw [List.length_nil] at h3
    simp only [szItems, szItem, List.length_append]
    omega
theorem setAll_len (st len : Nat) : ∀ (c : Nat) (l : List (List Item)), (Sq16.setAll st len c l).length ≤ szAll l
  | c, [] => by simp [setAll_nil]
  | c, s :: l => by
    rw [setAll_cons]
    have h1 := setItems_len st len c [] s
    have h2 := setAll_len st len c l
    rw [List.length_nil] at h1
    simp only [szAll, List.length_append]
    omega
end
mutual
theorem setItems_flat (st len : Nat) : ∀ (c : Nat) (ws : List Nat) (l : List Item), ((Sq16.setItems st len c ws l).flatMap Sq16.lineRow).length ≤ 3 * (ws.length + szItems l)
  | c, ws, [] => by
    rw [setItems_nil]
    have := rowsOf_flat st len c ws
    omega
  | c, ws, .word w n :: l => by
    rw [setItems_word]
    have := setItems_flat st len c (ws ++ [w]) l
    rw [List.length_append, List.length_singleton] at this
    simp only [szItems, szItem]
    omega
  | c, ws, .block b :: l => by
    rw [setItems_block]
    have h1 := rowsOf_flat st len c ws
    have h2 := setAll_flat st len (c + st) b
    have h3 := setItems_flat st len c [] l
    rw [List.length_nil] at h3
    simp only [szItems, szItem, List.flatMap_append, List.length_append]
    omega
theorem setAll_flat (st len : Nat) : ∀ (c : Nat) (l : List (List Item)), ((Sq16.setAll st len c l).flatMap Sq16.lineRow).length ≤ 3 * szAll l
  | c, [] => by simp [setAll_nil]
  | c, s :: l => by
    rw [setAll_cons]
    have h1 := setItems_flat st len c [] s
    have h2 := setAll_flat st len c l
    rw [List.length_nil] at h1
    simp only [szAll, List.flatMap_append, List.length_append]
    omega
end
def spStLines (a : Ad) (n : Nat) : Sp := fun vs H Q _ => ∃ (v : V) (s : List Item) (d st len : Nat), vs = [v, .int d, .int st, .int len] ∧ StmtAt a H [] v s ∧ 2 * Sq16.deepItems s + 2 ≤ n ∧ szItems s ≤ 4000 ∧ d ≤ 1000 ∧ d + n ≤ 1000 ∧ len ≤ 64 ∧
  ∀ (H' : Hp) (q : Addr) (us : List V), Same H H' → H' q = some (.lst us) → Paired (LineNew H H') us (Sq16.setItems st len (d * st) [] s) → Q (.ref q) H'
def spBlLines (a : Ad) (n : Nat) : Sp := fun vs H Q _ => ∃ (b : Addr) (l : List (List Item)) (d st len : Nat), vs = [.ref b, .int d, .int st, .int len] ∧ BlockAt a H [] b l ∧ 2 * Sq16.deepAll l + 3 ≤ n ∧ szAll l ≤ 4000 ∧ d ≤ 1000 ∧ d + n ≤ 1000 ∧ len ≤ 64 ∧
  ∀ (H' : Hp) (q : Addr) (us : List V), Same H H' → H' q = some (.lst us) → Paired (LineNew H H') us (Sq16.setAll st len (d * st) l) → Q (.ref q) H'
/-- the items gone through, the words since the last block -/
def SetSoFar (st len c : Nat) (done : List Line) (ws : List Nat) (rest all : List Item) : Prop := Sq16.setItems st len c [] all = done ++ Sq16.setItems st len c ws rest
section
variable {P : Program} {w : World} {K : PySem.W.Frag} {mg : Str → Option Value} {base : Heap} {a : Ad}
theorem scStLines : FnScope ["statement", "depth", "step", "length", "column", "found", "words", "thing"] ["statement", "depth", "step", "length"] (defScope stStLines) := ⟨rfl, rfl, rfl, by decide +kernel, rfl, by decide +kernel, by decide +kernel⟩
theorem scBlLines : FnScope ["block", "depth", "step", "length", "found", "statement"] ["block", "depth", "step", "length"] (defScope stBlLines) := ⟨rfl, rfl, rfl, by decide +kernel, rfl, by decide +kernel, by decide +kernel⟩
theorem ok_stLines (T : Tx K mg a) {n : Nat} (G : FnOk P w K mg base CX0 n a.fBlLines a.dBlLines ["block", "depth", "step", "length"] (spBlLines a n)) : FnOk P w K mg base CX0 (n + 1) a.fStLines a.dStLines ["statement", "depth", "step", "length"] (spStLines a (n + 1)) := by
  have GW : FnOk P w K mg base CX0 1 a.fWordLines a.dWordLines ["words", "column", "step", "length"] (spWordLines K) := ok_wordLines T
  refine T.stLines.fn.ok scStLines (fun vs H Q E h => ?_) (fun cdv A outer s H vs Q E hr h => ?_)
  · obtain ⟨v, it, d, st, len, rfl, _⟩ := h
    rfl
  obtain ⟨v, it, d, st, len, rfl, ⟨p, dx, Tt, ff, nn, ts, rfl, _, _, hp, hT, hits, _⟩, hdeep, hsz, hd, hdn, hlen, k⟩ := h
  have nd := scStLines.nd
  have hr1 : Room 1 _ := hr.mono (by omega)
  refine ⟨_, pss_cons (ps_set (i := 4) nd rfl (Or.inl rfl) (pe_op op_mul (pv 1) (pv 2)))
    (pss_cons (ps_set (i := 5) nd rfl (Or.inl rfl) (pe_lst pa_nil))
    (pss_cons (ps_set (i := 6) nd rfl (Or.inl rfl) (pe_lst pa_nil))
    (pss_cons (ps_for PassesOwn.never rfl (pi_list (pe_fld (pv 0) rfl)) (pg_name (i := 7) nd rfl (Or.inl rfl))
      (pss_one (ps_if (pt_val (pe_callB call_isi (by rfl) T.b_isinstance (by decide +kernel) (pa_cons (pv 7) (pa_cons (pe_bltn (v := .ty "int") (by rfl) T.b_int (by decide +kernel) rfl) pa_nil))))
        (pss_one (ps_expr (pe_bm PySem.F.plainAttrs_list PySem.F.slot_list_append PySem.F.type_list_append mt_append (pv 6) (pa_cons (pv 7) pa_nil))))
        (pss_cons (ps_set (i := 5) nd rfl (Or.inl rfl) (pe_op op_cat (pe_op op_cat (pv 5) (pe_call GW hr1 rfl T.wordLines.g T.wordLines.fn.kp T.wordLines.b .nil pass0 (pa_cons (pv 6) (pa_cons (pv 4) (pa_cons (pv 2) (pa_cons (pv 3) pa_nil))))))
            (pe_call G hr rfl T.blLines.g T.blLines.fn.kp T.blLines.b .nil pass0 (pa_cons (pv 7) (pa_cons (pe_op op_add (pv 1) pe_int) (pa_cons (pv 2) (pa_cons (pv 3) pa_nil)))))))
          (pss_one (ps_set (i := 6) nd rfl (Or.inl rfl) (pe_lst pa_nil)))))))
    (pss_one (ps_ret (pe_op op_cat (pv 5) (pe_call GW hr1 rfl T.wordLines.g T.wordLines.fn.kp T.wordLines.b .nil pass0 (pa_cons (pv 6) (pa_cons (pv 4) (pa_cons (pv 2) (pa_cons (pv 3) pa_nil))))))))))), ?_⟩
  have ecol : ((d * st : Nat) : Int) = (d : Int) * (st : Int) := Int.natCast_mul d st
  refine ⟨_, rfl, _, rfl, _, _, rfl, rfl, .inl ⟨by omega, by omega⟩, ?_⟩
  refine ⟨by show 0 ≤ sizeLine; decide, fun f0 hf0 => ?_⟩
  have s0 := same_new hf0 (.lst [])
  refine ⟨by show 0 ≤ sizeLine; decide, fun w0 hw0 => ?_⟩
  have s1 := s0.trans (same_new hw0 (.lst []))
  have nw0 : H w0 = none := s0.free hw0
  have n0 : f0 ≠ w0 := ne_of_none upd_same hw0
  dsimp only
  rw [← ecol]
  refine ⟨_, rfl, p, a.cS, dx, _, _, rfl, s1 _ _ hp, T.clS, T.nS_things, sF_things .., Tt, rfl, ⟨_, SqL.of (s1 _ _ hT)⟩, for_list (K := K) (a := Tt) (xs := ts)
    (fun i σ H' => ∃ (f wa : Addr) (v7 : Option V) (us : List V) (done : List Line) (ws : List Nat), σ = [some (.ref p), some (.int d), some (.int st), some (.int len), some (.int ((d * st : Nat) : Int)), some (.ref f), some (.ref wa), v7] ∧ Same H H' ∧
      f ≠ wa ∧ H wa = none ∧ H' f = some (.lst us) ∧ H' wa = some (.lst (nv ws)) ∧ Paired (LineNo H wa H') us done ∧ SetSoFar st len (d * st) done ws (it.drop i) it ∧ done.length + ws.length ≤ szItems (it.take i))
    ⟨f0, w0, none, [], [], [], rfl, s1, n0, nw0, (upd_ne n0).trans upd_same, upd_same, .nil, by rw [List.drop_zero]; rfl, by simp [szItems]⟩ (fun i σ H' _ ⟨f, wa, v7, us, done, ws, _, s2, _⟩ => SqL.of (s2 _ _ hT)) ?_ ?_⟩
  · rintro i y σ H1 hi ⟨f, wa, v7, us, done, ws, rfl, s2, nfw, nwa, hf, hwa, hP, hset, hcnt⟩
    obtain ⟨x, hx, hxa⟩ := hits.get hi
    have hdrop : it.drop i = x :: it.drop (i + 1) := by
      obtain ⟨q, e⟩ := List.getElem?_eq_some_iff.mp hx
      rw [List.drop_eq_getElem_cons q, e]
    have hsz1 : szItems (it.take (i + 1)) = szItems (it.take i) + szItem x := by
      rw [take_more hx, szItems_append]
      simp [szItems]
    have hsz2 := szItems_take it (i + 1)
    have lus : us.length = done.length := Paired.length hP
    cases x with
    | word ww n2 =>
      have ez : y = .int ww := itemAt_word.mp hxa
      subst ez
      simp only [szItem] at hsz1
      refine ⟨_, rfl, _, _, _, _, true, rfl, .ty "int", .base (.int _), kit_ty (by decide +kernel), _, rfl, if_true_of rfl ?_⟩
      refine ⟨_, rfl, .inl ⟨rfl, _, SqL.of hwa⟩, _, rfl, wa, _, _, rfl, rfl, hwa, by rw [nv_len]; exact size_lt (by omega), ?_⟩
      refine ⟨f, wa, _, us, done, ws ++ [ww], rfl, upd_free s2 nwa _, nfw, nwa, (upd_ne nfw).trans hf, ?_, pa_imp (fun v x h => ?_) hP, ?_, ?_⟩
      · rw [upd_same, nv_append]
        rfl
      · obtain ⟨t, wl, e, g0, g3, g1, g2⟩ := h
        refine ⟨t, wl, e, g0, g3, ?_, ?_⟩
        · rw [upd_ne (ne_of g1 hwa (by intro z; cases z))]
          exact g1
        · rw [upd_ne g3]
          exact g2
      · unfold SetSoFar at hset ⊢
        rw [hset, hdrop, setItems_word]
      · rw [List.length_append, List.length_singleton]
        omega
    | block bl =>
      obtain ⟨q, rfl, hq⟩ := hxa.block
      obtain ⟨dq, Lq, cq, sq, _, _, hq1, _, _⟩ := id hq
      simp only [szItem] at hsz1
      refine ⟨_, rfl, _, _, _, _, false, rfl, .ty "int", .base (.ins (s2 _ _ hq1) T.clB T.bTy1 T.bTy2 T.bTy3 T.bTy4), T.bTy5, _, rfl, if_false_of rfl ?_⟩
      have hdq : 2 * Sq16.deepAll bl + 3 ≤ n := by
        have := deepItems_mem (mem_of_at hx)
        omega
      have lrow := rowsOf_len st len (d * st) ws
      have lset := setAll_len st len ((d + 1) * st) bl
      refine ⟨_, rfl, _, rfl, _, rfl, _, rfl, _, rfl, wa, ws, d * st, st, len, rfl, SqL.of hwa, by omega, hlen, fun H2 g1 us1 s3 hg1 hP1 => ?_⟩
      have lus1 : us1.length = (Sq16.rowsOf st len (d * st) ws).length := Paired.length hP1
      refine ⟨f, g1, _, _, rfl, rfl, s3 _ _ hf, hg1, size_le (by omega), fun g2 hg2 => ?_⟩
      have s4 := s3.trans (same_new hg2 (.lst (us ++ us1)))
      refine ⟨_, rfl, _, rfl, _, _, rfl, rfl, _, rfl, _, rfl, q, bl, d + 1, st, len, rfl, hq.same (s2.trans s4), hdq, by omega, by omega, by omega, hlen, fun H3 g3 us2 s5 hg3 hP2 => ?_⟩
      have lus2 : us2.length = (Sq16.setAll st len ((d + 1) * st) bl).length := Paired.length hP2
      refine ⟨g2, g3, _, _, rfl, rfl, s5 _ _ upd_same, hg3, by rw [List.length_append]; exact size_le (by omega), fun g4 hg4 => ?_⟩
      refine ⟨by show 0 ≤ sizeLine; decide, fun w2 hw2 => ?_⟩
      have s6 := (s5.trans (same_new hg4 (.lst ((us ++ us1) ++ us2)))).trans (same_new hw2 (.lst []))
      have n4 : g4 ≠ w2 := ne_of_none upd_same hw2
      have sall := (s2.trans s4).trans s6
      refine ⟨g4, w2, _, (us ++ us1) ++ us2, (done ++ Sq16.rowsOf st len (d * st) ws) ++ Sq16.setAll st len (d * st + st) bl, [], rfl, sall, n4, ?_, (upd_ne n4).trans upd_same, upd_same, pa_append (pa_append (pa_imp (fun v x h => ?_) hP) (pa_imp (fun v x h => ?_) hP1)) ?_, ?_, ?_⟩
      · have e := (same_new hg4 (.lst ((us ++ us1) ++ us2))).free hw2
        exact ((s2.trans s4).trans s5).free e
      · obtain ⟨t, wl, e, g0, g5, g6, g7⟩ := h
        have z := s6 _ _ (s4 _ _ g7)
        refine ⟨t, wl, e, g0, ?_, s6 _ _ (s4 _ _ g6), z⟩
        exact ne_of_none ((s5.trans (same_new hg4 _)) _ _ (s4 _ _ g7)) hw2
      · obtain ⟨t, wl, e, g0, g6, g7⟩ := h
        have sr := (same_new hg2 (.lst (us ++ us1))).trans (s5.trans (same_new hg4 (.lst ((us ++ us1) ++ us2))))
        refine ⟨t, wl, e, s2.free g0, ?_, (sr.trans (same_new hw2 _)) _ _ g6, (sr.trans (same_new hw2 _)) _ _ g7⟩
        exact ne_of_none (sr _ _ g7) hw2
      · have ec : (d + 1) * st = d * st + st := Nat.succ_mul d st
        rw [ec] at hP2
        refine pa_imp (fun v x h => ?_) hP2
        obtain ⟨t, wl, e, g0, g6, g7⟩ := h
        have sr := (same_new hg4 (.lst ((us ++ us1) ++ us2)))
        refine ⟨t, wl, e, (s2.trans s4).free g0, ?_, (sr.trans (same_new hw2 _)) _ _ g6, (sr.trans (same_new hw2 _)) _ _ g7⟩
        exact ne_of_none (sr _ _ g7) hw2
      · unfold SetSoFar at hset ⊢
        rw [hset, hdrop, setItems_block]
        simp only [List.append_assoc]
      · have ec : (d + 1) * st = d * st + st := Nat.succ_mul d st
        rw [ec] at lset
        rw [List.length_append, List.length_append, List.length_nil]
        omega
  · rintro σ H1 ⟨f, wa, v7, us, done, ws, rfl, s2, nfw, nwa, hf, hwa, hP, hset, hcnt⟩
    have hlen2 : ts.length = it.length := hits.len
    rw [hlen2, List.take_length] at hcnt
    rw [hlen2, List.drop_length] at hset
    have lus : us.length = done.length := Paired.length hP
    have lrow := rowsOf_len st len (d * st) ws
    refine ⟨_, rfl, _, rfl, _, rfl, _, rfl, _, rfl, wa, ws, d * st, st, len, rfl, SqL.of hwa, by omega, hlen, fun H2 g1 us1 s3 hg1 hP1 => ?_⟩
    have lus1 : us1.length = (Sq16.rowsOf st len (d * st) ws).length := Paired.length hP1
    refine ⟨f, g1, _, _, rfl, rfl, s3 _ _ hf, hg1, size_le (by omega), fun g2 hg2 => ?_⟩
    have s4 := same_new hg2 (.lst (us ++ us1))
    refine k _ g2 (us ++ us1) ((s2.trans s3).trans s4) upd_same ?_
    unfold SetSoFar at hset
    rw [hset, setItems_nil]
    refine pa_append (pa_imp (fun v x h => ?_) hP) (pa_imp (fun v x h => ?_) hP1)
    · obtain ⟨t, wl, e, g0, g5, g6, g7⟩ := h
      exact ⟨t, wl, e, g0, s4 _ _ (s3 _ _ g6), s4 _ _ (s3 _ _ g7)⟩
    · obtain ⟨t, wl, e, g0, g6, g7⟩ := h
      exact ⟨t, wl, e, s2.free g0, s4 _ _ g6, s4 _ _ g7⟩
theorem ok_blLines1 (T : Tx K mg a) {n : Nat} (G : FnOk P w K mg base CX0 n a.fStLines a.dStLines ["statement", "depth", "step", "length"] (spStLines a n)) : FnOk P w K mg base CX0 (n + 1) a.fBlLines a.dBlLines ["block", "depth", "step", "length"] (spBlLines a (n + 1)) := by
  refine T.blLines.fn.ok scBlLines (fun vs H Q E h => ?_) (fun cdv A outer s H vs Q E hr h => ?_)
  · obtain ⟨b, l, d, st, len, rfl, _⟩ := h
    rfl
  obtain ⟨b, l, d, st, len, rfl, ⟨dx, L, c, ss, _, _, hb, hL, hs⟩, hdeep, hsz, hd, hdn, hlen, k⟩ := h
  have nd := scBlLines.nd
  refine ⟨_, pss_cons (ps_set (i := 4) nd rfl (Or.inl rfl) (pe_lst pa_nil))
    (pss_cons (ps_for PassesOwn.never rfl (pi_list (pe_fld (pv 0) rfl)) (pg_name (i := 5) nd rfl (Or.inl rfl))
      (pss_one (ps_expr (pe_bm PySem.F.plainAttrs_list PySem.F.slot_list_extend PySem.F.type_list_extend mt_extend (pv 4) (pa_cons (pe_call G hr rfl T.stLines.g T.stLines.fn.kp T.stLines.b .nil pass0 (pa_cons (pv 5) (pa_cons (pv 1) (pa_cons (pv 2) (pa_cons (pv 3) pa_nil))))) pa_nil)))))
    (pss_one (ps_ret (pv 4)))), ?_⟩
  refine ⟨by show 0 ≤ sizeLine; decide, fun f0 hf0 => ?_⟩
  have s0 := same_new hf0 (.lst [])
  refine ⟨_, rfl, b, a.cB, dx, _, _, rfl, s0 _ _ hb, T.clB, T.nB_statements, bF_statements .., L, rfl, ⟨_, SqL.of (s0 _ _ hL)⟩, for_list (K := K) (a := L) (xs := ss)
    (fun i σ H' => ∃ (v5 : Option V) (us : List V), σ = [some (.ref b), some (.int d), some (.int st), some (.int len), some (.ref f0), v5] ∧ Same H H' ∧ H' f0 = some (.lst us) ∧ Paired (LineNo H f0 H') us (Sq16.setAll st len (d * st) (l.take i)))
    ⟨none, [], rfl, s0, upd_same, by rw [List.take_zero, setAll_nil]; exact .nil⟩ (fun i σ H' _ ⟨v5, us, _, s1, _⟩ => SqL.of (s1 _ _ hL)) ?_ ?_⟩
  · rintro i y σ H1 hi ⟨v5, us, rfl, s1, hf, hP⟩
    obtain ⟨it, hit, hst⟩ := hs.get hi
    have dd := deepAll_mem (mem_of_at hit)
    have ls := szAll_mem (mem_of_at hit)
    have hsz2 := szAll_take l (i + 1)
    have hsz1 : szAll (l.take (i + 1)) = szAll (l.take i) + (1 + szItems it) := by
      rw [take_more hit, szAll_append]
      simp [szAll]
    have l1 := setAll_len st len (d * st) (l.take i)
    have l2 := setItems_len st len (d * st) [] it
    rw [List.length_nil] at l2
    have lus : us.length = (Sq16.setAll st len (d * st) (l.take i)).length := Paired.length hP
    refine ⟨_, rfl, .inl ⟨rfl, _, SqL.of hf⟩, _, rfl, _, rfl, _, rfl, _, rfl, y, it, d, st, len, rfl, hst.keep (fun _ z => z) (fun b o e _ => s1 b o e), by omega, by omega, hd, by omega, hlen, fun H2 g us1 s2 hg hP1 => ?_⟩
    have lus1 : us1.length = (Sq16.setItems st len (d * st) [] it).length := Paired.length hP1
    refine ⟨f0, g, _, _, rfl, rfl, s2 _ _ hf, hg, size_le (by omega), ?_⟩
    have lift : ∀ {v : V} {x : Line} {t wl : Addr}, v = .ref t → H wl = none → wl ≠ f0 → H2 t = some (.tup [.int x.column, .ref wl]) → H2 wl = some (.lst (nv x.words)) → LineNo H f0 (upd H2 f0 (.lst (us ++ us1))) v x := by
      intro v x t wl e g0 g1 g2 g3
      refine ⟨t, wl, e, g0, g1, ?_, ?_⟩
      · rw [upd_ne (ne_of g2 (s2 _ _ hf) (by intro z; cases z))]
        exact g2
      · rw [upd_ne g1]
        exact g3
    refine ⟨_, us ++ us1, rfl, upd_free (s1.trans s2) hf0 _, upd_same, ?_⟩
    rw [take_more hit, setAll_append, setAll_cons, setAll_nil, List.append_nil]
    refine pa_append (pa_imp (fun v x h => ?_) hP) (pa_imp (fun v x h => ?_) hP1)
    · obtain ⟨t, wl, e, g0, g1, g2, g3⟩ := h
      exact lift e g0 g1 (s2 _ _ g2) (s2 _ _ g3)
    · obtain ⟨t, wl, e, g0, g2, g3⟩ := h
      exact lift e (s1.free g0) (Ne.symm (ne_of_none hf g0)) g2 g3
  · rintro σ H1 ⟨v5, us, rfl, s1, hf, hP⟩
    have hlen2 : ss.length = l.length := hs.len
    rw [hlen2, List.take_length] at hP
    refine ⟨_, rfl, k _ f0 us s1 hf (pa_imp (fun v x h => ?_) hP)⟩
    obtain ⟨t, wl, e, g0, g1, g2, g3⟩ := h
    exact ⟨t, wl, e, g0, g2, g3⟩
theorem ok_setting (T : Tx K mg a) : ∀ n : Nat, FnOk P w K mg base CX0 n a.fStLines a.dStLines ["statement", "depth", "step", "length"] (spStLines a n) ∧ FnOk P w K mg base CX0 n a.fBlLines a.dBlLines ["block", "depth", "step", "length"] (spBlLines a n)
  | 0 => by
    have no : ∀ vs H Q E, ¬ spStLines a 0 vs H Q E := fun vs H Q E h => by
      obtain ⟨_, _, _, _, _, _, _, h1, _⟩ := h
      omega
    have no2 : ∀ vs H Q E, ¬ spBlLines a 0 vs H Q E := fun vs H Q E h => by
      obtain ⟨_, _, _, _, _, _, _, h1, _⟩ := h
      omega
    exact ⟨⟨fun vs H Q E h => absurd h (no vs H Q E), fun A outer s H args us vs Q E _ _ _ _ h => absurd h (no vs H Q E)⟩, ⟨fun vs H Q E h => absurd h (no2 vs H Q E), fun A outer s H args us vs Q E _ _ _ _ h => absurd h (no2 vs H Q E)⟩⟩
  | n + 1 => by
    have ih := ok_setting T n
    exact ⟨ok_stLines T ih.2, ok_blLines1 T ih.1⟩
end
end Mr

/-! ## MrRead0 -/
set_option Elab.async false
set_option linter.all false
set_option maxRecDepth 100000
set_option maxHeartbeats 2000000
/-! # The reader's state in the heap -/
namespace Mr
open PySem PySem.Spec PyProof.Rows L2
open Sq16 (Item Open State Line Kind)
def colV : Option Nat → V
  | none => .non
  | some c => .int c
/-- an open block and its statement that's being read, by their addresses -/
structure Fr where
  b : Addr
  db : Addr
  L : Addr
  s : Addr
  ds : Addr
  T : Addr
  ss : List V
  vs : List V
def Fr.addrs (f : Fr) : List Addr := [f.b, f.L, f.s, f.T]
def muts (fs : List Fr) : List Addr := fs.flatMap Fr.addrs
structure FrOk (a : Ad) (H : Hp) (M : List Addr) (child : List V) (f : Fr) (o : Open) (sp : Span) : Prop where
  hb : H f.b = some (.ins a.cB f.db (bF (colV o.column) f.L))
  hL : H f.L = some (.lst (f.ss ++ [.ref f.s]))
  hs : H f.s = some (.ins a.cS f.ds (sF f.T (spF sp) (spL sp)))
  hT : H f.T = some (.lst (f.vs ++ child))
  it : ItemsAt a H M f.vs o.now.reverse
  st : StmtsAt a H M f.ss o.done.reverse
/-- the open blocks, the inner first -/
def Chain (a : Ad) (H : Hp) (M : List Addr) : List V → List Fr → List Open → List Span → Prop
  | _, [], [], [] => True
  | child, f :: fs, o :: os, sp :: sps => FrOk a H M child f o sp ∧ Chain a H M [.ref f.b] fs os sps
  | _, _, _, _ => False
/-- finished trees go over from one heap to another -/
structure Lift (a : Ad) (H : Hp) (M : List Addr) (H' : Hp) (M' : List Addr) : Prop where
  it : ∀ {vs l}, ItemsAt a H M vs l → ItemsAt a H' M' vs l
  st : ∀ {vs l}, StmtsAt a H M vs l → StmtsAt a H' M' vs l
theorem fresh_items {a : Ad} {H : Hp} {M : List Addr} : ∀ (N : List Addr), (∀ p ∈ N, H p = none) → ∀ {vs l}, ItemsAt a H M vs l → ItemsAt a H (N ++ M) vs l
  | [], _, _, _, h => h
  | p :: N, hN, _, _, h => (fresh_items N (fun q hq => hN q (List.mem_cons_of_mem _ hq)) h).fresh (hN p List.mem_cons_self)
theorem fresh_stmts {a : Ad} {H : Hp} {M : List Addr} : ∀ (N : List Addr), (∀ p ∈ N, H p = none) → ∀ {vs l}, StmtsAt a H M vs l → StmtsAt a H (N ++ M) vs l
  | [], _, _, _, h => h
  | p :: N, hN, _, _, h => (fresh_stmts N (fun q hq => hN q (List.mem_cons_of_mem _ hq)) h).fresh (hN p List.mem_cons_self)
theorem Lift.of {a : Ad} {H H' : Hp} {M M' : List Addr} (N : List Addr) (hN : ∀ p ∈ N, H p = none) (hM : ∀ x ∈ M', x ∈ N ++ M) (hk : ∀ b o, H b = some o → b ∉ M → H' b = some o) : Lift a H M H' M' :=
  ⟨fun h => (fresh_items N hN h).keep hM fun b o e hb => hk b o e fun z => hb (List.mem_append_right _ z), fun h => (fresh_stmts N hN h).keep hM fun b o e hb => hk b o e fun z => hb (List.mem_append_right _ z)⟩
theorem FrOk.move {a : Ad} {H H' : Hp} {M M' : List Addr} {child : List V} {f : Fr} {o : Open} {sp : Span} (h : FrOk a H M child f o sp) (l : Lift a H M H' M') (e : ∀ x ∈ f.addrs, H' x = H x) : FrOk a H' M' child f o sp :=
  ⟨(e _ (by simp [Fr.addrs])).trans h.hb, (e _ (by simp [Fr.addrs])).trans h.hL, (e _ (by simp [Fr.addrs])).trans h.hs, (e _ (by simp [Fr.addrs])).trans h.hT, l.it h.it, l.st h.st⟩
theorem Chain.move {a : Ad} {H H' : Hp} {M M' : List Addr} (l : Lift a H M H' M') : ∀ {child : List V} {fs : List Fr} {os : List Open} {sps : List Span}, Chain a H M child fs os sps → (∀ x ∈ muts fs, H' x = H x) → Chain a H' M' child fs os sps
  | _, [], [], [], _, _ => True.intro
  | _, f :: fs, o :: os, sp :: sps, h, e => ⟨h.1.move l fun x hx => e x (by simp only [muts, List.flatMap_cons]; exact List.mem_append_left _ hx), Chain.move l h.2 fun x hx => e x (by simp only [muts, List.flatMap_cons]; exact List.mem_append_right _ hx)⟩
  | _, [], _ :: _, _, h, _ => h.elim
  | _, [], [], _ :: _, h, _ => h.elim
  | _, _ :: _, [], _, h, _ => h.elim
  | _, _ :: _, _ :: _, [], h, _ => h.elim
theorem Chain.len {a : Ad} {H : Hp} {M : List Addr} : ∀ {child : List V} {fs : List Fr} {os : List Open} {sps : List Span}, Chain a H M child fs os sps → fs.length = os.length ∧ sps.length = os.length
  | _, [], [], [], _ => ⟨rfl, rfl⟩
  | _, f :: fs, o :: os, sp :: sps, h => by
    have := Chain.len h.2
    simp only [List.length_cons]
    omega
  | _, [], _ :: _, _, h => h.elim
  | _, [], [], _ :: _, h => h.elim
  | _, _ :: _, [], _, h => h.elim
  | _, _ :: _, _ :: _, [], h => h.elim
/-- the same with each frame told by its place -/
theorem Chain.get {a : Ad} {H : Hp} {M : List Addr} : ∀ {child : List V} {fs : List Fr} {os : List Open} {sps : List Span} {i : Nat} {f : Fr}, Chain a H M child fs os sps → fs[i]? = some f → ∃ o sp ch, os[i]? = some o ∧ sps[i]? = some sp ∧ FrOk a H M ch f o sp
  | ch, f :: fs, o :: os, sp :: sps, 0, g, h, e => by
    obtain rfl : f = g := Option.some.inj e
    exact ⟨o, sp, ch, rfl, rfl, h.1⟩
  | _, f :: fs, o :: os, sp :: sps, i + 1, g, h, e => Chain.get (i := i) h.2 e
  | _, [], _, _, _, _, _, e => by cases e
  | _, _ :: _, [], _, _, _, h, _ => h.elim
  | _, _ :: _, _ :: _, [], _, _, h, _ => h.elim
theorem mem_mut {f : Fr} {fs : List Fr} (hf : f ∈ fs) {x : Addr} (hx : x ∈ f.addrs) : x ∈ muts fs := List.mem_flatMap.mpr ⟨f, hf, hx⟩
/-- brackets that are open: those that open, the last one last; those that close, the last one first -/
def Brk (cl : List (Key × V)) (op br : List Nat) : Prop := Paired (fun (w c : Nat) => valV cl (Sum.inl (w : Int)) = some (.int (c : Int))) op.reverse br
structure RC (a : Ad) (kd : List Nat) (cl : List (Key × V)) (H0 H : Hp) (r : Addr) (due : Bool) (br : List Nat) (dr k c B G : Addr) (op : List Nat) (bs : List V) (mu : List Addr) : Prop where
  same : Same H0 H
  hr : H r = some (.ins a.cR dr (rF k c B G due))
  hk : H0 k = some (.lst (nv kd))
  hc : H0 c = some (.dK cl)
  hB : H B = some (.lst bs)
  hG : H G = some (.lst (nv op))
  brk : Brk cl op br
  nd : (r :: B :: G :: mu).Nodup
  nw : ∀ x ∈ r :: B :: G :: mu, H0 x = none ∧ ∃ o, H x = some o
/-- no line was read yet -/
def RFresh (a : Ad) (H : Hp) (bs : List V) (mu : List Addr) : Prop := ∃ (b d L : Addr), bs = [.ref b] ∧ mu = [b, L] ∧ H b = some (.ins a.cB d (bF .non L)) ∧ H L = some (.lst [])
def ROpen (a : Ad) (H : Hp) (M : List Addr) (bs : List V) (mu : List Addr) (st : List Open) (fs : List Fr) : Prop :=
  bs = (fs.reverse.map fun f => V.ref f.b) ∧ mu = muts fs ∧ Chain a H M [] fs st (spans st)
/-- the reader at r is in the state s; what stood in H0 stands -/
def RS (a : Ad) (kd : List Nat) (cl : List (Key × V)) (H0 H : Hp) (r : Addr) (s : State) : Prop :=
  ∃ (dr k c B G : Addr) (op : List Nat) (bs : List V) (mu : List Addr), RC a kd cl H0 H r s.due s.brackets dr k c B G op bs mu ∧
    ((s.stack = [] ∧ RFresh a H bs mu) ∨ (s.stack ≠ [] ∧ ∃ fs, ROpen a H (r :: B :: G :: mu) bs mu s.stack fs))
theorem RS.open {a : Ad} {kd : List Nat} {cl : List (Key × V)} {H0 H : Hp} {r : Addr} {s : State} (h : RS a kd cl H0 H r s) (hs : s.stack ≠ []) :
    ∃ (dr k c B G : Addr) (op : List Nat) (bs : List V) (mu : List Addr) (fs : List Fr), RC a kd cl H0 H r s.due s.brackets dr k c B G op bs mu ∧ ROpen a H (r :: B :: G :: mu) bs mu s.stack fs := by
  obtain ⟨dr, k, c, B, G, op, bs, mu, h1, h2⟩ := h
  rcases h2 with ⟨e, _⟩ | ⟨_, fs, h2⟩
  · exact absurd e hs
  · exact ⟨dr, k, c, B, G, op, bs, mu, fs, h1, h2⟩
theorem RS.fresh {a : Ad} {kd : List Nat} {cl : List (Key × V)} {H0 H : Hp} {r : Addr} {s : State} (h : RS a kd cl H0 H r s) (hs : s.stack = []) :
    ∃ (dr k c B G : Addr) (op : List Nat) (bs : List V) (mu : List Addr), RC a kd cl H0 H r s.due s.brackets dr k c B G op bs mu ∧ RFresh a H bs mu := by
  obtain ⟨dr, k, c, B, G, op, bs, mu, h1, h2⟩ := h
  rcases h2 with ⟨_, h2⟩ | ⟨e, _⟩
  · exact ⟨dr, k, c, B, G, op, bs, mu, h1, h2⟩
  · exact absurd hs e
theorem RS.comps {a : Ad} {kd : List Nat} {cl : List (Key × V)} {H0 H : Hp} {r : Addr} {s : State} (h : RS a kd cl H0 H r s) :
    ∃ (dr k c B G : Addr) (op : List Nat) (bs : List V) (mu : List Addr), RC a kd cl H0 H r s.due s.brackets dr k c B G op bs mu := by
  obtain ⟨dr, k, c, B, G, op, bs, mu, h1, _⟩ := h
  exact ⟨dr, k, c, B, G, op, bs, mu, h1⟩
theorem RS.same {a : Ad} {kd : List Nat} {cl : List (Key × V)} {H0 H : Hp} {r : Addr} {s : State} (h : RS a kd cl H0 H r s) : Same H0 H := by
  obtain ⟨_, _, _, _, _, _, _, _, h1⟩ := h.comps
  exact h1.same
/-- what a step of the reader comes to: an error, or another state -/
def Out (a : Ad) (kd : List Nat) (cl : List (Key × V)) (H0 : Hp) (r : Addr) (res : Sq16.Read) (Q : VK) (E : XK) : Prop := match res with
  | .error n => ∀ (d : Addr) (H' : Hp), Same H0 H' → H' d = some (.xd [("what", .int n)]) → E (.ref a.cW) (some d) H'
  | .ok t => ∀ H', RS a kd cl H0 H' r t → Q .non H'
/-- the last of the open blocks -/
theorem last_block {fs : List Fr} {f : Fr} : ((f :: fs).reverse.map fun f => V.ref f.b).getLast? = some (.ref f.b) := by
  rw [List.reverse_cons, List.map_append]
  simp
theorem last_snoc {α : Type} (l : List α) (x : α) : (l ++ [x]).getLast? = some x := by simp
/-- kinds in numbers and in the specification's words -/
structure KindRel (kd : List Nat) (cl : List (Key × V)) (ks : List Sq16.Kind) : Prop where
  len : ks.length = kd.length
  le : ∀ (w k : Nat), kd[w]? = some k → k ≤ 4
  k0 : ∀ (w : Nat), kd[w]? = some 0 → Sq16.kindOf ks w = .plain
  k1 : ∀ (w : Nat), kd[w]? = some 1 → ∃ c : Nat, Sq16.kindOf ks w = .opens c ∧ valV cl (Sum.inl (w : Int)) = some (.int (c : Int))
  k2 : ∀ (w : Nat), kd[w]? = some 2 → Sq16.kindOf ks w = .closes
  k3 : ∀ (w : Nat), kd[w]? = some 3 → Sq16.kindOf ks w = .block
  k4 : ∀ (w : Nat), kd[w]? = some 4 → Sq16.kindOf ks w = .on
end Mr

/-! ## MrRead1 -/
set_option Elab.async false
set_option linter.all false
set_option maxRecDepth 100000
set_option maxHeartbeats 2000000
/-! # How the reader's state goes on in the heap -/
namespace Mr
open PySem PySem.Spec PyProof.Rows L2
open Sq16 (Item Open State Line)
section
variable {a : Ad} {kd : List Nat} {cl : List (Key × V)} {H0 H H' : Hp} {r dr k c B G : Addr} {op : List Nat} {bs : List V} {mu : List Addr} {due : Bool} {br : List Nat}
theorem RC.ne_rB (h : RC a kd cl H0 H r due br dr k c B G op bs mu) : r ≠ B := fun z => (List.nodup_cons.mp h.nd).1 (by rw [z]; exact List.mem_cons_self)
theorem RC.ne_rG (h : RC a kd cl H0 H r due br dr k c B G op bs mu) : r ≠ G := fun z => (List.nodup_cons.mp h.nd).1 (by rw [z]; exact List.mem_cons_of_mem _ List.mem_cons_self)
theorem RC.ne_BG (h : RC a kd cl H0 H r due br dr k c B G op bs mu) : B ≠ G := fun z => (List.nodup_cons.mp (List.nodup_cons.mp h.nd).2).1 (by rw [z]; exact List.mem_cons_self)
theorem RC.r_mu (h : RC a kd cl H0 H r due br dr k c B G op bs mu) : r ∉ mu := fun z => (List.nodup_cons.mp h.nd).1 (List.mem_cons_of_mem _ (List.mem_cons_of_mem _ z))
theorem RC.B_mu (h : RC a kd cl H0 H r due br dr k c B G op bs mu) : B ∉ mu := fun z => (List.nodup_cons.mp (List.nodup_cons.mp h.nd).2).1 (List.mem_cons_of_mem _ z)
theorem RC.G_mu (h : RC a kd cl H0 H r due br dr k c B G op bs mu) : G ∉ mu := (List.nodup_cons.mp (List.nodup_cons.mp (List.nodup_cons.mp h.nd).2).2).1
theorem RC.mu_nd (h : RC a kd cl H0 H r due br dr k c B G op bs mu) : mu.Nodup := (List.nodup_cons.mp (List.nodup_cons.mp (List.nodup_cons.mp h.nd).2).2).2
theorem RC.kindsAt (h : RC a kd cl H0 H r due br dr k c B G op bs mu) : H k = some (.lst (nv kd)) := h.same _ _ h.hk
theorem RC.closAt (h : RC a kd cl H0 H r due br dr k c B G op bs mu) : H c = some (.dK cl) := h.same _ _ h.hc
theorem ROpen.off {M : List Addr} {st : List Open} {fs : List Fr} (h : ROpen a H M bs mu st fs) (hk : ∀ b o, H b = some o → b ∉ M → H' b = some o) (e : ∀ x ∈ mu, H' x = H x) : ROpen a H' M bs mu st fs :=
  ⟨h.1, h.2.1, h.2.2.move (Lift.of [] (fun _ z => nomatch z) (fun x hx => hx) hk) (by rw [← h.2.1]; exact e)⟩
theorem RFresh.off (h : RFresh a H bs mu) (e : ∀ x ∈ mu, H' x = H x) : RFresh a H' bs mu := by
  obtain ⟨b, d, L, e1, e2, h1, h2⟩ := h
  exact ⟨b, d, L, e1, e2, (e b (by rw [e2]; simp)).trans h1, (e L (by rw [e2]; simp)).trans h2⟩
/-- an object of the reader's own (not of the open blocks) is changed -/
theorem RS.own {s : State} {x : Addr} {o : HO} {due' : Bool} {br' : List Nat} {dr' : Addr} {op' : List Nat} (h : RC a kd cl H0 H r s.due s.brackets dr k c B G op bs mu)
    (h2 : (s.stack = [] ∧ RFresh a H bs mu) ∨ (s.stack ≠ [] ∧ ∃ fs, ROpen a H (r :: B :: G :: mu) bs mu s.stack fs)) (hx : x = r ∨ x = G)
    (h' : RC a kd cl H0 (upd H x o) r due' br' dr' k c B G op' bs mu) : RS a kd cl H0 (upd H x o) r ⟨s.stack, br', due'⟩ := by
  have hxm : x ∉ mu := by
    rcases hx with e | e
    · rw [e]
      exact h.r_mu
    · rw [e]
      exact h.G_mu
  have hxM : x ∈ r :: B :: G :: mu := by
    rcases hx with e | e <;> rw [e] <;> simp
  have e : ∀ y ∈ mu, upd H x o y = H y := fun y hy => upd_ne fun z => hxm (z ▸ hy)
  refine ⟨dr', k, c, B, G, op', bs, mu, h', ?_⟩
  rcases h2 with ⟨e1, f1⟩ | ⟨e1, fs, f1⟩
  · exact .inl ⟨e1, f1.off e⟩
  · exact .inr ⟨e1, fs, f1.off (fun b u q hb => by
    have hne : b ≠ x := fun z => hb (by rw [z]; exact hxM)
    rw [upd_ne hne]
    exact q) e⟩
theorem RC.grow {x : Addr} {o : HO} (h : RC a kd cl H0 H r due br dr k c B G op bs mu) (hx : x ∈ r :: B :: G :: mu) : ∀ y ∈ r :: B :: G :: mu, H0 y = none ∧ ∃ u, upd H x o y = some u := fun y hy => by
  obtain ⟨n, u, e⟩ := h.nw y hy
  refine ⟨n, ?_⟩
  by_cases q : y = x
  · rw [q]
    exact ⟨o, upd_same⟩
  · exact ⟨u, by rw [upd_ne q]; exact e⟩
/-- self.is_due = d -/
theorem RS.setDue {s : State} {d : Bool} (h : RC a kd cl H0 H r s.due s.brackets dr k c B G op bs mu) (h2 : (s.stack = [] ∧ RFresh a H bs mu) ∨ (s.stack ≠ [] ∧ ∃ fs, ROpen a H (r :: B :: G :: mu) bs mu s.stack fs)) :
    RS a kd cl H0 (upd H r (.ins a.cR dr (rF k c B G d))) r ⟨s.stack, s.brackets, d⟩ :=
  RS.own h h2 (.inl rfl) ⟨upd_free h.same (h.nw r (by simp)).1 _, upd_same, h.hk, h.hc, (upd_ne (Ne.symm h.ne_rB)).trans h.hB, (upd_ne (Ne.symm h.ne_rG)).trans h.hG, h.brk, h.nd, h.grow (by simp)⟩
/-- the brackets' list -/
theorem RS.setBr {s : State} {op' br' : List Nat} (h : RC a kd cl H0 H r s.due s.brackets dr k c B G op bs mu) (h2 : (s.stack = [] ∧ RFresh a H bs mu) ∨ (s.stack ≠ [] ∧ ∃ fs, ROpen a H (r :: B :: G :: mu) bs mu s.stack fs)) (hb : Brk cl op' br') :
    RS a kd cl H0 (upd H G (.lst (nv op'))) r ⟨s.stack, br', s.due⟩ :=
  RS.own h h2 (.inr rfl) ⟨upd_free h.same (h.nw G (by simp)).1 _, (upd_ne h.ne_rG).trans h.hr, h.hk, h.hc, (upd_ne h.ne_BG).trans h.hB, upd_same, hb, h.nd, h.grow (by simp)⟩
theorem muts_cons (f : Fr) (fs : List Fr) : muts (f :: fs) = f.b :: f.L :: f.s :: f.T :: muts fs := rfl
/-- a new statement in the innermost block -/
theorem RS.begin {s : State} {o : Open} {l : List Open} {f : Fr} {fs : List Fr} {s' ds' T' : Addr} {f0 n0 : Nat} (h : RC a kd cl H0 H r s.due s.brackets dr k c B G op bs mu) (hst : s.stack = o :: l) (h2 : ROpen a H (r :: B :: G :: mu) bs mu s.stack (f :: fs))
    (hsp : Sq16.spanItems none o.now.reverse = some (f0, n0)) (hb : But f.L H H') (n1 : H s' = none) (n2 : H T' = none) (n3 : s' ≠ T') (hL : H' f.L = some (.lst ((f.ss ++ [.ref f.s]) ++ [.ref s']))) (hs : H' s' = some (.ins a.cS ds' (sF T' .non .non))) (hT : H' T' = some (.lst [])) :
    RS a kd cl H0 H' r ⟨⟨o.column, o.now.reverse :: o.done, []⟩ :: l, s.brackets, s.due⟩ := by
  obtain ⟨e1, e2, ch⟩ := h2
  rw [hst] at ch
  have chh : FrOk a H (r :: B :: G :: mu) [] f o (Sq16.spanItems none o.now.reverse) ∧ Chain a H (r :: B :: G :: mu) [.ref f.b] fs l (spans (o :: l)).tail := ch
  obtain ⟨F, Crest⟩ := chh
  have nd := h.nd
  rw [e2, muts_cons] at nd
  simp only [List.nodup_cons, List.mem_cons, not_or] at nd
  obtain ⟨⟨_, _, rb, rL, rs, rT, rm⟩, ⟨_, Bb, BL, Bs, BT, Bm⟩, ⟨Gb, GL, Gs, GT, Gm⟩, ⟨bL, bs_, bT, bm⟩, ⟨Ls, LT, Lm⟩, ⟨sT, sm⟩, Tm, ndm⟩ := nd
  have old : ∀ x ∈ r :: B :: G :: mu, x ≠ s' ∧ x ≠ T' := fun x hx => by
    obtain ⟨_, u, e⟩ := h.nw x hx
    exact ⟨ne_of_none e n1, ne_of_none e n2⟩
  have memM : ∀ x, x = r ∨ x = B ∨ x = G ∨ x = f.b ∨ x = f.L ∨ x = f.s ∨ x = f.T ∨ x ∈ muts fs → x ∈ r :: B :: G :: mu := fun x hx => by
    rw [e2, muts_cons]
    simp only [List.mem_cons]
    exact hx
  have hLM : f.L ∈ r :: B :: G :: mu := memM _ (by simp)
  let f' : Fr := { f with s := s', ds := ds', T := T', ss := f.ss ++ [.ref f.s], vs := [] }
  have mu' : muts (f' :: fs) = f.b :: f.L :: s' :: T' :: muts fs := rfl
  have lift : Lift a H (r :: B :: G :: mu) H' (r :: B :: G :: muts (f' :: fs)) := by
    refine Lift.of [s', T'] (fun p hp => ?_) (fun x hx => ?_) (fun b u e hbM => hb b u e fun z => hbM (z ▸ hLM))
    · simp only [List.mem_cons, List.not_mem_nil, or_false] at hp
      rcases hp with z | z <;> rw [z] <;> assumption
    · rw [mu'] at hx
      simp only [List.mem_cons] at hx
      rcases hx with z | z | z | z | z | z | z | z
      · exact List.mem_append_right _ (memM x (by simp [z]))
      · exact List.mem_append_right _ (memM x (by simp [z]))
      · exact List.mem_append_right _ (memM x (by simp [z]))
      · exact List.mem_append_right _ (memM x (by simp [z]))
      · exact List.mem_append_right _ (memM x (by simp [z]))
      · rw [z]
        simp
      · rw [z]
        simp
      · exact List.mem_append_right _ (memM x (by simp [z]))
  have same' : ∀ {x u}, H x = some u → x ≠ f.L → H' x = some u := fun {x u} e n => hb x u e n
  refine ⟨dr, k, c, B, G, op, bs, muts (f' :: fs), ⟨fun b u e => hb b u (h.same b u e) fun z => ?_, same' h.hr rL, h.hk, h.hc, same' h.hB BL, same' h.hG GL, h.brk, ?_, fun x hx => ?_⟩, .inr ⟨by simp, f' :: fs, ?_, rfl, ?_⟩⟩
  · rw [z, (h.nw _ hLM).1] at e
    cases e
  · rw [mu']
    simp only [List.nodup_cons, List.mem_cons, not_or]
    have or_ := old r (by simp)
    have oB := old B (by simp)
    have oG := old G (by simp)
    have ob := old f.b (memM _ (by simp))
    have oL := old f.L hLM
    refine ⟨⟨h.ne_rB, h.ne_rG, rb, rL, or_.1, or_.2, rm⟩, ⟨h.ne_BG, Bb, BL, oB.1, oB.2, Bm⟩, ⟨Gb, GL, oG.1, oG.2, Gm⟩, ⟨bL, ob.1, ob.2, bm⟩, ⟨oL.1, oL.2, Lm⟩, ⟨n3, fun z => (old s' (memM _ (by simp [z]))).1 rfl⟩, fun z => (old T' (memM _ (by simp [z]))).2 rfl, ndm⟩
  · rw [mu'] at hx
    have oldc : x ∈ r :: B :: G :: mu → H0 x = none ∧ ∃ o, H' x = some o := fun hm => by
      obtain ⟨z1, u, z2⟩ := h.nw x hm
      refine ⟨z1, ?_⟩
      by_cases q : x = f.L
      · rw [q]
        exact ⟨_, hL⟩
      · exact ⟨u, same' z2 q⟩
    simp only [List.mem_cons] at hx
    rcases hx with z | z | z | z | z | z | z | z
    · exact oldc (memM x (by simp [z]))
    · exact oldc (memM x (by simp [z]))
    · exact oldc (memM x (by simp [z]))
    · exact oldc (memM x (by simp [z]))
    · exact oldc (memM x (by simp [z]))
    · rw [z]
      exact ⟨h.same.free n1, _, hs⟩
    · rw [z]
      exact ⟨h.same.free n2, _, hT⟩
    · exact oldc (memM x (by simp [z]))
  · rw [e1]
    simp [f']
  · rw [spans_begin]
    refine ⟨⟨same' F.hb bL, hL, hs, hT, ?_, ?_⟩, Crest.move lift fun x hx => ?_⟩
    · show ItemsAt a H' _ [] []
      exact ItemsAt.nil
    · show StmtsAt a H' _ (f.ss ++ [.ref f.s]) (o.now.reverse :: o.done).reverse
      rw [List.reverse_cons]
      refine (lift.st F.st).append (StmtsAt.one ?_)
      have nin : ∀ x, x = f.s ∨ x = f.T → x ∉ r :: B :: G :: muts (f' :: fs) := fun x hx => by
        rw [mu']
        simp only [List.mem_cons, not_or]
        rcases hx with z | z
        · rw [z]
          have q := old f.s (memM _ (by simp))
          exact ⟨Ne.symm rs, Ne.symm Bs, Ne.symm Gs, Ne.symm bs_, Ne.symm Ls, q.1, q.2, sm⟩
        · rw [z]
          have q := old f.T (memM _ (by simp))
          exact ⟨Ne.symm rT, Ne.symm BT, Ne.symm GT, Ne.symm bT, Ne.symm LT, q.1, q.2, Tm⟩
      have hfs := F.hs
      rw [hsp] at hfs
      have hfT := F.hT
      rw [List.append_nil] at hfT
      exact ⟨f.s, f.ds, f.T, f0, n0, f.vs, rfl, nin _ (.inl rfl), nin _ (.inr rfl), same' hfs (Ne.symm Ls), same' hfT (Ne.symm LT), lift.it F.it, hsp⟩
    · obtain ⟨_, u, e⟩ := h.nw x (memM x (by simp [hx]))
      rw [e]
      exact same' e fun z => Lm (z ▸ hx)
/-- a new block, open -/
theorem RS.opened {s : State} {o : Open} {l : List Open} {f : Fr} {fs : List Fr} {col : Option Nat} {x d L s' ds' T' : Addr} (h : RC a kd cl H0 H r s.due s.brackets dr k c B G op bs mu) (hst : s.stack = o :: l) (h2 : ROpen a H (r :: B :: G :: mu) bs mu s.stack (f :: fs))
    (hk : ∀ b u, H b = some u → b ≠ f.T → b ≠ B → H' b = some u) (nx : H x = none) (nL : H L = none) (ns : H s' = none) (nT : H T' = none) (xL : x ≠ L) (xs : x ≠ s') (xT : x ≠ T') (Ls : L ≠ s') (LT : L ≠ T') (sT : s' ≠ T')
    (hx : H' x = some (.ins a.cB d (bF (colV col) L))) (hL : H' L = some (.lst [.ref s'])) (hs : H' s' = some (.ins a.cS ds' (sF T' .non .non))) (hT : H' T' = some (.lst [])) (hfT : H' f.T = some (.lst (f.vs ++ [.ref x]))) (hB : H' B = some (.lst (bs ++ [.ref x]))) :
    RS a kd cl H0 H' r ⟨⟨col, [], []⟩ :: s.stack, s.brackets, s.due⟩ := by
  obtain ⟨e1, e2, ch⟩ := h2
  rw [hst] at ch
  have chh : FrOk a H (r :: B :: G :: mu) [] f o (Sq16.spanItems none o.now.reverse) ∧ Chain a H (r :: B :: G :: mu) [.ref f.b] fs l (spans (o :: l)).tail := ch
  obtain ⟨F, Crest⟩ := chh
  have nd := h.nd
  rw [e2, muts_cons] at nd
  simp only [List.nodup_cons, List.mem_cons, not_or] at nd
  obtain ⟨⟨_, _, rb, rL, rs, rT, rm⟩, ⟨_, Bb, BL, Bs, BT, Bm⟩, ⟨Gb, GL, Gs, GT, Gm⟩, ⟨bL, bs_, bT, bm⟩, ⟨fLs, fLT, Lm⟩, ⟨fsT, sm⟩, Tm, ndm⟩ := nd
  have old : ∀ y ∈ r :: B :: G :: mu, y ≠ x ∧ y ≠ L ∧ y ≠ s' ∧ y ≠ T' := fun y hy => by
    obtain ⟨_, u, e⟩ := h.nw y hy
    exact ⟨ne_of_none e nx, ne_of_none e nL, ne_of_none e ns, ne_of_none e nT⟩
  have memM : ∀ y, y = r ∨ y = B ∨ y = G ∨ y = f.b ∨ y = f.L ∨ y = f.s ∨ y = f.T ∨ y ∈ muts fs → y ∈ r :: B :: G :: mu := fun y hy => by
    rw [e2, muts_cons]
    simp only [List.mem_cons]
    exact hy
  have hTM : f.T ∈ r :: B :: G :: mu := memM _ (by simp)
  let f' : Fr := ⟨x, d, L, s', ds', T', [], []⟩
  have mu' : muts (f' :: f :: fs) = x :: L :: s' :: T' :: mu := by
    rw [e2]
    rfl
  have lift : Lift a H (r :: B :: G :: mu) H' (r :: B :: G :: muts (f' :: f :: fs)) := by
    refine Lift.of [x, L, s', T'] (fun p hp => ?_) (fun y hy => ?_) (fun b u e hbM => hk b u e (fun z => hbM (z ▸ hTM)) fun z => hbM (by rw [z]; simp))
    · simp only [List.mem_cons, List.not_mem_nil, or_false] at hp
      rcases hp with z | z | z | z <;> rw [z] <;> assumption
    · rw [mu'] at hy
      simp only [List.mem_cons] at hy
      simp only [List.mem_append, List.mem_cons, List.not_mem_nil, or_false]
      rcases hy with z | z | z | z | z | z | z | z <;> simp [z]
  have same' : ∀ {y u}, H y = some u → y ≠ f.T → y ≠ B → H' y = some u := fun {y u} e n m => hk y u e n m
  refine ⟨dr, k, c, B, G, op, bs ++ [.ref x], muts (f' :: f :: fs), ⟨fun b u e => hk b u (h.same b u e) (fun z => ?_) (fun z => ?_), same' h.hr rT h.ne_rB, h.hk, h.hc, hB, same' h.hG GT (Ne.symm h.ne_BG), h.brk, ?_, fun y hy => ?_⟩, .inr ⟨by simp, f' :: f :: fs, ?_, rfl, ?_⟩⟩
  · rw [z, (h.nw _ hTM).1] at e
    cases e
  · rw [z, (h.nw B (by simp)).1] at e
    cases e
  · rw [mu']
    have hnd := h.nd
    simp only [List.nodup_cons, List.mem_cons, not_or] at hnd ⊢
    have q1 := old r (by simp)
    have q2 := old B (by simp)
    have q3 := old G (by simp)
    have im : ∀ y, (y = x ∨ y = L ∨ y = s' ∨ y = T') → y ∉ mu := fun y hy hm => by
      obtain ⟨z1, z2, z3, z4⟩ := old y (by simp [hm])
      rcases hy with z | z | z | z
      · exact z1 z
      · exact z2 z
      · exact z3 z
      · exact z4 z
    exact ⟨⟨hnd.1.1, hnd.1.2.1, q1.1, q1.2.1, q1.2.2.1, q1.2.2.2, hnd.1.2.2⟩, ⟨hnd.2.1.1, q2.1, q2.2.1, q2.2.2.1, q2.2.2.2, hnd.2.1.2⟩, ⟨q3.1, q3.2.1, q3.2.2.1, q3.2.2.2, hnd.2.2.1⟩, ⟨xL, xs, xT, im x (by simp)⟩, ⟨Ls, LT, im L (by simp)⟩, ⟨sT, im s' (by simp)⟩, im T' (by simp), hnd.2.2.2⟩
  · rw [mu'] at hy
    have oldc : y ∈ r :: B :: G :: mu → H0 y = none ∧ ∃ o, H' y = some o := fun hm => by
      obtain ⟨z1, u, z2⟩ := h.nw y hm
      refine ⟨z1, ?_⟩
      by_cases q : y = f.T
      · rw [q]
        exact ⟨_, hfT⟩
      by_cases q2 : y = B
      · rw [q2]
        exact ⟨_, hB⟩
      exact ⟨u, same' z2 q q2⟩
    simp only [List.mem_cons] at hy
    rcases hy with z | z | z | z | z | z | z | z
    · exact oldc (by simp [z])
    · exact oldc (by simp [z])
    · exact oldc (by simp [z])
    · rw [z]
      exact ⟨h.same.free nx, _, hx⟩
    · rw [z]
      exact ⟨h.same.free nL, _, hL⟩
    · rw [z]
      exact ⟨h.same.free ns, _, hs⟩
    · rw [z]
      exact ⟨h.same.free nT, _, hT⟩
    · exact oldc (by simp [z])
  · rw [e1]
    simp [f']
  · show Chain a H' _ [] (f' :: f :: fs) (⟨col, [], []⟩ :: s.stack) (spans (⟨col, [], []⟩ :: s.stack))
    rw [spans_open, hst]
    refine ⟨⟨hx, hL, hs, hT, ItemsAt.nil, StmtsAt.nil⟩, ⟨same' F.hb bT (Ne.symm Bb), same' F.hL fLT (Ne.symm BL), same' F.hs fsT (Ne.symm Bs), hfT, lift.it F.it, lift.st F.st⟩, Crest.move lift fun y hy => ?_⟩
    obtain ⟨_, u, e⟩ := h.nw y (memM y (by simp [hy]))
    rw [e]
    exact same' e (fun z => Tm (z ▸ hy)) fun z => Bm (z ▸ hy)
/-- the text's first line -/
theorem RS.text {s : State} {b d L s' ds' T' : Addr} {col : Nat} (h : RC a kd cl H0 H r s.due s.brackets dr k c B G op [.ref b] [b, L]) (hk : ∀ y u, H y = some u → y ≠ b → y ≠ L → H' y = some u) (ns : H s' = none) (nT : H T' = none) (sT : s' ≠ T')
    (hb : H' b = some (.ins a.cB d (bF (.int col) L))) (hL : H' L = some (.lst [.ref s'])) (hs : H' s' = some (.ins a.cS ds' (sF T' .non .non))) (hT : H' T' = some (.lst [])) : RS a kd cl H0 H' r ⟨[⟨some col, [], []⟩], s.brackets, s.due⟩ := by
  have nd := h.nd
  simp only [List.nodup_cons, List.mem_cons, not_or, List.not_mem_nil, not_false_eq_true, and_true, List.nodup_nil] at nd
  obtain ⟨⟨_, _, rb, rL⟩, ⟨_, Bb, BL⟩, ⟨Gb, GL⟩, bL⟩ := nd
  have old : ∀ y ∈ r :: B :: G :: [b, L], y ≠ s' ∧ y ≠ T' := fun y hy => by
    obtain ⟨_, u, e⟩ := h.nw y hy
    exact ⟨ne_of_none e ns, ne_of_none e nT⟩
  let f' : Fr := ⟨b, d, L, s', ds', T', [], []⟩
  have mu' : muts [f'] = [b, L, s', T'] := rfl
  refine ⟨dr, k, c, B, G, op, [.ref b], muts [f'], ⟨fun y u e => hk y u (h.same y u e) (fun z => ?_) (fun z => ?_), hk _ _ h.hr rb rL, h.hk, h.hc, hk _ _ h.hB Bb BL, hk _ _ h.hG Gb GL, h.brk, ?_, fun y hy => ?_⟩, .inr ⟨by simp, [f'], rfl, rfl, ?_⟩⟩
  · rw [z, (h.nw b (by simp)).1] at e
    cases e
  · rw [z, (h.nw L (by simp)).1] at e
    cases e
  · rw [mu']
    simp only [List.nodup_cons, List.mem_cons, not_or, List.not_mem_nil, not_false_eq_true, and_true, List.nodup_nil]
    have q1 := old r (by simp)
    have q2 := old B (by simp)
    have q3 := old G (by simp)
    have q4 := old b (by simp)
    have q5 := old L (by simp)
    exact ⟨⟨h.ne_rB, h.ne_rG, rb, rL, q1.1, q1.2⟩, ⟨h.ne_BG, Bb, BL, q2.1, q2.2⟩, ⟨Gb, GL, q3.1, q3.2⟩, ⟨bL, q4.1, q4.2⟩, ⟨q5.1, q5.2⟩, sT⟩
  · rw [mu'] at hy
    simp only [List.mem_cons, List.not_mem_nil, or_false] at hy
    rcases hy with z | z | z | z | z | z | z
    · rw [z]
      exact ⟨(h.nw r (by simp)).1, _, hk _ _ h.hr rb rL⟩
    · rw [z]
      exact ⟨(h.nw B (by simp)).1, _, hk _ _ h.hB Bb BL⟩
    · rw [z]
      exact ⟨(h.nw G (by simp)).1, _, hk _ _ h.hG Gb GL⟩
    · rw [z]
      exact ⟨(h.nw b (by simp)).1, _, hb⟩
    · rw [z]
      exact ⟨(h.nw L (by simp)).1, _, hL⟩
    · rw [z]
      exact ⟨h.same.free ns, _, hs⟩
    · rw [z]
      exact ⟨h.same.free nT, _, hT⟩
  · show Chain a H' _ [] [f'] [⟨some col, [], []⟩] (spans [⟨some col, [], []⟩])
    rw [spans_open]
    exact ⟨⟨hb, hL, hs, hT, ItemsAt.nil, StmtsAt.nil⟩, True.intro⟩
end
end Mr

/-! ## MrRead2 -/
set_option Elab.async false
set_option linter.all false
set_option maxRecDepth 100000
set_option maxHeartbeats 2000000
/-! # A word put, a block closed, the end -/
namespace Mr
open PySem PySem.Spec PyProof.Rows L2
open Sq16 (Item Open State Line)
section
variable {a : Ad} {kd : List Nat} {cl : List (Key × V)} {H0 H H' : Hp} {r dr k c B G : Addr} {op : List Nat} {bs : List V} {mu : List Addr}
theorem muts_mem {fs : List Fr} {g : Fr} (hg : g ∈ fs) : g.b ∈ muts fs ∧ g.L ∈ muts fs ∧ g.s ∈ muts fs ∧ g.T ∈ muts fs :=
  ⟨mem_mut hg (by simp [Fr.addrs]), mem_mut hg (by simp [Fr.addrs]), mem_mut hg (by simp [Fr.addrs]), mem_mut hg (by simp [Fr.addrs])⟩
/-- the statements' own objects are apart from all else -/
theorem muts_sep : ∀ {fs : List Fr}, (muts fs).Nodup → ∀ g ∈ fs, ∀ g' ∈ fs, g.b ≠ g'.s ∧ g.L ≠ g'.s ∧ g.T ≠ g'.s
  | [], _, g, hg, _, _ => nomatch hg
  | f :: fs, nd, g, hg, g', hg' => by
    rw [muts_cons] at nd
    simp only [List.nodup_cons, List.mem_cons, not_or] at nd
    obtain ⟨⟨bL, bs, bT, bm⟩, ⟨Ls, LT, Lm⟩, ⟨sT, sm⟩, Tm, ndm⟩ := nd
    rcases List.mem_cons.mp hg with e | hg
    · rcases List.mem_cons.mp hg' with e' | hg'
      · rw [e, e']
        exact ⟨bs, Ls, Ne.symm sT⟩
      · have m := (muts_mem hg').2.2.1
        rw [e]
        exact ⟨fun z => bm (z ▸ m), fun z => Lm (z ▸ m), fun z => Tm (z ▸ m)⟩
    · rcases List.mem_cons.mp hg' with e' | hg'
      · obtain ⟨m1, m2, m3, m4⟩ := muts_mem hg
        rw [e']
        exact ⟨fun z => sm (z ▸ m1), fun z => sm (z ▸ m2), fun z => sm (z ▸ m4)⟩
      · exact muts_sep ndm g hg g' hg'
theorem Chain.touched {M M' : List Addr} {n : Nat} (l : Lift a H M H' M') : ∀ {child : List V} {fs : List Fr} {os : List Open} {sps : List Span}, Chain a H M child fs os sps → (∀ g ∈ fs, H' g.b = H g.b ∧ H' g.L = H g.L ∧ H' g.T = H g.T) →
    (∀ (i : Nat) (g : Fr) (sp : Span), fs[i]? = some g → sps[i]? = some sp → H' g.s = some (.ins a.cS g.ds (sF g.T (spF (touch n sp)) (spL (touch n sp))))) → Chain a H' M' child fs os (sps.map (touch n))
  | _, [], [], [], _, _, _ => True.intro
  | _, f :: fs, o :: os, sp :: sps, h, e, hs => by
    obtain ⟨e1, e2, e3⟩ := e f List.mem_cons_self
    exact ⟨⟨e1.trans h.1.hb, e2.trans h.1.hL, hs 0 f sp rfl rfl, e3.trans h.1.hT, l.it h.1.it, l.st h.1.st⟩, Chain.touched l h.2 (fun g hg => e g (List.mem_cons_of_mem _ hg)) fun i g sp h1 h2 => hs (i + 1) g sp h1 h2⟩
  | _, [], _ :: _, _, h, _, _ => h.elim
  | _, [], [], _ :: _, h, _, _ => h.elim
  | _, _ :: _, [], _, h, _, _ => h.elim
  | _, _ :: _, _ :: _, [], h, _, _ => h.elim
/-- a word, put into the statement that's being read -/
theorem RS.put {s : State} {o : Open} {l : List Open} {f : Fr} {fs : List Fr} {w n : Nat} (h : RC a kd cl H0 H r s.due s.brackets dr k c B G op bs mu) (hst : s.stack = o :: l) (h2 : ROpen a H (r :: B :: G :: mu) bs mu s.stack (f :: fs))
    (hk : ∀ b u, H b = some u → (∀ g ∈ f :: fs, b ≠ g.s) → b ≠ f.T → H' b = some u)
    (hS : ∀ (i : Nat) (g : Fr) (sp : Span), (f :: fs)[i]? = some g → (spans s.stack)[i]? = some sp → H' g.s = some (.ins a.cS g.ds (sF g.T (spF (touch n sp)) (spL (touch n sp)))))
    (hT : H' f.T = some (.lst (f.vs ++ [.int w]))) : RS a kd cl H0 H' r ⟨Sq16.putWord (.word w n) s.stack, s.brackets, s.due⟩ := by
  obtain ⟨e1, e2, ch⟩ := h2
  have ndm : (muts (f :: fs)).Nodup := e2 ▸ h.mu_nd
  have sep := muts_sep ndm
  have nd2 := ndm
  rw [muts_cons] at nd2
  simp only [List.nodup_cons, List.mem_cons, not_or] at nd2
  obtain ⟨⟨bL, bs_, bT, bm⟩, ⟨Ls, LT, Lm⟩, ⟨sT, sm⟩, Tm, _⟩ := nd2
  have inM : ∀ x ∈ muts (f :: fs), x ∈ r :: B :: G :: mu := fun x hx => by
    rw [e2]
    exact List.mem_cons_of_mem _ (List.mem_cons_of_mem _ (List.mem_cons_of_mem _ hx))
  have offM : ∀ x, x ∉ muts (f :: fs) → (∀ g ∈ f :: fs, x ≠ g.s) ∧ x ≠ f.T := fun x hx => ⟨fun g hg z => hx (z ▸ (muts_mem hg).2.2.1), fun z => hx (z ▸ (muts_mem List.mem_cons_self).2.2.2)⟩
  have keepOff : ∀ {x u}, H x = some u → x ∉ muts (f :: fs) → H' x = some u := fun {x u} e hx => hk x u e (offM x hx).1 (offM x hx).2
  have lift : Lift a H (r :: B :: G :: mu) H' (r :: B :: G :: mu) := Lift.of [] (fun _ z => nomatch z) (fun x hx => hx) fun b u e hb => keepOff e fun z => hb (inM b z)
  let f' : Fr := { f with vs := f.vs ++ [.int w] }
  have mu' : muts (f' :: fs) = mu := by
    rw [e2]
    rfl
  have rmu : r ∉ muts (f :: fs) := e2 ▸ h.r_mu
  have Bmu : B ∉ muts (f :: fs) := e2 ▸ h.B_mu
  have Gmu : G ∉ muts (f :: fs) := e2 ▸ h.G_mu
  refine ⟨dr, k, c, B, G, op, bs, mu, ⟨fun b u e => keepOff (h.same b u e) fun z => ?_, keepOff h.hr rmu, h.hk, h.hc, keepOff h.hB Bmu, keepOff h.hG Gmu, h.brk, h.nd, fun x hx => ⟨(h.nw x hx).1, ?_⟩⟩, .inr ⟨?_, f' :: fs, ?_, mu'.symm, ?_⟩⟩
  · rw [(h.nw b (inM b z)).1] at e
    cases e
  · obtain ⟨_, u, e⟩ := h.nw x hx
    by_cases q1 : x = f.T
    · rw [q1]
      exact ⟨_, hT⟩
    by_cases q2 : ∃ g, g ∈ f :: fs ∧ x = g.s
    · obtain ⟨g, hg, z⟩ := q2
      obtain ⟨i, hi⟩ := List.getElem?_of_mem hg
      have lens := ch.len
      have hi2 : i < (spans s.stack).length := by
        have := (List.getElem?_eq_some_iff.mp hi).1
        omega
      rw [z]
      exact ⟨_, hS i g _ hi (List.getElem?_eq_getElem hi2)⟩
    · exact ⟨u, hk x u e (fun g hg z => q2 ⟨g, hg, z⟩) q1⟩
  · rw [hst]
    simp [Sq16.putWord]
  · rw [e1]
    simp [f']
  · show Chain a H' _ [] (f' :: fs) (Sq16.putWord (.word w n) s.stack) (spans (Sq16.putWord (.word w n) s.stack))
    rw [spans_put]
    have others : ∀ g ∈ f :: fs, H' g.b = H g.b ∧ H' g.L = H g.L := fun g hg => by
      obtain ⟨m1, m2, m3, m4⟩ := muts_mem hg
      obtain ⟨_, u1, q1⟩ := h.nw g.b (inM _ m1)
      obtain ⟨_, u2, q2⟩ := h.nw g.L (inM _ m2)
      have neT : g.b ≠ f.T ∧ g.L ≠ f.T := by
        rcases List.mem_cons.mp hg with e | hg2
        · rw [e]
          exact ⟨bT, LT⟩
        · obtain ⟨k1, k2, _, _⟩ := muts_mem hg2
          exact ⟨fun z => Tm (z ▸ k1), fun z => Tm (z ▸ k2)⟩
      rw [q1, q2]
      exact ⟨hk _ _ q1 (fun g' hg' => (sep g hg g' hg').1) neT.1, hk _ _ q2 (fun g' hg' => (sep g hg g' hg').2.1) neT.2⟩
    rw [hst] at ch hS ⊢
    have chh : FrOk a H (r :: B :: G :: mu) [] f o (Sq16.spanItems none o.now.reverse) ∧ Chain a H (r :: B :: G :: mu) [.ref f.b] fs l (spans (o :: l)).tail := ch
    obtain ⟨F, Crest⟩ := chh
    have o1 := others f List.mem_cons_self
    refine ⟨⟨o1.1.trans F.hb, o1.2.trans F.hL, hS 0 f _ rfl rfl, ?_, ?_, lift.st F.st⟩, Crest.touched lift (fun g hg => ?_) fun i g sp h1 h2 => hS (i + 1) g sp h1 h2⟩
    · show H' f.T = some (.lst ((f.vs ++ [.int w]) ++ []))
      rw [List.append_nil]
      exact hT
    · show ItemsAt a H' _ (f.vs ++ [.int w]) (Item.word w n :: o.now).reverse
      rw [List.reverse_cons]
      exact (lift.it F.it).append (ItemsAt.one (itemAt_word.mpr rfl))
    · obtain ⟨q1, q2⟩ := others g (List.mem_cons_of_mem _ hg)
      obtain ⟨_, _, _, m4⟩ := muts_mem hg
      obtain ⟨_, u4, q4⟩ := h.nw g.T (inM _ (by rw [muts_cons]; simp [m4]))
      refine ⟨q1, q2, ?_⟩
      rw [q4]
      exact hk _ _ q4 (fun g' hg' => (sep g (List.mem_cons_of_mem _ hg) g' hg').2.2) fun z => Tm (z ▸ m4)
/-- the statements of a block that is closed -/
theorem closed_stmts {M M' : List Addr} {f : Fr} {o : Open} {child : List V} {f0 n0 : Nat} (F : FrOk a H M [] f o (Sq16.spanItems none o.now.reverse)) (hsp : Sq16.spanItems none o.now.reverse = some (f0, n0)) (hM : ∀ x ∈ M', x ∈ M) (hf : ∀ x ∈ f.addrs, x ∉ M') : StmtsAt a H M' (f.ss ++ [.ref f.s]) o.statements := by
  have hne : o.now ≠ [] := fun z => by
    rw [z, List.reverse_nil, spanItems_nil] at hsp
    cases hsp
  have e : o.statements = o.done.reverse ++ [o.now.reverse] := by
    unfold Sq16.Open.statements
    cases q : o.now with
    | nil => exact absurd q hne
    | cons x y =>
      simp
  rw [e]
  have keep : ∀ b u, H b = some u → b ∉ M → H b = some u := fun _ _ e _ => e
  have hfs := F.hs
  rw [hsp] at hfs
  have hfT := F.hT
  rw [List.append_nil] at hfT
  exact (F.st.keep hM keep).append (StmtsAt.one ⟨f.s, f.ds, f.T, f0, n0, f.vs, rfl, hf _ (by simp [Fr.addrs]), hf _ (by simp [Fr.addrs]), hfs, hfT, F.it.keep hM keep, hsp⟩)
theorem Chain.pop {M M' : List Addr} {f g : Fr} {fs : List Fr} {o p : Open} {l : List Open} {f0 n0 : Nat} (ch : Chain a H M [] (f :: g :: fs) (o :: p :: l) (spans (o :: p :: l))) (hsp : Sq16.spanItems none o.now.reverse = some (f0, n0)) (hM : ∀ x ∈ M', x ∈ M) (hf : ∀ x ∈ f.addrs, x ∉ M') :
    Chain a H M' [] ({ g with vs := g.vs ++ [.ref f.b] } :: fs) (Sq16.close (o :: p :: l)) (spans (Sq16.close (o :: p :: l))) := by
  have chh : FrOk a H M [] f o (Sq16.spanItems none o.now.reverse) ∧ FrOk a H M [.ref f.b] g p (spanOpen (Sq16.spanItems none p.now.reverse) o) ∧ Chain a H M [.ref g.b] fs l (spans (o :: p :: l)).tail.tail := ch
  obtain ⟨F, Gk, Crest⟩ := chh
  have keep : ∀ b u, H b = some u → b ∉ M → H b = some u := fun _ _ e _ => e
  have lift : Lift a H M H M' := Lift.of [] (fun _ z => nomatch z) (fun x hx => hM x hx) keep
  rw [spans_close]
  refine ⟨⟨Gk.hb, Gk.hL, Gk.hs, ?_, ?_, lift.st Gk.st⟩, Crest.move lift fun _ _ => rfl⟩
  · show H g.T = some (.lst ((g.vs ++ [.ref f.b]) ++ []))
    rw [List.append_nil]
    exact Gk.hT
  · show ItemsAt a H M' (g.vs ++ [.ref f.b]) (Item.block o.statements :: p.now).reverse
    rw [List.reverse_cons]
    refine (lift.it Gk.it).append (ItemsAt.one (BlockAt.item ?_))
    exact ⟨f.db, f.L, _, _, hf _ (by simp [Fr.addrs]), hf _ (by simp [Fr.addrs]), F.hb, F.hL, closed_stmts (child := []) F hsp hM hf⟩
/-- blocks.pop() -/
theorem RS.pop {s : State} {o p : Open} {l : List Open} {f g : Fr} {fs : List Fr} {f0 n0 : Nat} (h : RC a kd cl H0 H r s.due s.brackets dr k c B G op bs mu) (hst : s.stack = o :: p :: l) (h2 : ROpen a H (r :: B :: G :: mu) bs mu s.stack (f :: g :: fs)) (hsp : Sq16.spanItems none o.now.reverse = some (f0, n0)) :
    RS a kd cl H0 (upd H B (.lst bs.dropLast)) r ⟨Sq16.close s.stack, s.brackets, s.due⟩ := by
  obtain ⟨e1, e2, ch⟩ := h2
  have nd := h.nd
  rw [e2, muts_cons] at nd
  simp only [List.nodup_cons, List.mem_cons, not_or] at nd
  obtain ⟨⟨_, _, rb, rL, rs, rT, rm⟩, ⟨_, Bb, BL, Bs, BT, Bm⟩, ⟨Gb, GL, Gs, GT, Gm⟩, ⟨bL, bs_, bT, bm⟩, ⟨fLs, fLT, Lm⟩, ⟨fsT, sm⟩, Tm, ndm⟩ := nd
  let g' : Fr := { g with vs := g.vs ++ [.ref f.b] }
  have mu' : muts (g' :: fs) = muts (g :: fs) := rfl
  have sub : ∀ x ∈ r :: B :: G :: muts (g :: fs), x ∈ r :: B :: G :: mu := fun x hx => by
    rw [e2, muts_cons]
    simp only [List.mem_cons] at hx ⊢
    rcases hx with z | z | z | z <;> simp [z]
  have apart : ∀ x ∈ f.addrs, x ∉ r :: B :: G :: muts (g :: fs) := fun x hx => by
    simp only [Fr.addrs, List.mem_cons, List.not_mem_nil, or_false] at hx
    simp only [List.mem_cons, not_or]
    rcases hx with z | z | z | z
    · rw [z]
      exact ⟨Ne.symm rb, Ne.symm Bb, Ne.symm Gb, bm⟩
    · rw [z]
      exact ⟨Ne.symm rL, Ne.symm BL, Ne.symm GL, Lm⟩
    · rw [z]
      exact ⟨Ne.symm rs, Ne.symm Bs, Ne.symm Gs, sm⟩
    · rw [z]
      exact ⟨Ne.symm rT, Ne.symm BT, Ne.symm GT, Tm⟩
  have ebs : bs.dropLast = ((g' :: fs).reverse.map fun f => V.ref f.b) := by
    rw [e1, List.reverse_cons, List.map_append]
    simp [g']
  rw [hst] at ch
  have ch2 := ch.pop hsp sub apart
  have hnB : H0 B = none := (h.nw B (by simp)).1
  refine ⟨dr, k, c, B, G, op, bs.dropLast, muts (g' :: fs), ⟨upd_free h.same hnB _, (upd_ne h.ne_rB).trans h.hr, h.hk, h.hc, upd_same, (upd_ne (Ne.symm h.ne_BG)).trans h.hG, h.brk, ?_, fun x hx => h.grow (x := B) (by simp) x (sub x hx)⟩, .inr ⟨by rw [hst]; simp [Sq16.close], g' :: fs, ebs, rfl, ?_⟩⟩
  · rw [mu']
    simp only [List.nodup_cons, List.mem_cons, not_or]
    exact ⟨⟨h.ne_rB, h.ne_rG, rm⟩, ⟨h.ne_BG, Bm⟩, Gm, ndm⟩
  · show Chain a (upd H B (.lst bs.dropLast)) _ [] (g' :: fs) (Sq16.close s.stack) (spans (Sq16.close s.stack))
    rw [hst]
    exact ch2.move (Lift.of [] (fun _ z => nomatch z) (fun x hx => hx) fun b u e hb => by
      have hne : b ≠ B := fun z => hb (by rw [z]; simp)
      rw [upd_ne hne]
      exact e) fun x hx => upd_ne fun z => Bm (z ▸ hx)
/-- the text's own block, when all are closed -/
theorem Chain.finish : ∀ (n : Nat) {fs : List Fr} {os : List Open} {M : List Addr}, os.length ≤ n + 1 → os ≠ [] → Chain a H M [] fs os (spans os) → (∀ x ∈ muts fs, x ∈ M) → (muts fs).Nodup → (∀ x ∈ spans os, x ≠ none) →
    ∃ o g, Sq16.closeAll n os = [o] ∧ fs.getLast? = some g ∧ BlockAt a H [] g.b o.statements
  | n, fs, [], M, _, hne, _, _, _, _ => absurd rfl hne
  | n, [f], [o], M, _, _, ch, _, _, hs => by
    have chh : FrOk a H M [] f o (Sq16.spanItems none o.now.reverse) ∧ True := ch
    have h1 : Sq16.spanItems none o.now.reverse ≠ none := hs _ List.mem_cons_self
    obtain ⟨y, hy⟩ := Option.ne_none_iff_exists'.mp h1
    exact ⟨o, f, closeAll_one n o, rfl, f.db, f.L, _, _, (fun z => nomatch z), (fun z => nomatch z), chh.1.hb, chh.1.hL, closed_stmts (child := []) (f0 := y.1) (n0 := y.2) chh.1 hy (fun _ z => nomatch z) (fun _ _ z => nomatch z)⟩
  | n, [], [o], M, _, _, ch, _, _, _ => ch.elim
  | n, _ :: _ :: _, [o], M, _, _, ch, _, _, _ => ch.2.elim
  | 0, fs, o :: p :: l, M, hl, _, _, _, _, _ => by
    simp only [List.length_cons] at hl
    omega
  | n + 1, [], o :: p :: l, M, _, _, ch, _, _, _ => ch.elim
  | n + 1, [f], o :: p :: l, M, _, _, ch, _, _, _ => ch.2.elim
  | n + 1, f :: g :: fs, o :: p :: l, M, hl, _, ch, hM, nd, hs => by
    have h1 : Sq16.spanItems none o.now.reverse ≠ none := hs _ List.mem_cons_self
    obtain ⟨y, hy⟩ := Option.ne_none_iff_exists'.mp h1
    have nd2 := nd
    rw [muts_cons] at nd2
    simp only [List.nodup_cons, List.mem_cons, not_or] at nd2
    obtain ⟨⟨_, _, _, bm⟩, ⟨_, _, Lm⟩, ⟨_, sm⟩, Tm, ndm⟩ := nd2
    have ch2 := ch.pop (M' := muts (g :: fs)) (f0 := y.1) (n0 := y.2) hy (fun x hx => hM x (by rw [muts_cons]; simp [hx])) (fun x hx => by
      simp only [Fr.addrs, List.mem_cons, List.not_mem_nil, or_false] at hx
      rcases hx with z | z | z | z <;> rw [z] <;> assumption)
    have hlen : (Sq16.close (o :: p :: l)).length ≤ n + 1 := by
      simp only [List.length_cons] at hl
      show l.length + 1 ≤ n + 1
      omega
    obtain ⟨o', g', q1, q2, q3⟩ := Chain.finish n hlen (by simp [Sq16.close]) ch2 (fun x hx => hx) ndm (by
      rw [spans_close]
      exact fun x hx => hs x (List.mem_of_mem_tail hx))
    rw [closeAll_two]
    cases fs with
    | nil =>
      obtain rfl : { g with vs := g.vs ++ [.ref f.b] } = g' := Option.some.inj q2
      exact ⟨o', g, q1, rfl, q3⟩
    | cons g2 fs2 => exact ⟨o', g', q1, by simpa [List.getLast?_cons_cons] using q2, q3⟩
end
end Mr

/-! ## MrRead3 -/
set_option Elab.async false
set_option linter.all false
set_option maxRecDepth 100000
set_option maxHeartbeats 2000000
/-! # Wrong, Reader: made; its statement that's being read; blocks opened -/
namespace Mr
open PySem PySem.Spec PyProof.Rows L2
open Sq16 (Item Open State Line)
/-! ### promises -/
def spWInit (a : Ad) : Sp := fun vs H Q _ => ∃ (e : Addr) (v : V), vs = [.ref e, v] ∧ H e = some (exo e a.cW none) ∧ ∀ d, H d = none → d ≠ e → Q .non (upd (upd H d (exd d [("what", v)])) e (exo e a.cW (some d)))
def spRInit (a : Ad) : Sp := fun vs H Q _ => ∃ (H0 : Hp) (p dx k c : Addr) (kd : List Nat) (cl : List (Key × V)), vs = [.ref p, .ref k, .ref c] ∧ H0 p = none ∧ H p = some (.ins a.cR dx []) ∧ Same H0 H ∧ H0 k = some (.lst (nv kd)) ∧ H0 c = some (.dK cl) ∧
  ∀ H', RS a kd cl H0 H' p ⟨[], [], false⟩ → Q .non H'
def spCurrent (a : Ad) : Sp := fun vs H Q _ => ∃ (r dr k c B G : Addr) (due : Bool) (bs : List V) (b d L : Addr) (cv : V) (ls : List V) (v : V), vs = [.ref r] ∧ H r = some (.ins a.cR dr (rF k c B G due)) ∧ H B = some (.lst bs) ∧ bs.getLast? = some (.ref b) ∧
  H b = some (.ins a.cB d (bF cv L)) ∧ H L = some (.lst ls) ∧ ls.getLast? = some v ∧ Q v H
def spBeginSt (a : Ad) : Sp := fun vs H Q _ => ∃ (r dr k c B G : Addr) (due : Bool) (bs : List V) (b d L : Addr) (cv : V) (ls : List V), vs = [.ref r] ∧ H r = some (.ins a.cR dr (rF k c B G due)) ∧ H B = some (.lst bs) ∧ bs.getLast? = some (.ref b) ∧
  H b = some (.ins a.cB d (bF cv L)) ∧ H L = some (.lst ls) ∧ ls.length < 1000000 ∧
  ∀ (H' : Hp) (s' ds' T' : Addr), But L H H' → H s' = none → H T' = none → s' ≠ T' → H' L = some (.lst (ls ++ [.ref s'])) → H' s' = some (.ins a.cS ds' (sF T' .non .non)) → H' T' = some (.lst []) → Q .non H'
def spOpen (a : Ad) : Sp := fun vs H Q E => ∃ (H0 : Hp) (kd : List Nat) (cl : List (Key × V)) (r : Addr) (s : State) (col : Option Nat), vs = [.ref r, colV col] ∧ RS a kd cl H0 H r s ∧ s.stack ≠ [] ∧ s.stack.length ≤ 20 ∧ szStack s.stack ≤ 100000 ∧
  Out a kd cl H0 r (if Sq16.DEEP ≤ s.stack.length then .error 7 else .ok ⟨⟨col, [], []⟩ :: s.stack, s.brackets, s.due⟩) Q E
def spPut (a : Ad) : Sp := fun vs H Q _ => ∃ (H0 : Hp) (kd : List Nat) (cl : List (Key × V)) (r : Addr) (s : State) (w n : Nat), vs = [.ref r, .int w, .int n] ∧ RS a kd cl H0 H r s ∧ s.stack ≠ [] ∧ szStack s.stack ≤ 100000 ∧ (∀ x ∈ spans s.stack, ∀ y, x = some y → y.1 ≤ n ∧ y.2 ≤ n) ∧
  ∀ H', RS a kd cl H0 H' r ⟨Sq16.putWord (.word w n) s.stack, s.brackets, s.due⟩ → Q .non H'
/-- what stood stands behind an error -/
theorem wrong_same {H0 H : Hp} {e d : Addr} {x y z u : HO} (s : Same H0 H) (ne : H e = none) (nd : H d = none) : Same H0 (upd (del (upd (upd (upd H e x) d y) e z) e) d u) := fun b o q => by
  have qb := s b o q
  rw [upd_ne (ne_of_none qb nd), del_ne (ne_of_none qb ne), upd_ne (ne_of_none qb ne), upd_ne (ne_of_none qb nd), upd_ne (ne_of_none qb ne)]
  exact qb
/-- raise Wrong(n) -/
theorem mkO_wrong {a : Ad} {H0 H : Hp} {n : Nat} {Q : XK} {σ : L2.St} (s : Same H0 H) (k : ∀ (d : Addr) (H' : Hp), Same H0 H' → H' d = some (.xd [("what", .int n)]) → Q (.ref a.cW) (some d) H') : tMkO a.cW (spWInit a) [] (tCons (tC (.int n)) tNil) σ H Q := by
  refine ⟨by show 1 ≤ 1000; decide, fun e ne => ⟨e, .int n, rfl, upd_same, fun d nd de => ⟨rfl, d, [("what", .int n)], upd_same, ?_, ?_, ?_⟩⟩⟩
  · rw [upd_ne de, upd_same]
  · rw [upd_ne de] at nd
    exact nd
  · rw [upd_ne de] at nd
    exact k d _ (wrong_same s ne nd) upd_same
section
variable {P : Program} {w : World} {K : PySem.W.Frag} {mg : Str → Option Value} {base : Heap} {a : Ad}
theorem scWInit : FnScope ["self", "what"] ["self", "what"] (defScope stWInit) := ⟨rfl, rfl, rfl, by decide +kernel, rfl, by decide +kernel, by decide +kernel⟩
theorem ok_wInit (T : Tx K mg a) : FnOk P w K mg base CX0 1 a.fWInit a.dWInit ["self", "what"] (spWInit a) := by
  refine T.wFn.ok scWInit (fun vs H Q E h => ?_) (fun cdv A outer s H vs Q E hr h => ?_)
  · obtain ⟨e, v, rfl, _⟩ := h
    rfl
  obtain ⟨e, v, rfl, he, k⟩ := h
  refine ⟨_, pss_cons (ps_expr (pe_veinit (by rfl) T.b_ValueError T.vV (pa_cons (pv 0) (pa_cons pe_str pa_nil)))) (pss_one (ps_ost (pv 0) (pv 1))), ?_⟩
  refine ⟨_, rfl, e, a.cW, _, rfl, by show 1 ≤ 1000; decide, T.wOex, he, ?_⟩
  exact ⟨_, rfl, _, rfl, e, a.cW, rfl, T.wOex, T.wWhat, .inl ⟨he, fun d nd de => k d nd de⟩⟩
theorem scRInit : FnScope ["self", "kinds", "closing"] ["self", "kinds", "closing"] (defScope stRInit) := ⟨rfl, rfl, rfl, by decide +kernel, rfl, by decide +kernel, by decide +kernel⟩
theorem ok_rInit (T : Tx K mg a) : FnOk P w K mg base CX0 3 a.fRInit a.dRInit ["self", "kinds", "closing"] (spRInit a) := by
  have G : FnOk P w K mg base CX0 1 a.fBInit a.dBInit ["self", "column"] (spBInit a) := ok_bInit T
  refine T.rInit.fn.ok scRInit (fun vs H Q E h => ?_) (fun cdv A outer s H vs Q E hr h => ?_)
  · obtain ⟨H0, p, dx, k, c, kd, cl, rfl, _⟩ := h
    rfl
  obtain ⟨H0, p, dx, k, c, kd, cl, rfl, np, hp, s0, hk, hc, kk⟩ := h
  refine ⟨_, pss_cons (ps_fld (pv 0) (pv 1) rfl) (pss_cons (ps_fld (pv 0) (pv 2) rfl) (pss_cons (ps_fld (pv 0) (pe_lst (pa_cons (pe_make T.bInit.made G hr rfl T.bInit.g T.bInit.b .nil pass0 (pa_cons pe_non pa_nil)) pa_nil)) rfl)
    (pss_cons (ps_fld (pv 0) (pe_lst pa_nil) rfl) (pss_one (ps_fld (pv 0) pe_bl rfl))))), ?_⟩
  refine ⟨_, rfl, _, rfl, p, a.cR, dx, [], rfl, hp, T.clR, T.nR_kinds, by decide, ?_⟩
  refine ⟨_, rfl, _, rfl, p, a.cR, dx, _, rfl, upd_same, T.clR, T.nR_closing, by show 1 < 1000; decide, ?_⟩
  rw [upd_upd]
  -- [Block(None)]
  intro b db nb ndb nbd
  have npb : p ≠ b := ne_of_none upd_same nb
  have npdb : p ≠ db := ne_of_none upd_same ndb
  refine ⟨b, db, .non, rfl, upd_same, fun H1 L kp1 nL nLb hL hb1 => ⟨rfl, by show 1 ≤ sizeLine; decide, fun B nB => ?_⟩⟩
  have nL0 : upd H p (.ins a.cR dx (putF "closing" (.ref c) (putF "kinds" (.ref k) []))) L = none ∧ L ≠ db := by
    rw [upd_ne nLb] at nL
    by_cases q : L = db
    · rw [q, upd_same] at nL
      cases nL
    · rw [upd_ne q] at nL
      exact ⟨nL, q⟩
  have hp1 : H1 p = some (.ins a.cR dx (putF "closing" (.ref c) (putF "kinds" (.ref k) []))) := kp1 _ _ (by rw [upd_ne npb, upd_ne npdb, upd_same]) npb
  have npL : p ≠ L := ne_of_none upd_same nL0.1
  have npB : p ≠ B := ne_of_none hp1 nB
  have nbB : b ≠ B := ne_of_none hb1 nB
  have nLB : L ≠ B := ne_of_none hL nB
  refine ⟨_, rfl, p, a.cR, dx, _, rfl, (upd_ne npB).trans hp1, T.clR, T.nR_blocks, by show 2 < 1000; decide, ?_⟩
  refine ⟨by show 0 ≤ sizeLine; decide, fun Gd nG => ?_⟩
  have npG : p ≠ Gd := ne_of_none upd_same nG
  have nG2 : H1 Gd = none ∧ Gd ≠ B := by
    rw [upd_ne (Ne.symm npG)] at nG
    by_cases q : Gd = B
    · rw [q, upd_same] at nG
      cases nG
    · rw [upd_ne q] at nG
      exact ⟨nG, q⟩
  have nbG : b ≠ Gd := ne_of_none hb1 nG2.1
  have nLG : L ≠ Gd := ne_of_none hL nG2.1
  refine ⟨_, rfl, p, a.cR, dx, _, rfl, (upd_ne npG).trans upd_same, T.clR, T.nR_brackets, by show 3 < 1000; decide, ?_⟩
  refine ⟨_, rfl, p, a.cR, dx, _, rfl, upd_same, T.clR, T.nR_is_due, by show 4 < 1000; decide, ?_⟩
  rw [upd_upd]
  -- from H0 on
  have step : ∀ {y u}, H y = some u → y ≠ p → H1 y = some u := fun {y u} e n => by
    have e1 : upd H p (.ins a.cR dx (putF "closing" (.ref c) (putF "kinds" (.ref k) []))) y = some u := (upd_ne n).trans e
    exact kp1 y u (by rw [upd_ne (ne_of_none e1 nb), upd_ne (ne_of_none e1 ndb)]; exact e1) (ne_of_none e1 nb)
  have all : Same H0 (upd (upd (upd (upd H1 B (.lst [.ref b])) p (.ins a.cR dx (putF "blocks" (.ref B) (putF "closing" (.ref c) (putF "kinds" (.ref k) []))))) Gd (.lst [])) p (.ins a.cR dx (putF "is_due" (.bl false) (putF "brackets" (.ref Gd) (putF "blocks" (.ref B) (putF "closing" (.ref c) (putF "kinds" (.ref k) []))))))) := fun y u e => by
    have ny : y ≠ p := ne_of_none e np
    have e2 := step (s0 y u e) ny
    rw [upd_ne ny, upd_ne (ne_of_none e2 nG2.1), upd_ne ny, upd_ne (ne_of_none e2 nB)]
    exact e2
  have free0 : ∀ y, H1 y = none → y ≠ p → H0 y = none := fun y e n => by
    cases q : H0 y with
    | none => rfl
    | some u =>
      rw [step (s0 y u q) n] at e
      cases e
  have free1 : ∀ y, upd H p (.ins a.cR dx (putF "closing" (.ref c) (putF "kinds" (.ref k) []))) y = none → H0 y = none := fun y e => by
    have n : y ≠ p := fun z => by
      rw [z, upd_same] at e
      cases e
    rw [upd_ne n] at e
    exact s0.free e
  refine kk _ ⟨dx, k, c, B, Gd, [], [.ref b], [b, L], ⟨all, upd_same, hk, hc, ?_, ?_, .nil, ?_, fun y hy => ?_⟩, .inl ⟨rfl, b, db, L, rfl, rfl, ?_, ?_⟩⟩
  · rw [upd_ne (Ne.symm npB), upd_ne (Ne.symm nG2.2), upd_ne (Ne.symm npB), upd_same]
  · rw [upd_ne (Ne.symm npG), upd_same]
    rfl
  · simp only [List.nodup_cons, List.mem_cons, not_or, List.not_mem_nil, not_false_eq_true, and_true, List.nodup_nil]
    exact ⟨⟨npB, npG, npb, npL⟩, ⟨Ne.symm nG2.2, Ne.symm nbB, Ne.symm nLB⟩, ⟨Ne.symm nbG, Ne.symm nLG⟩, Ne.symm nLb⟩
  · simp only [List.mem_cons, List.not_mem_nil, or_false] at hy
    rcases hy with z | z | z | z | z
    · rw [z]
      exact ⟨np, _, upd_same⟩
    · rw [z]
      exact ⟨free0 B nB (Ne.symm npB), _, by rw [upd_ne (Ne.symm npB), upd_ne (Ne.symm nG2.2), upd_ne (Ne.symm npB), upd_same]⟩
    · rw [z]
      exact ⟨free0 Gd nG2.1 (Ne.symm npG), _, by rw [upd_ne (Ne.symm npG), upd_same]⟩
    · rw [z]
      exact ⟨free1 b nb, _, by rw [upd_ne (Ne.symm npb), upd_ne nbG, upd_ne (Ne.symm npb), upd_ne nbB]; exact hb1⟩
    · rw [z]
      exact ⟨free1 L nL0.1, _, by rw [upd_ne (Ne.symm npL), upd_ne nLG, upd_ne (Ne.symm npL), upd_ne nLB]; exact hL⟩
  · rw [upd_ne (Ne.symm npb), upd_ne nbG, upd_ne (Ne.symm npb), upd_ne nbB]
    exact hb1
  · rw [upd_ne (Ne.symm npL), upd_ne nLG, upd_ne (Ne.symm npL), upd_ne nLB]
    exact hL
theorem scCurrent : FnScope ["self"] ["self"] (defScope stRCurrent) := ⟨rfl, rfl, rfl, by decide +kernel, rfl, by decide +kernel, by decide +kernel⟩
theorem ok_current (T : Tx K mg a) : FnOk P w K mg base CX0 1 a.fRCurrent a.dRCurrent ["self"] (spCurrent a) := by
  refine T.rCurrent.fn.ok scCurrent (fun vs H Q E h => ?_) (fun cdv A outer s H vs Q E hr h => ?_)
  · obtain ⟨_, _, _, _, _, _, _, _, _, _, _, _, _, _, rfl, _⟩ := h
    rfl
  obtain ⟨r, dr, k, c, B, G, due, bs, b, d, L, cv, ls, v, rfl, hr1, hB, hbl, hb, hL, hv, q⟩ := h
  refine ⟨_, pss_one (ps_ret (pe_ix ix_list (pe_fld (pe_ix ix_list (pe_fld (pv 0) rfl) (pe_un un_neg pe_int) (fun _ _ => rfl)) rfl) (pe_un un_neg pe_int) (fun _ _ => rfl))), ?_⟩
  refine ⟨_, rfl, r, a.cR, dr, _, _, rfl, hr1, T.clR, T.nR_blocks, rF_blocks .., _, rfl, B, bs, -1, _, rfl, rfl, SqL.of hB, at_last hbl, ?_⟩
  exact ⟨b, a.cB, d, _, _, rfl, hb, T.clB, T.nB_statements, bF_statements .., _, rfl, L, ls, -1, _, rfl, rfl, SqL.of hL, at_last hv, q⟩
theorem scBeginSt : FnScope ["self"] ["self"] (defScope stRBeginSt) := ⟨rfl, rfl, rfl, by decide +kernel, rfl, by decide +kernel, by decide +kernel⟩
theorem ok_beginSt (T : Tx K mg a) : FnOk P w K mg base CX0 3 a.fRBeginSt a.dRBeginSt ["self"] (spBeginSt a) := by
  have G : FnOk P w K mg base CX0 1 a.fSInit a.dSInit ["self"] (spSInit a) := ok_sInit T
  refine T.rBeginSt.fn.ok scBeginSt (fun vs H Q E h => ?_) (fun cdv A outer s H vs Q E hr h => ?_)
  · obtain ⟨_, _, _, _, _, _, _, _, _, _, _, _, _, rfl, _⟩ := h
    rfl
  obtain ⟨r, dr, k, c, B, Gd, due, bs, b, d, L, cv, ls, rfl, hr1, hB, hbl, hb, hL, hlen, q⟩ := h
  refine ⟨_, pss_one (ps_expr (pe_bm PySem.F.plainAttrs_list PySem.F.slot_list_append PySem.F.type_list_append mt_append (pe_fld (pe_ix ix_list (pe_fld (pv 0) rfl) (pe_un un_neg pe_int) (fun _ _ => rfl)) rfl)
    (pa_cons (pe_make0 T.sInit.made G hr rfl T.sInit.g T.sInit.b .nil pass0) pa_nil))), ?_⟩
  refine ⟨_, rfl, r, a.cR, dr, _, _, rfl, hr1, T.clR, T.nR_blocks, rF_blocks .., _, rfl, B, bs, -1, _, rfl, rfl, SqL.of hB, at_last hbl, ?_⟩
  refine ⟨b, a.cB, d, _, _, rfl, hb, T.clB, T.nB_statements, bF_statements .., .inl ⟨rfl, _, SqL.of hL⟩, ?_⟩
  intro x dx nx ndx nxd
  refine ⟨x, dx, rfl, upd_same, fun H1 T1 kp nT nTx hT hx => ⟨rfl, ?_⟩⟩
  have nLx : L ≠ x := ne_of_none hL nx
  have nLd : L ≠ dx := ne_of_none hL ndx
  have up : ∀ {y u}, H y = some u → H1 y = some u := fun {y u} e => kp y u (by rw [upd_ne (ne_of_none e nx), upd_ne (ne_of_none e ndx)]; exact e) (ne_of_none e nx)
  have nT1 : H T1 = none := by
    rw [upd_ne nTx] at nT
    by_cases z : T1 = dx
    · rw [z, upd_same] at nT
      cases nT
    · rw [upd_ne z] at nT
      exact nT
  have nLT : L ≠ T1 := ne_of_none hL nT1
  refine ⟨L, ls, _, rfl, rfl, up hL, size_lt (by omega), ?_⟩
  refine q _ x dx T1 (fun y u e n => ?_) nx nT1 (Ne.symm nTx) upd_same ?_ ?_
  · rw [upd_ne n]
    exact up e
  · rw [upd_ne (Ne.symm nLx)]
    exact hx
  · rw [upd_ne (Ne.symm nLT)]
    exact hT
theorem szStack_head {o : Open} {l : List Open} : o.now.length + o.done.length ≤ szStack (o :: l) := by
  have h1 := szItems_len o.now
  have h2 := szAll_len o.done
  simp only [szStack, szOpen]
  omega
theorem scOpen : FnScope ["self", "column", "block"] ["self", "column"] (defScope stROpen) := ⟨rfl, rfl, rfl, by decide +kernel, rfl, by decide +kernel, by decide +kernel⟩
theorem ok_open (T : Tx K mg a) : FnOk P w K mg base (L2.CX P w) 4 a.fROpen a.dROpen ["self", "column"] (spOpen a) := by
  have GW : FnOk P w K mg base CX0 1 a.fWInit a.dWInit ["self", "what"] (spWInit a) := ok_wInit T
  have GB : FnOk P w K mg base CX0 1 a.fBInit a.dBInit ["self", "column"] (spBInit a) := ok_bInit T
  have GC : FnOk P w K mg base CX0 1 a.fRCurrent a.dRCurrent ["self"] (spCurrent a) := ok_current T
  have GS : FnOk P w K mg base CX0 3 a.fRBeginSt a.dRBeginSt ["self"] (spBeginSt a) := ok_beginSt T
  refine T.rOpen.fn.okX scOpen (fun vs H Q E h => ?_) (fun cdv A outer s H vs Q E hr h => ?_)
  · obtain ⟨H0, kd, cl, r, s, col, rfl, _⟩ := h
    rfl
  obtain ⟨H0, kd, cl, r, s, col, rfl, hRS, hne, h20, hsz, hout⟩ := h
  have nd := scOpen.nd
  have hr1 : Room 1 _ := hr.mono (by decide)
  have hr2 : Room 2 _ := hr.mono (by decide)
  refine ⟨_, pss_cons (ps_if (pt_cmpR op_eq (pe_callB call_len_seq (by rfl) T.b_len PySem.boot_len (pa_cons (pe_fld (pv 0) rfl) pa_nil)) (pe_gi rfl T.k_MOST_OPEN) (nomark _))
      (pss_one (ps_raise rfl (takes_of rfl rfl rfl rfl) (pmk_oex T.wOex T.wInit T.wTy GW hr2 T.wB .nil pass0 (by rfl) T.wG (pa_cons (pe_gi rfl T.k_TOO_DEEP) pa_nil)))) pss_nil)
    (pss_cons (ps_set (i := 2) nd rfl (Or.inl rfl) (pe_make T.bInit.made GB hr2 rfl T.bInit.g T.bInit.b .nil pass0 (pa_cons (pv 1) pa_nil)))
    (pss_cons (ps_expr (pe_bm PySem.F.plainAttrs_list PySem.F.slot_list_append PySem.F.type_list_append mt_append (pe_fld (pe_meth0 (pv 0) T.clR T.rCurrent.m GC hr1 T.rCurrent.b .nil pass0) rfl) (pa_cons (pv 2) pa_nil)))
    (pss_cons (ps_expr (pe_bm PySem.F.plainAttrs_list PySem.F.slot_list_append PySem.F.type_list_append mt_append (pe_fld (pv 0) rfl) (pa_cons (pv 2) pa_nil)))
    (pss_one (ps_expr (pe_meth0 (pv 0) T.clR T.rBeginSt.m GS hr T.rBeginSt.b .nil pass0)))))), ?_⟩
  obtain ⟨dr, k, c, B, G, op, bs, mu, fs, h, h2⟩ := hRS.open hne
  have h2' := h2
  obtain ⟨e1, e2, ch⟩ := h2'
  have lens := ch.len
  have lbs : bs.length = s.stack.length := by
    rw [e1, List.length_map, List.length_reverse]
    exact lens.1
  refine ⟨_, rfl, r, a.cR, dr, _, _, rfl, h.hr, T.clR, T.nR_blocks, rF_blocks .., B, _, rfl, .inl (SqL.of h.hB), rfl, _, rfl, ?_⟩
  rw [lbs]
  by_cases hd : Sq16.DEEP ≤ s.stack.length
  · have e : s.stack.length = 20 := Nat.le_antisymm h20 hd
    refine if_true_of (decide_eq_true (by rw [e]; rfl)) ?_
    rw [if_pos hd] at hout
    exact mkO_wrong h.same hout
  have hd' : ¬ 20 ≤ s.stack.length := hd
  refine if_false_of (decide_eq_false fun z => hd' (by injection z with z; omega)) ?_
  rw [if_neg hd] at hout
  cases hst : s.stack with
  | nil => exact absurd hst hne
  | cons o l =>
  cases fs with
  | nil =>
    rw [hst] at lens
    simp at lens
  | cons f fs =>
  have chh : FrOk a H (r :: B :: G :: mu) [] f o (Sq16.spanItems none o.now.reverse) ∧ Chain a H (r :: B :: G :: mu) [.ref f.b] fs l (spans (o :: l)).tail := by
    rw [hst] at ch
    exact ch
  obtain ⟨F, Crest⟩ := chh
  have hfT := F.hT
  rw [List.append_nil] at hfT
  have hlast : bs.getLast? = some (.ref f.b) := by
    rw [e1]
    exact last_block
  have lvs : f.vs.length ≤ 100000 := by
    have := F.it.len
    have q := szStack_head (o := o) (l := l)
    rw [List.length_reverse] at this
    rw [hst] at hsz
    omega
  have ndm := h.nd
  rw [e2, muts_cons] at ndm
  simp only [List.nodup_cons, List.mem_cons, not_or] at ndm
  obtain ⟨⟨_, _, rb, rL, rs, rT, rm⟩, ⟨_, Bb, BL, Bs, BT, Bm⟩, _, ⟨bL, bs_, bT, bm⟩, ⟨fLs, fLT, Lm⟩, ⟨fsT, sm⟩, Tm, _⟩ := ndm
  -- block = Block(column)
  refine ⟨_, rfl, ?_⟩
  intro x dx nx ndx nxd
  refine ⟨x, dx, colV col, rfl, upd_same, fun H1 L kp nL nLx hL hx => ⟨rfl, ?_⟩⟩
  have up : ∀ {y u}, H y = some u → H1 y = some u := fun {y u} e => kp y u (by rw [upd_ne (ne_of_none e nx), upd_ne (ne_of_none e ndx)]; exact e) (ne_of_none e nx)
  have nL0 : H L = none := by
    rw [upd_ne nLx] at nL
    by_cases z : L = dx
    · rw [z, upd_same] at nL
      cases nL
    · rw [upd_ne z] at nL
      exact nL
  -- self.current().things.append(block)
  refine ⟨_, rfl, r, dr, _, rfl, up h.hr, rF_no (by decide +kernel), r, dr, k, c, B, G, s.due, bs, f.b, f.db, f.L, _, _, _, rfl, up h.hr, up h.hB, hlast, up F.hb, up F.hL, last_snoc _ _, ?_⟩
  refine ⟨f.s, a.cS, f.ds, _, _, rfl, up F.hs, T.clS, T.nS_things, sF_things .., .inl ⟨rfl, _, SqL.of (up hfT)⟩, _, rfl, f.T, _, _, rfl, rfl, up hfT, size_lt (by omega), ?_⟩
  -- self.blocks.append(block)
  have hTx : f.T ≠ x := ne_of_none hfT nx
  have hTL : f.T ≠ L := ne_of_none hfT nL0
  have hBx : B ≠ x := ne_of_none h.hB nx
  have hBL : B ≠ L := ne_of_none h.hB nL0
  refine ⟨_, rfl, r, a.cR, dr, _, _, rfl, (upd_ne rT).trans (up h.hr), T.clR, T.nR_blocks, rF_blocks .., .inl ⟨rfl, _, SqL.of ((upd_ne BT).trans (up h.hB))⟩, _, rfl, B, bs, _, rfl, rfl, (upd_ne BT).trans (up h.hB), size_lt (by omega), ?_⟩
  -- self.begin_statement()
  have rB : r ≠ B := h.ne_rB
  refine ⟨_, rfl, r, dr, _, rfl, (upd_ne rB).trans ((upd_ne rT).trans (up h.hr)), rF_no (by decide +kernel), r, dr, k, c, B, G, s.due, bs ++ [.ref x], x, dx, L, colV col, [], rfl, (upd_ne rB).trans ((upd_ne rT).trans (up h.hr)), upd_same, last_snoc _ _,
    (upd_ne (Ne.symm hBx)).trans ((upd_ne (Ne.symm hTx)).trans hx), (upd_ne (Ne.symm hBL)).trans ((upd_ne (Ne.symm hTL)).trans hL), by decide, fun H2 s' ds' T' kp2 ns nT sT hL2 hs2 hT2 => ?_⟩
  have nold : ∀ {y}, (upd (upd H1 f.T (.lst (f.vs ++ [.ref x]))) B (.lst (bs ++ [.ref x]))) y = none → H y = none ∧ y ≠ x ∧ y ≠ L := fun {y} e => by
    have n1 : y ≠ B := fun z => by
      rw [z, upd_same] at e
      cases e
    rw [upd_ne n1] at e
    have n2 : y ≠ f.T := fun z => by
      rw [z, upd_same] at e
      cases e
    rw [upd_ne n2] at e
    refine ⟨?_, fun z => ?_, fun z => ?_⟩
    · cases q : H y with
      | none => rfl
      | some u =>
        rw [up q] at e
        cases e
    · rw [z, hx] at e
      cases e
    · rw [z, hL] at e
      cases e
  obtain ⟨ns0, nsx, nsL⟩ := nold ns
  obtain ⟨nT0, nTx, nTL⟩ := nold nT
  have keep2 : ∀ {y u}, (upd (upd H1 f.T (.lst (f.vs ++ [.ref x]))) B (.lst (bs ++ [.ref x]))) y = some u → y ≠ L → H2 y = some u := fun {y u} e n => kp2 y u e n
  refine hout H2 (RS.opened (H := H) (x := x) (d := dx) (L := L) (s' := s') (ds' := ds') (T' := T') (col := col) h hst h2 (fun y u e n1 n2 => ?_) nx nL0 ns0 nT0 (Ne.symm nLx) (Ne.symm nsx) (Ne.symm nTx) (Ne.symm nsL) (Ne.symm nTL) sT ?_ hL2 hs2 hT2 ?_ ?_)
  · refine keep2 ?_ (ne_of_none e nL0)
    rw [upd_ne n2, upd_ne n1]
    exact up e
  · refine keep2 ?_ (Ne.symm nLx)
    rw [upd_ne (Ne.symm hBx), upd_ne (Ne.symm hTx)]
    exact hx
  · refine keep2 ?_ hTL
    rw [upd_ne (Ne.symm BT), upd_same]
  · exact keep2 upd_same hBL
end
end Mr

/-! ## MrRead4 -/
set_option Elab.async false
set_option linter.all false
set_option maxRecDepth 100000
set_option maxHeartbeats 2000000
/-! # Reader: words -/
namespace Mr
open PySem PySem.Spec PyProof.Rows L2
open Sq16 (Item Open State Line)
section
variable {a : Ad} {kd : List Nat} {cl : List (Key × V)} {H0 H H' : Hp} {r : Addr}
/-- what is new in the heap does not touch the reader -/
theorem RS.mono {s : State} (h : RS a kd cl H0 H r s) (sm : Same H H') : RS a kd cl H0 H' r s := by
  obtain ⟨dr, k, c, B, G, op, bs, mu, h1, h2⟩ := h
  have e : ∀ x ∈ r :: B :: G :: mu, H' x = H x := fun x hx => by
    obtain ⟨_, o, q⟩ := h1.nw x hx
    rw [q]
    exact sm _ _ q
  have e2 : ∀ x ∈ mu, H' x = H x := fun x hx => e x (List.mem_cons_of_mem _ (List.mem_cons_of_mem _ (List.mem_cons_of_mem _ hx)))
  refine ⟨dr, k, c, B, G, op, bs, mu, ⟨h1.same.trans sm, sm _ _ h1.hr, h1.hk, h1.hc, sm _ _ h1.hB, sm _ _ h1.hG, h1.brk, h1.nd, fun x hx => ?_⟩, ?_⟩
  · obtain ⟨n, o, q⟩ := h1.nw x hx
    exact ⟨n, o, sm _ _ q⟩
  · rcases h2 with ⟨q, f⟩ | ⟨q, fs, f⟩
    · exact .inl ⟨q, f.off e2⟩
    · exact .inr ⟨q, fs, f.off (fun b u z _ => sm b u z) e2⟩
theorem muts_s_inj : ∀ {fs : List Fr}, (muts fs).Nodup → ∀ {i j : Nat} {g g' : Fr}, fs[i]? = some g → fs[j]? = some g' → i ≠ j → g.s ≠ g'.s
  | [], _, i, j, g, g', h, _, _ => by cases h
  | f :: fs, nd, i, j, g, g', h, h', n => by
    rw [muts_cons] at nd
    simp only [List.nodup_cons, List.mem_cons, not_or] at nd
    obtain ⟨_, _, ⟨_, sm⟩, _, ndm⟩ := nd
    cases i with
    | zero =>
      cases j with
      | zero => exact absurd rfl n
      | succ j =>
        obtain rfl : f = g := Option.some.inj h
        have m := (muts_mem (List.mem_of_getElem? (show fs[j]? = some g' from h'))).2.2.1
        exact fun z => sm (z ▸ m)
    | succ i =>
      cases j with
      | zero =>
        obtain rfl : f = g' := Option.some.inj h'
        have m := (muts_mem (List.mem_of_getElem? (show fs[i]? = some g from h))).2.2.1
        exact fun z => sm (z ▸ m)
      | succ j => exact muts_s_inj ndm (i := i) (j := j) h h' (fun z => n (by rw [z]))
end
section
variable {P : Program} {w : World} {K : PySem.W.Frag} {mg : Str → Option Value} {base : Heap} {a : Ad}
theorem scPut : FnScope ["self", "word", "number", "block"] ["self", "word", "number"] (defScope stRPut) := ⟨rfl, rfl, rfl, by decide +kernel, rfl, by decide +kernel, by decide +kernel⟩
theorem ok_put (T : Tx K mg a) : FnOk P w K mg base CX0 2 a.fRPut a.dRPut ["self", "word", "number"] (spPut a) := by
  have GT : FnOk P w K mg base CX0 1 a.fSTouch a.dSTouch ["self", "line"] (spSTouch a) := ok_sTouch T
  have GC : FnOk P w K mg base CX0 1 a.fRCurrent a.dRCurrent ["self"] (spCurrent a) := ok_current T
  refine T.rPut.fn.ok scPut (fun vs H Q E h => ?_) (fun cdv A outer s H vs Q E hr h => ?_)
  · obtain ⟨H0, kd, cl, r, s, ww, n, rfl, _⟩ := h
    rfl
  obtain ⟨H0, kd, cl, r, s, ww, n, rfl, hRS, hne, hsz, hle, kk⟩ := h
  have nd := scPut.nd
  refine ⟨_, pss_cons (ps_for PassesOwn.never rfl (pi_list (pe_fld (pv 0) rfl)) (pg_name (i := 3) nd rfl (Or.inl rfl))
      (pss_one (ps_expr (pe_meth (pe_ix ix_list (pe_fld (pv 3) rfl) (pe_un un_neg pe_int) (fun _ _ => rfl)) T.clS T.sTouch.m GT hr T.sTouch.b .nil pass0 (pa_cons (pv 2) pa_nil)))))
    (pss_one (ps_expr (pe_bm PySem.F.plainAttrs_list PySem.F.slot_list_append PySem.F.type_list_append mt_append (pe_fld (pe_meth0 (pv 0) T.clR T.rCurrent.m GC hr T.rCurrent.b .nil pass0) rfl) (pa_cons (pv 1) pa_nil)))), ?_⟩
  obtain ⟨dr, k, c, B, G, op, bs, mu, fs, h, h2⟩ := hRS.open hne
  have h2' := h2
  obtain ⟨e1, e2, ch⟩ := h2'
  have lens := ch.len
  have ndm : (muts fs).Nodup := e2 ▸ h.mu_nd
  have sep := muts_sep ndm
  have inM : ∀ x ∈ muts fs, x ∈ r :: B :: G :: mu := fun x hx => by
    rw [e2]
    exact List.mem_cons_of_mem _ (List.mem_cons_of_mem _ (List.mem_cons_of_mem _ hx))
  have offS : ∀ x, x ∉ muts fs → ∀ g ∈ fs, x ≠ g.s := fun x hx g hg z => hx (z ▸ (muts_mem hg).2.2.1)
  have rmu : r ∉ muts fs := e2 ▸ h.r_mu
  have Bmu : B ∉ muts fs := e2 ▸ h.B_mu
  refine ⟨_, rfl, r, a.cR, dr, _, _, rfl, h.hr, T.clR, T.nR_blocks, rF_blocks .., B, rfl, ⟨_, SqL.of h.hB⟩, for_list (K := K) (a := B) (xs := bs)
    (fun i σ H' => ∃ v3 : Option V, σ = [some (.ref r), some (.int ww), some (.int n), v3] ∧ (∀ b u, H b = some u → (∀ g ∈ fs, b ≠ g.s) → H' b = some u) ∧
      ∀ (j : Nat) (g : Fr) (sp : Span), fs.reverse[j]? = some g → (spans s.stack).reverse[j]? = some sp → H' g.s = some (.ins a.cS g.ds (sF g.T (spF (if j < i then touch n sp else sp)) (spL (if j < i then touch n sp else sp)))))
    ⟨none, rfl, fun b u e _ => e, fun j g sp h1 h2 => ?_⟩ (fun i σ H' _ ⟨v3, _, k1, _⟩ => SqL.of (k1 _ _ h.hB (offS B Bmu))) ?_ ?_⟩
  · rw [if_neg (Nat.not_lt_zero j)]
    have hj : j < fs.length := by
      have := (List.getElem?_eq_some_iff.mp h1).1
      rwa [List.length_reverse] at this
    rw [List.getElem?_reverse hj] at h1
    rw [List.getElem?_reverse (by omega), show (spans s.stack).length - 1 - j = fs.length - 1 - j by omega] at h2
    obtain ⟨o, sp2, chd, _, q2, F⟩ := ch.get h1
    rw [h2] at q2
    obtain rfl : sp = sp2 := Option.some.inj q2
    exact F.hs
  · rintro i y σ H1 hi ⟨v3, rfl, k1, k2⟩
    rw [e1, List.getElem?_map] at hi
    cases eg : fs.reverse[i]? with
    | none =>
      rw [eg] at hi
      cases hi
    | some g =>
    rw [eg] at hi
    obtain rfl : V.ref g.b = y := Option.some.inj hi
    have hi2 : i < fs.length := by
      have := (List.getElem?_eq_some_iff.mp eg).1
      rwa [List.length_reverse] at this
    have eg2 := eg
    rw [List.getElem?_reverse hi2] at eg2
    obtain ⟨o, sp, chd, q1, q2, F⟩ := ch.get eg2
    have hg : g ∈ fs := List.mem_of_getElem? eg2
    have q3 : (spans s.stack).reverse[i]? = some sp := by
      rw [List.getElem?_reverse (by omega), show (spans s.stack).length - 1 - i = fs.length - 1 - i by omega]
      exact q2
    have hs1 := k2 i g sp eg q3
    rw [if_neg (Nat.lt_irrefl i)] at hs1
    have hb1 := k1 _ _ F.hb fun g' hg' => (sep g hg g' hg').1
    have hL1 := k1 _ _ F.hL fun g' hg' => (sep g hg g' hg').2.1
    refine ⟨_, rfl, g.b, a.cB, g.db, _, _, rfl, hb1, T.clB, T.nB_statements, bF_statements .., _, rfl, g.L, _, -1, _, rfl, rfl, SqL.of hL1, at_last (last_snoc _ _), ?_⟩
    refine ⟨g.s, g.ds, _, rfl, hs1, sF_no (by decide +kernel), _, rfl, g.s, g.ds, g.T, sp, n, rfl, hs1, hle sp (List.mem_of_getElem? q2), fun H2 kp hs2 => ?_⟩
    refine ⟨_, rfl, fun b u e off => kp b u (k1 b u e off) (off g hg), fun j g' sp' h1 h2 => ?_⟩
    by_cases hji : j = i
    · subst hji
      rw [eg] at h1
      obtain rfl : g = g' := Option.some.inj h1
      rw [q3] at h2
      obtain rfl : sp = sp' := Option.some.inj h2
      rw [if_pos (Nat.lt_succ_self j)]
      exact hs2
    · have hne2 : g'.s ≠ g.s := by
        have hj : j < fs.length := by
          have := (List.getElem?_eq_some_iff.mp h1).1
          rwa [List.length_reverse] at this
        have h1' := h1
        rw [List.getElem?_reverse hj] at h1'
        exact muts_s_inj ndm h1' eg2 (by omega)
      have q := kp _ _ (k2 j g' sp' h1 h2) hne2
      by_cases hlt : j < i
      · rw [if_pos hlt] at q
        rw [if_pos (Nat.lt_succ_of_lt hlt)]
        exact q
      · rw [if_neg hlt] at q
        rw [if_neg (by omega)]
        exact q
  · rintro σ H1 ⟨v3, rfl, k1, k2⟩
    have lbs : bs.length = fs.length := by
      rw [e1, List.length_map, List.length_reverse]
    rw [lbs] at k2
    cases hst : s.stack with
    | nil => exact absurd hst hne
    | cons o l =>
    cases fs with
    | nil =>
      rw [hst] at lens
      simp at lens
    | cons f fs =>
    have chh : FrOk a H (r :: B :: G :: mu) [] f o (Sq16.spanItems none o.now.reverse) ∧ Chain a H (r :: B :: G :: mu) [.ref f.b] fs l (spans (o :: l)).tail := by
      rw [hst] at ch
      exact ch
    obtain ⟨F, Crest⟩ := chh
    have hlast : bs.getLast? = some (.ref f.b) := by
      rw [e1]
      exact last_block
    have lvs : f.vs.length ≤ 100000 := by
      have := F.it.len
      have q := szStack_head (o := o) (l := l)
      rw [List.length_reverse] at this
      rw [hst] at hsz
      omega
    have hf : f ∈ f :: fs := List.mem_cons_self
    have hfT := F.hT
    rw [List.append_nil] at hfT
    have touchedAll : ∀ (i : Nat) (g : Fr) (sp : Span), (f :: fs)[i]? = some g → (spans s.stack)[i]? = some sp → H1 g.s = some (.ins a.cS g.ds (sF g.T (spF (touch n sp)) (spL (touch n sp)))) := fun i g sp h1 h2 => by
      have hi : i < (f :: fs).length := (List.getElem?_eq_some_iff.mp h1).1
      have z := k2 ((f :: fs).length - 1 - i) g sp (by
        rw [List.getElem?_reverse (by omega), show (f :: fs).length - 1 - ((f :: fs).length - 1 - i) = i by omega]
        exact h1) (by
        rw [List.getElem?_reverse (by omega), show (spans s.stack).length - 1 - ((f :: fs).length - 1 - i) = i by omega]
        exact h2)
      rw [if_pos (by omega)] at z
      exact z
    have hr1 := k1 _ _ h.hr (offS r rmu)
    have hs1 := touchedAll 0 f (Sq16.spanItems none o.now.reverse) rfl (by rw [hst]; rfl)
    have hT1 := k1 _ _ hfT fun g' hg' => (sep f hf g' hg').2.2
    refine ⟨_, rfl, r, dr, _, rfl, hr1, rF_no (by decide +kernel), r, dr, k, c, B, G, s.due, bs, f.b, f.db, f.L, _, _, _, rfl, hr1, k1 _ _ h.hB (offS B Bmu), hlast, k1 _ _ F.hb fun g' hg' => (sep f hf g' hg').1, k1 _ _ F.hL fun g' hg' => (sep f hf g' hg').2.1, last_snoc _ _, ?_⟩
    refine ⟨f.s, a.cS, f.ds, _, _, rfl, hs1, T.clS, T.nS_things, sF_things .., .inl ⟨rfl, _, SqL.of hT1⟩, _, rfl, f.T, _, _, rfl, rfl, hT1, size_lt (by omega), ?_⟩
    refine kk _ (RS.put (H := H) h hst h2 (fun b u e off nT => ?_) (fun i g sp q1 q2 => ?_) upd_same)
    · rw [upd_ne nT]
      exact k1 b u e off
    · rw [upd_ne (Ne.symm (sep f hf g (List.mem_of_getElem? q1)).2.2)]
      exact touchedAll i g sp q1 q2
end
end Mr

/-! ## MrRead5 -/
set_option Elab.async false
set_option linter.all false
set_option maxRecDepth 100000
set_option maxHeartbeats 2000000
/-! # Reader: brackets, a word -/
namespace Mr
open PySem PySem.Spec PyProof.Rows L2
open Sq16 (Item Open State Line)
/-- a word of kind 1 or 2 -/
def brStep (ks : List Sq16.Kind) (w : Nat) (s : State) : Sq16.Read := match s.brackets, Sq16.kindOf ks w with
  | b, .opens c => .ok ⟨s.stack, c :: b, s.due⟩
  | b :: bs, .closes => if b = w then .ok ⟨s.stack, bs, s.due⟩ else .error 5
  | [], .closes => .error 5
  | b, _ => .ok s
def spBracket (a : Ad) : Sp := fun vs H Q E => ∃ (H0 : Hp) (kd : List Nat) (cl : List (Key × V)) (ks : List Sq16.Kind) (r : Addr) (s : State) (w : Nat), vs = [.ref r, .int w] ∧ RS a kd cl H0 H r s ∧ KindRel kd cl ks ∧ (kd[w]? = some 1 ∨ kd[w]? = some 2) ∧ s.brackets.length ≤ 100000 ∧
  Out a kd cl H0 r (brStep ks w s) Q E
def spWord (a : Ad) : Sp := fun vs H Q E => ∃ (H0 : Hp) (kd : List Nat) (cl : List (Key × V)) (ks : List Sq16.Kind) (r : Addr) (s : State) (w n : Nat) (last : Bool), vs = [.ref r, .int w, .int n, .bl last] ∧ RS a kd cl H0 H r s ∧ KindRel kd cl ks ∧ w < kd.length ∧ s.stack ≠ [] ∧ s.due = false ∧ s.stack.length ≤ 20 ∧
  szStack s.stack + s.brackets.length ≤ 50000 ∧ (∀ x ∈ spans s.stack, ∀ y, x = some y → y.1 ≤ n ∧ y.2 ≤ n) ∧ Out a kd cl H0 r (wordStep ks n w last s) Q E
def spWant (a : Ad) : Sp := fun vs H Q E => ∃ (H0 : Hp) (kd : List Nat) (cl : List (Key × V)) (r : Addr) (s : State) (w k : Nat), vs = [.ref r, .int w] ∧ RS a kd cl H0 H r s ∧ kd[w]? = some k ∧
  (k = 4 → ∀ (d : Addr) (H' : Hp), Same H0 H' → H' d = some (.xd [("what", .int 3)]) → E (.ref a.cW) (some d) H') ∧ (k ≠ 4 → Q .non H)
theorem dec_v (n m : Nat) : decide (V.int (n : Int) = V.int (m : Int)) = decide (n = m) := by
  by_cases q : n = m
  · rw [q, decide_eq_true rfl, decide_eq_true rfl]
  · rw [decide_eq_false q, decide_eq_false fun z => q (by injection z with z; omega)]
section
variable {P : Program} {w : World} {K : PySem.W.Frag} {mg : Str → Option Value} {base : Heap} {a : Ad}
theorem scBracket : FnScope ["self", "word"] ["self", "word"] (defScope stRBracket) := ⟨rfl, rfl, rfl, by decide +kernel, rfl, by decide +kernel, by decide +kernel⟩
theorem Brk.len {cl : List (Key × V)} {op br : List Nat} (h : Brk cl op br) : op.length = br.length := by
  have := Paired.length h
  rw [List.length_reverse] at this
  exact this
theorem ok_bracket (T : Tx K mg a) : FnOk P w K mg base (L2.CX P w) 3 a.fRBracket a.dRBracket ["self", "word"] (spBracket a) := by
  have GW : FnOk P w K mg base CX0 1 a.fWInit a.dWInit ["self", "what"] (spWInit a) := ok_wInit T
  refine T.rBracket.fn.okX scBracket (fun vs H Q E h => ?_) (fun cdv A outer s H vs Q E hr h => ?_)
  · obtain ⟨H0, kd, cl, ks, r, s, w, rfl, _⟩ := h
    rfl
  obtain ⟨H0, kd, cl, ks, r, s, w, rfl, hRS, hrel, hk12, hbl, hout⟩ := h
  refine ⟨_, pss_one (ps_if (pt_cmpR op_eq (pe_ix ix_list (pe_fld (pv 0) rfl) (pv 1) (fun _ _ => rfl)) (pe_gi rfl T.k_OPENS) (nomark _))
    (pss_one (ps_expr (pe_bm PySem.F.plainAttrs_list PySem.F.slot_list_append PySem.F.type_list_append mt_append (pe_fld (pv 0) rfl) (pa_cons (pv 1) pa_nil))))
    (pss_one (ps_if (PW.pt (pw_or (pt_cmpR (op_eqNil hr.units) (pe_fld (pv 0) rfl) (pe_lst pa_nil) (nomark _)) (pw_or1 (pt_cmpR op_ne (pe_dget (hu_of hr) (pe_fld (pv 0) rfl) (pe_ix ix_list (pe_fld (pv 0) rfl) (pe_un un_neg pe_int) (fun _ _ => rfl)) (fun _ _ => rfl)) (pv 1) (nomark _)))))
      (pss_one (ps_raise rfl (takes_of rfl rfl rfl rfl) (pmk_oex T.wOex T.wInit T.wTy GW hr T.wB .nil pass0 (by rfl) T.wG (pa_cons (pe_gi rfl T.k_NOT_CLOSING) pa_nil))))
      (pss_one (ps_expr (pe_bm0 PySem.F.plainAttrs_list PySem.F.slot_list_pop PySem.F.type_list_pop mt_pop (pe_fld (pv 0) rfl))))))), ?_⟩
  have hRS' := hRS
  obtain ⟨dr, k, c, B, G, op, bs, mu, h, h2⟩ := hRS'
  have hopl := h.brk.len
  have first : ∀ {kw : Nat} {Q' : Bool → Hp → Prop}, kd[w]? = some kw → Q' (decide (kw = 1)) H →
      tTest (tOp rEq (tOp (rIxL K) (tFld K (tVar 0) "kinds") (tVar 1)) (tC (.int 1))) (L2.start ["self", "word"] [.ref r, .int w]) H Q' := by
    intro kw Q' hkw q
    refine ⟨_, rfl, r, a.cR, dr, _, _, rfl, h.hr, T.clR, T.nR_kinds, rF_kinds .., _, rfl, k, _, _, _, rfl, rfl, SqL.of h.kindsAt, nv_at hkw, rfl, _, rfl, ?_⟩
    rw [show decide (V.int (kw : Int) = V.int 1) = decide (kw = 1) from dec_v kw 1]
    exact q
  rcases hk12 with hk | hk
  · refine first hk (if_true_of rfl ?_)
    obtain ⟨cw, h1, h3⟩ := hrel.k1 w hk
    have e : brStep ks w s = .ok ⟨s.stack, cw :: s.brackets, s.due⟩ := by
      unfold brStep
      rw [h1]
    rw [e] at hout
    refine ⟨_, rfl, r, a.cR, dr, _, _, rfl, h.hr, T.clR, T.nR_brackets, rF_brackets .., .inl ⟨rfl, _, SqL.of h.hG⟩, _, rfl, G, _, _, rfl, rfl, h.hG, by rw [nv_len]; exact size_lt (by omega), ?_⟩
    have e2 : nv op ++ [.int (w : Int)] = nv (op ++ [w]) := by
      rw [nv_append]
      rfl
    rw [e2]
    refine hout _ (RS.setBr (s := s) h h2 ?_)
    unfold Brk
    rw [List.reverse_append]
    exact .cons h3 h.brk
  · refine first hk (if_false_of rfl ?_)
    have h1 := hrel.k2 w hk
    refine ⟨_, rfl, r, a.cR, dr, _, _, rfl, h.hr, T.clR, T.nR_brackets, rF_brackets .., by show 0 ≤ sizeLine; decide, fun e0 he0 => ?_⟩
    have s0 := same_new he0 (.lst [])
    refine ⟨G, e0, _, rfl, rfl, SqL.of (s0 _ _ h.hG), SqL.of upd_same, _, rfl, ?_⟩
    cases hb : s.brackets with
    | nil =>
      have hop : op = [] := List.length_eq_zero_iff.mp (by rw [hopl, hb]; rfl)
      refine if_true_of (by rw [hop]; rfl) (if_true_of rfl ?_)
      have e : brStep ks w s = .error 5 := by
        unfold brStep
        rw [h1, hb]
      rw [e] at hout
      exact mkO_wrong (h.same.trans s0) hout
    | cons b br =>
      have hbrk := h.brk
      rw [hb] at hbrk
      unfold Brk at hbrk
      have hne : op ≠ [] := fun z => by
        rw [z, hb] at hopl
        simp at hopl
      obtain ⟨op', o, rfl⟩ : ∃ op' o, op = op' ++ [o] := ⟨op.dropLast, op.getLast hne, (List.dropLast_concat_getLast hne).symm⟩
      rw [List.reverse_append] at hbrk
      have hbrk2 : Paired (fun (w c : Nat) => valV cl (Sum.inl (w : Int)) = some (.int (c : Int))) (o :: op'.reverse) (b :: br) := hbrk
      cases hbrk2 with
      | cons q1 q2 =>
      have enil : (nv (op' ++ [o])).isEmpty = false := by
        rw [nv_append]
        cases nv op' <;> rfl
      have h' : RC a kd cl H0 (upd H e0 (.lst [])) r s.due s.brackets dr k c B G (op' ++ [o]) bs mu := ⟨h.same.trans s0, s0 _ _ h.hr, h.hk, h.hc, s0 _ _ h.hB, s0 _ _ h.hG, h.brk, h.nd, fun x hx => ⟨(h.nw x hx).1, (h.nw x hx).2.elim fun u z => ⟨u, s0 _ _ z⟩⟩⟩
      have glast : (nv (op' ++ [o])).getLast? = some (.int o) := by
        rw [nv_append]
        exact last_snoc _ _
      refine if_false_of enil ?_
      refine ⟨_, rfl, r, a.cR, dr, _, _, rfl, h'.hr, T.clR, T.nR_closing, rF_closing .., _, rfl, r, a.cR, dr, _, _, rfl, h'.hr, T.clR, T.nR_brackets, rF_brackets .., _, rfl, G, _, -1, _, rfl, rfl, SqL.of h'.hG, at_last glast, ?_⟩
      have dg : DGet (upd H e0 (.lst [])) c (.int o) (some (.int b)) := by
        have := DGet.k (k := Sum.inl (o : Int)) h'.closAt
        rw [q1] at this
        exact this
      refine ⟨c, _, rfl, dg, _, rfl, rfl, _, rfl, ?_⟩
      rw [show decide (V.int (b : Int) = V.int (w : Int)) = decide (b = w) from dec_v b w]
      by_cases hbw : b = w
      · refine if_false_of (by rw [decide_eq_true hbw]; rfl) ?_
        have e : brStep ks w s = .ok ⟨s.stack, br, s.due⟩ := by
          unfold brStep
          rw [h1, hb]
          exact if_pos hbw
        rw [e] at hout
        refine ⟨_, rfl, r, a.cR, dr, _, _, rfl, h'.hr, T.clR, T.nR_brackets, rF_brackets .., .inl ⟨rfl, _, SqL.of h'.hG⟩, G, _, .int o, rfl, rfl, h'.hG, ?_, ?_⟩
        · rw [← List.getLast?_eq_getElem?]
          exact glast
        · have e3 : (nv (op' ++ [o])).dropLast = nv op' := by
            rw [nv_append]
            exact List.dropLast_concat
          rw [e3]
          obtain ⟨dr2, k2, c2, B2, G2, op2, bs2, mu2, hh, hh2⟩ := hRS.mono s0
          have hst2 : (s.stack = [] ∧ RFresh a (upd H e0 (.lst [])) bs mu) ∨ (s.stack ≠ [] ∧ ∃ fs, ROpen a (upd H e0 (.lst [])) (r :: B :: G :: mu) bs mu s.stack fs) := by
            have ee : ∀ x ∈ mu, upd H e0 (.lst []) x = H x := fun x hx => by
              obtain ⟨_, u, z⟩ := h.nw x (List.mem_cons_of_mem _ (List.mem_cons_of_mem _ (List.mem_cons_of_mem _ hx)))
              rw [z]
              exact s0 _ _ z
            rcases h2 with ⟨q, f⟩ | ⟨q, fs, f⟩
            · exact .inl ⟨q, f.off ee⟩
            · exact .inr ⟨q, fs, f.off (fun b u z _ => s0 b u z) ee⟩
          exact hout _ (RS.setBr (s := s) h' hst2 q2)
      · refine if_true_of (by rw [decide_eq_false hbw]; rfl) ?_
        have e : brStep ks w s = .error 5 := by
          unfold brStep
          rw [h1, hb]
          exact if_neg hbw
        rw [e] at hout
        exact mkO_wrong (h.same.trans s0) hout
theorem scWant : FnScope ["self", "word"] ["self", "word"] (defScope stRWant) := ⟨rfl, rfl, rfl, by decide +kernel, rfl, by decide +kernel, by decide +kernel⟩
theorem ok_want (T : Tx K mg a) : FnOk P w K mg base (L2.CX P w) 3 a.fRWant a.dRWant ["self", "word"] (spWant a) := by
  have GW : FnOk P w K mg base CX0 1 a.fWInit a.dWInit ["self", "what"] (spWInit a) := ok_wInit T
  refine T.rWant.fn.okX scWant (fun vs H Q E h => ?_) (fun cdv A outer s H vs Q E hr h => ?_)
  · obtain ⟨H0, kd, cl, r, s, w, k, rfl, _⟩ := h
    rfl
  obtain ⟨H0, kd, cl, r, s, w, kw, rfl, hRS, hkw, kE, kQ⟩ := h
  refine ⟨_, pss_one (ps_if (pt_cmpR op_eq (pe_ix ix_list (pe_fld (pv 0) rfl) (pv 1) (fun _ _ => rfl)) (pe_gi rfl T.k_GOES_ON) (nomark _))
    (pss_one (ps_raise rfl (takes_of rfl rfl rfl rfl) (pmk_oex T.wOex T.wInit T.wTy GW hr T.wB .nil pass0 (by rfl) T.wG (pa_cons (pe_gi rfl T.k_BEGINS_SO) pa_nil)))) pss_nil), ?_⟩
  obtain ⟨dr, k, c, B, G, op, bs, mu, h⟩ := hRS.comps
  refine ⟨_, rfl, r, a.cR, dr, _, _, rfl, h.hr, T.clR, T.nR_kinds, rF_kinds .., _, rfl, k, _, _, _, rfl, rfl, SqL.of h.kindsAt, nv_at hkw, rfl, _, rfl, ?_⟩
  rw [show decide (V.int (kw : Int) = V.int 4) = decide (kw = 4) from dec_v kw 4]
  by_cases h4 : kw = 4
  · exact if_true_of (decide_eq_true h4) (mkO_wrong h.same (kE h4))
  · exact if_false_of (decide_eq_false h4) (kQ h4)
theorem scWord : FnScope ["self", "word", "number", "is_last"] ["self", "word", "number", "is_last"] (defScope stRWord) := ⟨rfl, rfl, rfl, by decide +kernel, rfl, by decide +kernel, by decide +kernel⟩
theorem ok_word (T : Tx K mg a) : FnOk P w K mg base (L2.CX P w) 5 a.fRWord a.dRWord ["self", "word", "number", "is_last"] (spWord a) := by
  have GP : FnOk P w K mg base CX0 2 a.fRPut a.dRPut ["self", "word", "number"] (spPut a) := ok_put T
  have GB : FnOk P w K mg base (L2.CX P w) 3 a.fRBracket a.dRBracket ["self", "word"] (spBracket a) := ok_bracket T
  have GO : FnOk P w K mg base (L2.CX P w) 4 a.fROpen a.dROpen ["self", "column"] (spOpen a) := ok_open T
  refine T.rWord.fn.okX scWord (fun vs H Q E h => ?_) (fun cdv A outer s H vs Q E hr h => ?_)
  · obtain ⟨H0, kd, cl, ks, r, s, w, n, last, rfl, _⟩ := h
    rfl
  obtain ⟨H0, kd, cl, ks, r, s, w, n, last, rfl, hRS, hrel, hw, hne, hdue, h20, hsz, hle, hout⟩ := h
  have hr2 : Room 2 _ := hr.mono (by decide)
  have hr3 : Room 3 _ := hr.mono (by decide)
  refine ⟨_, pss_cons (ps_expr (pe_meth (pv 0) T.clR T.rPut.m GP hr2 T.rPut.b .nil pass0 (pa_cons (pv 1) (pa_cons (pv 2) pa_nil))))
    (pss_one (ps_if (pt_cmpR op_in_seq (pe_ix ix_list (pe_fld (pv 0) rfl) (pv 1) (fun _ _ => rfl)) (pe_tup (pa_cons (pe_gi rfl T.k_OPENS) (pa_cons (pe_gi rfl T.k_CLOSES) pa_nil))) (by rfl))
      (pss_one (ps_expr (pe_meth (pv 0) T.clR T.rBracket.m GB hr3 T.rBracket.b .nil (passes_call (takes_of rfl rfl rfl rfl) (fun _ _ _ _ h => h)) (pa_cons (pv 1) pa_nil))))
      (pss_one (ps_if (PW.pt (pw_and (pt_cmpR op_eq (pe_ix ix_list (pe_fld (pv 0) rfl) (pv 1) (fun _ _ => rfl)) (pe_gi rfl T.k_BLOCK) (nomark _)) (pw_and1 (pt_cmpR (op_eqNil hr.units) (pe_fld (pv 0) rfl) (pe_lst pa_nil) (nomark _)))))
        (pss_one (ps_if (pt_val (pv 3)) (pss_one (ps_fld (pv 0) pe_bl rfl))
          (pss_one (ps_expr (pe_meth (pv 0) T.clR T.rOpen.m GO hr T.rOpen.b .nil (passes_call (takes_of rfl rfl rfl rfl) (fun _ _ _ _ h => h)) (pa_cons pe_non pa_nil))))))
        pss_nil)))), ?_⟩
  obtain ⟨dr, k, c, B, G, op, bs, mu, h⟩ := hRS.comps
  obtain ⟨kw, hkw⟩ : ∃ kw, kd[w]? = some kw := ⟨kd[w], List.getElem?_eq_getElem hw⟩
  have hkle := hrel.le w kw hkw
  refine ⟨_, rfl, r, dr, _, rfl, h.hr, rF_no (by decide +kernel), _, rfl, _, rfl, H0, kd, cl, r, s, w, n, rfl, hRS, hne, by omega, hle, fun H1 hR1 => ?_⟩
  have hR1' := hR1
  obtain ⟨dr1, k1, c1, B1, G1, op1, bs1, mu1, h1⟩ := hR1'.comps
  have hne1 : Sq16.putWord (.word w n) s.stack ≠ [] := fun z => by
    have := congrArg List.length z
    rw [putWord_len] at this
    exact hne (List.length_eq_zero_iff.mp this)
  have hlen1 : (Sq16.putWord (.word w n) s.stack).length = s.stack.length := putWord_len _ _
  have hsz1 := sz_putWord w n s.stack
  -- self.kinds[word] in (OPENS, CLOSES)
  refine ⟨_, rfl, r, a.cR, dr1, _, _, rfl, h1.hr, T.clR, T.nR_kinds, rF_kinds .., _, rfl, k1, _, _, _, rfl, rfl, SqL.of h1.kindsAt, nv_at hkw, by show 2 ≤ sizeLine; decide, fun tp htp => ?_⟩
  have s1 := same_new htp (.tup [.int 1, .int 2])
  have hR2 := hR1.mono s1
  obtain ⟨dr2, k2, c2, B2, G2, op2, bs2, mu2, h2, h2s⟩ := hR2
  have hR2 := hR1.mono s1
  refine ⟨tp, _, rfl, .inr (SqT.of upd_same), rfl, rfl, _, rfl, ?_⟩
  have ein : inV (.int (kw : Int)) [.int 1, .int 2] = decide (kw = 1 ∨ kw = 2) := by
    show ((1 : Int) == (kw : Int) || ((2 : Int) == (kw : Int) || false)) = decide (kw = 1 ∨ kw = 2)
    by_cases q1 : kw = 1
    · subst q1
      rfl
    by_cases q2 : kw = 2
    · subst q2
      rfl
    rw [decide_eq_false (by omega), beq_eq_false_iff_ne.mpr (by omega), beq_eq_false_iff_ne.mpr (by omega)]
    rfl
  show if (if false = true then !inV (.int (kw : Int)) [.int 1, .int 2] else inV (.int (kw : Int)) [.int 1, .int 2]) = true then _ else _
  rw [if_neg Bool.false_ne_true, ein]
  by_cases h12 : kw = 1 ∨ kw = 2
  · refine if_true_of (decide_eq_true h12) ?_
    refine ⟨_, rfl, r, dr2, _, rfl, h2.hr, rF_no (by decide +kernel), _, rfl, H0, kd, cl, ks, r, ⟨Sq16.putWord (.word w n) s.stack, s.brackets, s.due⟩, w, rfl, hR2, hrel, ?_, by show s.brackets.length ≤ 100000; omega, ?_⟩
    · rcases h12 with z | z
      · rw [z] at hkw
        exact .inl hkw
      · rw [z] at hkw
        exact .inr hkw
    · have e : wordStep ks n w last s = brStep ks w ⟨Sq16.putWord (.word w n) s.stack, s.brackets, s.due⟩ := by
        unfold wordStep brStep
        rw [hdue]
        rcases h12 with z | z
        · rw [z] at hkw
          obtain ⟨cw, q1, _⟩ := hrel.k1 w hkw
          rw [q1]
        · rw [z] at hkw
          rw [hrel.k2 w hkw]
          cases s.brackets <;> rfl
      rw [e] at hout
      exact hout
  · refine if_false_of (decide_eq_false h12) ?_
    -- self.kinds[word] == BLOCK
    refine ⟨_, rfl, r, a.cR, dr2, _, _, rfl, h2.hr, T.clR, T.nR_kinds, rF_kinds .., _, rfl, k2, _, _, _, rfl, rfl, SqL.of h2.kindsAt, nv_at hkw, rfl, _, rfl, ?_⟩
    rw [show decide (V.int (kw : Int) = V.int 3) = decide (kw = 3) from dec_v kw 3]
    by_cases h3 : kw = 3
    · subst h3
      have kb := hrel.k3 w hkw
      refine if_true_of (decide_eq_true rfl) ?_
      refine ⟨_, rfl, r, a.cR, dr2, _, _, rfl, h2.hr, T.clR, T.nR_brackets, rF_brackets .., by show 0 ≤ sizeLine; decide, fun e0 he0 => ?_⟩
      have s2 := same_new he0 (.lst [])
      have hR3 := hR2.mono s2
      refine ⟨G2, e0, _, rfl, rfl, SqL.of (s2 _ _ h2.hG), SqL.of upd_same, _, rfl, ?_⟩
      have hopl := h2.brk.len
      cases hb : s.brackets with
      | nil =>
        have hop : op2 = [] := List.length_eq_zero_iff.mp (by rw [hopl]; show s.brackets.length = 0; rw [hb]; rfl)
        refine if_true_of (by rw [hop]; rfl) ?_
        have hR3' := hR3
        obtain ⟨dr3, k3, c3, B3, G3, op3, bs3, mu3, h3, h3s⟩ := hR3'
        refine ⟨_, rfl, _, rfl, ?_⟩
        cases last with
        | true =>
          refine if_true_of rfl ?_
          have e : wordStep ks n w true s = .ok ⟨Sq16.putWord (.word w n) s.stack, [], true⟩ := by
            unfold wordStep
            rw [kb, hb]
            rfl
          rw [e] at hout
          refine ⟨_, rfl, r, a.cR, dr3, _, rfl, h3.hr, T.clR, T.nR_is_due, by show 5 < 1000; decide, ?_⟩
          rw [rF_setDue]
          have q := RS.setDue (d := true) h3 h3s
          have q2 : (⟨Sq16.putWord (.word w n) s.stack, s.brackets, true⟩ : State) = ⟨Sq16.putWord (.word w n) s.stack, [], true⟩ := by rw [hb]
          rw [← q2] at hout
          exact hout _ q
        | false =>
          refine if_false_of rfl ?_
          refine ⟨_, rfl, r, dr3, _, rfl, h3.hr, rF_no (by decide +kernel), H0, kd, cl, r, ⟨Sq16.putWord (.word w n) s.stack, s.brackets, s.due⟩, none, rfl, hR3, hne1, by show (Sq16.putWord (.word w n) s.stack).length ≤ 20; omega, by show szStack (Sq16.putWord (.word w n) s.stack) ≤ 100000; omega, ?_⟩
          have e : wordStep ks n w false s = (if Sq16.DEEP ≤ (Sq16.putWord (.word w n) s.stack).length then .error 7 else .ok ⟨⟨none, [], []⟩ :: Sq16.putWord (.word w n) s.stack, s.brackets, s.due⟩) := by
            unfold wordStep
            rw [kb, hb, hdue]
            rfl
          rw [e] at hout
          exact hout
      | cons b br =>
        have hne2 : op2 ≠ [] := fun z => by
          rw [z] at hopl
          have : (0 : Nat) = s.brackets.length := hopl
          rw [hb] at this
          simp at this
        refine if_false_of (by cases q : op2 with | nil => exact absurd q hne2 | cons => rfl) ?_
        have e : wordStep ks n w last s = .ok ⟨Sq16.putWord (.word w n) s.stack, s.brackets, s.due⟩ := by
          unfold wordStep
          rw [kb, hb, hdue]
        rw [e] at hout
        exact hout _ hR3
    · refine if_false_of (decide_eq_false h3) (if_false_of rfl ?_)
      have e : wordStep ks n w last s = .ok ⟨Sq16.putWord (.word w n) s.stack, s.brackets, s.due⟩ := by
        unfold wordStep
        rw [hdue]
        have : kw = 0 ∨ kw = 4 := by omega
        rcases this with z | z
        · rw [z] at hkw
          rw [hrel.k0 w hkw]
        · rw [z] at hkw
          rw [hrel.k4 w hkw]
      rw [e] at hout
      exact hout _ hR2
end
end Mr

/-! ## MrRead6 -/
set_option Elab.async false
set_option linter.all false
set_option maxRecDepth 100000
set_option maxHeartbeats 2000000
/-! # Reader: a line's beginning, blocks closed -/
namespace Mr
open PySem PySem.Spec PyProof.Rows L2
open Sq16 (Item Open State Line)
def closesBy (col : Nat) : Option Nat → Bool
  | none => true
  | some d => decide (col < d)
def toClose (col : Nat) : List Open → Bool
  | o :: _ :: _ => closesBy col o.column
  | _ => false
theorem settle_no {col : Nat} : ∀ (f : Nat) (b : Bool) (l : List Open), toClose col l = false → Sq16.settle col f b l = (b, l)
  | 0, b, l, _ => settle_zero col b l
  | f + 1, b, [], _ => by simp [Sq16.settle]
  | f + 1, b, [o], _ => settle_one col (f + 1) b o
  | f + 1, b, o :: p :: l, h => by
    rw [settle_two]
    have h' : closesBy col o.column = false := h
    cases hc : o.column with
    | none =>
      rw [hc] at h'
      cases h'
    | some d =>
      rw [hc] at h'
      simp only
      rw [if_neg (of_decide_eq_false h')]
theorem settle_yes {col : Nat} (f : Nat) (b : Bool) (o p : Open) (l : List Open) (h : toClose col (o :: p :: l) = true) : Sq16.settle col (f + 1) b (o :: p :: l) = Sq16.settle col f (b || o.column.isSome) (Sq16.close (o :: p :: l)) := by
  rw [settle_two]
  have h' : closesBy col o.column = true := h
  cases hc : o.column with
  | none => simp
  | some d =>
    rw [hc] at h'
    simp only
    rw [if_pos (of_decide_eq_true h')]
    simp
theorem toClose_two {col : Nat} {l : List Open} (h : toClose col l = true) : ∃ o p r, l = o :: p :: r := by
  match l, h with
  | o :: p :: r, _ => exact ⟨o, p, r, rfl⟩
theorem columnOf_cons (o : Open) (l : List Open) : Sq16.columnOf (o :: l) = match o.column with
    | some c => c
    | none => Sq16.columnOf l := rfl
theorem columnOf_last : ∀ {l : List Open}, (∃ o ∈ l, o.column ≠ none) → ((l.reverse.filterMap (·.column))).getLast? = some (Sq16.columnOf l)
  | [], h => by
    obtain ⟨o, ho, _⟩ := h
    cases ho
  | o :: l, h => by
    rw [List.reverse_cons, List.filterMap_append, columnOf_cons]
    cases hc : o.column with
    | some c => simp [hc]
    | none =>
      have : ([o].filterMap (·.column)) = [] := by simp [hc]
      rw [this, List.append_nil]
      refine columnOf_last ?_
      obtain ⟨q, hq, hn⟩ := h
      rcases List.mem_cons.mp hq with e | hq
      · rw [e] at hn
        exact absurd hc hn
      · exact ⟨q, hq, hn⟩
def textStep (on : Bool) (col : Nat) (s : State) : Sq16.Read := if on = true then .error 3 else .ok ⟨[⟨some col, [], []⟩], s.brackets, s.due⟩
def dueStep (on : Bool) (col : Nat) (s : State) : Sq16.Read := if col ≤ Sq16.columnOf s.stack then .error 2 else if on = true then .error 3 else if Sq16.DEEP ≤ s.stack.length then .error 7 else .ok ⟨⟨some col, [], []⟩ :: s.stack, s.brackets, false⟩
def goStep (on : Bool) (col : Nat) (s : State) : Sq16.Read := match (Sq16.settle col s.stack.length false s.stack).2 with
  | [] => .error 1
  | o :: l =>
    if col < Sq16.columnOf (o :: l) then .error 1
    else if col = Sq16.columnOf (o :: l) then
      if on = true then .ok ⟨o :: l, s.brackets, s.due⟩ else .ok ⟨⟨o.column, o.now.reverse :: o.done, []⟩ :: l, s.brackets, s.due⟩
    else if (Sq16.settle col s.stack.length false s.stack).1 = true then .error 1
    else if (Sq16.endsInBlock o && !on) = true then .error 4
    else .ok ⟨o :: l, s.brackets, s.due⟩
def spBeginText (a : Ad) : Sp := fun vs H Q E => ∃ (H0 : Hp) (kd : List Nat) (cl : List (Key × V)) (r : Addr) (s : State) (col w k : Nat), vs = [.ref r, .int col, .int w] ∧ RS a kd cl H0 H r s ∧ s.stack = [] ∧ kd[w]? = some k ∧ Out a kd cl H0 r (textStep (decide (k = 4)) col s) Q E
def spBeginDue (a : Ad) : Sp := fun vs H Q E => ∃ (H0 : Hp) (kd : List Nat) (cl : List (Key × V)) (r : Addr) (s : State) (n c col w k : Nat), vs = [.ref r, .int col, .int w] ∧ RS a kd cl H0 H r s ∧ s.stack ≠ [] ∧ Rdy n c s ∧ c ≤ 50000 ∧ kd[w]? = some k ∧ Out a kd cl H0 r (dueStep (decide (k = 4)) col s) Q E
def spToClose (a : Ad) : Sp := fun vs H Q _ => ∃ (H0 : Hp) (kd : List Nat) (cl : List (Key × V)) (r : Addr) (s : State) (col : Nat), vs = [.ref r, .int col] ∧ RS a kd cl H0 H r s ∧ s.stack ≠ [] ∧ Q (.bl (toClose col s.stack)) H
def spClose (a : Ad) : Sp := fun vs H Q _ => ∃ (H0 : Hp) (kd : List Nat) (cl : List (Key × V)) (r : Addr) (s : State) (col : Nat), vs = [.ref r, .int col] ∧ RS a kd cl H0 H r s ∧ s.stack ≠ [] ∧ (∀ x ∈ spans s.stack, x ≠ none) ∧
  ∀ H', RS a kd cl H0 H' r ⟨(Sq16.settle col s.stack.length false s.stack).2, s.brackets, s.due⟩ → Q (.bl (Sq16.settle col s.stack.length false s.stack).1) H'
def spGoOn (a : Ad) : Sp := fun vs H Q E => ∃ (H0 : Hp) (kd : List Nat) (cl : List (Key × V)) (r : Addr) (s : State) (n c col w k : Nat), vs = [.ref r, .int col, .int w] ∧ RS a kd cl H0 H r s ∧ s.stack ≠ [] ∧ Rdy n c s ∧ c ≤ 50000 ∧ kd[w]? = some k ∧ Out a kd cl H0 r (goStep (decide (k = 4)) col s) Q E
section
variable {P : Program} {w : World} {K : PySem.W.Frag} {mg : Str → Option Value} {base : Heap} {a : Ad}
theorem scBeginText : FnScope ["self", "column", "word"] ["self", "column", "word"] (defScope stRBeginText) := ⟨rfl, rfl, rfl, by decide +kernel, rfl, by decide +kernel, by decide +kernel⟩
theorem ok_beginText (T : Tx K mg a) : FnOk P w K mg base (L2.CX P w) 4 a.fRBeginText a.dRBeginText ["self", "column", "word"] (spBeginText a) := by
  have GW : FnOk P w K mg base (L2.CX P w) 3 a.fRWant a.dRWant ["self", "word"] (spWant a) := ok_want T
  have GS : FnOk P w K mg base CX0 3 a.fRBeginSt a.dRBeginSt ["self"] (spBeginSt a) := ok_beginSt T
  refine T.rBeginText.fn.okX scBeginText (fun vs H Q E h => ?_) (fun cdv A outer s H vs Q E hr h => ?_)
  · obtain ⟨H0, kd, cl, r, s, col, w, k, rfl, _⟩ := h
    rfl
  obtain ⟨H0, kd, cl, r, s, col, w, kw, rfl, hRS, hst, hkw, hout⟩ := h
  refine ⟨_, pss_cons (ps_expr (pe_meth (pv 0) T.clR T.rWant.m GW hr T.rWant.b .nil (passes_call (takes_of rfl rfl rfl rfl) (fun _ _ _ _ h => h)) (pa_cons (pv 2) pa_nil)))
    (pss_cons (ps_fld (pe_ix ix_list (pe_fld (pv 0) rfl) pe_int (fun _ _ => rfl)) (pv 1) rfl)
    (pss_one (ps_expr (pe_meth0 (pv 0) T.clR T.rBeginSt.m GS hr T.rBeginSt.b .nil pass0)))), ?_⟩
  obtain ⟨dr, k, c, B, G, op, bs, mu, h, b, d, L, rfl, rfl, hb, hL⟩ := hRS.fresh hst
  refine ⟨_, rfl, r, dr, _, rfl, h.hr, rF_no (by decide +kernel), _, rfl, H0, kd, cl, r, s, w, kw, rfl, hRS, hkw, fun h4 => ?_, fun h4 => ?_⟩
  · have e : textStep (decide (kw = 4)) col s = .error 3 := by
      unfold textStep
      rw [if_pos (decide_eq_true h4)]
    rw [e] at hout
    exact hout
  have e : textStep (decide (kw = 4)) col s = .ok ⟨[⟨some col, [], []⟩], s.brackets, s.due⟩ := by
    unfold textStep
    rw [if_neg (by rw [decide_eq_false h4]; decide)]
  rw [e] at hout
  have nd := h.nd
  simp only [List.nodup_cons, List.mem_cons, not_or, List.not_mem_nil, not_false_eq_true, and_true, List.nodup_nil] at nd
  obtain ⟨⟨_, _, rb, rL⟩, ⟨_, Bb, BL⟩, ⟨Gb, GL⟩, bL⟩ := nd
  refine ⟨_, rfl, _, rfl, r, a.cR, dr, _, _, rfl, h.hr, T.clR, T.nR_blocks, rF_blocks .., B, _, 0, _, rfl, rfl, SqL.of h.hB, atI_nat (j := 0) rfl, b, a.cB, d, _, rfl, hb, T.clB, T.nB_column, by show 2 < 1000; decide, ?_⟩
  rw [bF_setColumn]
  refine ⟨_, rfl, r, dr, _, rfl, (upd_ne rb).trans h.hr, rF_no (by decide +kernel), r, dr, k, c, B, G, s.due, _, b, d, L, .int col, [], rfl, (upd_ne rb).trans h.hr, (upd_ne Bb).trans h.hB, rfl, upd_same, (upd_ne (Ne.symm bL)).trans hL, by decide, fun H1 s' ds' T' kp ns nT sT hL1 hs1 hT1 => ?_⟩
  have old : ∀ {y}, upd H b (.ins a.cB d (bF (.int col) L)) y = none → H y = none := fun {y} e => by
    have n : y ≠ b := fun z => by
      rw [z, upd_same] at e
      cases e
    rw [upd_ne n] at e
    exact e
  exact hout H1 (RS.text (H := H) h (fun y u e n1 n2 => kp y u (by rw [upd_ne n1]; exact e) n2) (old ns) (old nT) sT (kp _ _ upd_same bL) hL1 hs1 hT1)
theorem scToClose : FnScope ["self", "column", "own"] ["self", "column"] (defScope stRToClose) := ⟨rfl, rfl, rfl, by decide +kernel, rfl, by decide +kernel, by decide +kernel⟩
theorem ok_toClose (T : Tx K mg a) : FnOk P w K mg base CX0 1 a.fRToClose a.dRToClose ["self", "column"] (spToClose a) := by
  refine T.rToClose.fn.ok scToClose (fun vs H Q E h => ?_) (fun cdv A outer s H vs Q E hr h => ?_)
  · obtain ⟨H0, kd, cl, r, s, col, rfl, _⟩ := h
    rfl
  obtain ⟨H0, kd, cl, r, s, col, rfl, hRS, hne, q⟩ := h
  have nd := scToClose.nd
  refine ⟨_, pss_cons (ps_set (i := 2) nd rfl (Or.inl rfl) (pe_fld (pe_ix ix_list (pe_fld (pv 0) rfl) (pe_un un_neg pe_int) (fun _ _ => rfl)) rfl))
    (pss_one (ps_ret (pe_and (pe_cmpR op_gt (pe_callB call_len_seq (by rfl) T.b_len PySem.boot_len (pa_cons (pe_fld (pv 0) rfl) pa_nil)) pe_int (nomark _)) (pe_one (pe_or (pe_cmpR op_isN (pv 2) pe_non (nomark _)) (pe_one (pe_cmpR op_gt (pv 2) (pv 1) (nomark _)))))))), ?_⟩
  obtain ⟨dr, k, c, B, G, op, bs, mu, fs, h, e1, e2, ch⟩ := hRS.open hne
  have lens := ch.len
  have lbs : bs.length = s.stack.length := by
    rw [e1, List.length_map, List.length_reverse]
    exact lens.1
  cases hst : s.stack with
  | nil => exact absurd hst hne
  | cons o l =>
  cases fs with
  | nil =>
    rw [hst] at lens
    simp at lens
  | cons f fs =>
  rw [hst] at ch q lbs
  have F : FrOk a H (r :: B :: G :: mu) [] f o (Sq16.spanItems none o.now.reverse) := ch.1
  have hlast : bs.getLast? = some (.ref f.b) := by
    rw [e1]
    exact last_block
  refine ⟨_, rfl, r, a.cR, dr, _, _, rfl, h.hr, T.clR, T.nR_blocks, rF_blocks .., _, rfl, B, bs, -1, _, rfl, rfl, SqL.of h.hB, at_last hlast, f.b, a.cB, f.db, _, _, rfl, F.hb, T.clB, T.nB_column, bF_column .., ?_⟩
  refine ⟨_, rfl, r, a.cR, dr, _, _, rfl, h.hr, T.clR, T.nR_blocks, rF_blocks .., B, _, rfl, .inl (SqL.of h.hB), _, _, rfl, rfl, _, rfl, ?_⟩
  rw [lbs]
  cases l with
  | nil => exact if_false_of rfl q
  | cons p l =>
    refine if_true_of (decide_eq_true (by simp only [List.length_cons]; omega)) ?_
    have q : Q (.bl (closesBy col o.column)) H := q
    cases hc : o.column with
    | none =>
      rw [hc] at q
      refine ⟨_, rfl, rfl, _, rfl, ?_⟩
      exact if_true_of rfl q
    | some d =>
      rw [hc] at q
      refine ⟨_, rfl, rfl, _, rfl, ?_⟩
      refine if_false_of rfl ⟨_, rfl, _, rfl, _, _, rfl, rfl, ?_⟩
      dsimp only
      rw [dec_lt]
      exact q
theorem scClose : FnScope ["self", "column", "found"] ["self", "column"] (defScope stRClose) := ⟨rfl, rfl, rfl, by decide +kernel, rfl, by decide +kernel, by decide +kernel⟩
theorem ok_close (T : Tx K mg a) : FnOk P w K mg base CX0 2 a.fRClose a.dRClose ["self", "column"] (spClose a) := by
  have GT : FnOk P w K mg base CX0 1 a.fRToClose a.dRToClose ["self", "column"] (spToClose a) := ok_toClose T
  refine T.rClose.fn.ok scClose (fun vs H Q E h => ?_) (fun cdv A outer s H vs Q E hr h => ?_)
  · obtain ⟨H0, kd, cl, r, s, col, rfl, _⟩ := h
    rfl
  obtain ⟨H0, kd, cl, r, s, col, rfl, hRS, hne, hsp, kk⟩ := h
  have nd := scClose.nd
  refine ⟨_, pss_cons (ps_set (i := 2) nd rfl (Or.inl rfl) pe_bl)
    (pss_cons (ps_while PassesOwn.never (pt_val (pe_meth (pv 0) T.clR T.rToClose.m GT hr T.rToClose.b .nil pass0 (pa_cons (pv 1) pa_nil)))
      (pss_one (ps_if (pt_cmpR op_notN (pe_fld (pe_bm0 PySem.F.plainAttrs_list PySem.F.slot_list_pop PySem.F.type_list_pop mt_pop (pe_fld (pv 0) rfl)) rfl) pe_non (nomark _)) (pss_one (ps_set (i := 2) nd rfl (Or.inl rfl) pe_bl)) pss_nil)))
    (pss_one (ps_ret (pv 2)))), ?_⟩
  refine ⟨fun m σ H' => ∃ (st : List Open) (f : Nat) (b : Bool), m = st.length ∧ st ≠ [] ∧ st.length ≤ f + 1 ∧ σ = [some (.ref r), some (.int col), some (.bl b)] ∧ RS a kd cl H0 H' r ⟨st, s.brackets, s.due⟩ ∧ (∀ x ∈ spans st, x ≠ none) ∧ Sq16.settle col f b st = Sq16.settle col s.stack.length false s.stack,
    ⟨_, s.stack, s.stack.length, false, rfl, hne, Nat.le_succ _, rfl, hRS, hsp, rfl⟩, ?_⟩
  rintro m σ H1 ⟨st, f, b, rfl, hst, hf, rfl, hR, hs, hset⟩
  obtain ⟨dr, k, c, B, G, op, bs, mu, fs, h, h2⟩ := hR.open hst
  refine ⟨_, rfl, r, dr, _, rfl, h.hr, rF_no (by decide +kernel), _, rfl, H0, kd, cl, r, ⟨st, s.brackets, s.due⟩, col, rfl, hR, hst, _, rfl, ?_⟩
  cases htc : toClose col st with
  | false =>
    refine if_false_of rfl ⟨_, rfl, ?_⟩
    have e := settle_no f b st htc
    rw [e] at hset
    have q := kk H1
    rw [← hset] at q
    exact q hR
  | true =>
    obtain ⟨o, p, l, rfl⟩ := toClose_two htc
    refine if_true_of rfl ⟨fun σ' H' => ∃ m', m' < (o :: p :: l).length ∧ ∃ (st : List Open) (f : Nat) (b : Bool), m' = st.length ∧ st ≠ [] ∧ st.length ≤ f + 1 ∧ σ' = [some (.ref r), some (.int col), some (.bl b)] ∧ RS a kd cl H0 H' r ⟨st, s.brackets, s.due⟩ ∧ (∀ x ∈ spans st, x ≠ none) ∧ Sq16.settle col f b st = Sq16.settle col s.stack.length false s.stack, fun _ _ h => h, ?_⟩
    have h2' := h2
    obtain ⟨e1, e2, ch⟩ := h2'
    have lens := ch.len
    cases fs with
    | nil => simp at lens
    | cons f1 fs =>
    cases fs with
    | nil => simp at lens
    | cons g fs =>
    have F : FrOk a H1 (r :: B :: G :: mu) [] f1 o (Sq16.spanItems none o.now.reverse) := ch.1
    have hlast : bs.getLast? = some (.ref f1.b) := by
      rw [e1]
      exact last_block
    have hsp1 : Sq16.spanItems none o.now.reverse ≠ none := hs _ List.mem_cons_self
    obtain ⟨y, hy⟩ := Option.ne_none_iff_exists'.mp hsp1
    have hbB : f1.b ≠ B := fun z => h.B_mu (by rw [e2, ← z]; exact (muts_mem List.mem_cons_self).1)
    refine ⟨_, rfl, r, a.cR, dr, _, _, rfl, h.hr, T.clR, T.nR_blocks, rF_blocks .., .inl ⟨rfl, _, SqL.of h.hB⟩, B, bs, .ref f1.b, rfl, rfl, h.hB, by rw [← List.getLast?_eq_getElem?]; exact hlast, f1.b, a.cB, f1.db, _, _, rfl, (upd_ne hbB).trans F.hb, T.clB, T.nB_column, bF_column .., rfl, _, rfl, ?_⟩
    have hpop := RS.pop (f0 := y.1) (n0 := y.2) h rfl h2 hy
    obtain ⟨f', rfl⟩ : ∃ f', f = f' + 1 := ⟨f - 1, by simp only [List.length_cons] at hf; omega⟩
    have hset2 := settle_yes f' b o p l htc
    rw [hset2] at hset
    have hs2 : ∀ x ∈ spans (Sq16.close (o :: p :: l)), x ≠ none := by
      rw [spans_close]
      exact fun x hx => hs x (List.mem_of_mem_tail hx)
    have hlen : (Sq16.close (o :: p :: l)).length = l.length + 1 := rfl
    have hfin : ∀ bb : Bool, bb = (b || o.column.isSome) → ∃ m', m' < (o :: p :: l).length ∧ ∃ (st : List Open) (f : Nat) (b : Bool), m' = st.length ∧ st ≠ [] ∧ st.length ≤ f + 1 ∧ ([some (.ref r), some (.int col), some (.bl bb)] : L2.St) = [some (.ref r), some (.int col), some (.bl b)] ∧ RS a kd cl H0 (upd H1 B (.lst bs.dropLast)) r ⟨st, s.brackets, s.due⟩ ∧ (∀ x ∈ spans st, x ≠ none) ∧ Sq16.settle col f b st = Sq16.settle col s.stack.length false s.stack := fun bb hbb =>
      ⟨l.length + 1, by simp only [List.length_cons]; omega, Sq16.close (o :: p :: l), f', b || o.column.isSome, rfl, by simp [Sq16.close], by rw [hlen]; simp only [List.length_cons] at hf; omega, by rw [hbb], hpop, hs2, hset⟩
    cases hc : o.column with
    | none =>
      rw [hc] at hfin
      refine if_false_of rfl ?_
      exact hfin b (by simp)
    | some d =>
      rw [hc] at hfin
      refine if_true_of rfl ?_
      exact hfin true (by simp)
end
end Mr

/-! ## MrRead7 -/
set_option Elab.async false
set_option linter.all false
set_option maxRecDepth 100000
set_option maxHeartbeats 2000000
/-! # Reader: begin_due, go_on, begin_line -/
namespace Mr
open PySem PySem.Spec PyProof.Rows L2
open Sq16 (Item Open State Line)
theorem ItemsAt.snoc {a : Ad} {H : Hp} {M : List Addr} : ∀ {l : List Item} {x : Item} {vs : List V}, ItemsAt a H M vs (l ++ [x]) → ∃ vs' v, vs = vs' ++ [v] ∧ ItemsAt a H M vs' l ∧ ItemAt a H M v x
  | [], x, vs, h => by
    rw [List.nil_append, itemsAt_cons] at h
    obtain ⟨v, r, e, h1, h2⟩ := h
    rw [itemsAt_nil] at h2
    exact ⟨[], v, by rw [e, h2]; rfl, ItemsAt.nil, h1⟩
  | y :: l, x, vs, h => by
    rw [List.cons_append, itemsAt_cons] at h
    obtain ⟨v, r, e, h1, h2⟩ := h
    obtain ⟨vs', u, e2, h3, h4⟩ := ItemsAt.snoc h2
    exact ⟨v :: vs', u, by rw [e, e2]; rfl, by rw [itemsAt_cons]; exact ⟨v, vs', rfl, h1, h3⟩, h4⟩
theorem last_mem {α : Type} {l : List α} {x : α} (h : l.getLast? = some x) : x ∈ l := List.mem_of_getLast? h
section
variable {P : Program} {w : World} {K : PySem.W.Frag} {mg : Str → Option Value} {base : Heap} {a : Ad}
theorem scBeginDue : FnScope ["self", "column", "word", "columns", "block"] ["self", "column", "word"] (defScope stRBeginDue) := ⟨rfl, rfl, rfl, by decide +kernel, rfl, by decide +kernel, by decide +kernel⟩
theorem ok_beginDue (T : Tx K mg a) : FnOk P w K mg base (L2.CX P w) 5 a.fRBeginDue a.dRBeginDue ["self", "column", "word"] (spBeginDue a) := by
  have GW : FnOk P w K mg base (L2.CX P w) 3 a.fRWant a.dRWant ["self", "word"] (spWant a) := ok_want T
  have GO : FnOk P w K mg base (L2.CX P w) 4 a.fROpen a.dROpen ["self", "column"] (spOpen a) := ok_open T
  have GI : FnOk P w K mg base CX0 1 a.fWInit a.dWInit ["self", "what"] (spWInit a) := ok_wInit T
  refine T.rBeginDue.fn.okX scBeginDue (fun vs H Q E h => ?_) (fun cdv A outer s H vs Q E hr h => ?_)
  · obtain ⟨H0, kd, cl, r, s, n, c, col, w, k, rfl, _⟩ := h
    rfl
  obtain ⟨H0, kd, cl, r, s, n, cc, col, w, kw, rfl, hRS, hne, hrdy, hcc, hkw, hout⟩ := h
  have nd := scBeginDue.nd
  have hr2 : Room 2 _ := hr.mono (by decide)
  have hr3 : Room 3 _ := hr.mono (by decide)
  refine ⟨_, pss_cons (ps_setLc (i := 3) (own := [("block", 4)]) (g := gName 4) (tt := tTest (tOp (fun x y H Q => y = .non ∧ Q (.bl (!decide (x = .non))) H) (tFld K (tVar 4) "column") (tC .non))) (te := tFld K (tVar 4) "column") rfl nd rfl rfl (sw_true rfl rfl rfl (by decide +kernel))
        (pi_list (pe_fld (pv 0) rfl)) (blkOk_by (N := ["self", "column", "word", "columns", "block"]) (sc := defScope stRBeginDue) (by decide +kernel)) (fun _ _ _ _ _ => pg_name (i := 4) nd rfl (Or.inl rfl))
        (fun _ _ _ _ _ => pts_one (pt_cmpR op_notN (pe_fld (pv 4) rfl) pe_non (nomark _))) (fun _ _ _ _ _ => pe_fld (pv 4) rfl))
    (pss_cons (ps_if (pt_cmpR op_le (pv 1) (pe_ix ix_list (pv 3) (pe_un un_neg pe_int) (fun _ _ => rfl)) (nomark _))
        (pss_one (ps_raise rfl (takes_of rfl rfl rfl rfl) (pmk_oex T.wOex T.wInit T.wTy GI hr2 T.wB .nil pass0 (by rfl) T.wG (pa_cons (pe_gi rfl T.k_NO_BLOCK) pa_nil)))) pss_nil)
    (pss_cons (ps_expr (pe_meth (pv 0) T.clR T.rWant.m GW hr3 T.rWant.b .nil (passes_call (takes_of rfl rfl rfl rfl) (fun _ _ _ _ h => h)) (pa_cons (pv 2) pa_nil)))
    (pss_cons (ps_fld (pv 0) pe_bl rfl)
    (pss_one (ps_expr (pe_meth (pv 0) T.clR T.rOpen.m GO hr T.rOpen.b .nil (passes_call (takes_of rfl rfl rfl rfl) (fun _ _ _ _ h => h)) (pa_cons (pv 1) pa_nil))))))), ?_⟩
  obtain ⟨dr, k, c, B, G, op, bs, mu, fs, h, h2⟩ := hRS.open hne
  have h2' := h2
  obtain ⟨e1, e2, ch⟩ := h2'
  have lens := ch.len
  have lbs : bs.length = s.stack.length := by
    rw [e1, List.length_map, List.length_reverse]
    exact lens.1
  have hlen20 := hrdy.len
  refine ⟨_, rfl, r, a.cR, dr, _, _, rfl, h.hr, T.clR, T.nR_blocks, rF_blocks .., B, rfl, ⟨_, SqL.of h.hB⟩, fun D hD => lc_list (K := K) (a := B) (xs := bs) (fun i H' => Same H H' ∧ H' D = some (.lst (nv ((s.stack.reverse.take i).filterMap (·.column)))))
    ⟨same_new hD _, upd_same⟩ (fun i H' _ q => SqL.of (q.1 _ _ h.hB)) ?_ ?_⟩
  · rintro i y H1 hi ⟨s1, h1⟩
    rw [e1, List.getElem?_map] at hi
    cases eg : fs.reverse[i]? with
    | none =>
      rw [eg] at hi
      cases hi
    | some g =>
    rw [eg] at hi
    obtain rfl : V.ref g.b = y := Option.some.inj hi
    have hi2 : i < fs.length := by
      have := (List.getElem?_eq_some_iff.mp eg).1
      rwa [List.length_reverse] at this
    rw [List.getElem?_reverse hi2] at eg
    obtain ⟨o, sp, chd, q1, q2, F⟩ := ch.get eg
    have q1' : s.stack.reverse[i]? = some o := by
      rw [List.getElem?_reverse (by omega), show s.stack.length - 1 - i = fs.length - 1 - i by omega]
      exact q1
    have tk : (s.stack.reverse.take (i + 1)).filterMap (·.column) = (s.stack.reverse.take i).filterMap (·.column) ++ [o].filterMap (·.column) := by
      rw [take_more q1', List.filterMap_append]
    have hl : ((s.stack.reverse.take i).filterMap (·.column)).length ≤ 20 := by
      have z1 := List.length_filterMap_le (·.column) (s.stack.reverse.take i)
      have z2 := take_le s.stack.reverse i
      rw [List.length_reverse] at z2
      omega
    refine ⟨rfl, _, rfl, g.b, a.cB, g.db, _, _, rfl, s1 _ _ F.hb, T.clB, T.nB_column, bF_column .., rfl, _, rfl, ?_⟩
    cases hc : o.column with
    | none =>
      refine if_false_of rfl ⟨s1, ?_⟩
      rw [tk]
      simp [hc]
      exact h1
    | some d =>
      have Fb := F.hb
      rw [hc] at Fb
      refine if_true_of rfl ⟨_, rfl, g.b, a.cB, g.db, _, _, rfl, s1 _ _ Fb, T.clB, T.nB_column, bF_column .., _, h1, by rw [nv_len]; exact size_lt (by omega), upd_free s1 hD _, ?_⟩
      rw [upd_same, tk, nv_append]
      simp [hc, nv, colV]
  · rintro H1 ⟨s1, h1⟩
    rw [lbs] at h1
    rw [show s.stack.reverse.take s.stack.length = s.stack.reverse from by rw [List.take_of_length_le (by rw [List.length_reverse]; exact Nat.le_refl _)]] at h1
    have hcol : ∃ o ∈ s.stack, o.column ≠ none := by
      cases hl : s.stack.getLast? with
      | none => exact absurd (List.getLast?_eq_none_iff.mp hl) hne
      | some o => exact ⟨o, last_mem hl, hrdy.col o hl⟩
    have hlast : (nv (s.stack.reverse.filterMap (·.column))).getLast? = some (.int (Sq16.columnOf s.stack : Nat)) := by
      unfold nv
      rw [List.getLast?_map, columnOf_last hcol]
      rfl
    have hR1 := hRS.mono s1
    refine ⟨_, rfl, _, rfl, _, rfl, D, _, -1, _, rfl, rfl, SqL.of h1, at_last hlast, _, _, rfl, rfl, _, rfl, ?_⟩
    rw [dec_le]
    unfold dueStep at hout
    by_cases hle : col ≤ Sq16.columnOf s.stack
    · rw [if_pos hle] at hout
      exact if_true_of (decide_eq_true hle) (mkO_wrong (h.same.trans s1) hout)
    rw [if_neg hle] at hout
    refine if_false_of (decide_eq_false hle) ?_
    have hR1' := hR1
    obtain ⟨dr1, k1, c1, B1, G1, op1, bs1, mu1, h1c, h1s⟩ := hR1'
    refine ⟨_, rfl, r, dr1, _, rfl, h1c.hr, rF_no (by decide +kernel), _, rfl, H0, kd, cl, r, s, w, kw, rfl, hR1, hkw, fun h4 => ?_, fun h4 => ?_⟩
    · rw [if_pos (decide_eq_true h4)] at hout
      exact hout
    rw [if_neg (by rw [decide_eq_false h4]; decide)] at hout
    refine ⟨_, rfl, r, a.cR, dr1, _, rfl, h1c.hr, T.clR, T.nR_is_due, by show 5 < 1000; decide, ?_⟩
    rw [rF_setDue]
    have hR2 := RS.setDue (d := false) h1c h1s
    have hR2' := hR2
    obtain ⟨dr2, k2, c2, B2, G2, op2, bs2, mu2, h2c, h2s⟩ := hR2'
    have hsz := hrdy.sz
    refine ⟨_, rfl, r, dr2, _, rfl, h2c.hr, rF_no (by decide +kernel), _, rfl, H0, kd, cl, r, ⟨s.stack, s.brackets, false⟩, some col, rfl, hR2, hne, hlen20, by show szStack s.stack ≤ 100000; omega, ?_⟩
    exact hout
theorem scGoOn : FnScope ["self", "column", "word", "is_closed", "own"] ["self", "column", "word"] (defScope stRGoOn) := ⟨rfl, rfl, rfl, by decide +kernel, rfl, by decide +kernel, by decide +kernel⟩
theorem ok_goOn (T : Tx K mg a) : FnOk P w K mg base (L2.CX P w) 4 a.fRGoOn a.dRGoOn ["self", "column", "word"] (spGoOn a) := by
  have GC : FnOk P w K mg base CX0 2 a.fRClose a.dRClose ["self", "column"] (spClose a) := ok_close T
  have GS : FnOk P w K mg base CX0 3 a.fRBeginSt a.dRBeginSt ["self"] (spBeginSt a) := ok_beginSt T
  have GU : FnOk P w K mg base CX0 1 a.fRCurrent a.dRCurrent ["self"] (spCurrent a) := ok_current T
  have GE : FnOk P w K mg base CX0 1 a.fSEnds a.dSEnds ["self"] (spSEnds a K) := ok_sEnds T
  have GI : FnOk P w K mg base CX0 1 a.fWInit a.dWInit ["self", "what"] (spWInit a) := ok_wInit T
  refine T.rGoOn.fn.okX scGoOn (fun vs H Q E h => ?_) (fun cdv A outer s H vs Q E hr h => ?_)
  · obtain ⟨H0, kd, cl, r, s, n, c, col, w, k, rfl, _⟩ := h
    rfl
  obtain ⟨H0, kd, cl, r, s, n, cc, col, w, kw, rfl, hRS, hne, hrdy, hcc, hkw, hout⟩ := h
  have nd := scGoOn.nd
  have hr1 : Room 1 _ := hr.mono (by decide)
  have hr2 : Room 2 _ := hr.mono (by decide)
  refine ⟨_, pss_cons (ps_set (i := 3) nd rfl (Or.inl rfl) (pe_meth (pv 0) T.clR T.rClose.m GC hr2 T.rClose.b .nil pass0 (pa_cons (pv 1) pa_nil)))
    (pss_cons (ps_set (i := 4) nd rfl (Or.inl rfl) (pe_fld (pe_ix ix_list (pe_fld (pv 0) rfl) (pe_un un_neg pe_int) (fun _ _ => rfl)) rfl))
    (pss_cons (ps_if (pt_cmpR op_lt (pv 1) (pv 4) (nomark _)) (pss_one (ps_raise rfl (takes_of rfl rfl rfl rfl) (pmk_oex T.wOex T.wInit T.wTy GI hr2 T.wB .nil pass0 (by rfl) T.wG (pa_cons (pe_gi rfl T.k_LESS_RIGHT) pa_nil)))) pss_nil)
    (pss_cons (ps_if (pt_cmpR op_eq (pv 1) (pv 4) (nomark _))
      (pss_cons (ps_if (pt_cmpR op_ne (pe_ix ix_list (pe_fld (pv 0) rfl) (pv 2) (fun _ _ => rfl)) (pe_gi rfl T.k_GOES_ON) (nomark _)) (pss_one (ps_expr (pe_meth0 (pv 0) T.clR T.rBeginSt.m GS hr T.rBeginSt.b .nil pass0))) pss_nil) (pss_one ps_retN)) pss_nil)
    (pss_cons (ps_if (pt_val (pv 3)) (pss_one (ps_raise rfl (takes_of rfl rfl rfl rfl) (pmk_oex T.wOex T.wInit T.wTy GI hr2 T.wB .nil pass0 (by rfl) T.wG (pa_cons (pe_gi rfl T.k_LESS_RIGHT) pa_nil)))) pss_nil)
    (pss_one (ps_if (PW.pt (pw_and (pt_val (pe_meth0 (pe_meth0 (pv 0) T.clR T.rCurrent.m GU hr1 T.rCurrent.b .nil pass0) T.clS T.sEnds.m GE hr1 T.sEnds.b .nil pass0)) (pw_and1 (pt_cmpR op_ne (pe_ix ix_list (pe_fld (pv 0) rfl) (pv 2) (fun _ _ => rfl)) (pe_gi rfl T.k_GOES_ON) (nomark _)))))
      (pss_one (ps_raise rfl (takes_of rfl rfl rfl rfl) (pmk_oex T.wOex T.wInit T.wTy GI hr2 T.wB .nil pass0 (by rfl) T.wG (pa_cons (pe_gi rfl T.k_BEHIND_BLOCK) pa_nil)))) pss_nil)))))), ?_⟩
  obtain ⟨dr0, k0, c0, B0, G0, op0, bs0, mu0, h0⟩ := hRS.comps
  refine ⟨_, rfl, r, dr0, _, rfl, h0.hr, rF_no (by decide +kernel), _, rfl, H0, kd, cl, r, s, col, rfl, hRS, hne, hrdy.all, fun H1 hR1 => ?_⟩
  have hset := settle_ok col s.stack.length n cc false s.stack s.brackets s.due hne (show Rdy n cc ⟨s.stack, s.brackets, s.due⟩ from hrdy)
  have hstop := settle_stop col s.stack.length false s.stack (Nat.le_succ _) hrdy.col
  unfold goStep at hout
  generalize hS : Sq16.settle col s.stack.length false s.stack = S at hR1 hset hstop hout
  obtain ⟨bcl, st⟩ := S
  cases st with
  | nil => exact absurd rfl hset.2
  | cons o l =>
  obtain ⟨hrd1, _⟩ := hset
  obtain ⟨d, hd⟩ := hstop o l rfl
  have hcol : Sq16.columnOf (o :: l) = d := by rw [columnOf_cons, hd]
  have hR1 : RS a kd cl H0 H1 r ⟨o :: l, s.brackets, s.due⟩ := hR1
  obtain ⟨dr, k, c, B, G, op, bs, mu, fs, h, h2⟩ := hR1.open (by simp)
  have h2' := h2
  obtain ⟨e1, e2, ch⟩ := h2'
  have lens := ch.len
  cases fs with
  | nil => simp at lens
  | cons f fs =>
  have F : FrOk a H1 (r :: B :: G :: mu) [] f o (Sq16.spanItems none o.now.reverse) := ch.1
  have hlast : bs.getLast? = some (.ref f.b) := by
    rw [e1]
    exact last_block
  have hall : ∀ x ∈ spans (o :: l), x ≠ none := hrd1.all
  have hsp1 : Sq16.spanItems none o.now.reverse ≠ none := hall _ List.mem_cons_self
  obtain ⟨y, hy⟩ := Option.ne_none_iff_exists'.mp hsp1
  have hnow : o.now ≠ [] := fun z => by
    rw [z, List.reverse_nil, spanItems_nil] at hy
    cases hy
  have hszl : szStack (o :: l) ≤ 50000 := by
    have : szStack (o :: l) + s.brackets.length ≤ cc := hrd1.sz
    omega
  have Fb := F.hb
  rw [hd] at Fb
  refine ⟨_, rfl, r, a.cR, dr, _, _, rfl, h.hr, T.clR, T.nR_blocks, rF_blocks .., _, rfl, B, bs, -1, _, rfl, rfl, SqL.of h.hB, at_last hlast, f.b, a.cB, f.db, _, _, rfl, Fb, T.clB, T.nB_column, bF_column .., ?_⟩
  simp only at hout
  rw [hcol] at hout
  refine ⟨_, rfl, _, rfl, _, _, rfl, rfl, _, rfl, ?_⟩
  rw [dec_lt]
  by_cases hlt : col < d
  · rw [if_pos hlt] at hout
    exact if_true_of (decide_eq_true hlt) (mkO_wrong h.same hout)
  rw [if_neg hlt] at hout
  refine if_false_of (decide_eq_false hlt) ?_
  refine ⟨_, rfl, _, rfl, rfl, _, rfl, ?_⟩
  show if decide (V.int (col : Int) = V.int (d : Int)) = true then _ else _
  rw [show decide (V.int (col : Int) = V.int (d : Int)) = decide (col = d) from dec_v col d]
  -- self.kinds[word] != GOES_ON
  have kinds : ∀ {Q' : Bool → Hp → Prop} {σ : L2.St}, σ[0]? = some (some (.ref r)) → σ[2]? = some (some (.int w)) → Q' (!decide (kw = 4)) H1 → tTest (tOp rNe (tOp (rIxL K) (tFld K (tVar 0) "kinds") (tVar 2)) (tC (.int 4))) σ H1 Q' := by
    intro Q' σ q0 q2 q
    refine ⟨_, q0, r, a.cR, dr, _, _, rfl, h.hr, T.clR, T.nR_kinds, rF_kinds .., _, q2, k, _, _, _, rfl, rfl, SqL.of h.kindsAt, nv_at hkw, rfl, _, rfl, ?_⟩
    rw [show decide (V.int (kw : Int) = V.int 4) = decide (kw = 4) from dec_v kw 4]
    exact q
  by_cases heq : col = d
  · rw [if_pos heq] at hout
    refine if_true_of (decide_eq_true heq) ?_
    refine kinds rfl rfl ?_
    by_cases h4 : kw = 4
    · rw [if_pos (decide_eq_true h4)] at hout
      exact if_false_of (by rw [decide_eq_true h4]; rfl) (hout H1 hR1)
    · rw [if_neg (by rw [decide_eq_false h4]; decide)] at hout
      refine if_true_of (by rw [decide_eq_false h4]; rfl) ?_
      have lss : (f.ss ++ [V.ref f.s]).length < 1000000 := by
        have := F.st.len
        have q := szStack_head (o := o) (l := l)
        rw [List.length_reverse] at this
        rw [List.length_append, List.length_singleton]
        omega
      refine ⟨_, rfl, r, dr, _, rfl, h.hr, rF_no (by decide +kernel), r, dr, k, c, B, G, s.due, bs, f.b, f.db, f.L, _, _, rfl, h.hr, h.hB, hlast, Fb, F.hL, lss, fun H2 s' ds' T' kp ns nT sT hL2 hs2 hT2 => ?_⟩
      exact hout H2 (RS.begin (s := ⟨o :: l, s.brackets, s.due⟩) (f0 := y.1) (n0 := y.2) h rfl h2 hy kp ns nT sT hL2 hs2 hT2)
  rw [if_neg heq] at hout
  refine if_false_of (decide_eq_false heq) ?_
  refine ⟨_, rfl, _, rfl, ?_⟩
  cases bcl with
  | true =>
    rw [if_pos rfl] at hout
    exact if_true_of rfl (mkO_wrong h.same hout)
  | false =>
  rw [if_neg Bool.false_ne_true] at hout
  refine if_false_of rfl ?_
  have hfT := F.hT
  rw [List.append_nil] at hfT
  obtain ⟨x, rest, hnx⟩ : ∃ x rest, o.now = x :: rest := by
    cases q : o.now with
    | nil => exact absurd q hnow
    | cons x rest => exact ⟨x, rest, rfl⟩
  have Fit := F.it
  rw [hnx, List.reverse_cons] at Fit
  obtain ⟨vs', v, evs, _, hv⟩ := Fit.snoc
  have glast : f.vs.getLast? = some v := by
    rw [evs]
    exact last_snoc _ _
  refine ⟨_, rfl, r, dr, _, rfl, h.hr, rF_no (by decide +kernel), r, dr, k, c, B, G, s.due, bs, f.b, f.db, f.L, _, _, _, rfl, h.hr, h.hB, hlast, Fb, F.hL, last_snoc _ _, ?_⟩
  refine ⟨f.s, f.ds, _, rfl, F.hs, sF_no (by decide +kernel), f.s, f.ds, f.T, _, _, f.vs, v, Sq16.endsInBlock o, rfl, F.hs, hfT, glast, ?_, _, rfl, ?_⟩
  · cases x with
    | word w1 n1 =>
      refine .inl ⟨_, itemAt_word.mp hv, ?_⟩
      unfold Sq16.endsInBlock
      rw [hnx]
    | block bl =>
      obtain ⟨q, rfl, dq, Lq, cq, sq, _, _, hq, _, _⟩ := hv.block
      refine .inr ⟨q, dq, _, rfl, hq, ?_⟩
      unfold Sq16.endsInBlock
      rw [hnx]
  · cases hend : Sq16.endsInBlock o with
    | false =>
      rw [hend] at hout
      refine if_false_of rfl (if_false_of rfl ?_)
      rw [if_neg (by simp)] at hout
      exact hout H1 hR1
    | true =>
      rw [hend] at hout
      refine if_true_of rfl (kinds rfl rfl ?_)
      by_cases h4 : kw = 4
      · rw [if_neg (by rw [decide_eq_true h4]; decide)] at hout
        exact if_false_of (by rw [decide_eq_true h4]; rfl) (hout H1 hR1)
      · rw [if_pos (by rw [decide_eq_false h4]; rfl)] at hout
        exact if_true_of (by rw [decide_eq_false h4]; rfl) (mkO_wrong h.same hout)
end
end Mr

/-! ## MrRead8 -/
set_option Elab.async false
set_option linter.all false
set_option maxRecDepth 100000
set_option maxHeartbeats 2000000
/-! # Reader: begin_line, read_line, end -/
namespace Mr
open PySem PySem.Spec PyProof.Rows L2
open Sq16 (Item Open State Line)
theorem isOn_of {kd : List Nat} {cl : List (Key × V)} {ks : List Sq16.Kind} (hrel : KindRel kd cl ks) {w k col : Nat} {ws : List Nat} (hk : kd[w]? = some k) : Sq16.isOn ks ⟨col, w :: ws⟩ = decide (k = 4) := by
  show (Sq16.kindOf ks w == .on) = decide (k = 4)
  have := hrel.le w k hk
  match k, this, hk with
  | 0, _, hk => rw [hrel.k0 w hk]; rfl
  | 1, _, hk =>
    obtain ⟨c, e, _⟩ := hrel.k1 w hk
    rw [e]
    rfl
  | 2, _, hk => rw [hrel.k2 w hk]; rfl
  | 3, _, hk => rw [hrel.k3 w hk]; rfl
  | 4, _, hk => rw [hrel.k4 w hk]; rfl
theorem beginLine_text {ks : List Sq16.Kind} {x : Line} {s : State} {on : Bool} (ho : Sq16.isOn ks x = on) (hs : s.stack = []) (hd : s.due = false) : beginLine ks x s = textStep on x.column s := by
  unfold beginLine textStep
  rw [hs, ho, hd]
theorem beginLine_due {ks : List Sq16.Kind} {x : Line} {s : State} {on : Bool} (ho : Sq16.isOn ks x = on) (hs : s.stack ≠ []) (hd : s.due = true) : beginLine ks x s = dueStep on x.column s := by
  obtain ⟨st, br, du⟩ := s
  cases st with
  | nil => exact absurd rfl hs
  | cons o l =>
    obtain rfl : du = true := hd
    unfold beginLine dueStep
    rw [ho]
    simp only [if_true]
theorem beginLine_go {ks : List Sq16.Kind} {x : Line} {s : State} {on : Bool} (ho : Sq16.isOn ks x = on) (hs : s.stack ≠ []) (hd : s.due = false) : beginLine ks x s = goStep on x.column s := by
  obtain ⟨st, br, du⟩ := s
  cases st with
  | nil => exact absurd rfl hs
  | cons o l =>
    obtain rfl : du = false := hd
    unfold beginLine goStep
    rw [ho]
    simp only [Bool.false_eq_true, if_false] <;> cases (Sq16.settle x.column (o :: l).length false (o :: l)).2 <;> rfl
def spBeginLine (a : Ad) : Sp := fun vs H Q E => ∃ (H0 : Hp) (kd : List Nat) (cl : List (Key × V)) (ks : List Sq16.Kind) (r : Addr) (s : State) (n c col w k : Nat) (ws : List Nat), vs = [.ref r, .int col, .int w] ∧ RS a kd cl H0 H r s ∧ KindRel kd cl ks ∧ Rdy n c s ∧ c ≤ 50000 ∧ kd[w]? = some k ∧ Out a kd cl H0 r (beginLine ks ⟨col, w :: ws⟩ s) Q E
def spLine (a : Ad) : Sp := fun vs H Q E => ∃ (H0 : Hp) (kd : List Nat) (cl : List (Key × V)) (ks : List Sq16.Kind) (r : Addr) (s : State) (n c col : Nat) (ws : List Nat) (W : Addr), vs = [.ref r, .int n, .int col, .ref W] ∧ RS a kd cl H0 H r s ∧ KindRel kd cl ks ∧ Rdy n c s ∧ c ≤ 40000 ∧ H0 W = some (.lst (nv ws)) ∧ ws ≠ [] ∧ ws.length ≤ 16 ∧ (∀ w ∈ ws, w < kd.length) ∧
  Out a kd cl H0 r (Sq16.line ks n ⟨col, ws⟩ s) Q E
def spEnd (a : Ad) : Sp := fun vs H Q E => ∃ (H0 : Hp) (kd : List Nat) (cl : List (Key × V)) (r : Addr) (s : State), vs = [.ref r] ∧ RS a kd cl H0 H r s ∧
  Out a kd cl H0 r (if s.brackets ≠ [] then .error 6 else if s.due = true then .error 2 else .ok s) Q E
theorem if_drop {b : Bool} {te : TE} {D : Ends} {σ : L2.St} {H1 : Hp} (G : Hp → Prop) (hN : ∀ H2, G H2 → D.nx σ H2) (hy : b = true → (∀ H2, G H2 → D.nx σ H2) → te σ H1 fun _ H2 => D.nx σ H2) (hn : b = false → G H1) : if b = true then tDrop te D σ H1 else tNext D σ H1 := by
  cases b with
  | true => exact if_true_of rfl (hy rfl hN)
  | false => exact if_false_of rfl (hN H1 (hn rfl))
section
variable {P : Program} {w : World} {K : PySem.W.Frag} {mg : Str → Option Value} {base : Heap} {a : Ad}
theorem scBeginLine : FnScope ["self", "column", "word"] ["self", "column", "word"] (defScope stRBeginLine) := ⟨rfl, rfl, rfl, by decide +kernel, rfl, by decide +kernel, by decide +kernel⟩
theorem ok_beginLine (T : Tx K mg a) : FnOk P w K mg base (L2.CX P w) 6 a.fRBeginLine a.dRBeginLine ["self", "column", "word"] (spBeginLine a) := by
  have GD : FnOk P w K mg base (L2.CX P w) 5 a.fRBeginDue a.dRBeginDue ["self", "column", "word"] (spBeginDue a) := ok_beginDue T
  have GT : FnOk P w K mg base (L2.CX P w) 4 a.fRBeginText a.dRBeginText ["self", "column", "word"] (spBeginText a) := ok_beginText T
  have GG : FnOk P w K mg base (L2.CX P w) 4 a.fRGoOn a.dRGoOn ["self", "column", "word"] (spGoOn a) := ok_goOn T
  refine T.rBeginLine.fn.okX scBeginLine (fun vs H Q E h => ?_) (fun cdv A outer s H vs Q E hr h => ?_)
  · obtain ⟨H0, kd, cl, ks, r, s, n, c, col, w, k, ws, rfl, _⟩ := h
    rfl
  obtain ⟨H0, kd, cl, ks, r, s, n, cc, col, w, kw, ws, rfl, hRS, hrel, hrdy, hcc, hkw, hout⟩ := h
  have hr4 : Room 4 _ := hr.mono (by decide)
  have on := isOn_of (col := col) (ws := ws) hrel hkw
  refine ⟨_, pss_one (ps_if (pt_val (pe_fld (pv 0) rfl))
    (pss_one (ps_expr (pe_meth (pv 0) T.clR T.rBeginDue.m GD hr T.rBeginDue.b .nil (passes_call (takes_of rfl rfl rfl rfl) (fun _ _ _ _ h => h)) (pa_cons (pv 1) (pa_cons (pv 2) pa_nil)))))
    (pss_one (ps_if (pt_cmpR (op_eqNil hr.units) (pe_fld (pe_ix ix_list (pe_fld (pv 0) rfl) pe_int (fun _ _ => rfl)) rfl) (pe_lst pa_nil) (nomark _))
      (pss_one (ps_expr (pe_meth (pv 0) T.clR T.rBeginText.m GT hr4 T.rBeginText.b .nil (passes_call (takes_of rfl rfl rfl rfl) (fun _ _ _ _ h => h)) (pa_cons (pv 1) (pa_cons (pv 2) pa_nil)))))
      (pss_one (ps_expr (pe_meth (pv 0) T.clR T.rGoOn.m GG hr4 T.rGoOn.b .nil (passes_call (takes_of rfl rfl rfl rfl) (fun _ _ _ _ h => h)) (pa_cons (pv 1) (pa_cons (pv 2) pa_nil)))))))), ?_⟩
  obtain ⟨dr, k, c, B, G, op, bs, mu, h⟩ := hRS.comps
  refine ⟨_, rfl, r, a.cR, dr, _, _, rfl, h.hr, T.clR, T.nR_is_due, rF_is_due .., _, rfl, ?_⟩
  cases hd : s.due with
  | true =>
    refine if_true_of rfl ?_
    have hst : s.stack ≠ [] := fun z => by
      have := (hrdy.em z).2
      rw [hd] at this
      cases this
    rw [beginLine_due on hst hd] at hout
    rw [hd] at h
    exact ⟨_, rfl, r, dr, _, rfl, h.hr, rF_no (by decide +kernel), _, rfl, _, rfl, H0, kd, cl, r, s, n, cc, col, w, kw, rfl, hRS, hst, hrdy, hcc, hkw, hout⟩
  | false =>
    refine if_false_of rfl ?_
    by_cases hst : s.stack = []
    · obtain ⟨dr, k, c, B, G, op, bs, mu, h, b, d, L, rfl, rfl, hb, hL⟩ := hRS.fresh hst
      refine ⟨_, rfl, r, a.cR, dr, _, _, rfl, h.hr, T.clR, T.nR_blocks, rF_blocks .., B, _, 0, _, rfl, rfl, SqL.of h.hB, atI_nat (j := 0) rfl, b, a.cB, d, _, _, rfl, hb, T.clB, T.nB_statements, bF_statements .., by show 0 ≤ sizeLine; decide, fun e0 he0 => ?_⟩
      have s0 := same_new he0 (.lst [])
      refine ⟨L, e0, _, rfl, rfl, SqL.of (s0 _ _ hL), SqL.of upd_same, _, rfl, if_true_of rfl ?_⟩
      rw [beginLine_text on hst hd] at hout
      exact ⟨_, rfl, r, dr, _, rfl, s0 _ _ h.hr, rF_no (by decide +kernel), _, rfl, _, rfl, H0, kd, cl, r, s, col, w, kw, rfl, hRS.mono s0, hst, hkw, hout⟩
    · obtain ⟨dr, k, c, B, G, op, bs, mu, fs, h, h2⟩ := hRS.open hst
      obtain ⟨e1, e2, ch⟩ := h2
      have lens := ch.len
      have hfs : 0 < fs.length := by
        rw [lens.1]
        exact List.length_pos_iff.mpr hst
      obtain ⟨f, hf⟩ : ∃ f, fs[fs.length - 1]? = some f := ⟨fs[fs.length - 1]'(by omega), List.getElem?_eq_getElem (by omega)⟩
      obtain ⟨o, sp, chd, q1, q2, F⟩ := ch.get hf
      have hb0 : bs[0]? = some (.ref f.b) := by
        rw [e1, List.getElem?_map, List.getElem?_reverse hfs, Nat.sub_zero, hf]
        rfl
      refine ⟨_, rfl, r, a.cR, dr, _, _, rfl, h.hr, T.clR, T.nR_blocks, rF_blocks .., B, _, 0, _, rfl, rfl, SqL.of h.hB, atI_nat (j := 0) hb0, f.b, a.cB, f.db, _, _, rfl, F.hb, T.clB, T.nB_statements, bF_statements .., by show 0 ≤ sizeLine; decide, fun e0 he0 => ?_⟩
      have s0 := same_new he0 (.lst [])
      refine ⟨f.L, e0, _, rfl, rfl, SqL.of (s0 _ _ F.hL), SqL.of upd_same, _, rfl, if_false_of (by cases f.ss <;> rfl) ?_⟩
      rw [beginLine_go on hst hd] at hout
      exact ⟨_, rfl, r, dr, _, rfl, s0 _ _ h.hr, rF_no (by decide +kernel), _, rfl, _, rfl, H0, kd, cl, r, s, n, cc, col, w, kw, rfl, hRS.mono s0, hst, hrdy, hcc, hkw, hout⟩
theorem scEnd : FnScope ["self"] ["self"] (defScope stREnd) := ⟨rfl, rfl, rfl, by decide +kernel, rfl, by decide +kernel, by decide +kernel⟩
theorem ok_end (T : Tx K mg a) : FnOk P w K mg base (L2.CX P w) 3 a.fREnd a.dREnd ["self"] (spEnd a) := by
  have GI : FnOk P w K mg base CX0 1 a.fWInit a.dWInit ["self", "what"] (spWInit a) := ok_wInit T
  refine T.rEnd.fn.okX scEnd (fun vs H Q E h => ?_) (fun cdv A outer s H vs Q E hr h => ?_)
  · obtain ⟨H0, kd, cl, r, s, rfl, _⟩ := h
    rfl
  obtain ⟨H0, kd, cl, r, s, rfl, hRS, hout⟩ := h
  refine ⟨_, pss_cons (ps_if (pt_cmpR (op_neNat hr.units) (pe_fld (pv 0) rfl) (pe_lst pa_nil) (nomark _))
      (pss_one (ps_raise rfl (takes_of rfl rfl rfl rfl) (pmk_oex T.wOex T.wInit T.wTy GI (hr.mono (by decide)) T.wB .nil pass0 (by rfl) T.wG (pa_cons (pe_gi rfl T.k_BRACKET_OPEN) pa_nil)))) pss_nil)
    (pss_one (ps_if (pt_val (pe_fld (pv 0) rfl))
      (pss_one (ps_raise rfl (takes_of rfl rfl rfl rfl) (pmk_oex T.wOex T.wInit T.wTy GI (hr.mono (by decide)) T.wB .nil pass0 (by rfl) T.wG (pa_cons (pe_gi rfl T.k_NO_BLOCK) pa_nil)))) pss_nil)), ?_⟩
  obtain ⟨dr, k, c, B, G, op, bs, mu, h⟩ := hRS.comps
  have hopl := h.brk.len
  refine ⟨_, rfl, r, a.cR, dr, _, _, rfl, h.hr, T.clR, T.nR_brackets, rF_brackets .., by show 0 ≤ sizeLine; decide, fun e0 he0 => ?_⟩
  have s0 := same_new he0 (.lst [])
  refine ⟨G, e0, op, [], rfl, rfl, SqL.of (s0 _ _ h.hG), SqL.of upd_same, _, rfl, ?_⟩
  by_cases hb : s.brackets = []
  · have hop : op = [] := List.length_eq_zero_iff.mp (by rw [hopl, hb]; rfl)
    rw [if_neg (by rw [hb]; simp)] at hout
    refine if_false_of (by rw [hop]; rfl) ?_
    refine ⟨_, rfl, r, a.cR, dr, _, _, rfl, s0 _ _ h.hr, T.clR, T.nR_is_due, rF_is_due .., _, rfl, ?_⟩
    cases hd : s.due with
    | true =>
      rw [if_pos hd] at hout
      exact if_true_of rfl (mkO_wrong (h.same.trans s0) hout)
    | false =>
      rw [if_neg (by rw [hd]; simp)] at hout
      exact if_false_of rfl (hout _ (hRS.mono s0))
  · have hop : op ≠ [] := fun z => hb (List.length_eq_zero_iff.mp (by rw [← hopl, z]; rfl))
    rw [if_pos hb] at hout
    exact if_true_of (by rw [decide_eq_false hop]; rfl) (mkO_wrong (h.same.trans s0) hout)
theorem scLine : FnScope ["self", "number", "column", "words", "k", "word"] ["self", "number", "column", "words"] (defScope stRLine) := ⟨rfl, rfl, rfl, by decide +kernel, rfl, by decide +kernel, by decide +kernel⟩
theorem ok_line (T : Tx K mg a) : FnOk P w K mg base (L2.CX P w) 7 a.fRLine a.dRLine ["self", "number", "column", "words"] (spLine a) := by
  have GB : FnOk P w K mg base (L2.CX P w) 6 a.fRBeginLine a.dRBeginLine ["self", "column", "word"] (spBeginLine a) := ok_beginLine T
  have GW : FnOk P w K mg base (L2.CX P w) 5 a.fRWord a.dRWord ["self", "word", "number", "is_last"] (spWord a) := ok_word T
  refine T.rLine.fn.okX scLine (fun vs H Q E h => ?_) (fun cdv A outer s H vs Q E hr h => ?_)
  · obtain ⟨H0, kd, cl, ks, r, s, n, c, col, ws, W, rfl, _⟩ := h
    rfl
  obtain ⟨H0, kd, cl, ks, r, s, n, cc, col, ws, W, rfl, hRS, hrel, hrdy, hcc, hW, hne, h16, hwk, hout⟩ := h
  have nd := scLine.nd
  have hr5 : Room 5 _ := hr.mono (by decide)
  refine ⟨_, pss_cons (ps_if (pt_cmpR (op_eqNil hr.units) (pe_fld (pv 0) rfl) (pe_lst pa_nil) (nomark _))
      (pss_one (ps_expr (pe_meth (pv 0) T.clR T.rBeginLine.m GB hr T.rBeginLine.b .nil (passes_call (takes_of rfl rfl rfl rfl) (fun _ _ _ _ h => h)) (pa_cons (pv 2) (pa_cons (pe_ix ix_list (pv 3) pe_int (fun _ _ => rfl)) pa_nil))))) pss_nil)
    (pss_one (ps_for (passes_of rfl) rfl (pi_enum (by rfl) T.b_enumerate (pa_cons (pv 3) pa_nil)) (pg_tup rfl (pgs_cons (pg_name (i := 4) nd rfl (Or.inl rfl)) (pgs_cons (pg_name (i := 5) nd rfl (Or.inl rfl)) pgs_nil)))
      (pss_one (ps_expr (pe_meth (pv 0) T.clR T.rWord.m GW hr5 T.rWord.b .nil (passes_call (takes_of rfl rfl rfl rfl) (fun _ _ _ _ h => h))
        (pa_cons (pv 5) (pa_cons (pv 1) (pa_cons (pe_cmpR op_eq (pe_op op_add (pv 4) pe_int) (pe_callB call_len (by rfl) T.b_len (by decide +kernel) (pa_cons (pv 3) pa_nil)) (nomark _)) pa_nil)))))))), ?_⟩
  have hlen : ws.length ≠ 0 := fun z => hne (List.length_eq_zero_iff.mp z)
  obtain ⟨dr, k, c, B, G, op, bs, mu, h⟩ := hRS.comps
  have hopl := h.brk.len
  refine ⟨_, rfl, r, a.cR, dr, _, _, rfl, h.hr, T.clR, T.nR_brackets, rF_brackets .., by show 0 ≤ sizeLine; decide, fun e0 he0 => ?_⟩
  have s0 := same_new he0 (.lst [])
  refine ⟨G, e0, _, rfl, rfl, SqL.of (s0 _ _ h.hG), SqL.of upd_same, _, rfl, ?_⟩
  refine if_drop (fun H2 => ∃ s1 c1, c1 ≤ 41000 ∧ RS a kd cl H0 H2 r s1 ∧ Mid n c1 s1 ∧ Out a kd cl H0 r (Sq16.words ks n ws s1) Q E) ?_ (fun hb hN => ?_) (fun hb => ?_)
  · -- the words
    rintro H1 ⟨s1, c1, hc1, hR1, hM1, ho1⟩
    refine ⟨_, rfl, W, nv ws, rfl, SqL.of (hR1.same _ _ hW), for_it (walk_enum (K := K) (a := W) (xs := nv ws)) (fun i σ H' => ∃ (v4 v5 : Option V) (s1 : State) (c1 : Nat), σ = [some (.ref r), some (.int n), some (.int col), some (.ref W), v4, v5] ∧ RS a kd cl H0 H' r s1 ∧ c1 ≤ 41000 + 6 * i ∧ (i < ws.length → Mid n c1 s1) ∧ Out a kd cl H0 r (Sq16.words ks n (ws.drop i) s1) Q E)
      ⟨none, none, s1, c1, rfl, hR1, by omega, fun _ => hM1, ho1⟩ (fun i σ H' _ ⟨_, _, s2, _, _, hR2, _⟩ => SqL.of (hR2.same _ _ hW)) ?_ ?_⟩
    · rintro i x σ H2 H2' hi ⟨v4, v5, s2, c2, rfl, hR2, hc2, hM2, ho2⟩ ⟨t, x1, y, rfl, ht, rfl, hx, hy⟩
      obtain rfl : V.int (i : Nat) = x1 := Option.some.inj hx
      obtain ⟨w1, hw1, rfl⟩ := nv_get hy
      rw [nv_len] at hi
      have s2s := same_new ht (.tup [.int (i : Nat), .int w1])
      have hR3 := hR2.mono s2s
      have hM := hM2 hi
      have hdrop : ws.drop i = w1 :: ws.drop (i + 1) := by
        rw [List.drop_eq_getElem_cons hi]
        congr 1
        exact Option.some.inj ((List.getElem?_eq_getElem hi).symm.trans hw1)
      rw [hdrop, words_cons] at ho2
      obtain ⟨dr3, k3, c3, B3, G3, op3, bs3, mu3, h3⟩ := hR3.comps
      have hlast : decide (V.int ((i : Int) + 1) = V.int (ws.length : Int)) = (ws.drop (i + 1)).isEmpty := by
        rw [show ((i : Int) + 1) = ((i + 1 : Nat) : Int) from rfl, dec_v]
        by_cases q : i + 1 = ws.length
        · rw [decide_eq_true q, List.drop_eq_nil_of_le (by omega)]
          rfl
        · rw [decide_eq_false q]
          cases e : ws.drop (i + 1) with
          | nil =>
            have := List.drop_eq_nil_iff.mp e
            omega
          | cons z l => rfl
      refine ⟨t, _, rfl, SqT.of upd_same, rfl, _, _, rfl, _, _, rfl, rfl, ?_⟩
      refine ⟨_, rfl, r, dr3, _, rfl, h3.hr, rF_no (by decide +kernel), _, rfl, _, rfl, _, rfl, _, _, rfl, rfl, _, rfl, _, _, rfl, .inl ⟨_, SqL.of (hR3.same _ _ hW), rfl⟩, ?_⟩
      have hszm := hM.sz
      refine ⟨rfl, H0, kd, cl, ks, r, s2, w1, n, (ws.drop (i + 1)).isEmpty, ?_, hR3, hrel, hwk w1 (List.mem_of_getElem? hw1), hM.ne, hM.due, hM.len, by omega, hM.le, ?_⟩
      · show [V.ref r, V.int w1, V.int n, V.bl (decide (V.int ((i : Int) + 1) = V.int ((nv ws).length : Int)))] = _
        rw [nv_len, hlast]
      cases hstep : wordStep ks n w1 (ws.drop (i + 1)).isEmpty s2 with
      | error e =>
        rw [hstep] at ho2
        exact ho2
      | ok t2 =>
        rw [hstep] at ho2
        have q := wordStep_ok hM hstep
        refine fun H4 hR4 => ⟨_, _, t2, c2 + 6, rfl, hR4, by omega, fun hlt => ?_, ho2⟩
        have hfl : (ws.drop (i + 1)).isEmpty = false := by
          cases e : ws.drop (i + 1) with
          | nil =>
            have := List.drop_eq_nil_iff.mp e
            omega
          | cons z l => rfl
        rw [hfl] at q
        simpa using q
    · rintro σ H2 ⟨v4, v5, s2, c2, rfl, hR2, hc2, hM2, ho2⟩
      rw [nv_len, List.drop_eq_nil_of_le (Nat.le_refl _)] at ho2
      exact ho2 H2 hR2
  · have hbr : s.brackets = [] := by
      cases op with
      | nil => exact List.length_eq_zero_iff.mp hopl.symm
      | cons z l => cases hb
    rw [line_eq, if_neg hne, if_neg (by rw [hbr]; simp)] at hout
    obtain ⟨w0, wr, rfl⟩ : ∃ w0 wr, ws = w0 :: wr := by
      cases ws with
      | nil => exact absurd rfl hne
      | cons z l => exact ⟨z, l, rfl⟩
    obtain ⟨kw, hkw⟩ : ∃ kw, kd[w0]? = some kw := ⟨kd[w0]'(hwk w0 List.mem_cons_self), List.getElem?_eq_getElem (hwk w0 List.mem_cons_self)⟩
    refine ⟨_, rfl, r, dr, _, rfl, s0 _ _ h.hr, rF_no (by decide +kernel), _, rfl, _, rfl, W, _, 0, _, rfl, rfl, SqL.of (s0 _ _ (hRS.same _ _ hW)), nv_at (show (w0 :: wr)[0]? = some w0 from rfl), ?_⟩
    refine ⟨H0, kd, cl, ks, r, s, n, cc, col, w0, kw, wr, rfl, hRS.mono s0, hrel, hrdy, by omega, hkw, ?_⟩
    cases hbl : beginLine ks ⟨col, w0 :: wr⟩ s with
    | error e =>
      rw [hbl] at hout
      exact hout
    | ok t =>
      rw [hbl] at hout
      exact fun H2 hR2 => hN H2 ⟨t, cc + 2, by omega, hR2, beginLine_ok hrdy hbl, hout⟩
  · have hbr : s.brackets ≠ [] := fun z => by
      have : op = [] := List.length_eq_zero_iff.mp (by rw [hopl, z]; rfl)
      rw [this] at hb
      cases hb
    rw [line_eq, if_neg hne, if_pos hbr] at hout
    exact ⟨s, cc, by omega, hRS.mono s0, hrdy.mid hbr, hout⟩
end
end Mr

/-! ## MrText -/
set_option Elab.async false
set_option linter.all false
set_option maxRecDepth 100000
set_option maxHeartbeats 2000000
/-! # read_text -/
namespace Mr
open PySem PySem.Spec PyProof.Rows L2
open Sq16 (Item Open State Line)
/-- what a text was read into: a block, or None and a fault -/
def ReadAt (a : Ad) (H : Hp) (bv : V) (fl : Addr) : Except (Nat × Nat) (List Sq16.Statement) → Prop
  | .ok sts => ∃ b, bv = .ref b ∧ BlockAt a H [] b sts ∧ H fl = some (.lst [])
  | .error q => bv = .non ∧ H fl = some (.lst (nv [q.1, q.2]))
def spText (a : Ad) : Sp := fun vs H Q _ => ∃ (kd : List Nat) (cl : List (Key × V)) (ks : List Sq16.Kind) (k c L : Addr) (us : List V) (t : List Line), vs = [.ref k, .ref c, .ref L] ∧ H k = some (.lst (nv kd)) ∧ H c = some (.dK cl) ∧ H L = some (.lst us) ∧ Paired (LineAt H) us t ∧ KindRel kd cl ks ∧ TextOk kd.length t ∧
  ∀ (H' : Hp) (p fl : Addr) (bv : V), Same H H' → H p = none → H' p = some (.tup [bv, .ref fl]) → ReadAt a H' bv fl (Sq16.read ks t) → Q (.ref p) H'
def tbText (K : PySem.W.Frag) (a : Ad) (W : WX) : TS := tSeq (tFor (iList K (tVar 2)) (gTup K 2 (gCons (gName 5) (gCons (gName 6) gNil))) (tSeq (tIfS (tTest (tOp (rNeNat K) (tVar 6) (tLst tNil))) (tDrop (tMethW a.cR "read_line" (spLine a) (WE W) (tVar 3) (tCons (tVar 4) (tCons (tVar 5) (tCons (tVar 6) tNil))))) tNext) (tAsg (tOp (rI0 fun i j => .int (i + j)) (tVar 4) (tC (.int 1))) (gName 4))))
  (tDrop (tMethW a.cR "end" (spEnd a) (WE W) (tVar 3) tNil))
def tsText (a : Ad) : Addr → Value → Option Addr → TS := fun p cls d => tRet (tTup (tCons (tC .non) (tCons (tLst (tCons (tXf p cls d a.cW "what" (tVar 7)) (tCons (tVar 4) tNil))) tNil)))
section
variable {P : Program} {w : World} {K : PySem.W.Frag} {mg : Str → Option Value} {base : Heap} {a : Ad}
theorem scText : FnScope ["kinds", "closing", "lines", "reader", "number", "column", "words", "e"] ["kinds", "closing", "lines"] (defScope stReadText) := ⟨rfl, rfl, rfl, by decide +kernel, rfl, by decide +kernel, by decide +kernel⟩
theorem ok_text (T : Tx K mg a) : FnOk P w K mg base CX0 8 a.fReadText a.dReadText ["kinds", "closing", "lines"] (spText a) := by
  have GI : FnOk P w K mg base CX0 3 a.fRInit a.dRInit ["self", "kinds", "closing"] (spRInit a) := ok_rInit T
  have GL : FnOk P w K mg base (L2.CX P w) 7 a.fRLine a.dRLine ["self", "number", "column", "words"] (spLine a) := ok_line T
  have GE : FnOk P w K mg base (L2.CX P w) 3 a.fREnd a.dREnd ["self"] (spEnd a) := ok_end T
  refine T.readText.fn.ok scText (fun vs H Q E h => ?_) (fun cdv A outer s H vs Q E hr h => ?_)
  · obtain ⟨kd, cl, ks, k, c, L, us, t, rfl, _⟩ := h
    rfl
  obtain ⟨kd, cl, ks, k, c, L, us, t, rfl, hk, hc, hL, hus, hrel, htx, kk⟩ := h
  have nd := scText.nd
  have hr4 : Room 4 _ := hr.mono (by decide)
  have hr3 : Room 3 _ := hr.mono (by decide)
  have hr7 : Room 7 _ := hr.mono (by decide)
  refine ⟨_, pss_cons (ps_set (i := 3) nd rfl (Or.inl rfl) (pe_make T.rInit.made GI hr4 rfl T.rInit.g T.rInit.b .nil pass0 (pa_cons (pv 0) (pa_cons (pv 1) pa_nil))))
    (pss_cons (ps_set (i := 4) nd rfl (Or.inl rfl) pe_int)
    (pss_cons (ps_try_as (i := 7) (tb := tbText K a) (ts := tsText a) (Wout := fun _ _ _ _ => False) rfl rfl nd rfl rfl ⟨rfl, by decide, Or.inl T.wG⟩ takes0
      (fun W pn xe tk po => pss_cons (ps_for po rfl (pi_list (by exact (pv 2))) (pg_tup rfl (pgs_cons (pg_name (i := 5) nd rfl (Or.inl rfl)) (pgs_cons (pg_name (i := 6) nd rfl (Or.inl rfl)) pgs_nil)))
          (pss_cons (ps_if (pt_cmpR (op_neNat hr.units) (by exact (pv 6)) (pe_lst pa_nil) (nomark _))
              (pss_one (ps_expr (pe_methW (by exact (pv 3)) T.clR T.rLine.m GL hr7 T.rLine.b (fun σ => passAt tk σ) (by exact (pa_cons (pv 4) (pa_cons (pv 5) (pa_cons (pv 6) pa_nil))))))) pss_nil)
            (pss_one (ps_set (i := 4) nd rfl (Or.inl rfl) (by exact (pe_op op_add (pv 4) pe_int))))))
        (pss_one (ps_expr (pe_methW0 (by exact (pv 3)) T.clR T.rEnd.m GE hr3 T.rEnd.b (fun σ => passAt tk σ)))))
      (fun p oe cls d pn hz hf => pss_one (ps_ret (pe_tup (pa_cons pe_non (pa_cons (pe_lst (pa_cons (pe_xf T.wXf T.wWhat hz hf (by exact (pv 7))) (pa_cons (by exact (pv 4)) pa_nil))) pa_nil))))))
    (pss_one (ps_ret (pe_tup (pa_cons (pe_ix ix_list (pe_fld (pv 3) rfl) pe_int (fun _ _ => rfl)) (pa_cons (pe_lst pa_nil) pa_nil))))))), ?_⟩
  refine ⟨_, rfl, _, rfl, fun r dr hr0 hdr ne => ?_⟩
  refine ⟨H, r, dr, k, c, kd, cl, rfl, hr0, upd_same, (same_new hdr _).trans (same_new (by rw [upd_ne (Ne.symm ne)]; exact hr0) _), hk, hc, fun H1 hR1 => ⟨rfl, ?_⟩⟩
  have hlen := Paired.length hus
  -- what is caught
  have caught : ∀ (D : Ends) (e n : Nat) (v5 v6 v7 : Option V) (d : Addr) (H2 : Hp), (∀ v H, Q v H → D.rt v H) → Sq16.read ks t = .error (e, n) → Same H H2 → H2 d = some (.xd [("what", .int e)]) →
      wAs K (.ref a.cW) 7 (tsText a) (fun _ _ _ _ => False) D (.ref a.cW) (some d) [some (.ref k), some (.ref c), some (.ref L), some (.ref r), some (.int n), v5, v6, v7] H2 := by
    intro D e n v5 v6 v7 d H2 hD hrd sm hd
    refine ⟨true, T.wExm, fun _ p hp => ?_, fun z => by cases z⟩
    refine ⟨_, rfl, rfl, rfl, d, _, _, rfl, hd, rfl, _, rfl, by show 2 ≤ sizeLine; decide, fun fl hfl => ⟨by show 2 ≤ sizeLine; decide, fun q hq => hD _ _ ?_⟩⟩
    have nfl : fl ≠ q := ne_of_none upd_same hq
    have hq2 : H2 q = none := by
      rw [upd_ne (Ne.symm nfl)] at hq
      exact hq
    refine kk _ q fl .non ((sm.trans (same_new hfl _)).trans (same_new hq _)) ?_ upd_same ?_
    · cases z : H q with
      | none => rfl
      | some o =>
        have := sm _ _ z
        rw [hq2] at this
        cases this
    · rw [hrd]
      exact ⟨rfl, (upd_ne nfl).trans upd_same⟩
  refine ⟨_, rfl, L, rfl, ⟨_, SqL.of (hR1.same _ _ hL)⟩, for_list (K := K) (a := L) (xs := us)
    (fun i σ H' => ∃ (v5 v6 v7 : Option V) (s1 : State) (c1 : Nat), σ = [some (.ref k), some (.ref c), some (.ref L), some (.ref r), some (.int i), v5, v6, v7] ∧ RS a kd cl H H' r s1 ∧ Rdy i c1 s1 ∧ c1 ≤ 98 * i ∧ Sq16.lines ks 0 (t.take i) ⟨[], [], false⟩ = .ok s1)
    ⟨none, none, none, _, 0, rfl, hR1, Rdy.start, Nat.le_refl _, rfl⟩ (fun i σ H' _ ⟨_, _, _, _, _, _, hR, _⟩ => SqL.of (hR.same _ _ hL)) ?_ ?_⟩
  · rintro i y σ H2 hi ⟨v5, v6, v7, s1, c1, rfl, hR2, hrdy, hc1, hl⟩
    obtain ⟨x, hx, tt, wl, rfl, htt, hwl⟩ := pa_get hus hi
    have hil : i < t.length := (List.getElem?_eq_some_iff.mp hx).1
    have hxm : x ∈ t := List.mem_of_getElem? hx
    obtain ⟨hcol, h16, hwk⟩ := htx.2 x hxm
    have h40 := htx.1
    have ht : t = t.take i ++ (x :: t.drop (i + 1)) := by
      have e : t.drop i = x :: t.drop (i + 1) := by
        rw [List.drop_eq_getElem_cons hil]
        congr 1
        exact Option.some.inj ((List.getElem?_eq_getElem hil).symm.trans hx)
      rw [← e, List.take_append_drop]
    have htl : (t.take i).length = i := by
      rw [List.length_take]
      omega
    refine ⟨tt, _, rfl, SqT.of (hR2.same _ _ htt), rfl, _, _, rfl, _, _, rfl, rfl, ?_⟩
    refine ⟨_, rfl, by show 0 ≤ sizeLine; decide, fun e0 he0 => ?_⟩
    have s0 := same_new he0 (.lst [])
    have hR3 := hR2.mono s0
    refine ⟨wl, e0, x.words, [], rfl, rfl, SqL.of (hR3.same _ _ hwl), SqL.of upd_same, _, rfl, ?_⟩
    refine if_drop (fun H4 => ∃ s2, RS a kd cl H H4 r s2 ∧ Sq16.line ks i x s1 = .ok s2) ?_ (fun hb hN => ?_) (fun hb => ?_)
    · rintro H4 ⟨s2, hR4, hs2⟩
      refine ⟨_, rfl, _, _, rfl, rfl, _, _, _, s2, _, rfl, hR4, line_ok hrdy hs2, by omega, ?_⟩
      rw [take_more hx, lines_append, hl]
      simp only [Sq16.lines, htl, Nat.zero_add, hs2]
    · have hwne : x.words ≠ [] := fun z => by
        rw [z] at hb
        cases hb
      obtain ⟨dr3, k3, c3, B3, G3, op3, bs3, mu3, h3⟩ := hR3.comps
      refine ⟨_, rfl, r, dr3, _, rfl, h3.hr, rF_no (by decide +kernel), _, rfl, _, rfl, _, rfl, H, kd, cl, ks, r, s1, i, c1, x.column, x.words, wl, rfl, hR3, hrel, hrdy, by omega, hwl, hwne, h16, hwk, ?_⟩
      cases hline : Sq16.line ks i x s1 with
      | error e =>
        intro d H4 sm hd
        refine caught _ e i _ _ _ d H4 (fun _ _ q => q) ?_ sm hd
        rw [read_eq, ht, lines_append, hl]
        simp only [Sq16.lines, htl, Nat.zero_add, hline]
      | ok s2 => exact fun H4 hR4 => hN H4 ⟨s2, hR4, hline⟩
    · have hwe : x.words = [] := by
        cases e : x.words with
        | nil => rfl
        | cons z l =>
          rw [e] at hb
          cases hb
      refine ⟨s1, hR3, ?_⟩
      rw [line_eq, if_pos hwe]
  · rintro σ H2 ⟨v5, v6, v7, s1, c1, rfl, hR2, hrdy, hc1, hl⟩
    rw [hlen, List.take_of_length_le (Nat.le_refl _)] at hl
    rw [hlen] at hrdy
    obtain ⟨dr2, k2, c2, B2, G2, op2, bs2, mu2, h2⟩ := hR2.comps
    refine ⟨_, rfl, r, dr2, _, rfl, h2.hr, rF_no (by decide +kernel), H, kd, cl, r, s1, rfl, hR2, ?_⟩
    have hread := read_eq ks t
    rw [hl] at hread
    simp only at hread
    rw [hlen]
    by_cases hb : s1.brackets ≠ []
    · rw [if_pos hb]
      rw [if_pos hb] at hread
      intro d H4 sm hd
      exact caught _ 6 t.length _ _ _ d H4 (fun _ _ q => q) hread sm hd
    rw [if_neg hb]
    rw [if_neg hb] at hread
    by_cases hd : s1.due = true
    · rw [if_pos hd]
      rw [if_pos hd] at hread
      intro d H4 sm hd
      exact caught _ 2 t.length _ _ _ d H4 (fun _ _ q => q) hread sm hd
    rw [if_neg hd]
    rw [if_neg hd] at hread
    intro H3 hR3
    obtain ⟨dr, k', c', B, G, op, bs, mu, h, hs⟩ := hR3
    -- the block
    have hblk : ∃ b, bs[0]? = some (.ref b) ∧ BlockAt a H3 [] b (finish s1) := by
      rcases hs with ⟨e, b, d, L1, rfl, rfl, hb, hL1⟩ | ⟨hne, fs, e1, e2, ch⟩
      · refine ⟨b, rfl, d, L1, _, _, (fun z => nomatch z), (fun z => nomatch z), hb, hL1, ?_⟩
        unfold finish
        rw [e]
        exact StmtsAt.nil
      · have ndm : (muts fs).Nodup := e2 ▸ h.mu_nd
        obtain ⟨o, g, q1, q2, q3⟩ := ch.finish s1.stack.length (Nat.le_succ _) hne (fun x hx => by rw [e2]; exact List.mem_cons_of_mem _ (List.mem_cons_of_mem _ (List.mem_cons_of_mem _ hx))) ndm hrdy.all
        refine ⟨g.b, ?_, ?_⟩
        · rw [e1, List.getElem?_map, ← List.head?_eq_getElem?, List.head?_reverse, q2]
          rfl
        · unfold finish
          rw [q1]
          exact q3
    obtain ⟨b, hb0, hBl⟩ := hblk
    refine ⟨_, rfl, r, a.cR, dr, _, _, rfl, h.hr, T.clR, T.nR_blocks, rF_blocks .., B, _, 0, _, rfl, rfl, SqL.of h.hB, atI_nat (j := 0) hb0, by show 0 ≤ sizeLine; decide, fun fl hfl => ⟨by show 2 ≤ sizeLine; decide, fun q hq => ?_⟩⟩
    have nfl : fl ≠ q := ne_of_none upd_same hq
    have hq2 : H3 q = none := by
      rw [upd_ne (Ne.symm nfl)] at hq
      exact hq
    have s34 : Same H3 (upd (upd H3 fl (.lst [])) q (.tup [.ref b, .ref fl])) := (same_new hfl _).trans (same_new hq _)
    refine kk _ q fl (.ref b) (h.same.trans s34) ?_ upd_same ?_
    · cases z : H q with
      | none => rfl
      | some o =>
        have := h.same _ _ z
        rw [hq2] at this
        cases this
    · rw [hread]
      exact ⟨b, rfl, hBl.keep (fun _ z => z) (fun b o e _ => s34 b o e), (upd_ne nfl).trans upd_same⟩
end
end Mr

/-! ## MrKinds -/
set_option Elab.async false
set_option linter.all false
set_option maxRecDepth 100000
set_option maxHeartbeats 2000000
/-! # Kinds and pairs: the numbers' side and the specification's -/
namespace Mr
open PySem PySem.Spec PyProof.Rows L2
open Sq16 (Item Open State Line)
theorem val_skip (w : Nat) : ∀ (r : List (Nat × Nat)) (acc : List (Key × V)), w ∉ r.map (·.1) → valV (mergeK acc (r.map fun p => (Sum.inl (p.1 : Int), V.int p.2))) (Sum.inl (w : Int)) = valV acc (Sum.inl (w : Int))
  | [], acc, _ => rfl
  | p :: r, acc, h => by
    rw [List.map_cons, List.mem_cons, not_or] at h
    show valV (mergeK (putK acc (Sum.inl (p.1 : Int)) (V.int p.2)) (r.map fun p => (Sum.inl (p.1 : Int), V.int p.2))) (Sum.inl (w : Int)) = _
    rw [val_skip w r _ h.2, valV_put, if_neg]
    intro z
    injection z with z
    exact h.1 (by omega)
theorem val_merge (w c : Nat) : ∀ (r : List (Nat × Nat)) (acc : List (Key × V)), (r.map (·.1)).Nodup → (w, c) ∈ r → valV (mergeK acc (r.map fun p => (Sum.inl (p.1 : Int), V.int p.2))) (Sum.inl (w : Int)) = some (.int (c : Int))
  | [], acc, _, h => by cases h
  | p :: r, acc, n, h => by
    rw [List.map_cons, List.nodup_cons] at n
    show valV (mergeK (putK acc (Sum.inl (p.1 : Int)) (V.int p.2)) (r.map fun p => (Sum.inl (p.1 : Int), V.int p.2))) (Sum.inl (w : Int)) = _
    rcases List.mem_cons.mp h with e | h
    · subst e
      rw [val_skip w r _ n.1, valV_put, if_pos rfl]
    · exact val_merge w c r _ n.2 h
theorem mapM_some {α β : Type} {f : α → Option β} {g : α → β} : ∀ xs : List α, (∀ x ∈ xs, f x = some (g x)) → xs.mapM f = some (xs.map g)
  | [], _ => rfl
  | x :: xs, h => by
    rw [List.mapM_cons, h x List.mem_cons_self, mapM_some xs fun y hy => h y (List.mem_cons_of_mem _ hy)]
    rfl
theorem mapM_none {α β : Type} {f : α → Option β} : ∀ xs : List α, (∃ x ∈ xs, f x = none) → xs.mapM f = none
  | [], h => by
    obtain ⟨x, hx, _⟩ := h
    cases hx
  | x :: xs, h => by
    rw [List.mapM_cons]
    cases e : f x with
    | none => rfl
    | some y =>
      obtain ⟨z, hz, ez⟩ := h
      rcases List.mem_cons.mp hz with q | q
      · rw [q, e] at ez
        cases ez
      · rw [mapM_none xs ⟨z, q, ez⟩]
        rfl
theorem mem_idx1 {l : List Nat} {k : Nat} : k ∈ idx1 l ↔ l[k]? = some 1 := by
  unfold idx1
  rw [List.mem_filter, List.mem_range]
  constructor
  · rintro ⟨_, h⟩
    exact eq_of_beq h
  · intro h
    exact ⟨(List.getElem?_eq_some_iff.mp h).1, by rw [h]; rfl⟩
theorem idx1_nodup (l : List Nat) : (idx1 l).Nodup := by
  unfold idx1
  exact List.nodup_range.filter _
theorem zip_at {l : List Nat} {w k : Nat} : ((List.range l.length).zip l)[w]? = some (w, k) ↔ l[w]? = some k := by
  rw [List.getElem?_zip_eq_some]
  constructor
  · exact fun h => h.2
  · intro h
    exact ⟨List.getElem?_range (List.getElem?_eq_some_iff.mp h).1, h⟩
theorem zip_mem {l : List Nat} {x : Nat × Nat} (h : x ∈ (List.range l.length).zip l) : l[x.1]? = some x.2 := by
  obtain ⟨i, hi⟩ := List.mem_iff_getElem?.mp h
  rw [List.getElem?_zip_eq_some] at hi
  obtain ⟨h1, h2⟩ := hi
  have hlt : i < l.length := (List.getElem?_eq_some_iff.mp h2).1
  rw [List.getElem?_range hlt] at h1
  rw [← Option.some.inj h1]
  exact h2
def kf (ps : List (Nat × Nat)) (x : Nat × Nat) : Option Sq16.Kind := match x.2 with
  | 0 => some .plain
  | 1 => (ps.find? fun p => p.1 == x.1).map fun p => .opens p.2
  | 2 => some .closes
  | 3 => some .block
  | _ => some .on
def kg (ps : List (Nat × Nat)) (x : Nat × Nat) : Sq16.Kind := match x.2 with
  | 0 => .plain
  | 1 => .opens (((ps.find? fun p => p.1 == x.1).map fun p => p.2).getD 0)
  | 2 => .closes
  | 3 => .block
  | _ => .on
theorem kindsOf_eq (l : List Nat) (ps : List (Nat × Nat)) : Sq16.kindsOf l ps = if (l.any fun k => decide (4 < k)) = true ∨ (ps.all fun p => l[p.1]? == some 1 && l[p.2]? == some 2) = false ∨ decide (ps.map fun p => p.1).Nodup = false then none else
    ((List.range l.length).zip l).mapM (kf ps) := rfl
theorem any_all (l : List Nat) : (l.any fun k => decide (4 < k)) = !(l.all fun k => decide (k ≤ 4)) := by
  rw [List.not_all_eq_any_not]
  congr 1
  funext k
  by_cases h : k ≤ 4
  · rw [decide_eq_true h, decide_eq_false (by omega)]
    rfl
  · rw [decide_eq_false h, decide_eq_true (by omega)]
    rfl
theorem kinds_big {l m : List Nat} (h : (l.all fun k => decide (k ≤ 4)) = false) : (Sq16.pairsOf m).bind (Sq16.kindsOf l) = none := by
  cases e : Sq16.pairsOf m with
  | none => rfl
  | some ps =>
    show Sq16.kindsOf l ps = none
    rw [kindsOf_eq, if_pos (.inl (by rw [any_all, h]; rfl))]
theorem kinds_bad {l m : List Nat} (h : pairsGood l m = none) : (Sq16.pairsOf m).bind (Sq16.kindsOf l) = none := by
  unfold pairsGood at h
  cases e : Sq16.pairsOf m with
  | none => rfl
  | some ps =>
    rw [e] at h
    simp only at h
    show Sq16.kindsOf l ps = none
    rw [kindsOf_eq]
    by_cases h1 : (ps.all fun p => isPairB l p.1 p.2) = true
    · by_cases h2 : (ps.map fun p => p.1).Nodup
      · by_cases h0 : (l.any fun k => decide (4 < k)) = true
        · rw [if_pos (.inl h0)]
        rw [if_neg]
        · refine mapM_none _ ?_
          have hsub : ∀ k ∈ ps.map (·.1), k ∈ idx1 l := by
            intro k hk
            obtain ⟨p, hp, rfl⟩ := List.mem_map.mp hk
            have := List.all_eq_true.mp h1 p hp
            unfold isPairB at this
            rw [Bool.and_eq_true] at this
            exact mem_idx1.mpr (eq_of_beq this.1)
          have hnot : ∃ k, k ∈ idx1 l ∧ k ∉ ps.map (·.1) := by
            apply Classical.byContradiction
            intro hc
            have hsup : ∀ k ∈ idx1 l, k ∈ ps.map (·.1) := fun k hk => Classical.byContradiction fun z => hc ⟨k, hk, z⟩
            have hp : (ps.map (·.1)).Perm (idx1 l) := (List.perm_ext_iff_of_nodup h2 (idx1_nodup l)).mpr fun k => ⟨hsub k, hsup k⟩
            rw [if_pos ⟨h1, List.isPerm_iff.mpr hp⟩] at h
            cases h
          obtain ⟨k, hk, hnk⟩ := hnot
          refine ⟨(k, 1), List.mem_of_getElem? (zip_at.mpr (mem_idx1.mp hk)), ?_⟩
          show ((ps.find? fun p => p.1 == k).map fun p => Sq16.Kind.opens p.2) = none
          rw [Option.map_eq_none_iff, List.find?_eq_none]
          intro p hp z
          exact hnk (List.mem_map.mpr ⟨p, hp, eq_of_beq z⟩)
        · rintro (z | z | z)
          · exact h0 z
          · have z' : (ps.all fun p => isPairB l p.1 p.2) = false := z
            rw [h1] at z'
            cases z'
          · rw [decide_eq_true h2] at z
            cases z
      · rw [if_pos (.inr (.inr (decide_eq_false h2)))]
    · rw [if_pos (.inr (.inl (by
        show (ps.all fun p => isPairB l p.1 p.2) = false
        simpa using h1)))]
theorem kinds_good {l m : List Nat} {ps : List (Nat × Nat)} (hl : (l.all fun k => decide (k ≤ 4)) = true) (h : pairsGood l m = some ps) : ∃ ks, (Sq16.pairsOf m).bind (Sq16.kindsOf l) = some ks ∧ KindRel l (dictOf ps) ks := by
  unfold pairsGood at h
  cases e : Sq16.pairsOf m with
  | none =>
    rw [e] at h
    cases h
  | some qs =>
    rw [e] at h
    simp only at h
    by_cases hc : (qs.all fun p => isPairB l p.1 p.2) = true ∧ (qs.map (·.1)).isPerm (idx1 l) = true
    · rw [if_pos hc] at h
      obtain rfl := Option.some.inj h
      obtain ⟨h1, h2⟩ := hc
      have hperm : (qs.map (·.1)).Perm (idx1 l) := List.isPerm_iff.mp h2
      have hnd : (qs.map (·.1)).Nodup := hperm.nodup_iff.mpr (idx1_nodup l)
      have hfind : ∀ w, l[w]? = some 1 → ∃ p, (qs.find? fun p => p.1 == w) = some p ∧ p ∈ qs ∧ p.1 = w := by
        intro w hw
        have : w ∈ qs.map (·.1) := hperm.mem_iff.mpr (mem_idx1.mpr hw)
        obtain ⟨p, hp, hpw⟩ := List.mem_map.mp this
        cases ef : qs.find? fun p => p.1 == w with
        | none =>
          have := List.find?_eq_none.mp ef p hp
          exact absurd (beq_iff_eq.mpr hpw) this
        | some q => exact ⟨q, rfl, List.mem_of_find?_eq_some ef, by have z := List.find?_some ef; exact eq_of_beq z⟩
      have hk : ∀ x ∈ (List.range l.length).zip l, kf qs x = some (kg qs x) := by
        intro x hx
        have hx2 := zip_mem hx
        obtain ⟨w, k⟩ := x
        match k, hx2 with
        | 0, _ => rfl
        | 1, hx2 =>
          obtain ⟨p, hp, _⟩ := hfind w hx2
          show ((qs.find? fun p => p.1 == w).map fun p => Sq16.Kind.opens p.2) = some (.opens (((qs.find? fun p => p.1 == w).map fun p => p.2).getD 0))
          rw [hp]
          rfl
        | 2, _ => rfl
        | 3, _ => rfl
        | k + 4, _ => rfl
      refine ⟨((List.range l.length).zip l).map (kg qs), ?_, ?_⟩
      · show Sq16.kindsOf l qs = _
        rw [kindsOf_eq, if_neg, mapM_some _ hk]
        rintro (z | z | z)
        · rw [any_all, hl] at z
          cases z
        · have z' : (qs.all fun p => isPairB l p.1 p.2) = false := z
          rw [h1] at z'
          cases z'
        · have hnd' : (qs.map fun p => p.1).Nodup := hnd
          rw [decide_eq_true hnd'] at z
          cases z
      · have hko : ∀ w k, l[w]? = some k → Sq16.kindOf (((List.range l.length).zip l).map (kg qs)) w = kg qs (w, k) := by
          intro w k hw
          unfold Sq16.kindOf
          rw [List.getElem?_map, zip_at.mpr hw]
          rfl
        refine ⟨by rw [List.length_map, List.length_zip, List.length_range]; omega, fun w k hw => of_decide_eq_true (List.all_eq_true.mp hl k (List.mem_of_getElem? hw)), fun w hw => hko w 0 hw, fun w hw => ?_, fun w hw => hko w 2 hw, fun w hw => hko w 3 hw, fun w hw => hko w 4 hw⟩
        obtain ⟨p, hp, hpm, hpw⟩ := hfind w hw
        refine ⟨p.2, ?_, ?_⟩
        · rw [hko w 1 hw]
          show Sq16.Kind.opens (((qs.find? fun p => p.1 == w).map fun p => p.2).getD 0) = _
          rw [hp]
          rfl
        · unfold dictOf
          refine val_merge w p.2 qs [] hnd ?_
          rw [← hpw]
          exact hpm
    · rw [if_neg hc] at h
      cases h
end Mr

/-! ## MrDesk0 -/
set_option Elab.async false
set_option linter.all false
set_option maxRecDepth 100000
set_option maxHeartbeats 400000
/-! # The desk: what stands in the heap; __init__, put_lines -/
namespace Mr
open PySem PySem.Spec PyProof.Rows L2
open Sq16 (Item Open State Line House)
/-- what a tree is made of -/
def TreeO (a : Ad) (o : HO) : Prop := (∃ xs, o = .lst xs) ∨ (∃ dx fs, o = .ins a.cB dx fs) ∨ ∃ dx fs, o = .ins a.cS dx fs
theorem TreeO.l {a : Ad} {xs : List V} : TreeO a (.lst xs) := .inl ⟨_, rfl⟩
theorem TreeO.b {a : Ad} {dx : Addr} {fs : List (Str × V)} : TreeO a (.ins a.cB dx fs) := .inr (.inl ⟨_, _, rfl⟩)
theorem TreeO.s {a : Ad} {dx : Addr} {fs : List (Str × V)} : TreeO a (.ins a.cS dx fs) := .inr (.inr ⟨_, _, rfl⟩)
section
variable {a : Ad} {H H' : Hp}
mutual
theorem ItemAt.keepT (hk : ∀ b o, H b = some o → TreeO a o → H' b = some o) : ∀ {v : V} {x : Item}, ItemAt a H [] v x → ItemAt a H' [] v x
  | v, .word w n, h => by
    rw [itemAt_word] at h ⊢
    exact h
  | v, .block l, h => by
    rw [itemAt_block] at h ⊢
    obtain ⟨b, dx, L, c, ss, e, h1, h2, h3, h4, h5⟩ := h
    exact ⟨b, dx, L, c, ss, e, h1, h2, hk _ _ h3 .b, hk _ _ h4 .l, StmtsAt.keepT hk h5⟩
theorem ItemsAt.keepT (hk : ∀ b o, H b = some o → TreeO a o → H' b = some o) : ∀ {vs : List V} {l : List Item}, ItemsAt a H [] vs l → ItemsAt a H' [] vs l
  | vs, [], h => by
    rw [itemsAt_nil] at h ⊢
    exact h
  | vs, x :: l, h => by
    rw [itemsAt_cons] at h ⊢
    obtain ⟨v, r, e, h1, h2⟩ := h
    exact ⟨v, r, e, ItemAt.keepT hk h1, ItemsAt.keepT hk h2⟩
theorem StmtsAt.keepT (hk : ∀ b o, H b = some o → TreeO a o → H' b = some o) : ∀ {vs : List V} {l : List (List Item)}, StmtsAt a H [] vs l → StmtsAt a H' [] vs l
  | vs, [], h => by
    rw [stmtsAt_nil] at h ⊢
    exact h
  | vs, s :: l, h => by
    rw [stmtsAt_cons] at h ⊢
    obtain ⟨v, r, e, ⟨st, dx, T, f, n, ts, ev, m1, m2, h1, h2, h3, h4⟩, h5⟩ := h
    exact ⟨v, r, e, ⟨st, dx, T, f, n, ts, ev, m1, m2, hk _ _ h1 .s, hk _ _ h2 .l, ItemsAt.keepT hk h3, h4⟩, StmtsAt.keepT hk h5⟩
end
theorem BlockAt.keepT (hk : ∀ b o, H b = some o → TreeO a o → H' b = some o) {b : Addr} {l : List (List Item)} (h : BlockAt a H [] b l) : BlockAt a H' [] b l := by
  obtain ⟨dx, L, c, ss, h1, h2, h3, h4, h5⟩ := h
  exact ⟨dx, L, c, ss, h1, h2, hk _ _ h3 .b, hk _ _ h4 .l, h5.keepT hk⟩
theorem ReadAt.keepT (hk : ∀ b o, H b = some o → TreeO a o → H' b = some o) {bv : V} {fl : Addr} : ∀ {res : Except (Nat × Nat) (List Sq16.Statement)}, ReadAt a H bv fl res → ReadAt a H' bv fl res
  | .ok sts, h => by
    obtain ⟨b, e, h1, h2⟩ := h
    exact ⟨b, e, h1.keepT hk, hk _ _ h2 .l⟩
  | .error q, h => ⟨h.1, hk _ _ h.2 .l⟩
end
/-- what a desk is made of -/
def DeskO (a : Ad) (o : HO) : Prop := TreeO a o ∨ (∃ kvs, o = .dK kvs) ∨ (∃ xs, o = .tup xs) ∨ ∃ dx fs, o = .ins a.cD dx fs
theorem DeskO.l {a : Ad} {xs : List V} : DeskO a (.lst xs) := .inl .l
theorem DeskO.k {a : Ad} {kvs : List (Key × V)} : DeskO a (.dK kvs) := .inr (.inl ⟨_, rfl⟩)
theorem DeskO.t {a : Ad} {xs : List V} : DeskO a (.tup xs) := .inr (.inr (.inl ⟨_, rfl⟩))
theorem DeskO.d {a : Ad} {dx : Addr} {fs : List (Str × V)} : DeskO a (.ins a.cD dx fs) := .inr (.inr (.inr ⟨_, _, rfl⟩))
structure DeskIn (a : Ad) (H : Hp) (d dx k c L : Addr) (bv : V) (fl : Addr) (kd : List Nat) (cl : List (Key × V)) (us : List V) (h : House) : Prop where
  hd : H d = some (.ins a.cD dx (dF k c L bv fl))
  hk : H k = some (.lst (nv kd))
  hc : H c = some (.dK cl)
  hL : H L = some (.lst us)
  hus : Paired (LineAt H) us h.text
  rel : KindRel kd cl h.kinds
  tx : TextOk kd.length h.text
  rd : ReadAt a H bv fl (Sq16.read h.kinds h.text)
/-- the desk at d is in a house's state -/
def DeskAt (a : Ad) (H : Hp) (d : Addr) (h : House) : Prop := ∃ (dx k c L : Addr) (bv : V) (fl : Addr) (kd : List Nat) (cl : List (Key × V)) (us : List V), DeskIn a H d dx k c L bv fl kd cl us h
theorem DeskIn.move {a : Ad} {H H' : Hp} {d dx k c L : Addr} {bv : V} {fl : Addr} {kd : List Nat} {cl : List (Key × V)} {us : List V} {h : House} (D : DeskIn a H d dx k c L bv fl kd cl us h) (hk : ∀ b o, H b = some o → DeskO a o → H' b = some o) : DeskIn a H' d dx k c L bv fl kd cl us h :=
  ⟨hk _ _ D.hd .d, hk _ _ D.hk .l, hk _ _ D.hc .k, hk _ _ D.hL .l, pa_imp (fun v x ⟨t, wl, e, h1, h2⟩ => ⟨t, wl, e, hk _ _ h1 .t, hk _ _ h2 .l⟩) D.hus, D.rel, D.tx, D.rd.keepT fun b o e t => hk b o e (.inl t)⟩
theorem DeskAt.move {a : Ad} {H H' : Hp} {d : Addr} {h : House} (D : DeskAt a H d h) (hk : ∀ b o, H b = some o → DeskO a o → H' b = some o) : DeskAt a H' d h := by
  obtain ⟨dx, k, c, L, bv, fl, kd, cl, us, D⟩ := D
  exact ⟨dx, k, c, L, bv, fl, kd, cl, us, D.move hk⟩
theorem DeskAt.same {a : Ad} {H H' : Hp} {d : Addr} {h : House} (D : DeskAt a H d h) (s : Same H H') : DeskAt a H' d h := D.move fun b o e _ => s b o e
theorem DeskIn.same {a : Ad} {H H' : Hp} {d dx k c L : Addr} {bv : V} {fl : Addr} {kd : List Nat} {cl : List (Key × V)} {us : List V} {h : House} (D : DeskIn a H d dx k c L bv fl kd cl us h) (s : Same H H') : DeskIn a H' d dx k c L bv fl kd cl us h := D.move fun b o e _ => s b o e
theorem kinds_fresh : KindRel [0] [] Sq16.fresh.kinds := by
  refine ⟨rfl, fun w k h => ?_, fun w h => ?_, fun w h => ?_, fun w h => ?_, fun w h => ?_, fun w h => ?_⟩
  all_goals cases w with
    | zero => first | (obtain rfl : 0 = k := Option.some.inj h; exact Nat.zero_le _) | rfl | (cases h)
    | succ w => cases h
theorem text_nil (n : Nat) : TextOk n [] := ⟨Nat.zero_le _, fun x hx => by cases hx⟩
def spDPut (a : Ad) : Sp := fun vs H Q _ => ∃ (d dx k c L0 : Addr) (bv : V) (fl0 : Addr) (kd : List Nat) (cl : List (Key × V)) (ks : List Sq16.Kind) (L : Addr) (us : List V) (t : List Line), vs = [.ref d, .ref L] ∧ H d = some (.ins a.cD dx (dF k c L0 bv fl0)) ∧ H k = some (.lst (nv kd)) ∧ H c = some (.dK cl) ∧ H L = some (.lst us) ∧ Paired (LineAt H) us t ∧ KindRel kd cl ks ∧ TextOk kd.length t ∧
  ∀ H', But d H H' → DeskAt a H' d ⟨ks, t⟩ → Q .non H'
def spDInit (a : Ad) : Sp := fun vs H Q _ => ∃ (p dx : Addr), vs = [.ref p] ∧ H p = some (.ins a.cD dx []) ∧ ∀ H', But p H H' → DeskAt a H' p Sq16.fresh → Q .non H'
section
variable {P : Program} {w : World} {K : PySem.W.Frag} {mg : Str → Option Value} {base : Heap} {a : Ad}
theorem Tx.neDB (T : Tx K mg a) : a.cD ≠ a.cB := fun z => by
  have h1 := T.dPut.m.at_
  rw [z, show PySem.W.findIn K (.ref a.cB) "put_lines" = some none from T.nB_put] at h1
  cases h1
theorem Tx.neDS (T : Tx K mg a) : a.cD ≠ a.cS := fun z => by
  have h1 := T.dPut.m.at_
  rw [z, show PySem.W.findIn K (.ref a.cS) "put_lines" = some none from T.nS_put] at h1
  cases h1
theorem scDPut : FnScope ["self", "lines"] ["self", "lines"] (defScope stDPut) := ⟨rfl, rfl, rfl, by decide +kernel, rfl, by decide +kernel, by decide +kernel⟩
theorem ok_dPut (T : Tx K mg a) : FnOk P w K mg base CX0 9 a.fDPut a.dDPut ["self", "lines"] (spDPut a) := by
  have GT : FnOk P w K mg base CX0 8 a.fReadText a.dReadText ["kinds", "closing", "lines"] (spText a) := ok_text T
  refine T.dPut.fn.ok scDPut (fun vs H Q E h => ?_) (fun cdv A outer s H vs Q E hr h => ?_)
  · obtain ⟨d, dx, k, c, L0, bv, fl0, kd, cl, ks, L, us, t, rfl, _⟩ := h
    rfl
  obtain ⟨d, dx, k, c, L0, bv, fl0, kd, cl, ks, L, us, t, rfl, hd, hk, hc, hL, hus, rel, tx, kk⟩ := h
  have nd := scDPut.nd
  refine ⟨_, pss_cons (ps_fld (pv 0) (pv 1) rfl) (pss_one (ps_asg (pe_call GT (hr.mono (by decide)) rfl T.readText.g T.readText.fn.kp T.readText.b .nil pass0 (pa_cons (pe_fld (pv 0) rfl) (pa_cons (pe_fld (pv 0) rfl) (pa_cons (pv 1) pa_nil))))
    (pg_tup rfl (pgs_cons (pg_fld (pv 0)) (pgs_cons (pg_fld (pv 0)) pgs_nil))))), ?_⟩
  have kd_ : k ≠ d := fun z => by rw [z, hd] at hk; cases hk
  have cd_ : c ≠ d := fun z => by rw [z, hd] at hc; cases hc
  have Ld_ : L ≠ d := fun z => by rw [z, hd] at hL; cases hL
  refine ⟨_, rfl, _, rfl, d, a.cD, dx, _, rfl, hd, T.clD, T.nD_lines, by show 5 < 1000; decide, ?_⟩
  rw [dF_setLines]
  have b1 : But d H (upd H d (.ins a.cD dx (dF k c L bv fl0))) := But.upd d H _
  have hus1 : Paired (LineAt (upd H d (.ins a.cD dx (dF k c L bv fl0)))) us t := pa_imp (fun v x ⟨p, wl, e, h1, h2⟩ => ⟨p, wl, e, b1 _ _ h1 (fun z => by rw [z, hd] at h1; cases h1), b1 _ _ h2 (fun z => by rw [z, hd] at h2; cases h2)⟩) hus
  refine ⟨_, rfl, d, a.cD, dx, _, _, rfl, upd_same, T.clD, T.nD_kinds, dF_kinds .., _, rfl, d, a.cD, dx, _, _, rfl, upd_same, T.clD, T.nD_closing, dF_closing .., _, rfl, kd, cl, ks, k, c, L, us, t, rfl, b1 _ _ hk kd_, b1 _ _ hc cd_, b1 _ _ hL Ld_, hus1, rel, tx, fun H1 p fl bv1 s1 _ hp hrd => ?_⟩
  have hd1 : H1 d = some (.ins a.cD dx (dF k c L bv fl0)) := s1 _ _ upd_same
  refine ⟨p, _, rfl, SqT.of hp, rfl, _, _, rfl, ?_⟩
  refine ⟨_, rfl, d, a.cD, dx, _, rfl, hd1, T.clD, T.nD_block, by show 5 < 1000; decide, _, _, rfl, _, rfl, d, a.cD, dx, _, rfl, upd_same, T.clD, T.nD_fault, by show 5 < 1000; decide, rfl, ?_⟩
  rw [upd_upd, dF_setBlock, dF_setFault]
  have b2 : But d H1 (upd H1 d (.ins a.cD dx (dF k c L bv1 fl))) := But.upd d H1 _
  have b3 : But d H (upd H1 d (.ins a.cD dx (dF k c L bv1 fl))) := (b1.trans (But.of_same s1)).trans b2
  refine kk _ b3 ⟨dx, k, c, L, bv1, fl, kd, cl, us, upd_same, b3 _ _ hk kd_, b3 _ _ hc cd_, b3 _ _ hL Ld_, pa_imp (fun v x ⟨p, wl, e, h1, h2⟩ => ⟨p, wl, e, b3 _ _ h1 (fun z => by rw [z, hd] at h1; cases h1), b3 _ _ h2 (fun z => by rw [z, hd] at h2; cases h2)⟩) hus, rel, tx, ?_⟩
  refine hrd.keepT fun b o e t => b2 b o e fun z => ?_
  rw [z, hd1] at e
  have e2 := Option.some.inj e
  rcases t with ⟨_, z⟩ | ⟨_, _, z⟩ | ⟨_, _, z⟩
  · rw [← e2] at z
    cases z
  · rw [← e2] at z
    injection z with z1
    exact T.neDB z1
  · rw [← e2] at z
    injection z with z1
    exact T.neDS z1
theorem scDInit : FnScope ["self"] ["self"] (defScope stDInit) := ⟨rfl, rfl, rfl, by decide +kernel, rfl, by decide +kernel, by decide +kernel⟩
theorem ok_dInit (T : Tx K mg a) : FnOk P w K mg base CX0 10 a.fDInit a.dDInit ["self"] (spDInit a) := by
  have GP : FnOk P w K mg base CX0 9 a.fDPut a.dDPut ["self", "lines"] (spDPut a) := ok_dPut T
  refine T.dInit.fn.ok scDInit (fun vs H Q E h => ?_) (fun cdv A outer s H vs Q E hr h => ?_)
  · obtain ⟨p, dx, rfl, _⟩ := h
    rfl
  obtain ⟨p, dx, rfl, hp, kk⟩ := h
  refine ⟨_, pss_cons (ps_fld (pv 0) (pe_lst (pa_cons (pe_gi rfl T.k_PLAIN) pa_nil)) rfl) (pss_cons (ps_fld (pv 0) pe_dnewK rfl) (pss_cons (ps_fld (pv 0) (pe_lst pa_nil) rfl) (pss_cons (ps_fld (pv 0) pe_non rfl) (pss_cons (ps_fld (pv 0) (pe_lst pa_nil) rfl)
    (pss_one (ps_expr (pe_meth (pv 0) T.clD T.dPut.m GP (hr.mono (by decide)) T.dPut.b .nil pass0 (pa_cons (pe_lst pa_nil) pa_nil)))))))), ?_⟩
  refine ⟨by show 1 ≤ sizeLine; decide, fun k hk => ⟨_, rfl, p, a.cD, dx, [], rfl, same_new hk _ _ _ hp, T.clD, T.nD_kinds, by decide, ?_⟩⟩
  have pk : p ≠ k := ne_of_none hp hk
  have b1 : But p H (upd (upd H k (.lst [.int 0])) p (.ins a.cD dx (putF "kinds" (.ref k) []))) := (But.of_same (same_new hk _)).trans (But.upd p _ _)
  have k1 : upd (upd H k (.lst [.int 0])) p (.ins a.cD dx (putF "kinds" (.ref k) [])) k = some (.lst [.int 0]) := (upd_ne (Ne.symm pk)).trans upd_same
  have p1 : upd (upd H k (.lst [.int 0])) p (.ins a.cD dx (putF "kinds" (.ref k) [])) p = some (.ins a.cD dx (putF "kinds" (.ref k) [])) := upd_same
  generalize upd (upd H k (.lst [.int 0])) p (.ins a.cD dx (putF "kinds" (.ref k) [])) = H1 at b1 k1 p1 ⊢
  intro c hc
  have pc : p ≠ c := ne_of_none p1 hc
  refine ⟨_, rfl, p, a.cD, dx, _, rfl, (upd_ne pc).trans p1, T.clD, T.nD_closing, by show 1 < 1000; decide, ?_⟩
  have b2 : But p H1 (upd (upd H1 c (.dK [])) p (.ins a.cD dx (putF "closing" (.ref c) (putF "kinds" (.ref k) [])))) := (But.of_same (same_new hc _)).trans (But.upd p _ _)
  have c2 : upd (upd H1 c (.dK [])) p (.ins a.cD dx (putF "closing" (.ref c) (putF "kinds" (.ref k) []))) c = some (.dK []) := (upd_ne (Ne.symm pc)).trans upd_same
  have p2 : upd (upd H1 c (.dK [])) p (.ins a.cD dx (putF "closing" (.ref c) (putF "kinds" (.ref k) []))) p = some (.ins a.cD dx (putF "closing" (.ref c) (putF "kinds" (.ref k) []))) := upd_same
  generalize upd (upd H1 c (.dK [])) p (.ins a.cD dx (putF "closing" (.ref c) (putF "kinds" (.ref k) []))) = H2 at b2 c2 p2 ⊢
  refine ⟨by show 0 ≤ sizeLine; decide, fun L hL => ⟨_, rfl, p, a.cD, dx, _, rfl, (upd_ne (ne_of_none p2 hL)).trans p2, T.clD, T.nD_lines, by show 2 < 1000; decide, ?_⟩⟩
  refine ⟨_, rfl, p, a.cD, dx, _, rfl, upd_same, T.clD, T.nD_block, by show 3 < 1000; decide, ?_⟩
  rw [upd_upd]
  have b3 : But p H2 (upd (upd H2 L (.lst [])) p (.ins a.cD dx (putF "block" .non (putF "lines" (.ref L) (putF "closing" (.ref c) (putF "kinds" (.ref k) [])))))) := (But.of_same (same_new hL _)).trans (But.upd p _ _)
  have p3 : upd (upd H2 L (.lst [])) p (.ins a.cD dx (putF "block" .non (putF "lines" (.ref L) (putF "closing" (.ref c) (putF "kinds" (.ref k) []))))) p = some (.ins a.cD dx (putF "block" .non (putF "lines" (.ref L) (putF "closing" (.ref c) (putF "kinds" (.ref k) []))))) := upd_same
  generalize upd (upd H2 L (.lst [])) p (.ins a.cD dx (putF "block" .non (putF "lines" (.ref L) (putF "closing" (.ref c) (putF "kinds" (.ref k) []))))) = H3 at b3 p3 ⊢
  refine ⟨by show 0 ≤ sizeLine; decide, fun fl hfl => ⟨_, rfl, p, a.cD, dx, _, rfl, (upd_ne (ne_of_none p3 hfl)).trans p3, T.clD, T.nD_fault, by show 4 < 1000; decide, ?_⟩⟩
  have b4 : But p H3 (upd (upd H3 fl (.lst [])) p (.ins a.cD dx (putF "fault" (.ref fl) (putF "block" .non (putF "lines" (.ref L) (putF "closing" (.ref c) (putF "kinds" (.ref k) []))))))) := (But.of_same (same_new hfl _)).trans (But.upd p _ _)
  have p4 : upd (upd H3 fl (.lst [])) p (.ins a.cD dx (putF "fault" (.ref fl) (putF "block" .non (putF "lines" (.ref L) (putF "closing" (.ref c) (putF "kinds" (.ref k) [])))))) p = some (.ins a.cD dx (dF k c L .non fl)) := upd_same.trans (by rfl)
  generalize upd (upd H3 fl (.lst [])) p (.ins a.cD dx (putF "fault" (.ref fl) (putF "block" .non (putF "lines" (.ref L) (putF "closing" (.ref c) (putF "kinds" (.ref k) [])))))) = H4 at b4 p4 ⊢
  have bb := (b2.trans b3).trans b4
  have hk4 := bb _ _ k1 (Ne.symm pk)
  have hc4 := (b3.trans b4) _ _ c2 (Ne.symm pc)
  refine ⟨_, rfl, p, dx, _, rfl, p4, dF_no (by decide +kernel), by show 0 ≤ sizeLine; decide, fun L2 hL2 => ?_⟩
  have s2 := same_new hL2 (.lst [])
  exact ⟨p, dx, k, c, L, .non, fl, [0], [], [.plain], L2, [], [], rfl, s2 _ _ p4, s2 _ _ hk4, s2 _ _ hc4, upd_same, .nil, kinds_fresh, text_nil _, fun H' b1' D => kk H' (((b1.trans bb).trans (But.of_same s2)).trans b1') D⟩
end
end Mr

/-! ## MrDesk1 -/
set_option Elab.async false
set_option linter.all false
set_option maxRecDepth 100000
set_option maxHeartbeats 400000
/-! # The desk: told, shape, set_out, begin -/
namespace Mr
open PySem PySem.Spec PyProof.Rows L2
open Sq16 (Item Open State Line House)
def iv (l : List Int) : List V := l.map V.int
theorem iv_nv (l : List Nat) : iv (Sq16.ints l) = nv l := by
  unfold iv nv Sq16.ints
  rw [List.map_map]
  rfl
theorem iv_cons (z : Int) (l : List Int) : iv (z :: l) = .int z :: iv l := rfl
def outL (o : Sq16.Out) : List Int := o.value :: o.out
/-- a call's answer -/
def Ans (a : Ad) (H : Hp) (d : Addr) (r : House × Sq16.Out) (Q : VK) : Prop := ∀ (H' : Hp) (q : Addr), But d H H' → DeskAt a H' d r.1 → H' q = some (.lst (iv (outL r.2))) → Q (.ref q) H'
theorem ans_new {a : Ad} {H H1 : Hp} {d : Addr} {h : House} {o : Sq16.Out} {Q : VK} (D : DeskAt a H1 d h) (b : But d H H1) (k : Ans a H d (h, o) Q) {q : Addr} (hq : H1 q = none) {l : List V} (e : l = iv (outL o)) : Q (.ref q) (upd H1 q (.lst l)) :=
  k _ q (b.trans (But.of_same (same_new hq _))) (D.same (same_new hq _)) (by rw [upd_same, e])
def spDTold (a : Ad) : Sp := fun vs H Q _ => ∃ (d : Addr) (h : House), vs = [.ref d] ∧ DeskAt a H d h ∧ ∀ (H' : Hp) (q : Addr), Same H H' → H' q = some (.lst (iv (outL h.tells))) → Q (.ref q) H'
def spDShape (a : Ad) : Sp := fun vs H Q _ => ∃ (d : Addr) (h : House), vs = [.ref d] ∧ DeskAt a H d h ∧ Ans a H d (h.step .shape) Q
def spDSet (a : Ad) : Sp := fun vs H Q _ => ∃ (d : Addr) (h : House) (st m : Nat), vs = [.ref d, .int st, .int m] ∧ DeskAt a H d h ∧ Ans a H d (h.step (.set st m)) Q
def spDBegin (a : Ad) : Sp := fun vs H Q _ => ∃ (d : Addr) (h : House) (k m : Addr) (ks ms : List Nat), vs = [.ref d, .ref k, .ref m] ∧ DeskAt a H d h ∧ H k = some (.lst (nv ks)) ∧ H m = some (.lst (nv ms)) ∧ ks.length ≤ 1024 ∧ ms.length ≤ 1024 ∧ Ans a H d (h.step (.begin_ ks ms)) Q
section
variable {P : Program} {w : World} {K : PySem.W.Frag} {mg : Str → Option Value} {base : Heap} {a : Ad}
theorem scDTold : FnScope ["self"] ["self"] (defScope stDTold) := ⟨rfl, rfl, rfl, by decide +kernel, rfl, by decide +kernel, by decide +kernel⟩
theorem ok_dTold (T : Tx K mg a) : FnOk P w K mg base CX0 1 a.fDTold a.dDTold ["self"] (spDTold a) := by
  refine T.dTold.fn.ok scDTold (fun vs H Q E h => ?_) (fun cdv A outer s H vs Q E hr h => ?_)
  · obtain ⟨d, h, rfl, _⟩ := h
    rfl
  obtain ⟨d, h, rfl, ⟨dx, k, c, L, bv, fl, kd, cl, us, D⟩, kk⟩ := h
  refine ⟨_, pss_cons (ps_if (pt_cmpR op_isN (pe_fld (pv 0) rfl) pe_non (nomark _)) (pss_one (ps_ret (pe_op op_cat (pe_lst (pa_cons pe_int pa_nil)) (pe_fld (pv 0) rfl)))) pss_nil)
    (pss_one (ps_ret (pe_lst (pa_cons pe_int (pa_cons (pe_callB call_len_seq (by rfl) T.b_len PySem.boot_len (pa_cons (pe_fld (pe_fld (pv 0) rfl) rfl) pa_nil)) pa_nil))))), ?_⟩
  have hrd := D.rd
  refine ⟨_, rfl, d, a.cD, dx, _, _, rfl, D.hd, T.clD, T.nD_block, dF_block .., rfl, _, rfl, ?_⟩
  cases e : Sq16.read h.kinds h.text with
  | error q =>
    rw [e] at hrd
    obtain ⟨rfl, hfl⟩ := hrd
    refine if_true_of rfl ⟨by show 1 ≤ sizeLine; decide, fun l1 hl1 => ?_⟩
    have s1 := same_new hl1 (.lst [.int 1])
    refine ⟨_, rfl, d, a.cD, dx, _, _, rfl, s1 _ _ D.hd, T.clD, T.nD_fault, dF_fault .., l1, fl, _, _, rfl, rfl, upd_same, s1 _ _ hfl, by show 3 ≤ sizeLine; decide, fun p hp => ?_⟩
    refine kk _ p (s1.trans (same_new hp _)) ?_
    rw [upd_same]
    unfold House.tells
    rw [e]
    rfl
  | ok sts =>
    rw [e] at hrd
    obtain ⟨b, rfl, ⟨dx2, L2, c2, ss, _, _, hb, hL2, hst⟩, hfl⟩ := hrd
    refine if_false_of rfl ⟨_, rfl, d, a.cD, dx, _, _, rfl, D.hd, T.clD, T.nD_block, dF_block .., b, a.cB, dx2, _, _, rfl, hb, T.clB, T.nB_statements, bF_statements .., L2, _, rfl, .inl (SqL.of hL2), by show 2 ≤ sizeLine; decide, fun p hp => ?_⟩
    refine kk _ p (same_new hp _) ?_
    rw [upd_same, hst.len]
    unfold House.tells
    rw [e]
    rfl
theorem scDShape : FnScope ["self"] ["self"] (defScope stDShape) := ⟨rfl, rfl, rfl, by decide +kernel, rfl, by decide +kernel, by decide +kernel⟩
theorem ok_dShape (T : Tx K mg a) : FnOk P w K mg base CX0 21 a.fDShape a.dDShape ["self"] (spDShape a) := by
  have G : FnOk P w K mg base CX0 20 a.fShapeOf a.dShapeOf ["block"] (spShape a 20) := ok_shape T 20
  refine T.dShape.fn.ok scDShape (fun vs H Q E h => ?_) (fun cdv A outer s H vs Q E hr h => ?_)
  · obtain ⟨d, h, rfl, _⟩ := h
    rfl
  obtain ⟨d, h, rfl, D0, kk⟩ := h
  have D0' := D0
  obtain ⟨dx, k, c, L, bv, fl, kd, cl, us, D⟩ := D0'
  refine ⟨_, pss_cons (ps_if (pt_cmpR op_isN (pe_fld (pv 0) rfl) pe_non (nomark _)) (pss_one (ps_ret (pe_lst (pa_cons (pe_gi rfl T.k_IS_WRONG) pa_nil)))) pss_nil)
    (pss_one (ps_ret (pe_op op_cat (pe_lst (pa_cons (pe_callB call_len_seq (by rfl) T.b_len PySem.boot_len (pa_cons (pe_fld (pe_fld (pv 0) rfl) rfl) pa_nil)) pa_nil)) (pe_call G (hr.mono (by decide)) rfl T.shapeOf.g T.shapeOf.fn.kp T.shapeOf.b .nil pass0 (pa_cons (pe_fld (pv 0) rfl) pa_nil))))), ?_⟩
  have hrd := D.rd
  refine ⟨_, rfl, d, a.cD, dx, _, _, rfl, D.hd, T.clD, T.nD_block, dF_block .., rfl, _, rfl, ?_⟩
  have hss : h.statements = match Sq16.read h.kinds h.text with
    | .ok l => some l
    | .error _ => none := rfl
  cases e : Sq16.read h.kinds h.text with
  | error q =>
    rw [e] at hrd hss
    obtain ⟨rfl, hfl⟩ := hrd
    have hstep : h.step .shape = (h, Sq16.says (-6)) := by
      show (match h.statements with
        | none => (h, Sq16.says (-6))
        | some l => (h, ⟨l.length, Sq16.ints (Sq16.shape l)⟩)) = _
      rw [hss]
    rw [hstep] at kk
    exact if_true_of rfl ⟨by show 1 ≤ sizeLine; decide, fun p hp => ans_new D0 (But.refl d H) kk hp rfl⟩
  | ok sts =>
    rw [e] at hrd hss
    obtain ⟨b, rfl, hBl, hfl⟩ := hrd
    have hBl' := hBl
    obtain ⟨dx2, L2, c2, ss, _, _, hb, hL2, hst⟩ := hBl'
    obtain ⟨hsz, hdeep⟩ := read_ok D.tx e
    have hstep : h.step .shape = (h, ⟨sts.length, Sq16.ints (Sq16.shape sts)⟩) := by
      show (match h.statements with
        | none => (h, Sq16.says (-6))
        | some l => (h, ⟨l.length, Sq16.ints (Sq16.shape l)⟩)) = _
      rw [hss]
    rw [hstep] at kk
    refine if_false_of rfl ⟨_, rfl, d, a.cD, dx, _, _, rfl, D.hd, T.clD, T.nD_block, dF_block .., b, a.cB, dx2, _, _, rfl, hb, T.clB, T.nB_statements, bF_statements .., L2, _, rfl, .inl (SqL.of hL2), by show 1 ≤ sizeLine; decide, fun l1 hl1 => ?_⟩
    have s1 := same_new hl1 (.lst [.int ss.length])
    refine ⟨_, rfl, d, a.cD, dx, _, _, rfl, s1 _ _ D.hd, T.clD, T.nD_block, dF_block .., b, sts, rfl, hBl.same s1, by omega, by omega, fun H2 p s2 hp => ?_⟩
    have hlen := shapeAll_len sts
    refine ⟨l1, p, _, _, rfl, rfl, s2 _ _ upd_same, hp, by rw [nv_len]; exact size_le (by rw [List.length_singleton]; omega), fun q hq => ?_⟩
    refine ans_new (D0.same (s1.trans s2)) (But.of_same (s1.trans s2)) kk hq ?_
    rw [hst.len]
    show _ = .int _ :: iv (Sq16.ints (Sq16.shape sts))
    rw [iv_nv]
    rfl
theorem scDSet : FnScope ["self", "step", "length", "lines"] ["self", "step", "length"] (defScope stDSet) := ⟨rfl, rfl, rfl, by decide +kernel, rfl, by decide +kernel, by decide +kernel⟩
theorem ok_dSet (T : Tx K mg a) : FnOk P w K mg base CX0 42 a.fDSet a.dDSet ["self", "step", "length"] (spDSet a) := by
  have G : FnOk P w K mg base CX0 41 a.fBlLines a.dBlLines ["block", "depth", "step", "length"] (spBlLines a 41) := (ok_setting T 41).2
  have GN : FnOk P w K mg base CX0 1 a.fNumbersOf a.dNumbersOf ["lines"] (spNumbersOf K) := ok_numbersOf T
  refine T.dSet.fn.ok scDSet (fun vs H Q E h => ?_) (fun cdv A outer s H vs Q E hr h => ?_)
  · obtain ⟨d, h, st, m, rfl, _⟩ := h
    rfl
  obtain ⟨d, h, st, m, rfl, D0, kk⟩ := h
  have nd := scDSet.nd
  have D0' := D0
  obtain ⟨dx, k, c, L, bv, fl, kd, cl, us, D⟩ := D0'
  refine ⟨_, pss_cons (ps_if (PW.pt (pw_or (pt_not (pt_chain op_le op_le pe_int (pv 1) (pe_gi rfl T.k_MOST_STEP))) (pw_or1 (pt_cmpR op_gt (pv 2) (pe_gi rfl T.k_MOST_LENGTH) (nomark _))))) (pss_one (ps_ret (pe_lst (pa_cons (pe_gi rfl T.k_NOT_SO) pa_nil)))) pss_nil)
    (pss_cons (ps_if (pt_cmpR op_isN (pe_fld (pv 0) rfl) pe_non (nomark _)) (pss_one (ps_ret (pe_lst (pa_cons (pe_gi rfl T.k_IS_WRONG) pa_nil)))) pss_nil)
    (pss_cons (ps_set (i := 3) nd rfl (Or.inl rfl) (pe_call G (hr.mono (by decide)) rfl T.blLines.g T.blLines.fn.kp T.blLines.b .nil pass0 (pa_cons (pe_fld (pv 0) rfl) (pa_cons pe_int (pa_cons (pv 1) (pa_cons (pv 2) pa_nil))))))
    (pss_one (ps_ret (pe_op op_cat (pe_lst (pa_cons (pe_callB call_len_seq (by rfl) T.b_len PySem.boot_len (pa_cons (pv 3) pa_nil)) pa_nil)) (pe_call GN (hr.mono (by decide)) rfl T.numbersOf.g T.numbersOf.fn.kp T.numbersOf.b .nil pass0 (pa_cons (pv 3) pa_nil))))))), ?_⟩
  have hstep0 : h.step (.set st m) = if st = 0 ∨ 8 < st ∨ 64 < m then (h, Sq16.says (-1)) else match h.statements with
    | none => (h, Sq16.says (-6))
    | some l => (h, ⟨(Sq16.setOut st m l).length, Sq16.ints ((Sq16.setOut st m l).flatMap Sq16.lineRow)⟩) := rfl
  have bad : (st = 0 ∨ 8 < st ∨ 64 < m) → ∀ p, H p = none → Q (.ref p) (upd H p (.lst [.int (-1)])) := fun q p hp => by
    rw [hstep0, if_pos q] at kk
    exact ans_new D0 (But.refl d H) kk hp rfl
  refine ⟨_, rfl, _, _, rfl, rfl, _, rfl, ?_⟩
  by_cases h1 : 1 ≤ st
  case neg => exact if_false_of (decide_eq_false (by omega)) ⟨_, rfl, if_true_of rfl (if_true_of rfl ⟨by show 1 ≤ sizeLine; decide, fun p hp => bad (by omega) p hp⟩)⟩
  refine if_true_of (decide_eq_true (by omega)) ⟨_, _, rfl, rfl, _, rfl, ?_⟩
  by_cases h8 : st ≤ 8
  case neg => exact if_true_of (by rw [decide_eq_false (by omega)]; rfl) (if_true_of rfl ⟨by show 1 ≤ sizeLine; decide, fun p hp => bad (by omega) p hp⟩)
  refine if_false_of (by rw [decide_eq_true (by omega)]; rfl) ⟨_, rfl, _, _, rfl, rfl, _, rfl, ?_⟩
  by_cases h64 : 64 < m
  · exact if_true_of (decide_eq_true (by omega)) ⟨by show 1 ≤ sizeLine; decide, fun p hp => bad (by omega) p hp⟩
  refine if_false_of (decide_eq_false (by omega)) ?_
  rw [hstep0, if_neg (by omega)] at kk
  have hrd := D.rd
  refine ⟨_, rfl, d, a.cD, dx, _, _, rfl, D.hd, T.clD, T.nD_block, dF_block .., rfl, _, rfl, ?_⟩
  have hss : h.statements = match Sq16.read h.kinds h.text with
    | .ok l => some l
    | .error _ => none := rfl
  cases e : Sq16.read h.kinds h.text with
  | error q =>
    rw [e] at hrd hss
    obtain ⟨rfl, hfl⟩ := hrd
    rw [hss] at kk
    exact if_true_of rfl ⟨by show 1 ≤ sizeLine; decide, fun p hp => ans_new D0 (But.refl d H) kk hp rfl⟩
  | ok sts =>
    rw [e] at hrd hss
    obtain ⟨b, rfl, hBl, hfl⟩ := hrd
    obtain ⟨hsz, hdeep⟩ := read_ok D.tx e
    rw [hss] at kk
    simp only at kk
    have hfl2 := setAll_flat st m 0 sts
    have hln := setAll_len st m 0 sts
    refine if_false_of rfl ⟨_, rfl, d, a.cD, dx, _, _, rfl, D.hd, T.clD, T.nD_block, dF_block .., _, rfl, _, rfl, b, sts, 0, st, m, rfl, hBl, by omega, by omega, by omega, by omega, by omega, fun H1 p us1 s1 hp hus => ?_⟩
    rw [Nat.zero_mul] at hus
    have hul := Paired.length hus
    refine ⟨_, rfl, p, _, rfl, .inl (SqL.of hp), by show 1 ≤ sizeLine; decide, fun l1 hl1 => ?_⟩
    have s2 := same_new hl1 (.lst [.int us1.length])
    refine ⟨_, rfl, p, us1, Sq16.setAll st m 0 sts, rfl, SqL.of (s2 _ _ hp), pa_imp (fun v x h => (LineNew.at v x h).same s2) hus, by omega, fun H3 q s3 hq => ?_⟩
    refine ⟨l1, q, _, _, rfl, rfl, s3 _ _ upd_same, hq, by rw [nv_len]; exact size_le (by rw [List.length_singleton]; omega), fun z hz => ?_⟩
    refine ans_new (D0.same ((s1.trans s2).trans s3)) (But.of_same ((s1.trans s2).trans s3)) kk hz ?_
    rw [hul]
    show _ = .int _ :: iv (Sq16.ints ((Sq16.setOut st m sts).flatMap Sq16.lineRow))
    rw [iv_nv]
    rfl
theorem scDBegin : FnScope ["self", "kinds", "numbers", "closing"] ["self", "kinds", "numbers"] (defScope stDBegin) := ⟨rfl, rfl, rfl, by decide +kernel, rfl, by decide +kernel, by decide +kernel⟩
theorem ok_dBegin (T : Tx K mg a) : FnOk P w K mg base CX0 10 a.fDBegin a.dDBegin ["self", "kinds", "numbers"] (spDBegin a) := by
  have GP : FnOk P w K mg base CX0 2 a.fPairsIn a.dPairsIn ["kinds", "numbers"] (spPairsIn K) := ok_pairsIn T
  have GA : FnOk P w K mg base CX0 1 a.fAreKinds a.dAreKinds ["kinds"] (spAreKinds K) := ok_areKinds T
  have GD : FnOk P w K mg base CX0 9 a.fDPut a.dDPut ["self", "lines"] (spDPut a) := ok_dPut T
  refine T.dBegin.fn.ok scDBegin (fun vs H Q E h => ?_) (fun cdv A outer s H vs Q E hr h => ?_)
  · obtain ⟨d, h, k, m, ks, ms, rfl, _⟩ := h
    rfl
  obtain ⟨d, h, k, m, ks, ms, rfl, D0, hk, hm, hkl, hml, kk⟩ := h
  have nd := scDBegin.nd
  refine ⟨_, pss_cons (ps_if (pt_not (pt_chain op_le op_le pe_int (pe_callB call_len_seq (by rfl) T.b_len PySem.boot_len (pa_cons (pv 1) pa_nil)) (pe_gi rfl T.k_MOST_WORDS))) (pss_one (ps_ret (pe_lst (pa_cons (pe_gi rfl T.k_NOT_SO) pa_nil)))) pss_nil)
    (pss_cons (ps_set (i := 3) nd rfl (Or.inl rfl) (pe_call GP (hr.mono (by decide)) rfl T.pairsIn.g T.pairsIn.fn.kp T.pairsIn.b .nil pass0 (pa_cons (pv 1) (pa_cons (pv 2) pa_nil))))
    (pss_cons (ps_if (PW.pt (pw_or (pt_not (pt_val (pe_call GA (hr.mono (by decide)) rfl T.areKinds.g T.areKinds.fn.kp T.areKinds.b .nil pass0 (pa_cons (pv 1) pa_nil)))) (pw_or1 (pt_cmpR op_isN (pv 3) pe_non (nomark _))))) (pss_one (ps_ret (pe_lst (pa_cons (pe_gi rfl T.k_NOT_TOLD_SO) pa_nil)))) pss_nil)
    (pss_cons (ps_fld (pv 0) (pv 1) rfl) (pss_cons (ps_fld (pv 0) (pv 3) rfl)
    (pss_cons (ps_expr (pe_meth (pv 0) T.clD T.dPut.m GD (hr.mono (by decide)) T.dPut.b .nil pass0 (pa_cons (pe_lst pa_nil) pa_nil)))
    (pss_one (ps_ret (pe_lst (pa_cons pe_int pa_nil))))))))), ?_⟩
  have hstep0 : h.step (.begin_ ks ms) = if ks = [] ∨ 64 < ks.length then (h, Sq16.says (-1)) else match (Sq16.pairsOf ms).bind (Sq16.kindsOf ks) with
    | none => (h, Sq16.says (-3))
    | some q => (⟨q, []⟩, Sq16.says 0) := rfl
  refine ⟨_, rfl, k, _, rfl, .inl (SqL.of hk), _, _, rfl, rfl, _, rfl, ?_⟩
  rw [nv_len]
  by_cases h1 : 1 ≤ ks.length
  case neg =>
    rw [hstep0, if_pos (.inl (List.length_eq_zero_iff.mp (by omega)))] at kk
    exact if_false_of (decide_eq_false (by omega)) ⟨_, rfl, if_true_of rfl ⟨by show 1 ≤ sizeLine; decide, fun p hp => ans_new D0 (But.refl d H) kk hp rfl⟩⟩
  refine if_true_of (decide_eq_true (by omega)) ⟨_, _, rfl, rfl, _, rfl, ?_⟩
  by_cases h64 : ks.length ≤ 64
  case neg =>
    rw [hstep0, if_pos (.inr (by omega))] at kk
    exact if_true_of (by rw [decide_eq_false (by omega)]; rfl) ⟨by show 1 ≤ sizeLine; decide, fun p hp => ans_new D0 (But.refl d H) kk hp rfl⟩
  refine if_false_of (by rw [decide_eq_true (by omega)]; rfl) ?_
  rw [hstep0, if_neg (by
    rintro (z | z)
    · rw [z] at h1
      cases h1
    · omega)] at kk
  have told : ∀ (H1 : Hp) (p : Addr), Same H H1 → H1 p = none → (Sq16.pairsOf ms).bind (Sq16.kindsOf ks) = none → Q (.ref p) (upd H1 p (.lst [.int (-3)])) := by
    intro H1 p s1 hp e
    rw [e] at kk
    exact ans_new (D0.same s1) (But.of_same s1) kk hp rfl
  refine ⟨_, rfl, _, rfl, k, m, ks, ms, rfl, SqL.of hk, SqL.of hm, hkl, hml, fun hn H1 s1 => ?_, fun ps hps H1 c s1 hc => ?_⟩
  · refine ⟨_, rfl, k, ks, rfl, SqL.of (s1 _ _ hk), by omega, fun H2 s2 => ⟨_, rfl, ?_⟩⟩
    cases hb : ks.all fun k => decide (k ≤ 4) with
    | false => exact if_true_of rfl (if_true_of rfl ⟨by show 1 ≤ sizeLine; decide, fun p hp => told H2 p (s1.trans s2) hp (kinds_bad hn)⟩)
    | true => exact if_false_of rfl ⟨_, rfl, rfl, _, rfl, if_true_of rfl ⟨by show 1 ≤ sizeLine; decide, fun p hp => told H2 p (s1.trans s2) hp (kinds_bad hn)⟩⟩
  · refine ⟨_, rfl, k, ks, rfl, SqL.of (s1 _ _ hk), by omega, fun H2 s2 => ⟨_, rfl, ?_⟩⟩
    cases hb : ks.all fun k => decide (k ≤ 4) with
    | false => exact if_true_of rfl (if_true_of rfl ⟨by show 1 ≤ sizeLine; decide, fun p hp => told H2 p (s1.trans s2) hp (kinds_big hb)⟩)
    | true =>
      refine if_false_of rfl ⟨_, rfl, rfl, _, rfl, if_false_of rfl ?_⟩
      obtain ⟨q, hq, rel⟩ := kinds_good hb hps
      rw [hq] at kk
      simp only at kk
      obtain ⟨dx, k0, c0, L0, bv, fl, kd0, cl0, us0, D⟩ := D0
      have hd2 := (s1.trans s2) _ _ D.hd
      have hk2 := (s1.trans s2) _ _ hk
      have hc2 := s2 _ _ hc
      have kd_ : k ≠ d := fun z => by rw [z, hd2] at hk2; cases hk2
      have cd_ : c ≠ d := fun z => by rw [z, hd2] at hc2; cases hc2
      refine ⟨_, rfl, _, rfl, d, a.cD, dx, _, rfl, hd2, T.clD, T.nD_kinds, by show 5 < 1000; decide, ?_⟩
      rw [dF_setKinds]
      refine ⟨_, rfl, _, rfl, d, a.cD, dx, _, rfl, upd_same, T.clD, T.nD_closing, by show 5 < 1000; decide, ?_⟩
      rw [dF_setClosing, upd_upd]
      have b3 : But d H2 (upd H2 d (.ins a.cD dx (dF k c L0 bv fl))) := But.upd d H2 _
      refine ⟨_, rfl, d, dx, _, rfl, upd_same, dF_no (by decide +kernel), by show 0 ≤ sizeLine; decide, fun L hL => ?_⟩
      have s4 := same_new hL (.lst [])
      refine ⟨d, dx, k, c, L0, bv, fl, ks, dictOf ps, q, L, [], [], rfl, s4 _ _ upd_same, s4 _ _ (b3 _ _ hk2 kd_), s4 _ _ (b3 _ _ hc2 cd_), upd_same, .nil, rel, text_nil _, fun H5 b5 D5 => ?_⟩
      refine ⟨by show 1 ≤ sizeLine; decide, fun z hz => ?_⟩
      exact ans_new D5 (((But.of_same (s1.trans s2)).trans b3).trans ((But.of_same s4).trans b5)) kk hz rfl
end
end Mr

/-! ## MrDesk2 -/
set_option Elab.async false
set_option linter.all false
set_option maxRecDepth 100000
set_option maxHeartbeats 400000
/-! # The desk: text -/
namespace Mr
open PySem PySem.Spec PyProof.Rows L2
open Sq16 (Item Open State Line House)
theorem linesOf_bound : ∀ (f : Nat) (l : List Nat) (t : List Line), Sq16.linesOf f l = some t → t.length ≤ l.length ∧ ∀ x ∈ t, x.words.length ≤ l.length
  | f, [], t, h => by
    have e : ([] : List Line) = t := by
      cases f <;> (simp only [Sq16.linesOf, Option.some.injEq] at h; exact h)
    rw [← e]
    exact ⟨Nat.le_refl _, fun x hx => by cases hx⟩
  | 0, c :: l, t, h => by
    cases l <;> simp [Sq16.linesOf] at h
  | f + 1, [c], t, h => by simp [Sq16.linesOf] at h
  | f + 1, c :: n :: l, t, h => by
    simp only [Sq16.linesOf] at h
    split at h
    · cases h
    · cases e : Sq16.linesOf f (l.drop n) with
      | none =>
        rw [e] at h
        cases h
      | some r =>
        rw [e] at h
        simp only [Option.map_some, Option.some.injEq] at h
        obtain ⟨h1, h2⟩ := linesOf_bound f (l.drop n) r e
        rw [List.length_drop] at h1
        rw [← h]
        refine ⟨by simp only [List.length_cons]; omega, fun x hx => ?_⟩
        rcases List.mem_cons.mp hx with z | z
        · rw [z]
          simp only [List.length_take, List.length_cons]
          omega
        · have := h2 x z
          rw [List.length_drop] at this
          simp only [List.length_cons]
          omega
theorem right_eq (h : House) (n : Nat) (hn : h.kinds.length = n) (t : List Line) : h.right t = (decide (t.length ≤ 40) && t.all (lineOk n)) := by
  rw [← hn]
  rfl
theorem text_of {n : Nat} {t : List Line} (h1 : t.length ≤ 40) (h2 : t.all (lineOk n) = true) : TextOk n t := by
  refine ⟨h1, fun x hx => ?_⟩
  have := List.all_eq_true.mp h2 x hx
  unfold lineOk at this
  rw [Bool.and_eq_true, Bool.and_eq_true] at this
  exact ⟨of_decide_eq_true this.1, of_decide_eq_true this.2.1, fun w hw => of_decide_eq_true (List.all_eq_true.mp this.2.2 w hw)⟩
def spDText (a : Ad) : Sp := fun vs H Q _ => ∃ (d : Addr) (h : House) (m : Addr) (ms : List Nat), vs = [.ref d, .ref m] ∧ DeskAt a H d h ∧ H m = some (.lst (nv ms)) ∧ ms.length ≤ 1024 ∧ Ans a H d (h.step (.text ms)) Q
section
variable {P : Program} {w : World} {K : PySem.W.Frag} {mg : Str → Option Value} {base : Heap} {a : Ad}
theorem scDText : FnScope ["self", "numbers", "lines", "line"] ["self", "numbers"] (defScope stDText) := ⟨rfl, rfl, rfl, by decide +kernel, rfl, by decide +kernel, by decide +kernel⟩
theorem ok_dText (T : Tx K mg a) : FnOk P w K mg base CX0 10 a.fDText a.dDText ["self", "numbers"] (spDText a) := by
  have GL : FnOk P w K mg base CX0 1 a.fLinesIn a.dLinesIn ["numbers"] (spLinesIn K) := ok_linesIn T
  have GI : FnOk P w K mg base CX0 1 a.fIsLine a.dIsLine ["line", "many"] spIsLine := ok_isLine T
  have GD : FnOk P w K mg base CX0 9 a.fDPut a.dDPut ["self", "lines"] (spDPut a) := ok_dPut T
  have GT : FnOk P w K mg base CX0 1 a.fDTold a.dDTold ["self"] (spDTold a) := ok_dTold T
  refine T.dText.fn.ok scDText (fun vs H Q E h => ?_) (fun cdv A outer s H vs Q E hr h => ?_)
  · obtain ⟨d, h, m, ms, rfl, _⟩ := h
    rfl
  obtain ⟨d, h, m, ms, rfl, D0, hm, hml, kk⟩ := h
  have nd := scDText.nd
  have hr1 : Room 1 _ := hr.mono (by decide)
  refine ⟨_, pss_cons (ps_set (i := 2) nd rfl (Or.inl rfl) (pe_call GL hr1 rfl T.linesIn.g T.linesIn.fn.kp T.linesIn.b .nil pass0 (pa_cons (pv 1) pa_nil)))
    (pss_cons (ps_if (pt_cmpR op_isN (pv 2) pe_non (nomark _)) (pss_one (ps_ret (pe_lst (pa_cons (pe_gi rfl T.k_NOT_TOLD_SO) pa_nil)))) pss_nil)
    (pss_cons (ps_if (PW.pt (pw_or (pt_cmpR op_gt (pe_callB call_len_seq (by rfl) T.b_len PySem.boot_len (pa_cons (pv 2) pa_nil)) (pe_gi rfl T.k_MOST_LINES) (nomark _))
        (pw_or1 (pt_not (pt_val (pe_callB (cr_all rfl) (by rfl) T.b_all (by decide +kernel) (pa_cons (pe_lc (own := [("line", 3)]) (g := gName 3) (tt := tYes)
          (te := tCall spIsLine [] E0 (tCons (tVar 3) (tCons (tCB (fun xs H Q => ∃ p ys, xs = [.ref p] ∧ (SqL K H p ys ∨ SqT K H p ys) ∧ Q (.int ys.length) H) (tCons (tFld K (tVar 0) "kinds") tNil)) tNil))) rfl nd (pi_list (pv 2))
          (blkOk_by (N := ["self", "numbers", "lines", "line"]) (sc := defScope stDText) (by decide +kernel)) (fun _ _ _ _ _ => pg_name (i := 3) nd rfl (Or.inl rfl)) (fun _ _ _ _ _ => pts_nil)
          (fun _ _ _ _ _ => pe_call GI hr1 rfl T.isLine.g T.isLine.fn.kp T.isLine.b .nil pass0 (pa_cons (pv 3) (pa_cons (pe_callB call_len_seq (by rfl) T.b_len PySem.boot_len (pa_cons (pe_fld (pv 0) rfl) pa_nil)) pa_nil)))) pa_nil)))))))
        (pss_one (ps_ret (pe_lst (pa_cons (pe_gi rfl T.k_NOT_SO) pa_nil)))) pss_nil)
    (pss_cons (ps_expr (pe_meth (pv 0) T.clD T.dPut.m GD (hr.mono (by decide)) T.dPut.b .nil pass0 (pa_cons (pv 2) pa_nil)))
    (pss_one (ps_ret (pe_meth0 (pv 0) T.clD T.dTold.m GT hr1 T.dTold.b .nil pass0)))))), ?_⟩
  have hstep0 : h.step (.text ms) = match linesF ms with
    | none => (h, Sq16.says (-3))
    | some t => if h.right t = false then (h, Sq16.says (-1)) else (({ h with text := t } : House), ({ h with text := t } : House).tells) := rfl
  refine ⟨_, rfl, m, ms, rfl, SqL.of hm, hml, fun hn H1 s1 => ?_, fun t ht H1 q us s1 hq hus => ?_⟩
  · rw [hstep0, hn] at kk
    exact ⟨_, rfl, rfl, _, rfl, if_true_of rfl ⟨by show 1 ≤ sizeLine; decide, fun p hp => ans_new (D0.same s1) (But.of_same s1) kk hp rfl⟩⟩
  · rw [hstep0, ht] at kk
    simp only at kk
    have hul := Paired.length hus
    obtain ⟨hbt, hbw⟩ := linesOf_bound _ _ _ ht
    obtain ⟨dx, k, c, L, bv, fl, kd, cl, us0, D⟩ := D0
    have D0 : DeskAt a H d h := ⟨dx, k, c, L, bv, fl, kd, cl, us0, D⟩
    have D1 := D.same s1
    have hright := right_eq h kd.length D.rel.len t
    refine ⟨_, rfl, rfl, _, rfl, if_false_of rfl ⟨_, rfl, q, _, rfl, .inl (SqL.of hq), _, _, rfl, rfl, _, rfl, ?_⟩⟩
    rw [hul]
    by_cases h40 : t.length ≤ 40
    case neg =>
      rw [hright, decide_eq_false h40, Bool.false_and, if_pos rfl] at kk
      exact if_true_of (decide_eq_true (by omega)) (if_true_of rfl ⟨by show 1 ≤ sizeLine; decide, fun p hp => ans_new (D0.same s1) (But.of_same s1) kk hp rfl⟩)
    refine if_false_of (decide_eq_false (by omega)) ?_
    rw [hright, decide_eq_true h40, Bool.true_and] at kk
    refine ⟨_, rfl, q, rfl, ⟨_, SqL.of hq⟩, fun X hX => lc_list (K := K) (a := q) (xs := us) (fun i H' => Same H1 H' ∧ H' X = some (.lst ((t.take i).map fun x => V.bl (lineOk kd.length x))))
      ⟨same_new hX _, upd_same⟩ (fun i H' _ h => SqL.of (h.1 _ _ hq)) ?_ ?_⟩
    · rintro i y H2 hi ⟨s2, h2⟩
      obtain ⟨x, hx, hl⟩ := pa_get hus hi
      have hxm : x ∈ t := List.mem_of_getElem? hx
      have := hbw x hxm
      refine ⟨rfl, _, rfl, _, rfl, d, a.cD, dx, _, _, rfl, s2 _ _ D1.hd, T.clD, T.nD_kinds, dF_kinds .., k, _, rfl, .inl (SqL.of (s2 _ _ D1.hk)), y, x, kd.length, by rw [nv_len]; rfl, hl.same s2, by omega, fun H3 s3 => ?_⟩
      refine ⟨_, s3 _ _ h2, ?_, upd_free (s2.trans s3) hX _, ?_⟩
      · rw [List.length_map]
        have := take_le t i
        exact size_lt (by omega)
      · rw [upd_same, take_more hx, List.map_append]
        rfl
    · rintro H2 ⟨s2, h2⟩
      rw [hul, List.take_length] at h2
      refine ⟨X, t.map (lineOk kd.length), rfl, SqL.of (by rw [h2, List.map_map]; rfl), ?_⟩
      rw [List.all_map]
      refine ⟨_, rfl, ?_⟩
      have s12 := s1.trans s2
      cases hall : t.all (lineOk kd.length) with
      | false =>
        rw [hall, if_pos rfl] at kk
        exact if_true_of (by
          show (!(t.all (lineOk kd.length))) = true
          rw [hall]
          rfl) ⟨by show 1 ≤ sizeLine; decide, fun p hp => ans_new (D0.same s12) (But.of_same s12) kk hp rfl⟩
      | true =>
        rw [hall, if_neg (by simp)] at kk
        refine if_false_of (by
          show (!(t.all (lineOk kd.length))) = false
          rw [hall]
          rfl) ?_
        have D2 := D1.same s2
        refine ⟨_, rfl, d, dx, _, rfl, D2.hd, dF_no (by decide +kernel), _, rfl, d, dx, k, c, L, bv, fl, kd, cl, h.kinds, q, us, t, rfl, D2.hd, D2.hk, D2.hc, s2 _ _ hq, pa_imp (fun v x h => h.same s2) hus, D.rel, text_of h40 hall, fun H3 b3 D3 => ?_⟩
        obtain ⟨dx3, k3, c3, L3, bv3, fl3, kd3, cl3, us3, D3'⟩ := D3
        have D3 : DeskAt a H3 d ⟨h.kinds, t⟩ := ⟨dx3, k3, c3, L3, bv3, fl3, kd3, cl3, us3, D3'⟩
        exact ⟨_, rfl, d, dx3, _, rfl, D3'.hd, dF_no (by decide +kernel), d, ⟨h.kinds, t⟩, rfl, D3, fun H4 z s4 hz => kk H4 z (((But.of_same s12).trans b3).trans (But.of_same s4)) (D3.same s4) hz⟩
end
end Mr

/-! ## MrDesk3 -/
set_option Elab.async false
set_option linter.all false
set_option maxRecDepth 100000
set_option maxHeartbeats 400000
/-! # The desk: tell_statements, around, fold -/
namespace Mr
open PySem PySem.Spec PyProof.Rows L2
open Sq16 (Item Open State Line House)
def spDTell (a : Ad) : Sp := fun vs H Q _ => ∃ (d : Addr) (h : House), vs = [.ref d] ∧ DeskAt a H d h ∧ Ans a H d (h.step .statements) Q
def spDAround (a : Ad) : Sp := fun vs H Q _ => ∃ (d : Addr) (h : House) (n : Nat), vs = [.ref d, .int n] ∧ DeskAt a H d h ∧ Ans a H d (h.step (.around n)) Q
def spDFold (a : Ad) : Sp := fun vs H Q _ => ∃ (d : Addr) (h : House) (n : Nat), vs = [.ref d, .int n] ∧ DeskAt a H d h ∧ Ans a H d (h.step (.fold n)) Q
def trip (x : Nat × Nat × Nat) : List Nat := [x.1, x.2.1, x.2.2]
theorem trip_len : ∀ l : List (Nat × Nat × Nat), (l.flatMap trip).length = 3 * l.length
  | [] => rfl
  | x :: l => by
    rw [List.flatMap_cons, List.length_append, trip_len l, List.length_cons]
    show 3 + _ = _
    omega
def inside (n : Nat) (x : Nat × Nat × Nat) : Bool := decide (x.1 ≤ n) && decide (n ≤ x.2.1)
def SAt (a : Ad) (H : Hp) (v : V) (x : Nat × Nat × Nat) : Prop := ∃ (st dx T : Addr), v = .ref st ∧ H st = some (.ins a.cS dx (sF T (.int x.1) (.int x.2.1)))
section
variable {P : Program} {w : World} {K : PySem.W.Frag} {mg : Str → Option Value} {base : Heap} {a : Ad}
theorem scDTell : FnScope ["self", "some", "found", "statement", "depth"] ["self"] (defScope stDTell) := ⟨rfl, rfl, rfl, by decide +kernel, rfl, by decide +kernel, by decide +kernel⟩
theorem ok_dTell (T : Tx K mg a) : FnOk P w K mg base CX0 21 a.fDTell a.dDTell ["self"] (spDTell a) := by
  have G : FnOk P w K mg base CX0 20 a.fAllSt a.dAllSt ["block", "depth"] (spAllSt a 20) := ok_allSt T 20
  refine T.dTell.fn.ok scDTell (fun vs H Q E h => ?_) (fun cdv A outer s H vs Q E hr h => ?_)
  · obtain ⟨d, h, rfl, _⟩ := h
    rfl
  obtain ⟨d, h, rfl, D0, kk⟩ := h
  have nd := scDTell.nd
  have D0' := D0
  obtain ⟨dx, k, c, L, bv, fl, kd, cl, us, D⟩ := D0'
  refine ⟨_, pss_cons (ps_if (pt_cmpR op_isN (pe_fld (pv 0) rfl) pe_non (nomark _)) (pss_one (ps_ret (pe_lst (pa_cons (pe_gi rfl T.k_IS_WRONG) pa_nil)))) pss_nil)
    (pss_cons (ps_set (i := 1) nd rfl (Or.inl rfl) (pe_call G (hr.mono (by decide)) rfl T.allSt.g T.allSt.fn.kp T.allSt.b .nil pass0 (pa_cons (pe_fld (pv 0) rfl) (pa_cons pe_int pa_nil))))
    (pss_cons (ps_set (i := 2) nd rfl (Or.inl rfl) (pe_lst (pa_cons (pe_callB call_len_seq (by rfl) T.b_len PySem.boot_len (pa_cons (pv 1) pa_nil)) pa_nil)))
    (pss_cons (ps_for PassesOwn.never rfl (pi_list (pv 1)) (pg_tup rfl (pgs_cons (pg_name (i := 3) nd rfl (Or.inl rfl)) (pgs_cons (pg_name (i := 4) nd rfl (Or.inl rfl)) pgs_nil)))
      (pss_one (ps_expr (pe_bm PySem.F.plainAttrs_list PySem.F.slot_list_extend PySem.F.type_list_extend mt_extend (pv 2) (pa_cons (pe_lst (pa_cons (pe_fld (pv 3) rfl) (pa_cons (pe_fld (pv 3) rfl) (pa_cons (pv 4) pa_nil)))) pa_nil)))))
    (pss_one (ps_ret (pv 2)))))), ?_⟩
  have hrd := D.rd
  have hstep0 : h.step .statements = match h.statements with
    | none => (h, Sq16.says (-6))
    | some l => (h, ⟨(Sq16.listAll 0 l).length, Sq16.ints ((Sq16.listAll 0 l).flatMap trip)⟩) := rfl
  refine ⟨_, rfl, d, a.cD, dx, _, _, rfl, D.hd, T.clD, T.nD_block, dF_block .., rfl, _, rfl, ?_⟩
  have hss : h.statements = match Sq16.read h.kinds h.text with
    | .ok l => some l
    | .error _ => none := rfl
  cases e : Sq16.read h.kinds h.text with
  | error q =>
    rw [e] at hrd hss
    obtain ⟨rfl, hfl⟩ := hrd
    rw [hstep0, hss] at kk
    exact if_true_of rfl ⟨by show 1 ≤ sizeLine; decide, fun p hp => ans_new D0 (But.refl d H) kk hp rfl⟩
  | ok sts =>
    rw [e] at hrd hss
    obtain ⟨b, rfl, hBl, hfl⟩ := hrd
    obtain ⟨hsz, hdeep⟩ := read_ok D.tx e
    rw [hstep0, hss] at kk
    simp only at kk
    have hll := listAll_len 0 sts
    refine if_false_of rfl ⟨_, rfl, d, a.cD, dx, _, _, rfl, D.hd, T.clD, T.nD_block, dF_block .., b, 0, sts, rfl, hBl, by omega, by omega, fun H1 p us1 s1 hp hus => ?_⟩
    have hul := Paired.length hus
    refine ⟨_, rfl, p, _, rfl, .inl (SqL.of hp), by show 1 ≤ sizeLine; decide, fun f hf => ?_⟩
    have s2 := same_new hf (.lst [.int us1.length])
    refine ⟨_, rfl, p, rfl, ⟨_, SqL.of (s2 _ _ hp)⟩, for_list (K := K) (a := p) (xs := us1)
      (fun i σ H' => ∃ (v3 v4 : Option V), σ = [some (.ref d), some (.ref p), some (.ref f), v3, v4] ∧ Same H1 H' ∧ H' f = some (.lst (.int us1.length :: nv (((Sq16.listAll 0 sts).take i).flatMap trip))))
      ⟨none, none, rfl, s2, upd_same⟩ (fun i σ H' _ ⟨_, _, _, q, _⟩ => SqL.of (q _ _ hp)) ?_ ?_⟩
    · rintro i y σ H2 hi ⟨v3, v4, rfl, q1, q2⟩
      obtain ⟨x, hx, t, st, dx3, T3, rfl, ht, hst⟩ := pa_get hus hi
      refine ⟨t, _, rfl, SqT.of (q1 _ _ ht), rfl, _, _, rfl, _, _, rfl, rfl, ?_⟩
      refine ⟨_, rfl, .inl ⟨rfl, _, SqL.of q2⟩, _, rfl, st, a.cS, dx3, _, _, rfl, q1 _ _ hst, T.clS, T.nS_first, sF_first .., _, rfl, st, a.cS, dx3, _, _, rfl, q1 _ _ hst, T.clS, T.nS_last, sF_last .., _, rfl, by show 3 ≤ sizeLine; decide, fun g hg => ?_⟩
      have s3 := same_new hg (.lst [.int x.1, .int x.2.1, .int x.2.2])
      have hlen := trip_len ((Sq16.listAll 0 sts).take i)
      have htk := take_le (Sq16.listAll 0 sts) i
      refine ⟨f, g, _, _, rfl, rfl, s3 _ _ q2, upd_same, ?_, ?_⟩
      · rw [List.length_cons, nv_len, hlen]
        exact size_le (by show _ + 3 ≤ _; omega)
      · refine ⟨_, _, rfl, upd_free (q1.trans s3) hf _, ?_⟩
        rw [upd_same, flat_take trip hx, nv_append]
        rfl
    · rintro σ H2 ⟨v3, v4, rfl, q1, q2⟩
      rw [hul, List.take_length] at q2
      refine ⟨_, rfl, kk H2 f (But.of_same (s1.trans q1)) (D0.same (s1.trans q1)) ?_⟩
      rw [q2]
      show _ = some (HO.lst (.int _ :: iv (Sq16.ints ((Sq16.listAll 0 sts).flatMap trip))))
      rw [iv_nv]
theorem scDAround : FnScope ["self", "line", "some", "found", "statement", "depth"] ["self", "line"] (defScope stDAround) := ⟨rfl, rfl, rfl, by decide +kernel, rfl, by decide +kernel, by decide +kernel⟩
theorem ok_dAround (T : Tx K mg a) : FnOk P w K mg base CX0 21 a.fDAround a.dDAround ["self", "line"] (spDAround a) := by
  have G : FnOk P w K mg base CX0 20 a.fAllSt a.dAllSt ["block", "depth"] (spAllSt a 20) := ok_allSt T 20
  refine T.dAround.fn.ok scDAround (fun vs H Q E h => ?_) (fun cdv A outer s H vs Q E hr h => ?_)
  · obtain ⟨d, h, n, rfl, _⟩ := h
    rfl
  obtain ⟨d, h, n, rfl, D0, kk⟩ := h
  have nd := scDAround.nd
  have D0' := D0
  obtain ⟨dx, k, c, L, bv, fl, kd, cl, us, D⟩ := D0'
  refine ⟨_, pss_cons (ps_if (pt_cmpR op_isN (pe_fld (pv 0) rfl) pe_non (nomark _)) (pss_one (ps_ret (pe_lst (pa_cons (pe_gi rfl T.k_IS_WRONG) pa_nil)))) pss_nil)
    (pss_cons (ps_setLc (i := 2) (own := [("statement", 4), ("depth", 5)]) (g := gTup K 2 (gCons (gName 4) (gCons (gName 5) gNil))) (tt := tYes) (te := tVar 4) rfl nd rfl rfl (sw_true rfl rfl rfl (by decide +kernel))
        (pi_list (pe_call G (hr.mono (by decide)) rfl T.allSt.g T.allSt.fn.kp T.allSt.b .nil pass0 (pa_cons (pe_fld (pv 0) rfl) (pa_cons pe_int pa_nil))))
        (blkOk_by (N := ["self", "line", "some", "found", "statement", "depth"]) (sc := defScope stDAround) (by decide +kernel)) (fun _ _ _ _ _ => pg_tup rfl (pgs_cons (pg_name (i := 4) nd rfl (Or.inl rfl)) (pgs_cons (pg_name (i := 5) nd rfl (Or.inl rfl)) pgs_nil))) (fun _ _ _ _ _ => pts_nil) (fun _ _ _ _ _ => pv 4))
    (pss_cons (ps_setLc (i := 3) (own := [("statement", 4)]) (g := gName 4) (tt := tTest (tChain (rI0 fun i j => V.bl (decide (i ≤ j))) (rI0 fun i j => V.bl (decide (i ≤ j))) (tFld K (tVar 4) "first") (tVar 1) (tFld K (tVar 4) "last"))) (te := tFld K (tVar 4) "first") rfl nd rfl rfl (sw_true rfl rfl rfl (by decide +kernel))
        (pi_list (pv 2))
        (blkOk_by (N := ["self", "line", "some", "found", "statement", "depth"]) (sc := defScope stDAround) (by decide +kernel)) (fun _ _ _ _ _ => pg_name (i := 4) nd rfl (Or.inl rfl)) (fun _ _ _ _ _ => pts_one (pt_chain op_le op_le (pe_fld (pv 4) rfl) (pv 1) (pe_fld (pv 4) rfl))) (fun _ _ _ _ _ => pe_fld (pv 4) rfl))
    (pss_one (ps_ret (pe_op op_cat (pe_lst (pa_cons (pe_callB call_len_seq (by rfl) T.b_len PySem.boot_len (pa_cons (pv 3) pa_nil)) pa_nil)) (pv 3)))))), ?_⟩
  have hrd := D.rd
  have hstep0 : h.step (.around n) = match h.statements with
    | none => (h, Sq16.says (-6))
    | some l => (h, ⟨((Sq16.listAll 0 l).filter (inside n)).length, Sq16.ints (((Sq16.listAll 0 l).filter (inside n)).map fun x => x.1)⟩) := rfl
  refine ⟨_, rfl, d, a.cD, dx, _, _, rfl, D.hd, T.clD, T.nD_block, dF_block .., rfl, _, rfl, ?_⟩
  have hss : h.statements = match Sq16.read h.kinds h.text with
    | .ok l => some l
    | .error _ => none := rfl
  cases e : Sq16.read h.kinds h.text with
  | error q =>
    rw [e] at hrd hss
    obtain ⟨rfl, hfl⟩ := hrd
    rw [hstep0, hss] at kk
    exact if_true_of rfl ⟨by show 1 ≤ sizeLine; decide, fun p hp => ans_new D0 (But.refl d H) kk hp rfl⟩
  | ok sts =>
    rw [e] at hrd hss
    obtain ⟨b, rfl, hBl, hfl⟩ := hrd
    obtain ⟨hsz, hdeep⟩ := read_ok D.tx e
    rw [hstep0, hss] at kk
    simp only at kk
    have hll := listAll_len 0 sts
    refine if_false_of rfl ⟨_, rfl, d, a.cD, dx, _, _, rfl, D.hd, T.clD, T.nD_block, dF_block .., b, 0, sts, rfl, hBl, by omega, by omega, fun H1 p us1 s1 hp hus => ?_⟩
    have hul := Paired.length hus
    generalize Sq16.listAll 0 sts = l at hll hus hul kk
    refine ⟨p, rfl, ⟨_, SqL.of hp⟩, fun D1 hD1 => lc_list (K := K) (a := p) (xs := us1) (fun i H' => Same H1 H' ∧ ∃ vs, H' D1 = some (.lst vs) ∧ Paired (SAt a H') vs (l.take i))
      ⟨same_new hD1 _, [], upd_same, .nil⟩ (fun i H' _ q => SqL.of (q.1 _ _ hp)) ?_ ?_⟩
    · rintro i y H2 hi ⟨q1, vs, q2, q3⟩
      obtain ⟨x, hx, t, st, dx3, T3, rfl, ht, hst⟩ := pa_get hus hi
      have hvl := Paired.length q3
      have htk := take_le l i
      refine ⟨t, _, rfl, SqT.of (q1 _ _ ht), rfl, _, _, rfl, _, _, rfl, rfl, rfl, _, rfl, vs, q2, size_lt (by omega), upd_free q1 hD1 _, _, upd_same, ?_⟩
      have n1 : st ≠ D1 := ne_of_none hst hD1
      have up : ∀ v x, SAt a H2 v x → SAt a (upd H2 D1 (.lst (vs ++ [.ref st]))) v x := by
        rintro v x ⟨s', d', T', e1, e2⟩
        exact ⟨s', d', T', e1, (upd_ne fun z => by rw [z, q2] at e2; cases e2).trans e2⟩
      rw [take_more hx]
      exact pa_append (pa_imp up q3) (.cons (up _ _ ⟨st, dx3, T3, rfl, q1 _ _ hst⟩) .nil)
    rintro H2 ⟨q1, vs, q2, q3⟩
    rw [hul, List.take_length] at q3
    have hvl := Paired.length q3
    refine ⟨_, rfl, D1, rfl, ⟨_, SqL.of q2⟩, fun D2 hD2 => lc_list (K := K) (a := D1) (xs := vs) (fun i H' => Same H2 H' ∧ H' D2 = some (.lst (nv (((l.take i).filter (inside n)).map fun x => x.1))))
      ⟨same_new hD2 _, upd_same⟩ (fun i H' _ q => SqL.of (q.1 _ _ q2)) ?_ ?_⟩
    · rintro i y H3 hi ⟨r1, r2⟩
      obtain ⟨x, hx, st, dx3, T3, rfl, hst⟩ := pa_get q3 hi
      have htk := take_le l i
      have hfl2 := List.length_filter_le (inside n) (l.take i)
      refine ⟨rfl, _, rfl, st, a.cS, dx3, _, _, rfl, r1 _ _ hst, T.clS, T.nS_first, sF_first .., _, rfl, _, _, rfl, rfl, _, rfl, ?_⟩
      have yes : inside n x = true → (l.take (i + 1)).filter (inside n) = (l.take i).filter (inside n) ++ [x] := fun z => by
        rw [take_more hx, List.filter_append, List.filter_cons_of_pos z, List.filter_nil]
      have no : inside n x = false → (l.take (i + 1)).filter (inside n) = (l.take i).filter (inside n) := fun z => by
        rw [take_more hx, List.filter_append, List.filter_cons_of_neg (by rw [z]; simp), List.filter_nil, List.append_nil]
      by_cases h1 : x.1 ≤ n
      case neg =>
        refine if_false_of (decide_eq_false (by omega)) ⟨_, rfl, if_false_of rfl ⟨r1, ?_⟩⟩
        rw [no (by unfold inside; rw [decide_eq_false h1]; rfl)]
        exact r2
      refine if_true_of (decide_eq_true (by omega)) ⟨_, rfl, st, a.cS, dx3, _, _, rfl, r1 _ _ hst, T.clS, T.nS_last, sF_last .., _, _, rfl, rfl, _, rfl, ?_⟩
      by_cases h2 : n ≤ x.2.1
      case neg =>
        refine if_false_of (decide_eq_false (by omega)) ⟨r1, ?_⟩
        rw [no (by unfold inside; rw [decide_eq_false h2, Bool.and_false])]
        exact r2
      refine if_true_of (decide_eq_true (by omega)) ⟨_, rfl, st, a.cS, dx3, _, _, rfl, r1 _ _ hst, T.clS, T.nS_first, sF_first .., _, r2, by rw [nv_len, List.length_map]; exact size_lt (by omega), upd_free r1 hD2 _, ?_⟩
      rw [upd_same, yes (by unfold inside; rw [decide_eq_true h1, decide_eq_true h2]; rfl), List.map_append, nv_append]
      rfl
    rintro H3 ⟨r1, r2⟩
    rw [hvl, List.take_length] at r2
    have hfl2 := List.length_filter_le (inside n) l
    refine ⟨_, rfl, D2, _, rfl, .inl (SqL.of r2), by show 1 ≤ sizeLine; decide, fun l1 hl1 => ?_⟩
    have s3 := same_new hl1 (.lst [.int (nv ((l.filter (inside n)).map fun x => x.1)).length])
    refine ⟨_, rfl, l1, D2, _, _, rfl, rfl, upd_same, s3 _ _ r2, by rw [nv_len, List.length_map]; exact size_le (by rw [List.length_singleton]; omega), fun z hz => ?_⟩
    have sA := ((s1.trans q1).trans r1).trans s3
    refine ans_new (D0.same sA) (But.of_same sA) kk hz ?_
    rw [nv_len, List.length_map]
    show _ = .int _ :: iv (Sq16.ints _)
    rw [iv_nv]
    rfl
theorem scDFold : FnScope ["self", "line", "some", "statement", "depth"] ["self", "line"] (defScope stDFold) := ⟨rfl, rfl, rfl, by decide +kernel, rfl, by decide +kernel, by decide +kernel⟩
theorem ok_dFold (T : Tx K mg a) : FnOk P w K mg base CX0 21 a.fDFold a.dDFold ["self", "line"] (spDFold a) := by
  have G : FnOk P w K mg base CX0 20 a.fAllSt a.dAllSt ["block", "depth"] (spAllSt a 20) := ok_allSt T 20
  refine T.dFold.fn.ok scDFold (fun vs H Q E h => ?_) (fun cdv A outer s H vs Q E hr h => ?_)
  · obtain ⟨d, h, n, rfl, _⟩ := h
    rfl
  obtain ⟨d, h, n, rfl, D0, kk⟩ := h
  have nd := scDFold.nd
  have D0' := D0
  obtain ⟨dx, k, c, L, bv, fl, kd, cl, us, D⟩ := D0'
  refine ⟨_, pss_cons (ps_if (pt_cmpR op_isN (pe_fld (pv 0) rfl) pe_non (nomark _)) (pss_one (ps_ret (pe_lst (pa_cons (pe_gi rfl T.k_IS_WRONG) pa_nil)))) pss_nil)
    (pss_cons (ps_setLc (i := 2) (own := [("statement", 3), ("depth", 4)]) (g := gTup K 2 (gCons (gName 3) (gCons (gName 4) gNil))) (tt := tTest (tOp rEq (tFld K (tVar 3) "first") (tVar 1))) (te := tFld K (tVar 3) "last") rfl nd rfl rfl (sw_true rfl rfl rfl (by decide +kernel))
        (pi_list (pe_call G (hr.mono (by decide)) rfl T.allSt.g T.allSt.fn.kp T.allSt.b .nil pass0 (pa_cons (pe_fld (pv 0) rfl) (pa_cons pe_int pa_nil))))
        (blkOk_by (N := ["self", "line", "some", "statement", "depth"]) (sc := defScope stDFold) (by decide +kernel)) (fun _ _ _ _ _ => pg_tup rfl (pgs_cons (pg_name (i := 3) nd rfl (Or.inl rfl)) (pgs_cons (pg_name (i := 4) nd rfl (Or.inl rfl)) pgs_nil))) (fun _ _ _ _ _ => pts_one (pt_cmpR op_eq (pe_fld (pv 3) rfl) (pv 1) (nomark _))) (fun _ _ _ _ _ => pe_fld (pv 3) rfl))
    (pss_one (ps_ret (pe_ifExp (pt_cmpR (op_neNat hr.units) (pv 2) (pe_lst pa_nil) (nomark _)) (pe_lst (pa_cons (pe_ix ix_list (pv 2) pe_int (fun _ _ => rfl)) pa_nil)) (pe_lst (pa_cons (pe_gi rfl T.k_NONE_SUCH) pa_nil)))))), ?_⟩
  have hrd := D.rd
  have hstep0 : h.step (.fold n) = match h.statements with
    | none => (h, Sq16.says (-6))
    | some l => match (Sq16.listAll 0 l).find? fun x => x.1 == n with
      | none => (h, Sq16.says (-2))
      | some x => (h, Sq16.says (x.2.1 : Nat)) := rfl
  refine ⟨_, rfl, d, a.cD, dx, _, _, rfl, D.hd, T.clD, T.nD_block, dF_block .., rfl, _, rfl, ?_⟩
  have hss : h.statements = match Sq16.read h.kinds h.text with
    | .ok l => some l
    | .error _ => none := rfl
  cases e : Sq16.read h.kinds h.text with
  | error q =>
    rw [e] at hrd hss
    obtain ⟨rfl, hfl⟩ := hrd
    rw [hstep0, hss] at kk
    exact if_true_of rfl ⟨by show 1 ≤ sizeLine; decide, fun p hp => ans_new D0 (But.refl d H) kk hp rfl⟩
  | ok sts =>
    rw [e] at hrd hss
    obtain ⟨b, rfl, hBl, hfl⟩ := hrd
    obtain ⟨hsz, hdeep⟩ := read_ok D.tx e
    rw [hstep0, hss] at kk
    simp only at kk
    have hll := listAll_len 0 sts
    refine if_false_of rfl ⟨_, rfl, d, a.cD, dx, _, _, rfl, D.hd, T.clD, T.nD_block, dF_block .., b, 0, sts, rfl, hBl, by omega, by omega, fun H1 p us1 s1 hp hus => ?_⟩
    have hul := Paired.length hus
    generalize Sq16.listAll 0 sts = l at hll hus hul kk
    refine ⟨p, rfl, ⟨_, SqL.of hp⟩, fun D1 hD1 => lc_list (K := K) (a := p) (xs := us1) (fun i H' => Same H1 H' ∧ H' D1 = some (.lst (nv (((l.take i).filter fun x => x.1 == n).map fun x => x.2.1))))
      ⟨same_new hD1 _, upd_same⟩ (fun i H' _ q => SqL.of (q.1 _ _ hp)) ?_ ?_⟩
    · rintro i y H2 hi ⟨q1, q2⟩
      obtain ⟨x, hx, t, st, dx3, T3, rfl, ht, hst⟩ := pa_get hus hi
      have htk := take_le l i
      have hfl2 := List.length_filter_le (fun x : Nat × Nat × Nat => x.1 == n) (l.take i)
      refine ⟨t, _, rfl, SqT.of (q1 _ _ ht), rfl, _, _, rfl, _, _, rfl, rfl, rfl, ?_⟩
      refine ⟨_, rfl, st, a.cS, dx3, _, _, rfl, q1 _ _ hst, T.clS, T.nS_first, sF_first .., _, rfl, rfl, _, rfl, ?_⟩
      rw [dec_v]
      by_cases h1 : x.1 = n
      case neg =>
        refine if_false_of (decide_eq_false h1) ⟨q1, ?_⟩
        rw [take_more hx, List.filter_append, List.filter_cons_of_neg (by simpa using h1), List.filter_nil, List.append_nil]
        exact q2
      refine if_true_of (decide_eq_true h1) ⟨_, rfl, st, a.cS, dx3, _, _, rfl, q1 _ _ hst, T.clS, T.nS_last, sF_last .., _, q2, by rw [nv_len, List.length_map]; exact size_lt (by omega), upd_free q1 hD1 _, ?_⟩
      rw [upd_same, take_more hx, List.filter_append, List.filter_cons_of_pos (by simpa using h1), List.filter_nil, List.map_append, nv_append]
      rfl
    rintro H2 ⟨q1, q2⟩
    rw [hul, List.take_length] at q2
    refine ⟨_, rfl, by show 0 ≤ sizeLine; decide, fun e0 he0 => ?_⟩
    have s2 := same_new he0 (.lst [])
    have sA := (s1.trans q1).trans s2
    refine ⟨D1, e0, (l.filter fun x => x.1 == n).map fun x => x.2.1, [], rfl, rfl, SqL.of (s2 _ _ q2), SqL.of upd_same, _, rfl, ?_⟩
    rw [← List.head?_filter] at kk
    cases hf : l.filter fun x => x.1 == n with
    | nil =>
      rw [hf] at kk
      exact if_false_of rfl ⟨by show 1 ≤ sizeLine; decide, fun z hz => ans_new (D0.same sA) (But.of_same sA) kk hz rfl⟩
    | cons x r =>
      rw [hf] at kk q2
      refine if_true_of (by simp) ⟨_, rfl, D1, _, 0, _, rfl, rfl, SqL.of (s2 _ _ q2), atI_nat (j := 0) rfl, by show 1 ≤ sizeLine; decide, fun z hz => ans_new (D0.same sA) (But.of_same sA) kk hz rfl⟩
end
end Mr

/-! ## MrDesk4 -/
set_option Elab.async false
set_option linter.all false
set_option maxRecDepth 100000
set_option maxHeartbeats 400000
/-! # The desk: moved -/
namespace Mr
open PySem PySem.Spec PyProof.Rows L2
open Sq16 (Item Open State Line House)
def colOk (z : Int) (l : Line) : Bool := decide (0 ≤ (l.column : Int) + z) && decide ((l.column : Int) + z ≤ 63)
def cutZ (x y : Nat) (t : List Line) : List Line := (t.drop x).take (y + 1 - x)
def moveOk (x y : Nat) (z : Int) (t : List Line) : Bool := decide (x ≤ y) && (decide (y < t.length) && (cutZ x y t).all (colOk z))
def shift (z : Int) (l : Line) : Line := ⟨((l.column : Int) + z).toNat, l.words⟩
def movedZ (x y : Nat) (z : Int) (t : List Line) : List Line := t.take x ++ (cutZ x y t).map (shift z) ++ t.drop (y + 1)
def stepZ (h : House) (x y : Nat) (z : Int) : House × Sq16.Out := if moveOk x y z h.text = true then h.move (movedZ x y z h.text) else (h, Sq16.says (-1))
def spDMoved (a : Ad) : Sp := fun vs H Q _ => ∃ (d : Addr) (h : House) (x y : Nat) (z : Int), vs = [.ref d, .int x, .int y, .int z] ∧ DeskAt a H d h ∧ Ans a H d (stepZ h x y z) Q
theorem pa_drop {α β : Type} {R : α → β → Prop} : ∀ (n : Nat) {xs : List α} {ys : List β}, Paired R xs ys → Paired R (xs.drop n) (ys.drop n)
  | 0, _, _, h => h
  | n + 1, _, _, .nil => .nil
  | n + 1, _, _, .cons _ t => pa_drop n t
theorem pa_take {α β : Type} {R : α → β → Prop} : ∀ (n : Nat) {xs : List α} {ys : List β}, Paired R xs ys → Paired R (xs.take n) (ys.take n)
  | 0, _, _, _ => .nil
  | n + 1, _, _, .nil => .nil
  | n + 1, _, _, .cons r t => .cons r (pa_take n t)
def EldAt (H : Hp) (v : V) : Except (Nat × Nat) (List Sq16.Statement) → Prop
  | .ok sts => ∃ el, v = .ref el ∧ H el = some (.lst (nv (Sq16.shapeAll sts)))
  | .error _ => v = .non
theorem if_val {b : Bool} {ta tb : TE} {σ : L2.St} {H1 : Hp} {Qv : VK} (G : V → Hp → Prop) (hN : ∀ v H2, G v H2 → Qv v H2) (hy : b = true → ∀ Q' : VK, (∀ v H2, G v H2 → Q' v H2) → ta σ H1 Q') (hn : b = false → ∀ Q' : VK, (∀ v H2, G v H2 → Q' v H2) → tb σ H1 Q') : if b = true then ta σ H1 Qv else tb σ H1 Qv := by
  cases b with
  | true => exact if_true_of rfl (hy rfl _ hN)
  | false => exact if_false_of rfl (hn rfl _ hN)
theorem asg_and {ta tb : TE} {i : Nat} {u : TS} {D : Ends} {σ : L2.St} {H : Hp} (G : V → Hp → Prop) (hN : ∀ v H2, G v H2 → u D (σ.set i (some v)) H2) (h : ∀ Q' : VK, (∀ v H2, G v H2 → Q' v H2) → tAndV ta tb σ H Q') : tSeq (tAsg (tAndV ta tb) (gName i)) u D σ H := h _ fun v H2 g => hN v H2 g
/-- a line whose words stood before -/
def LineOld (H0 H : Hp) (v : V) (x : Line) : Prop := ∃ (t wl : Addr), v = .ref t ∧ H t = some (.tup [.int x.column, .ref wl]) ∧ H0 wl = some (.lst (nv x.words))
theorem text_moved {n x y : Nat} {z : Int} {t : List Line} (h : TextOk n t) (hxy : x ≤ y) (hy : y < t.length) (ha : (cutZ x y t).all (colOk z) = true) : TextOk n (movedZ x y z t) := by
  refine ⟨?_, fun l hl => ?_⟩
  · have := h.1
    unfold movedZ cutZ
    simp only [List.length_append, List.length_map, List.length_take, List.length_drop]
    omega
  · unfold movedZ at hl
    rcases List.mem_append.mp hl with hl | hl
    · rcases List.mem_append.mp hl with hl | hl
      · exact h.2 l (List.mem_of_mem_take hl)
      · obtain ⟨m, hm, rfl⟩ := List.mem_map.mp hl
        have hm2 := h.2 m (List.mem_of_mem_drop (List.mem_of_mem_take hm))
        have hc := List.all_eq_true.mp ha m hm
        unfold colOk at hc
        rw [Bool.and_eq_true] at hc
        have h1 := of_decide_eq_true hc.1
        have h2 := of_decide_eq_true hc.2
        exact ⟨by show ((m.column : Int) + z).toNat ≤ 63; omega, hm2.2⟩
    · exact h.2 l (List.mem_of_mem_drop hl)
section
variable {P : Program} {w : World} {K : PySem.W.Frag} {mg : Str → Option Value} {base : Heap} {a : Ad}
theorem scDMoved : FnScope ["self", "a", "b", "by", "elder", "some", "is_same", "column", "words"] ["self", "a", "b", "by"] (defScope stDMoved) := ⟨rfl, rfl, rfl, by decide +kernel, rfl, by decide +kernel, by decide +kernel⟩
theorem ok_dMoved (T : Tx K mg a) : FnOk P w K mg base CX0 21 a.fDMoved a.dDMoved ["self", "a", "b", "by"] (spDMoved a) := by
  have GS : FnOk P w K mg base CX0 20 a.fShapeOf a.dShapeOf ["block"] (spShape a 20) := ok_shape T 20
  have GD : FnOk P w K mg base CX0 9 a.fDPut a.dDPut ["self", "lines"] (spDPut a) := ok_dPut T
  have GT : FnOk P w K mg base CX0 1 a.fDTold a.dDTold ["self"] (spDTold a) := ok_dTold T
  refine T.dMoved.fn.ok scDMoved (fun vs H Q E h => ?_) (fun cdv A outer s H vs Q E hr h => ?_)
  · obtain ⟨d, h, x, y, z, rfl, _⟩ := h
    rfl
  obtain ⟨d, h, x, y, z, rfl, D0, kk⟩ := h
  have nd := scDMoved.nd
  have hr20 : Room 20 _ := hr.mono (by decide)
  refine ⟨_, pss_cons (ps_if (PW.pt (pw_or (pt_cmpR op_gt (pv 1) (pv 2) (nomark _)) (pw_or1 (pt_cmpR op_ge (pv 2) (pe_callB call_len_seq (by rfl) T.b_len PySem.boot_len (pa_cons (pe_fld (pv 0) rfl) pa_nil)) (nomark _)))))
      (pss_one (ps_ret (pe_lst (pa_cons (pe_gi rfl T.k_NOT_SO) pa_nil)))) pss_nil)
    (pss_cons (ps_if (pt_not (pt_val (pe_callB (cr_all rfl) (by rfl) T.b_all (by decide +kernel) (pa_cons (pe_lc (own := [("column", 7), ("words", 8)]) (g := gTup K 2 (gCons (gName 7) (gCons (gName 8) gNil))) (tt := tYes)
        (te := tChain (rI0 fun i j => V.bl (decide (i ≤ j))) (rI0 fun i j => V.bl (decide (i ≤ j))) (tC (.int 0)) (tOp (rI0 fun i j => .int (i + j)) (tVar 7) (tVar 3)) (tC (.int 63))) rfl nd
        (pi_list (pe_slice sl_list (pe_fld (pv 0) rfl) (po_some (pv 1)) (po_some (pe_op op_add (pv 2) pe_int))))
        (blkOk_by (N := ["self", "a", "b", "by", "elder", "some", "is_same", "column", "words"]) (sc := defScope stDMoved) (by decide +kernel)) (fun _ _ _ _ _ => pg_tup rfl (pgs_cons (pg_name (i := 7) nd rfl (Or.inl rfl)) (pgs_cons (pg_name (i := 8) nd rfl (Or.inl rfl)) pgs_nil))) (fun _ _ _ _ _ => pts_nil)
        (fun _ _ _ _ _ => pe_chain op_le op_le pe_int (pe_op op_add (pv 7) (pv 3)) (pe_gi rfl T.k_MOST_COLUMN))) pa_nil))))
      (pss_one (ps_ret (pe_lst (pa_cons (pe_gi rfl T.k_NOT_SO) pa_nil)))) pss_nil)
    (pss_cons (ps_set (i := 4) nd rfl (Or.inl rfl) (pe_ifExp (pt_cmpR op_isN (pe_fld (pv 0) rfl) pe_non (nomark _)) pe_non (pe_call GS hr20 rfl T.shapeOf.g T.shapeOf.fn.kp T.shapeOf.b .nil pass0 (pa_cons (pe_fld (pv 0) rfl) pa_nil))))
    (pss_cons (ps_setLc (i := 5) (own := [("column", 7), ("words", 8)]) (g := gTup K 2 (gCons (gName 7) (gCons (gName 8) gNil))) (tt := tYes)
        (te := tTup (tCons (tOp (rI0 fun i j => .int (i + j)) (tVar 7) (tVar 3)) (tCons (tVar 8) tNil))) rfl nd rfl rfl (sw_true rfl rfl rfl (by decide +kernel))
        (pi_list (pe_slice sl_list (pe_fld (pv 0) rfl) (po_some (pv 1)) (po_some (pe_op op_add (pv 2) pe_int))))
        (blkOk_by (N := ["self", "a", "b", "by", "elder", "some", "is_same", "column", "words"]) (sc := defScope stDMoved) (by decide +kernel)) (fun _ _ _ _ _ => pg_tup rfl (pgs_cons (pg_name (i := 7) nd rfl (Or.inl rfl)) (pgs_cons (pg_name (i := 8) nd rfl (Or.inl rfl)) pgs_nil))) (fun _ _ _ _ _ => pts_nil)
        (fun _ _ _ _ _ => pe_tup (pa_cons (pe_op op_add (pv 7) (pv 3)) (pa_cons (pv 8) pa_nil))))
    (pss_cons (ps_expr (pe_meth (pv 0) T.clD T.dPut.m GD (hr.mono (by decide)) T.dPut.b .nil pass0 (pa_cons (pe_op op_cat (pe_op op_cat (pe_slice sl_list (pe_fld (pv 0) rfl) po_none (po_some (pv 1))) (pv 5)) (pe_slice sl_list (pe_fld (pv 0) rfl) (po_some (pe_op op_add (pv 2) pe_int)) po_none)) pa_nil)))
    (pss_cons (ps_set (i := 6) nd rfl (Or.inl rfl) (pe_and (pe_cmpR op_notN (pe_fld (pv 0) rfl) pe_non (nomark _)) (pe_and (pe_cmpR op_notN (pv 4) pe_non (nomark _)) (pe_one (pe_cmpR (op_eqNat hr.units) (pe_call GS hr20 rfl T.shapeOf.g T.shapeOf.fn.kp T.shapeOf.b .nil pass0 (pa_cons (pe_fld (pv 0) rfl) pa_nil)) (pv 4) (nomark _))))))
    (pss_one (ps_ret (pe_op op_cat (pe_lst (pa_cons (pe_callTy call_int1 (by rfl) T.b_int (by decide +kernel) (pa_cons (pv 6) pa_nil)) pa_nil)) (pe_meth0 (pv 0) T.clD T.dTold.m GT (hr.mono (by decide)) T.dTold.b .nil pass0))))))))), ?_⟩
  have D0' := D0
  obtain ⟨dx, k, c, L, bv, fl, kd, cl, us, D⟩ := D0'
  have hul := Paired.length D.hus
  have h40 := D.tx.1
  have bad : moveOk x y z h.text = false → ∀ (H1 : Hp) (p : Addr), Same H H1 → H1 p = none → Q (.ref p) (upd H1 p (.lst [.int (-1)])) := by
    intro e H1 p s1 hp
    unfold stepZ at kk
    rw [e, if_neg (by simp)] at kk
    exact ans_new (D0.same s1) (But.of_same s1) kk hp rfl
  refine ⟨_, rfl, _, rfl, _, _, rfl, rfl, _, rfl, ?_⟩
  by_cases hxy : x ≤ y
  case neg => exact if_true_of (decide_eq_true (by omega)) (if_true_of rfl ⟨by show 1 ≤ sizeLine; decide, fun p hp => bad (by unfold moveOk; rw [decide_eq_false hxy]; rfl) H p (Same.refl H) hp⟩)
  refine if_false_of (decide_eq_false (by omega)) ⟨_, rfl, _, rfl, d, a.cD, dx, _, _, rfl, D.hd, T.clD, T.nD_lines, dF_lines .., L, _, rfl, .inl (SqL.of D.hL), _, _, rfl, rfl, _, rfl, ?_⟩
  by_cases hyl : y < h.text.length
  case neg => exact if_true_of (decide_eq_true (by omega)) ⟨by show 1 ≤ sizeLine; decide, fun p hp => bad (by unfold moveOk; rw [decide_eq_false hyl, Bool.false_and, Bool.and_false]) H p (Same.refl H) hp⟩
  refine if_false_of (decide_eq_false (by omega)) ?_
  -- the lines' columns
  have hcut : cutV us (some (x : Int)) (some ((y : Int) + 1)) = (us.drop x).take (y + 1 - x) := cut_nat us (i := x) (j := y + 1) (by omega) (by omega)
  have hus1 : Paired (LineAt H) ((us.drop x).take (y + 1 - x)) (cutZ x y h.text) := pa_take _ (pa_drop _ D.hus)
  have hcl : (cutZ x y h.text).length ≤ 40 := by
    unfold cutZ
    rw [List.length_take, List.length_drop]
    omega
  have hul1 := Paired.length hus1
  refine ⟨_, rfl, d, a.cD, dx, _, _, rfl, D.hd, T.clD, T.nD_lines, dF_lines .., _, rfl, _, rfl, _, rfl, _, _, rfl, rfl, _, rfl, L, us, rfl, SqL.of D.hL, fun p1 hp1 => ?_⟩
  rw [hcut]
  have s1 := same_new hp1 (.lst ((us.drop x).take (y + 1 - x)))
  refine ⟨p1, rfl, ⟨_, SqL.of upd_same⟩, fun X hX => lc_list (K := K) (a := p1) (xs := (us.drop x).take (y + 1 - x)) (fun i H' => Same (upd H p1 (.lst ((us.drop x).take (y + 1 - x)))) H' ∧ H' X = some (.lst (((cutZ x y h.text).take i).map fun l => V.bl (colOk z l))))
    ⟨same_new hX _, upd_same⟩ (fun i H' _ q => SqL.of (q.1 _ _ upd_same)) ?_ ?_⟩
  · rintro i v H2 hi ⟨q1, q2⟩
    obtain ⟨l, hl, t, wl, rfl, ht, hwl⟩ := pa_get hus1 hi
    have htk := take_le (cutZ x y h.text) i
    refine ⟨t, _, rfl, SqT.of (q1 _ _ (s1 _ _ ht)), rfl, _, _, rfl, _, _, rfl, rfl, rfl, ?_⟩
    refine ⟨_, rfl, _, rfl, _, _, rfl, rfl, _, _, rfl, rfl, _, rfl, ?_⟩
    have go : ∀ b : Bool, b = colOk z l → ∃ acc, H2 X = some (.lst acc) ∧ acc.length < sizeLine ∧ (fun i H' => Same (upd H p1 (.lst ((us.drop x).take (y + 1 - x)))) H' ∧ H' X = some (.lst (((cutZ x y h.text).take i).map fun l => V.bl (colOk z l)))) (i + 1) (upd H2 X (.lst (acc ++ [.bl b]))) := by
      rintro b rfl
      refine ⟨_, q2, by rw [List.length_map]; exact size_lt (by omega), upd_free q1 hX _, ?_⟩
      rw [upd_same, take_more hl, List.map_append]
      rfl
    by_cases h0 : 0 ≤ (l.column : Int) + z
    case neg => exact if_false_of (decide_eq_false h0) (go _ (by unfold colOk; rw [decide_eq_false h0]; rfl))
    exact if_true_of (decide_eq_true h0) ⟨_, _, rfl, rfl, go _ (by unfold colOk; rw [decide_eq_true h0, Bool.true_and])⟩
  rintro H2 ⟨q1, q2⟩
  rw [hul1, List.take_length] at q2
  refine ⟨X, (cutZ x y h.text).map (colOk z), rfl, SqL.of (by rw [q2, List.map_map]; rfl), ?_⟩
  rw [List.all_map]
  refine ⟨_, rfl, ?_⟩
  have s2 := s1.trans q1
  cases hall : (cutZ x y h.text).all (colOk z) with
  | false =>
    exact if_true_of (by
      show (!((cutZ x y h.text).all (colOk z))) = true
      rw [hall]
      rfl) ⟨by show 1 ≤ sizeLine; decide, fun p hp => bad (by unfold moveOk; rw [hall, Bool.and_false, Bool.and_false]) H2 p s2 hp⟩
  | true =>
  refine if_false_of (by
    show (!((cutZ x y h.text).all (colOk z))) = false
    rw [hall]
    rfl) ?_
  have hok : moveOk x y z h.text = true := by
    unfold moveOk
    rw [hall, decide_eq_true hxy, decide_eq_true hyl]
    rfl
  unfold stepZ at kk
  rw [hok, if_pos rfl] at kk
  have D2 := D.same s2
  refine ⟨_, rfl, d, a.cD, dx, _, _, rfl, D2.hd, T.clD, T.nD_block, dF_block .., rfl, _, rfl, ?_⟩
  refine if_val (fun v H3 => Same H2 H3 ∧ EldAt H3 v (Sq16.read h.kinds h.text)) ?_ (fun hb Q' hN => ?_) (fun hb Q' hN => ?_)
  case refine_2 =>
    have hrd := D2.rd
    cases e : Sq16.read h.kinds h.text with
    | error q => exact hN _ _ ⟨Same.refl H2, by rw [e]; rfl⟩
    | ok sts =>
      rw [e] at hrd
      obtain ⟨b, rfl, _⟩ := hrd
      cases hb
  case refine_3 =>
    have hrd := D2.rd
    cases e : Sq16.read h.kinds h.text with
    | error q =>
      rw [e] at hrd
      obtain ⟨rfl, _⟩ := hrd
      cases hb
    | ok sts =>
      rw [e] at hrd
      obtain ⟨b, rfl, hBl, _⟩ := hrd
      obtain ⟨hsz, hdeep⟩ := read_ok D.tx e
      exact ⟨_, rfl, d, a.cD, dx, _, _, rfl, D2.hd, T.clD, T.nD_block, dF_block .., b, sts, rfl, hBl, by omega, by omega, fun H3 p s3 hp => hN _ _ ⟨s3, by rw [e]; exact ⟨p, rfl, hp⟩⟩⟩
  rintro ev H3 ⟨s3, hE⟩
  have D3 := D2.same s3
  refine ⟨_, rfl, d, a.cD, dx, _, _, rfl, D3.hd, T.clD, T.nD_lines, dF_lines .., _, rfl, _, rfl, _, rfl, _, _, rfl, rfl, _, rfl, L, us, rfl, SqL.of D3.hL, fun p2 hp2 => ?_⟩
  rw [hcut]
  have s4 := same_new hp2 (.lst ((us.drop x).take (y + 1 - x)))
  have h4 : upd H3 p2 (.lst ((us.drop x).take (y + 1 - x))) p2 = some (.lst ((us.drop x).take (y + 1 - x))) := upd_same
  generalize upd H3 p2 (.lst ((us.drop x).take (y + 1 - x))) = H4 at s4 h4 ⊢
  have D4 := D3.same s4
  have hus4 : Paired (LineAt H4) ((us.drop x).take (y + 1 - x)) (cutZ x y h.text) := pa_imp (fun v l q => q.same ((s2.trans s3).trans s4)) hus1
  refine ⟨p2, rfl, ⟨_, SqL.of h4⟩, fun X2 hX2 => lc_list (K := K) (a := p2) (xs := (us.drop x).take (y + 1 - x)) (fun i H' => Same H4 H' ∧ ∃ vs, H' X2 = some (.lst vs) ∧ Paired (LineOld H4 H') vs (((cutZ x y h.text).take i).map (shift z)))
    ⟨same_new hX2 _, [], upd_same, .nil⟩ (fun i H' _ q => SqL.of (q.1 _ _ h4)) ?_ ?_⟩
  · rintro i v H5 hi ⟨q5, vs, h5, h6⟩
    obtain ⟨l, hl, t, wl, rfl, ht, hwl⟩ := pa_get hus4 hi
    have htk := take_le (cutZ x y h.text) i
    have hvl := Paired.length h6
    rw [List.length_map] at hvl
    have hc := List.all_eq_true.mp hall l (List.mem_of_getElem? hl)
    unfold colOk at hc
    rw [Bool.and_eq_true] at hc
    have hc1 := of_decide_eq_true hc.1
    refine ⟨t, _, rfl, SqT.of (q5 _ _ ht), rfl, _, _, rfl, _, _, rfl, rfl, rfl, ?_⟩
    refine ⟨_, rfl, _, rfl, _, _, rfl, rfl, _, rfl, by show 2 ≤ sizeLine; decide, fun t2 ht2 => ?_⟩
    have s6 := same_new ht2 (.tup [.int ((l.column : Int) + z), .ref wl])
    have n2 : X2 ≠ t2 := ne_of_none h5 ht2
    refine ⟨vs, s6 _ _ h5, size_lt (by omega), upd_free (q5.trans s6) hX2 _, _, upd_same, ?_⟩
    rw [take_more hl, List.map_append]
    refine pa_append (pa_imp ?_ h6) (.cons ⟨t2, wl, rfl, ?_, hwl⟩ .nil)
    · rintro v' l' ⟨t', wl', e1, e2, e3⟩
      have e2' := s6 _ _ e2
      exact ⟨t', wl', e1, (upd_ne fun z' => by rw [z', s6 _ _ h5] at e2'; cases e2').trans e2', e3⟩
    · rw [upd_ne (Ne.symm n2), upd_same]
      show some (HO.tup [.int ((l.column : Int) + z), .ref wl]) = some (HO.tup [.int ((((l.column : Int) + z).toNat : Nat) : Int), .ref wl])
      rw [Int.toNat_of_nonneg hc1]
  rintro H5 ⟨q5, vs, h5, h6⟩
  rw [hul1, List.take_length] at h6
  have D5 := D4.same q5
  have hvs : Paired (LineAt H5) vs ((cutZ x y h.text).map (shift z)) := pa_imp (fun v l ⟨t', wl', e1, e2, e3⟩ => ⟨t', wl', e1, e2, q5 _ _ e3⟩) h6
  have hvl := Paired.length hvs
  rw [List.length_map] at hvl
  -- self.lines[:a] + some + self.lines[b + 1:]
  refine ⟨_, rfl, d, dx, _, rfl, D5.hd, dF_no (by decide +kernel), ?_⟩
  refine ⟨_, rfl, d, a.cD, dx, _, _, rfl, D5.hd, T.clD, T.nD_lines, dF_lines .., _, rfl, _, rfl, L, us, rfl, SqL.of D5.hL, fun p3 hp3 => ?_⟩
  rw [cut_to]
  have s6 := same_new hp3 (.lst (us.take x))
  refine ⟨_, rfl, p3, X2, _, _, rfl, rfl, upd_same, s6 _ _ h5, by rw [List.length_take]; exact size_le (by omega), fun p4 hp4 => ?_⟩
  have s7 := same_new hp4 (.lst (us.take x ++ vs))
  have h7 : upd (upd H5 p3 (.lst (us.take x))) p4 (.lst (us.take x ++ vs)) p4 = some (.lst (us.take x ++ vs)) := upd_same
  have s67 := s6.trans s7
  generalize upd (upd H5 p3 (.lst (us.take x))) p4 (.lst (us.take x ++ vs)) = H7 at s67 h7 ⊢
  clear s7
  have D7 := D5.same s67
  refine ⟨_, rfl, d, a.cD, dx, _, _, rfl, D7.hd, T.clD, T.nD_lines, dF_lines .., _, rfl, _, _, rfl, rfl, _, rfl, L, us, rfl, SqL.of D7.hL, fun p5 hp5 => ?_⟩
  rw [show cutV us (some ((y : Int) + 1)) none = us.drop (y + 1) from cut_from us (y + 1)]
  have s8 := same_new hp5 (.lst (us.drop (y + 1)))
  refine ⟨p4, p5, _, _, rfl, rfl, s8 _ _ h7, upd_same, by rw [List.length_append, List.length_take, List.length_drop]; exact size_le (by omega), fun p6 hp6 => ?_⟩
  have s9 := same_new hp6 (.lst (us.take x ++ vs ++ us.drop (y + 1)))
  have h9 : upd (upd H7 p5 (.lst (us.drop (y + 1)))) p6 (.lst (us.take x ++ vs ++ us.drop (y + 1))) p6 = some (.lst (us.take x ++ vs ++ us.drop (y + 1))) := upd_same
  have s89 := s8.trans s9
  generalize upd (upd H7 p5 (.lst (us.drop (y + 1)))) p6 (.lst (us.take x ++ vs ++ us.drop (y + 1))) = H9 at s89 h9 ⊢
  clear s9
  have D9 := D7.same s89
  have s59 := s67.trans s89
  have hus9 : Paired (LineAt H9) (us.take x ++ vs ++ us.drop (y + 1)) (movedZ x y z h.text) := pa_append (pa_append (pa_take x D9.hus) (pa_imp (fun v l q => q.same s59) hvs)) (pa_drop (y + 1) D9.hus)
  refine ⟨d, dx, k, c, L, bv, fl, kd, cl, h.kinds, p6, _, _, rfl, D9.hd, D9.hk, D9.hc, h9, hus9, D.rel, text_moved D.tx hxy hyl hall, fun H10 b10 D10 => ?_⟩
  obtain ⟨dx1, k1, c1, L1, bv1, fl1, kd1, cl1, us1, E10⟩ := D10
  have D10 : DeskAt a H10 d ⟨h.kinds, movedZ x y z h.text⟩ := ⟨dx1, k1, c1, L1, bv1, fl1, kd1, cl1, us1, E10⟩
  have hE10 : EldAt H10 ev (Sq16.read h.kinds h.text) := by
    cases e : Sq16.read h.kinds h.text with
    | error q =>
      rw [e] at hE
      exact hE
    | ok sts =>
      rw [e] at hE
      obtain ⟨el, e1, e2⟩ := hE
      have e3 := s59 _ _ (q5 _ _ (s4 _ _ e2))
      exact ⟨el, e1, b10 _ _ e3 fun z' => by rw [z', D9.hd] at e3; cases e3⟩
  have bAll : But d H H10 := (But.of_same ((((s2.trans s3).trans s4).trans q5).trans s59)).trans b10
  dsimp only
  refine asg_and (fun v H11 => Same H10 H11 ∧ v = .bl (Sq16.same h.statements (⟨h.kinds, movedZ x y z h.text⟩ : House).statements)) ?_ (fun Q' hN => ?_)
  · rintro v H11 ⟨s11, rfl⟩
    have D11 := D10.same s11
    refine ⟨_, rfl, .inr ⟨_, rfl, by show 1 ≤ sizeLine; decide, fun l1 hl1 => ?_⟩⟩
    have s12 := same_new hl1 (.lst [.int (if Sq16.same h.statements (⟨h.kinds, movedZ x y z h.text⟩ : House).statements then 1 else 0)])
    refine ⟨_, rfl, d, dx1, _, rfl, s12 _ _ (s11 _ _ E10.hd), dF_no (by decide +kernel), d, _, rfl, D11.same s12, fun H13 q s13 hq => ?_⟩
    have hlt : (outL (⟨h.kinds, movedZ x y z h.text⟩ : House).tells).length ≤ 3 := by
      unfold outL House.tells
      cases Sq16.read h.kinds (movedZ x y z h.text) with
      | ok l => exact Nat.le_succ 2
      | error e => exact Nat.le_refl 3
    refine ⟨l1, q, _, _, rfl, rfl, s13 _ _ upd_same, hq, by unfold iv; rw [List.length_map]; exact size_le (by rw [List.length_singleton]; omega), fun z' hz' => ?_⟩
    have sA := (s11.trans s12).trans s13
    exact ans_new (D10.same sA) (bAll.trans (But.of_same sA)) kk hz' rfl
  have hu : (⟨h.kinds, movedZ x y z h.text⟩ : House).statements = match Sq16.read h.kinds (movedZ x y z h.text) with
    | .ok l => some l
    | .error _ => none := rfl
  have ho : h.statements = match Sq16.read h.kinds h.text with
    | .ok l => some l
    | .error _ => none := rfl
  have hrd := E10.rd
  refine ⟨_, rfl, d, a.cD, dx1, _, _, rfl, E10.hd, T.clD, T.nD_block, dF_block .., rfl, _, rfl, ?_⟩
  cases e2 : Sq16.read h.kinds (movedZ x y z h.text) with
  | error q =>
    have hrd : ReadAt a H10 bv1 fl1 (Sq16.read h.kinds (movedZ x y z h.text)) := hrd
    rw [e2] at hrd hu
    obtain ⟨rfl, _⟩ := hrd
    refine if_false_of rfl (hN _ _ ⟨Same.refl _, ?_⟩)
    rw [hu]
    cases h.statements <;> rfl
  | ok sts2 =>
    have hrd : ReadAt a H10 bv1 fl1 (Sq16.read h.kinds (movedZ x y z h.text)) := hrd
    rw [e2] at hrd hu
    obtain ⟨b, rfl, hBl, _⟩ := hrd
    obtain ⟨hsz, hdeep⟩ := read_ok (text_moved D.tx hxy hyl hall) e2
    refine if_true_of rfl ⟨_, rfl, rfl, _, rfl, ?_⟩
    cases e : Sq16.read h.kinds h.text with
    | error q =>
      rw [e] at hE10 ho
      obtain rfl : ev = .non := hE10
      refine if_false_of rfl (hN _ _ ⟨Same.refl _, ?_⟩)
      rw [ho]
      rfl
    | ok sts =>
      rw [e] at hE10 ho
      obtain ⟨el, rfl, hel⟩ := hE10
      refine if_true_of rfl ⟨_, rfl, d, a.cD, dx1, _, _, rfl, E10.hd, T.clD, T.nD_block, dF_block .., b, sts2, rfl, hBl, by omega, by omega, fun H11 p s11 hp => ?_⟩
      refine ⟨_, rfl, p, el, _, _, rfl, rfl, SqL.of hp, SqL.of (s11 _ _ hel), hN _ _ ⟨s11, ?_⟩⟩
      rw [ho, hu]
      show V.bl (decide (Sq16.shapeAll sts2 = Sq16.shapeAll sts)) = V.bl (Sq16.shapeAll sts == Sq16.shapeAll sts2)
      congr 1
      by_cases q : Sq16.shapeAll sts2 = Sq16.shapeAll sts
      · rw [decide_eq_true q, q]
        exact (beq_self_eq_true _).symm
      · rw [decide_eq_false q]
        exact (beq_eq_false_iff_ne.mpr fun z' => q z'.symm).symm
end
end Mr

/-! ## MrMove -/
set_option Elab.async false
set_option linter.all false
set_option maxRecDepth 100000
set_option maxHeartbeats 400000
/-! # Lines moved: the specification's steps -/
namespace Mr
open PySem PySem.Spec PyProof.Rows L2
open Sq16 (Item Open State Line House)
theorem zip_get {α : Type} (l : List α) (i : Nat) : ((List.range l.length).zip l)[i]? = (l[i]?).map fun x => (i, x) := by
  cases e : l[i]? with
  | none =>
    have : l.length ≤ i := List.getElem?_eq_none_iff.mp e
    rw [List.getElem?_eq_none_iff.mpr]
    · rfl
    · rw [List.length_zip, List.length_range]
      omega
  | some x =>
    have hi : i < l.length := (List.getElem?_eq_some_iff.mp e).1
    show _ = some (i, x)
    rw [List.getElem?_zip_eq_some]
    exact ⟨List.getElem?_range hi, e⟩
theorem moved_eq {x y : Nat} {z : Int} {f : Nat → Nat} {t : List Line} (hxy : x ≤ y) (hy : y < t.length) (hf : ∀ c : Nat, ((c : Int) + z).toNat = f c) : Sq16.moved x y f t = movedZ x y z t := by
  apply List.ext_getElem?
  intro i
  unfold Sq16.moved movedZ cutZ
  rw [List.getElem?_map, zip_get]
  have l1 : (t.take x).length = x := by
    rw [List.length_take]
    omega
  have l2 : ((t.drop x).take (y + 1 - x)).length = y + 1 - x := by
    rw [List.length_take, List.length_drop]
    omega
  by_cases h1 : i < x
  · rw [List.append_assoc, List.getElem?_append_left (by omega), List.getElem?_take_of_lt h1]
    cases t[i]? with
    | none => rfl
    | some a =>
      show some (if x ≤ i ∧ i ≤ y then _ else a) = some a
      rw [if_neg (by omega)]
  · by_cases h2 : i ≤ y
    · rw [List.getElem?_append_left (by rw [List.length_append, List.length_map]; omega), List.getElem?_append_right (by omega), l1, List.getElem?_map, List.getElem?_take_of_lt (by omega), List.getElem?_drop, show x + (i - x) = i by omega]
      cases t[i]? with
      | none => rfl
      | some a =>
        show some (if x ≤ i ∧ i ≤ y then _ else a) = some (shift z a)
        rw [if_pos (by omega)]
        unfold shift
        rw [hf]
    · rw [List.getElem?_append_right (by rw [List.length_append, List.length_map]; omega), List.length_append, List.length_map, l1, l2, List.getElem?_drop, show y + 1 + (i - (x + (y + 1 - x))) = i by omega]
      cases t[i]? with
      | none => rfl
      | some a =>
        show some (if x ≤ i ∧ i ≤ y then _ else a) = some a
        rw [if_neg (by omega)]
theorem cut_ne {x y : Nat} {t : List Line} (hxy : x ≤ y) (hy : y < t.length) : cutZ x y t ≠ [] := fun e => by
  have := congrArg List.length e
  unfold cutZ at this
  rw [List.length_take, List.length_drop, List.length_nil] at this
  omega
theorem step_right (h : House) (x y n : Nat) : h.step (.right x y n) = stepZ h x y n := by
  have e0 : h.step (.right x y n) = if y < x ∨ h.text.length ≤ y ∨ 63 < n ∨ ((cutZ x y h.text).any fun l => decide (63 < l.column + n)) = true then (h, Sq16.says (-1)) else h.move (Sq16.moved x y (fun c => c + n) h.text) := rfl
  rw [e0]
  unfold stepZ
  by_cases hxy : x ≤ y
  case neg =>
    rw [if_pos (.inl (by omega)), if_neg]
    unfold moveOk
    rw [decide_eq_false hxy]
    simp
  by_cases hy : y < h.text.length
  case neg =>
    rw [if_pos (.inr (.inl (by omega))), if_neg]
    unfold moveOk
    rw [decide_eq_false hy]
    simp
  by_cases ha : (cutZ x y h.text).all (colOk n) = true
  · have hall := List.all_eq_true.mp ha
    have hm : moveOk x y n h.text = true := by
      unfold moveOk
      rw [ha, decide_eq_true hxy, decide_eq_true hy]
      rfl
    rw [hm, if_pos rfl, if_neg, moved_eq hxy hy (z := n) (f := fun c => c + n) (fun c => by show _ = c + n; omega)]
    rintro (z | z | z | z)
    · omega
    · omega
    · obtain ⟨l, hl⟩ := List.exists_mem_of_ne_nil _ (cut_ne hxy hy)
      have := hall l hl
      unfold colOk at this
      rw [Bool.and_eq_true] at this
      have := of_decide_eq_true this.2
      omega
    · obtain ⟨l, hl, hc⟩ := List.any_eq_true.mp z
      have := hall l hl
      unfold colOk at this
      rw [Bool.and_eq_true] at this
      have := of_decide_eq_true this.2
      have := of_decide_eq_true hc
      omega
  · rw [if_pos, if_neg]
    · unfold moveOk
      simp only [Bool.and_eq_true]
      exact fun q => ha q.2.2
    · refine .inr (.inr (.inr ?_))
      have ha2 : (cutZ x y h.text).all (colOk n) = false := by simpa using ha
      rw [List.all_eq_false] at ha2
      obtain ⟨l, hl, hc⟩ := ha2
      refine List.any_eq_true.mpr ⟨l, hl, decide_eq_true ?_⟩
      unfold colOk at hc
      apply Classical.byContradiction
      intro q
      exact hc (by rw [decide_eq_true (by omega), decide_eq_true (by omega)]; rfl)
theorem step_left {many : Nat} (h : House) (ht : TextOk many h.text) (x y n : Nat) : h.step (.left x y n) = stepZ h x y (0 - (n : Int)) := by
  have e0 : h.step (.left x y n) = if y < x ∨ h.text.length ≤ y ∨ ((cutZ x y h.text).any fun l => decide (l.column < n)) = true then (h, Sq16.says (-1)) else h.move (Sq16.moved x y (fun c => c - n) h.text) := rfl
  rw [e0]
  unfold stepZ
  by_cases hxy : x ≤ y
  case neg =>
    rw [if_pos (.inl (by omega)), if_neg]
    unfold moveOk
    rw [decide_eq_false hxy]
    simp
  by_cases hy : y < h.text.length
  case neg =>
    rw [if_pos (.inr (.inl (by omega))), if_neg]
    unfold moveOk
    rw [decide_eq_false hy]
    simp
  by_cases ha : (cutZ x y h.text).all (colOk (0 - (n : Int))) = true
  · have hall := List.all_eq_true.mp ha
    have hm : moveOk x y (0 - (n : Int)) h.text = true := by
      unfold moveOk
      rw [ha, decide_eq_true hxy, decide_eq_true hy]
      rfl
    rw [hm, if_pos rfl, if_neg, moved_eq hxy hy (z := 0 - (n : Int)) (f := fun c => c - n) (fun c => by show _ = c - n; omega)]
    rintro (z | z | z)
    · omega
    · omega
    · obtain ⟨l, hl, hc⟩ := List.any_eq_true.mp z
      have := hall l hl
      unfold colOk at this
      rw [Bool.and_eq_true] at this
      have := of_decide_eq_true this.1
      have := of_decide_eq_true hc
      omega
  · rw [if_pos, if_neg]
    · unfold moveOk
      simp only [Bool.and_eq_true]
      exact fun q => ha q.2.2
    · refine .inr (.inr ?_)
      have ha2 : (cutZ x y h.text).all (colOk (0 - (n : Int))) = false := by simpa using ha
      rw [List.all_eq_false] at ha2
      obtain ⟨l, hl, hc⟩ := ha2
      have hcol := (ht.2 l (List.mem_of_mem_drop (List.mem_of_mem_take hl))).1
      refine List.any_eq_true.mpr ⟨l, hl, decide_eq_true ?_⟩
      unfold colOk at hc
      apply Classical.byContradiction
      intro q
      exact hc (by rw [decide_eq_true (by omega), decide_eq_true (by omega)]; rfl)
end Mr

/-! ## MrCalls -/
set_option Elab.async false
set_option linter.all false
set_option maxRecDepth 100000
set_option maxHeartbeats 400000
/-! # A list of calls, call by call: the plain side -/
namespace Mr
open Sq16 (House Line)
theorem ints_len (l : List Nat) : (Sq16.ints l).length = l.length := by
  unfold Sq16.ints
  rw [List.length_map]
theorem ints_take (l : List Nat) (n : Nat) : (Sq16.ints l).take n = Sq16.ints (l.take n) := by
  unfold Sq16.ints
  rw [List.map_take]
theorem ints_drop (l : List Nat) (n : Nat) : (Sq16.ints l).drop n = Sq16.ints (l.drop n) := by
  unfold Sq16.ints
  rw [List.map_drop]
theorem ints_back (l : List Nat) : (Sq16.ints l).map Int.toNat = l := by
  unfold Sq16.ints
  rw [List.map_map]
  exact List.map_id l
/-- rows, each behind how many numbers it has -/
def flatRows : List (List Nat) → List Nat
  | [] => []
  | x :: xs => x.length :: (x ++ flatRows xs)
theorem row_nat {l : List Nat} {x t : List Int} (h : PyFlat.row (Sq16.ints l) = some (x, t)) : ∃ y u : List Nat, x = Sq16.ints y ∧ t = Sq16.ints u ∧ l = y.length :: (y ++ u) := by
  cases l with
  | nil => cases h
  | cons n r =>
    have h' : (if 0 ≤ (n : Int) ∧ (n : Int).toNat ≤ (Sq16.ints r).length then some ((Sq16.ints r).take (n : Int).toNat, (Sq16.ints r).drop (n : Int).toNat) else none) = some (x, t) := h
    split at h'
    case isFalse => cases h'
    case isTrue k =>
      rw [Int.toNat_natCast, ints_len] at k
      rw [Int.toNat_natCast, ints_take, ints_drop] at h'
      obtain ⟨e1, e2⟩ := Prod.mk.inj (Option.some.inj h')
      refine ⟨r.take n, r.drop n, e1.symm, e2.symm, ?_⟩
      rw [List.take_append_drop, List.length_take, Nat.min_eq_left k.2]
theorem rows_nat : ∀ (k : Nat) {l : List Nat} {xs : List (List Int)} {t : List Int}, PyFlat.rows k (Sq16.ints l) = some (xs, t) → ∃ (ys : List (List Nat)) (u : List Nat), xs = ys.map Sq16.ints ∧ t = Sq16.ints u ∧ l = flatRows ys ++ u ∧ ys.length = k
  | 0, l, xs, t, h => by
    obtain ⟨e1, e2⟩ := Prod.mk.inj (Option.some.inj h)
    exact ⟨[], l, e1.symm, e2.symm, rfl, rfl⟩
  | k + 1, l, xs, t, h => by
    unfold PyFlat.rows at h
    cases e : PyFlat.row (Sq16.ints l) with
    | none =>
      rw [e] at h
      cases h
    | some q =>
      obtain ⟨x, s⟩ := q
      rw [e] at h
      simp only at h
      obtain ⟨y, u, rfl, rfl, rfl⟩ := row_nat e
      cases e2 : PyFlat.rows k (Sq16.ints u) with
      | none =>
        rw [e2] at h
        cases h
      | some q =>
        obtain ⟨xs2, t2⟩ := q
        rw [e2] at h
        simp only at h
        obtain ⟨f1, f2⟩ := Prod.mk.inj (Option.some.inj h)
        obtain ⟨ys, v, g1, g2, g3, g4⟩ := rows_nat k e2
        refine ⟨y :: ys, v, ?_, ?_, ?_, ?_⟩
        · rw [← f1, g1]
          rfl
        · rw [← f2, g2]
        · rw [g3]
          simp [flatRows]
        · rw [List.length_cons, g4]
/-- a call by its number, its numbers, its rows -/
inductive CallR : Nat → List Nat → List (List Nat) → Sq16.Call → Prop
  | one (k m : List Nat) : CallR 1 [] [k, m] (.begin_ k m)
  | two (m : List Nat) : CallR 2 [] [m] (.text m)
  | three : CallR 3 [] [] .shape
  | four (x y : Nat) : CallR 4 [x, y] [] (.set x y)
  | five : CallR 5 [] [] .statements
  | six (x : Nat) : CallR 6 [x] [] (.around x)
  | seven (x : Nat) : CallR 7 [x] [] (.fold x)
  | eight (x y z : Nat) : CallR 8 [x, y, z] [] (.right x y z)
  | nine (x y z : Nat) : CallR 9 [x, y, z] [] (.left x y z)
theorem len0 {α : Type} {l : List α} (h : 0 = l.length) : l = [] := List.length_eq_zero_iff.mp h.symm
theorem len1 {α : Type} {l : List α} (h : 1 = l.length) : ∃ x, l = [x] := List.length_eq_one_iff.mp h.symm
theorem len2 {α : Type} {l : List α} (h : 2 = l.length) : ∃ x y, l = [x, y] := by
  match l, h with
  | [x, y], _ => exact ⟨x, y, rfl⟩
theorem len3 {α : Type} {l : List α} (h : 3 = l.length) : ∃ x y z, l = [x, y, z] := by
  match l, h with
  | [x, y, z], _ => exact ⟨x, y, z, rfl⟩
theorem shape_call {p : Nat} {own : List Nat} {ys : List (List Nat)} (h : PySq16.shape (p : Int) = some (own.length, ys.length)) : ∃ c, CallR p own ys c := by
  unfold PySq16.shape at h
  split at h
  · obtain rfl : p = 1 := by omega
    obtain ⟨e1, e2⟩ := Prod.mk.inj (Option.some.inj h)
    obtain rfl := len0 e1
    obtain ⟨k, m, rfl⟩ := len2 e2
    exact ⟨_, .one k m⟩
  split at h
  · obtain rfl : p = 2 := by omega
    obtain ⟨e1, e2⟩ := Prod.mk.inj (Option.some.inj h)
    obtain rfl := len0 e1
    obtain ⟨m, rfl⟩ := len1 e2
    exact ⟨_, .two m⟩
  split at h
  · obtain rfl : p = 3 := by omega
    obtain ⟨e1, e2⟩ := Prod.mk.inj (Option.some.inj h)
    obtain rfl := len0 e1
    obtain rfl := len0 e2
    exact ⟨_, .three⟩
  split at h
  · obtain rfl : p = 4 := by omega
    obtain ⟨e1, e2⟩ := Prod.mk.inj (Option.some.inj h)
    obtain ⟨x, y, rfl⟩ := len2 e1
    obtain rfl := len0 e2
    exact ⟨_, .four x y⟩
  split at h
  · obtain rfl : p = 5 := by omega
    obtain ⟨e1, e2⟩ := Prod.mk.inj (Option.some.inj h)
    obtain rfl := len0 e1
    obtain rfl := len0 e2
    exact ⟨_, .five⟩
  split at h
  · obtain rfl : p = 6 := by omega
    obtain ⟨e1, e2⟩ := Prod.mk.inj (Option.some.inj h)
    obtain ⟨x, rfl⟩ := len1 e1
    obtain rfl := len0 e2
    exact ⟨_, .six x⟩
  split at h
  · obtain rfl : p = 7 := by omega
    obtain ⟨e1, e2⟩ := Prod.mk.inj (Option.some.inj h)
    obtain ⟨x, rfl⟩ := len1 e1
    obtain rfl := len0 e2
    exact ⟨_, .seven x⟩
  split at h
  · obtain rfl : p = 8 := by omega
    obtain ⟨e1, e2⟩ := Prod.mk.inj (Option.some.inj h)
    obtain ⟨x, y, z, rfl⟩ := len3 e1
    obtain rfl := len0 e2
    exact ⟨_, .eight x y z⟩
  split at h
  · obtain rfl : p = 9 := by omega
    obtain ⟨e1, e2⟩ := Prod.mk.inj (Option.some.inj h)
    obtain ⟨x, y, z, rfl⟩ := len3 e1
    obtain rfl := len0 e2
    exact ⟨_, .nine x y z⟩
  · cases h
theorem call_nat {l : List Nat} {c : List (List Int)} {t : List Int} (h : PyFlat.call PySq16.shape (Sq16.ints l) = some (c, t)) :
    ∃ (p : Nat) (own : List Nat) (ys : List (List Nat)) (u : List Nat) (cl : Sq16.Call), c = Sq16.ints (p :: own) :: ys.map Sq16.ints ∧ t = Sq16.ints u ∧ l = p :: (own ++ (flatRows ys ++ u)) ∧ CallR p own ys cl := by
  cases l with
  | nil => cases h
  | cons p r =>
    have h' : (match PySq16.shape (p : Int) with
      | none => none
      | some (n, k) => if (Sq16.ints r).length < n then none else match PyFlat.rows k ((Sq16.ints r).drop n) with
        | none => none
        | some (xs, t) => some (((p : Int) :: (Sq16.ints r).take n) :: xs, t)) = some (c, t) := h
    cases e : PySq16.shape (p : Int) with
    | none =>
      rw [e] at h'
      cases h'
    | some q =>
      obtain ⟨n, k⟩ := q
      rw [e] at h'
      simp only at h'
      split at h'
      · cases h'
      · rename_i hn
        rw [ints_len] at hn
        rw [ints_drop, ints_take] at h'
        cases e2 : PyFlat.rows k (Sq16.ints (r.drop n)) with
        | none =>
          rw [e2] at h'
          cases h'
        | some q =>
          obtain ⟨xs, t2⟩ := q
          rw [e2] at h'
          simp only at h'
          obtain ⟨f1, f2⟩ := Prod.mk.inj (Option.some.inj h')
          obtain ⟨ys, u, g1, g2, g3, g4⟩ := rows_nat k e2
          have hlen : (r.take n).length = n := by
            rw [List.length_take]
            omega
          obtain ⟨cl, hc⟩ := shape_call (p := p) (own := r.take n) (ys := ys) (by rw [e, hlen, g4])
          refine ⟨p, r.take n, ys, u, cl, ?_, ?_, ?_, hc⟩
          · rw [← f1, g1]
            rfl
          · rw [← f2, g2]
          · rw [← g3, List.take_append_drop]
theorem step_call (h : House) {p : Nat} {own : List Nat} {ys : List (List Nat)} {c : Sq16.Call} (r : CallR p own ys c) : Sq16Neutral.step h (PySq16.whole (Sq16.ints (p :: own) :: ys.map Sq16.ints)) = ((h.step c).1, outL (h.step c).2) := by
  cases r with
  | one k m =>
    have e : Sq16Neutral.callOf (PySq16.whole (Sq16.ints [1] :: [k, m].map Sq16.ints)) = some (.begin_ ((Sq16.ints k).map Int.toNat) ((Sq16.ints m).map Int.toNat)) := rfl
    rw [ints_back, ints_back] at e
    unfold Sq16Neutral.step
    rw [e]
    rfl
  | two m =>
    have e : Sq16Neutral.callOf (PySq16.whole (Sq16.ints [2] :: [m].map Sq16.ints)) = some (.text ((Sq16.ints m).map Int.toNat)) := rfl
    rw [ints_back] at e
    unfold Sq16Neutral.step
    rw [e]
    rfl
  | three => rfl
  | four x y => rfl
  | five => rfl
  | six x => rfl
  | seven x => rfl
  | eight x y z => rfl
  | nine x y z => rfl
theorem bound_call {p : Nat} {own : List Nat} {ys : List (List Nat)} {c : Sq16.Call} (r : CallR p own ys c) (h : PyInside.call PySq16.bound (Sq16.ints (p :: own) :: ys.map Sq16.ints) = true) : ∀ y ∈ ys, y.length ≤ 1024 := by
  cases r with
  | one k m =>
    have h' : (true && (decide (0 ≤ (Sq16.ints k).length) && decide ((Sq16.ints k).length ≤ 1024) && (Sq16.ints k).all (PyInside.within 0 18446744073709551615) && (decide (0 ≤ (Sq16.ints m).length) && decide ((Sq16.ints m).length ≤ 1024) && (Sq16.ints m).all (PyInside.within 0 18446744073709551615) && true))) = true := h
    simp only [Bool.and_eq_true, decide_eq_true_eq, ints_len] at h'
    intro y hy
    rcases List.mem_cons.mp hy with e | hy
    · rw [e]
      exact h'.2.1.1.2
    · rcases List.mem_cons.mp hy with e | hy
      · rw [e]
        exact h'.2.2.1.1.2
      · cases hy
  | two m =>
    have h' : (true && (decide (0 ≤ (Sq16.ints m).length) && decide ((Sq16.ints m).length ≤ 1024) && (Sq16.ints m).all (PyInside.within 0 18446744073709551615) && true)) = true := h
    simp only [Bool.and_eq_true, decide_eq_true_eq, ints_len] at h'
    intro y hy
    rcases List.mem_cons.mp hy with e | hy
    · rw [e]
      exact h'.2.1.1.2
    · cases hy
  | _ => intro y hy; cases hy
theorem played_cons {S : Type} (step : S → List (List Int) → S × List Int) (s : S) (c : List (List Int)) (r : List (List (List Int))) : PyFlat.played step s (c :: r) = (step s c).2 :: PyFlat.played step (step s c).1 r := rfl
theorem told_cons (x : List Int) (l : List (List Int)) : PyFlat.told (x :: l) = ((x.length : Int) :: x) ++ PyFlat.told l := rfl
/-- what is left of the calls: what's answered so far, then what the calls behind a place answer -/
def Todo (L : List Nat) (n : Nat) (h : House) (acc : List Int) : Prop := ∃ (f : Nat) (raw : List (List (List Int))), PyFlat.calls PySq16.shape f (Sq16.ints (L.drop n)) = some raw ∧ PyInside.calls PySq16.bound raw = true ∧
  PySq16.answers (Sq16.ints L) = acc ++ PyFlat.told (PyFlat.played Sq16Neutral.step h (raw.map PySq16.whole))
theorem Todo.start {L : List Nat} (h : PySq16.answers_asked (Sq16.ints L) = true) : Todo L 0 Sq16.fresh [] := by
  unfold PySq16.answers_asked at h
  cases e : PyFlat.calls PySq16.shape (Sq16.ints L).length (Sq16.ints L) with
  | none =>
    rw [e] at h
    cases h
  | some raw =>
    rw [e] at h
    simp only [Bool.and_eq_true] at h
    refine ⟨_, raw, e, h.1.1.2, ?_⟩
    unfold PySq16.answers PySq16.calls
    rw [e]
    rfl
theorem asked_len {L : List Nat} (h : PySq16.answers_asked (Sq16.ints L) = true) : (PySq16.answers (Sq16.ints L)).length ≤ 10000000 := by
  unfold PySq16.answers_asked at h
  cases e : PyFlat.calls PySq16.shape (Sq16.ints L).length (Sq16.ints L) with
  | none =>
    rw [e] at h
    cases h
  | some raw =>
    rw [e] at h
    simp only [Bool.and_eq_true] at h
    exact of_decide_eq_true h.2
theorem Todo.len {L : List Nat} {n : Nat} {h : House} {acc : List Int} (t : Todo L n h acc) : acc.length ≤ (PySq16.answers (Sq16.ints L)).length := by
  obtain ⟨f, raw, _, _, e⟩ := t
  rw [e, List.length_append]
  omega
theorem Todo.done {L : List Nat} {n : Nat} {h : House} {acc : List Int} (t : Todo L n h acc) (hn : L.length ≤ n) : PySq16.answers (Sq16.ints L) = acc := by
  obtain ⟨f, raw, e1, _, e⟩ := t
  rw [List.drop_eq_nil_of_le hn] at e1
  have e2 : some ([] : List (List (List Int))) = some raw := by
    cases f <;> exact e1
  obtain rfl := Option.some.inj e2
  rw [e]
  exact List.append_nil acc
theorem Todo.next {L : List Nat} {n : Nat} {h : House} {acc : List Int} (t : Todo L n h acc) (hn : n < L.length) :
    ∃ (p : Nat) (own : List Nat) (ys : List (List Nat)) (u : List Nat) (cl : Sq16.Call), L.drop n = p :: (own ++ (flatRows ys ++ u)) ∧ CallR p own ys cl ∧ (∀ y ∈ ys, y.length ≤ 1024) ∧
      Todo L (n + 1 + own.length + (flatRows ys).length) (h.step cl).1 (acc ++ (((outL (h.step cl).2).length : Int) :: outL (h.step cl).2)) := by
  obtain ⟨f, raw, e1, hb, e⟩ := t
  cases hd : L.drop n with
  | nil =>
    have := congrArg List.length hd
    rw [List.length_drop, List.length_nil] at this
    omega
  | cons q r =>
    rw [hd] at e1
    cases f with
    | zero => cases e1
    | succ f =>
      have e2 : (match PyFlat.call PySq16.shape (Sq16.ints (q :: r)) with
        | none => none
        | some (c, t) => match PyFlat.calls PySq16.shape f t with
          | none => none
          | some cs => some (c :: cs)) = some raw := e1
      cases ec : PyFlat.call PySq16.shape (Sq16.ints (q :: r)) with
      | none =>
        rw [ec] at e2
        cases e2
      | some w =>
        obtain ⟨c, t⟩ := w
        rw [ec] at e2
        simp only at e2
        obtain ⟨p, own, ys, u, cl, rfl, rfl, hl, hc⟩ := call_nat ec
        cases es : PyFlat.calls PySq16.shape f (Sq16.ints u) with
        | none =>
          rw [es] at e2
          cases e2
        | some cs =>
          rw [es] at e2
          simp only at e2
          obtain rfl := Option.some.inj e2
          unfold PyInside.calls at hb
          rw [List.all_cons, Bool.and_eq_true] at hb
          refine ⟨p, own, ys, u, cl, hl, hc, bound_call hc hb.1, f, cs, ?_, hb.2, ?_⟩
          · have e3 : L.drop (n + 1 + own.length + (flatRows ys).length) = u := by
              rw [Nat.add_assoc, Nat.add_assoc, ← List.drop_drop, hd, hl, show 1 + (own.length + (flatRows ys).length) = (own ++ flatRows ys).length + 1 by rw [List.length_append]; omega, List.drop_succ_cons, ← List.append_assoc, List.drop_left]
            rw [e3]
            exact es
          · rw [e, List.map_cons, played_cons, step_call h hc, told_cons, List.append_assoc]
end Mr

/-! ## MrHouse0 -/
set_option Elab.async false
set_option linter.all false
set_option maxRecDepth 100000
set_option maxHeartbeats 400000
/-! # The house: of_texts, of_lines, rows_at -/
namespace Mr
open PySem PySem.Spec PyProof.Rows L2
open Sq16 (Item Open State Line House)
def RowAt (H : Hp) (v : V) (y : List Nat) : Prop := ∃ k, v = .ref k ∧ H k = some (.lst (nv y))
/-- a row that was not there before -/
def RowNew (H0 H : Hp) (v : V) (y : List Nat) : Prop := ∃ k, v = .ref k ∧ H0 k = none ∧ H k = some (.lst (nv y))
/-- .. and isn't the list at f -/
def RowOff (f : Addr) (H0 H : Hp) (v : V) (y : List Nat) : Prop := ∃ k, v = .ref k ∧ k ≠ f ∧ H0 k = none ∧ H k = some (.lst (nv y))
def spOfTexts (a : Ad) : Sp := fun vs H Q _ => ∃ (d : Addr) (h : House) (o r : Addr) (c : Nat) (own : List Nat) (us : List V) (ys : List (List Nat)) (cl : Sq16.Call), vs = [.ref d, .int c, .ref o, .ref r] ∧ DeskAt a H d h ∧ H o = some (.lst (nv own)) ∧ H r = some (.lst us) ∧ Paired (RowAt H) us ys ∧ CallR c own ys cl ∧ c < 5 ∧ (∀ y ∈ ys, y.length ≤ 1024) ∧ Ans a H d (h.step cl) Q
def spOfLines (a : Ad) : Sp := fun vs H Q _ => ∃ (d : Addr) (h : House) (o : Addr) (c : Nat) (own : List Nat) (ys : List (List Nat)) (cl : Sq16.Call), vs = [.ref d, .int c, .ref o] ∧ DeskAt a H d h ∧ H o = some (.lst (nv own)) ∧ CallR c own ys cl ∧ 5 ≤ c ∧ Ans a H d (h.step cl) Q
def spRowsAt (K : PySem.W.Frag) : Sp := fun vs H Q _ => ∃ (p : Addr) (L pre : List Nat) (ys : List (List Nat)) (u : List Nat), vs = [.ref p, .int pre.length, .int ys.length] ∧ SqL K H p (nv L) ∧ L = pre ++ (flatRows ys ++ u) ∧ ys.length ≤ 2 ∧
  ∀ (H' : Hp) (q f : Addr) (us : List V), Same H H' → H' q = some (.tup [.ref f, .int ((pre.length + (flatRows ys).length : Nat) : Int)]) → H f = none → H' f = some (.lst us) → Paired (RowNew H H') us ys → Q (.ref q) H'
section
variable {P : Program} {w : World} {K : PySem.W.Frag} {mg : Str → Option Value} {base : Heap} {a : Ad}
theorem scOfTexts : FnScope ["desk", "call", "own", "rows"] ["desk", "call", "own", "rows"] (defScope stOfTexts) := ⟨rfl, rfl, rfl, by decide +kernel, rfl, by decide +kernel, by decide +kernel⟩
theorem ok_ofTexts (T : Tx K mg a) : FnOk P w K mg base CX0 43 a.fOfTexts a.dOfTexts ["desk", "call", "own", "rows"] (spOfTexts a) := by
  have GB : FnOk P w K mg base CX0 10 a.fDBegin a.dDBegin ["self", "kinds", "numbers"] (spDBegin a) := ok_dBegin T
  have GT : FnOk P w K mg base CX0 10 a.fDText a.dDText ["self", "numbers"] (spDText a) := ok_dText T
  have GS : FnOk P w K mg base CX0 21 a.fDShape a.dDShape ["self"] (spDShape a) := ok_dShape T
  have GE : FnOk P w K mg base CX0 42 a.fDSet a.dDSet ["self", "step", "length"] (spDSet a) := ok_dSet T
  refine T.ofTexts.fn.ok scOfTexts (fun vs H Q E h => ?_) (fun cdv A outer s H vs Q E hr h => ?_)
  · obtain ⟨d, h, o, r, c, own, us, ys, cl, rfl, _⟩ := h
    rfl
  obtain ⟨d, h, o, r, c, own, us, ys, cl, rfl, D0, ho, hrr, hus, hc, h5, hb, kk⟩ := h
  refine ⟨_, pss_cons (ps_if (pt_cmpR op_eq (pv 1) pe_int (nomark _)) (pss_one (ps_ret (pe_meth (pv 0) T.clD T.dBegin.m GB (hr.mono (by decide)) T.dBegin.b .nil pass0 (pa_cons (pe_ix ix_list (pv 3) pe_int (fun _ _ => rfl)) (pa_cons (pe_ix ix_list (pv 3) pe_int (fun _ _ => rfl)) pa_nil))))) pss_nil)
    (pss_cons (ps_if (pt_cmpR op_eq (pv 1) pe_int (nomark _)) (pss_one (ps_ret (pe_meth (pv 0) T.clD T.dText.m GT (hr.mono (by decide)) T.dText.b .nil pass0 (pa_cons (pe_ix ix_list (pv 3) pe_int (fun _ _ => rfl)) pa_nil)))) pss_nil)
    (pss_cons (ps_if (pt_cmpR op_eq (pv 1) pe_int (nomark _)) (pss_one (ps_ret (pe_meth0 (pv 0) T.clD T.dShape.m GS (hr.mono (by decide)) T.dShape.b .nil pass0))) pss_nil)
    (pss_one (ps_ret (pe_meth (pv 0) T.clD T.dSet.m GE (hr.mono (by decide)) T.dSet.b .nil pass0 (pa_cons (pe_ix ix_list (pv 2) pe_int (fun _ _ => rfl)) (pa_cons (pe_ix ix_list (pv 2) pe_int (fun _ _ => rfl)) pa_nil))))))), ?_⟩
  have D0' := D0
  obtain ⟨dx, k0, c0, L, bv, fl, kd, cl0, us0, D⟩ := D0'
  cases hc with
  | one k m =>
    obtain ⟨v1, r1, rfl, ⟨k1, rfl, hk1⟩, hus1⟩ : ∃ v r, us = v :: r ∧ RowAt H v k ∧ Paired (RowAt H) r [m] := by
      cases hus with
      | cons a b => exact ⟨_, _, rfl, a, b⟩
    obtain ⟨v2, r2, rfl, ⟨k2, rfl, hk2⟩, hus2⟩ : ∃ v r, r1 = v :: r ∧ RowAt H v m ∧ Paired (RowAt H) r [] := by
      cases hus1 with
      | cons a b => exact ⟨_, _, rfl, a, b⟩
    refine ⟨_, rfl, rfl, _, rfl, if_true_of rfl ⟨_, rfl, d, dx, _, rfl, D.hd, dF_no (by decide +kernel), ?_⟩⟩
    refine ⟨_, rfl, r, _, 0, _, rfl, rfl, SqL.of hrr, atI_nat (j := 0) rfl, _, rfl, r, _, 1, _, rfl, rfl, SqL.of hrr, atI_nat (j := 1) rfl, ?_⟩
    exact ⟨d, h, k1, k2, k, m, rfl, D0, hk1, hk2, hb k (by simp), hb m (by simp), kk⟩
  | two m =>
    obtain ⟨v1, r1, rfl, ⟨k1, rfl, hk1⟩, hus⟩ : ∃ v r, us = v :: r ∧ RowAt H v m ∧ Paired (RowAt H) r [] := by
      cases hus with
      | cons a b => exact ⟨_, _, rfl, a, b⟩
    refine ⟨_, rfl, rfl, _, rfl, if_false_of rfl ⟨_, rfl, rfl, _, rfl, if_true_of rfl ⟨_, rfl, d, dx, _, rfl, D.hd, dF_no (by decide +kernel), ?_⟩⟩⟩
    refine ⟨_, rfl, r, _, 0, _, rfl, rfl, SqL.of hrr, atI_nat (j := 0) rfl, ?_⟩
    exact ⟨d, h, k1, m, rfl, D0, hk1, hb m (by simp), kk⟩
  | three =>
    refine ⟨_, rfl, rfl, _, rfl, if_false_of rfl ⟨_, rfl, rfl, _, rfl, if_false_of rfl ⟨_, rfl, rfl, _, rfl, if_true_of rfl ⟨_, rfl, d, dx, _, rfl, D.hd, dF_no (by decide +kernel), ?_⟩⟩⟩⟩
    exact ⟨d, h, rfl, D0, kk⟩
  | four x y =>
    refine ⟨_, rfl, rfl, _, rfl, if_false_of rfl ⟨_, rfl, rfl, _, rfl, if_false_of rfl ⟨_, rfl, rfl, _, rfl, if_false_of rfl ⟨_, rfl, d, dx, _, rfl, D.hd, dF_no (by decide +kernel), ?_⟩⟩⟩⟩
    refine ⟨_, rfl, o, _, 0, _, rfl, rfl, SqL.of ho, atI_nat (j := 0) rfl, _, rfl, o, _, 1, _, rfl, rfl, SqL.of ho, atI_nat (j := 1) rfl, ?_⟩
    exact ⟨d, h, x, y, rfl, D0, kk⟩
  | five => exact absurd h5 (by decide)
  | six x => exact absurd h5 (by decide)
  | seven x => exact absurd h5 (by decide)
  | eight x y z => exact absurd h5 (by decide)
  | nine x y z => exact absurd h5 (by decide)
theorem scOfLines : FnScope ["desk", "call", "own"] ["desk", "call", "own"] (defScope stOfLines) := ⟨rfl, rfl, rfl, by decide +kernel, rfl, by decide +kernel, by decide +kernel⟩
theorem ok_ofLines (T : Tx K mg a) : FnOk P w K mg base CX0 22 a.fOfLines a.dOfLines ["desk", "call", "own"] (spOfLines a) := by
  have GT : FnOk P w K mg base CX0 21 a.fDTell a.dDTell ["self"] (spDTell a) := ok_dTell T
  have GA : FnOk P w K mg base CX0 21 a.fDAround a.dDAround ["self", "line"] (spDAround a) := ok_dAround T
  have GF : FnOk P w K mg base CX0 21 a.fDFold a.dDFold ["self", "line"] (spDFold a) := ok_dFold T
  have GM : FnOk P w K mg base CX0 21 a.fDMoved a.dDMoved ["self", "a", "b", "by"] (spDMoved a) := ok_dMoved T
  refine T.ofLines.fn.ok scOfLines (fun vs H Q E h => ?_) (fun cdv A outer s H vs Q E hr h => ?_)
  · obtain ⟨d, h, o, c, own, ys, cl, rfl, _⟩ := h
    rfl
  obtain ⟨d, h, o, c, own, ys, cl, rfl, D0, ho, hc, h5, kk⟩ := h
  have hr21 : Room 21 _ := hr.mono (by decide)
  refine ⟨_, pss_cons (ps_if (pt_cmpR op_eq (pv 1) pe_int (nomark _)) (pss_one (ps_ret (pe_meth0 (pv 0) T.clD T.dTell.m GT hr21 T.dTell.b .nil pass0))) pss_nil)
    (pss_cons (ps_if (pt_cmpR op_eq (pv 1) pe_int (nomark _)) (pss_one (ps_ret (pe_meth (pv 0) T.clD T.dAround.m GA hr21 T.dAround.b .nil pass0 (pa_cons (pe_ix ix_list (pv 2) pe_int (fun _ _ => rfl)) pa_nil)))) pss_nil)
    (pss_cons (ps_if (pt_cmpR op_eq (pv 1) pe_int (nomark _)) (pss_one (ps_ret (pe_meth (pv 0) T.clD T.dFold.m GF hr21 T.dFold.b .nil pass0 (pa_cons (pe_ix ix_list (pv 2) pe_int (fun _ _ => rfl)) pa_nil)))) pss_nil)
    (pss_cons (ps_if (pt_cmpR op_eq (pv 1) pe_int (nomark _)) (pss_one (ps_ret (pe_meth (pv 0) T.clD T.dMoved.m GM hr21 T.dMoved.b .nil pass0 (pa_cons (pe_ix ix_list (pv 2) pe_int (fun _ _ => rfl)) (pa_cons (pe_ix ix_list (pv 2) pe_int (fun _ _ => rfl)) (pa_cons (pe_ix ix_list (pv 2) pe_int (fun _ _ => rfl)) pa_nil)))))) pss_nil)
    (pss_one (ps_ret (pe_meth (pv 0) T.clD T.dMoved.m GM hr21 T.dMoved.b .nil pass0 (pa_cons (pe_ix ix_list (pv 2) pe_int (fun _ _ => rfl)) (pa_cons (pe_ix ix_list (pv 2) pe_int (fun _ _ => rfl)) (pa_cons (pe_op op_sub pe_int (pe_ix ix_list (pv 2) pe_int (fun _ _ => rfl))) pa_nil))))))))), ?_⟩
  have D0' := D0
  obtain ⟨dx, k0, c0, L, bv, fl, kd, cl0, us0, D⟩ := D0'
  cases hc with
  | one k m => exact absurd h5 (by decide)
  | two m => exact absurd h5 (by decide)
  | three => exact absurd h5 (by decide)
  | four x y => exact absurd h5 (by decide)
  | five =>
    refine ⟨_, rfl, rfl, _, rfl, if_true_of rfl ⟨_, rfl, d, dx, _, rfl, D.hd, dF_no (by decide +kernel), ?_⟩⟩
    exact ⟨d, h, rfl, D0, kk⟩
  | six x =>
    refine ⟨_, rfl, rfl, _, rfl, if_false_of rfl ⟨_, rfl, rfl, _, rfl, if_true_of rfl ⟨_, rfl, d, dx, _, rfl, D.hd, dF_no (by decide +kernel), ?_⟩⟩⟩
    refine ⟨_, rfl, o, _, 0, _, rfl, rfl, SqL.of ho, atI_nat (j := 0) rfl, ?_⟩
    exact ⟨d, h, x, rfl, D0, kk⟩
  | seven x =>
    refine ⟨_, rfl, rfl, _, rfl, if_false_of rfl ⟨_, rfl, rfl, _, rfl, if_false_of rfl ⟨_, rfl, rfl, _, rfl, if_true_of rfl ⟨_, rfl, d, dx, _, rfl, D.hd, dF_no (by decide +kernel), ?_⟩⟩⟩⟩
    refine ⟨_, rfl, o, _, 0, _, rfl, rfl, SqL.of ho, atI_nat (j := 0) rfl, ?_⟩
    exact ⟨d, h, x, rfl, D0, kk⟩
  | eight x y z =>
    refine ⟨_, rfl, rfl, _, rfl, if_false_of rfl ⟨_, rfl, rfl, _, rfl, if_false_of rfl ⟨_, rfl, rfl, _, rfl, if_false_of rfl ⟨_, rfl, rfl, _, rfl, if_true_of rfl ⟨_, rfl, d, dx, _, rfl, D.hd, dF_no (by decide +kernel), ?_⟩⟩⟩⟩⟩
    refine ⟨_, rfl, o, _, 0, _, rfl, rfl, SqL.of ho, atI_nat (j := 0) rfl, _, rfl, o, _, 1, _, rfl, rfl, SqL.of ho, atI_nat (j := 1) rfl, _, rfl, o, _, 2, _, rfl, rfl, SqL.of ho, atI_nat (j := 2) rfl, ?_⟩
    rw [step_right] at kk
    exact ⟨d, h, x, y, (z : Int), rfl, D0, kk⟩
  | nine x y z =>
    refine ⟨_, rfl, rfl, _, rfl, if_false_of rfl ⟨_, rfl, rfl, _, rfl, if_false_of rfl ⟨_, rfl, rfl, _, rfl, if_false_of rfl ⟨_, rfl, rfl, _, rfl, if_false_of rfl ⟨_, rfl, d, dx, _, rfl, D.hd, dF_no (by decide +kernel), ?_⟩⟩⟩⟩⟩
    refine ⟨_, rfl, o, _, 0, _, rfl, rfl, SqL.of ho, atI_nat (j := 0) rfl, _, rfl, o, _, 1, _, rfl, rfl, SqL.of ho, atI_nat (j := 1) rfl, _, rfl, o, _, 2, _, rfl, rfl, SqL.of ho, atI_nat (j := 2) rfl, _, _, rfl, rfl, ?_⟩
    rw [step_left h D.tx] at kk
    exact ⟨d, h, x, y, 0 - (z : Int), rfl, D0, kk⟩
theorem flat_len_append : ∀ (xs ys : List (List Nat)), flatRows (xs ++ ys) = flatRows xs ++ flatRows ys
  | [], ys => rfl
  | x :: xs, ys => by
    rw [List.cons_append]
    simp only [flatRows]
    rw [flat_len_append xs ys, List.cons_append, List.append_assoc]
theorem scRowsAt : FnScope ["calls", "at", "many", "found", "turn", "end"] ["calls", "at", "many"] (defScope stRowsAt) := ⟨rfl, rfl, rfl, by decide +kernel, rfl, by decide +kernel, by decide +kernel⟩
theorem ok_rowsAt (T : Tx K mg a) : FnOk P w K mg base CX0 1 a.fRowsAt a.dRowsAt ["calls", "at", "many"] (spRowsAt K) := by
  refine T.rowsAt.fn.ok scRowsAt (fun vs H Q E h => ?_) (fun cdv A outer s H vs Q E hr h => ?_)
  · obtain ⟨p, L, pre, ys, u, rfl, _⟩ := h
    rfl
  obtain ⟨p, L, pre, ys, u, rfl, hp, hL, hy2, kk⟩ := h
  have nd := scRowsAt.nd
  refine ⟨_, pss_cons (ps_set (i := 3) nd rfl (Or.inl rfl) (pe_lst pa_nil))
    (pss_cons (ps_for PassesOwn.never rfl (pi_range1 rfl T.b_range (pa_cons (pv 2) pa_nil)) (pg_name (i := 4) nd rfl (Or.inl rfl))
      (pss_cons (ps_set (i := 5) nd rfl (Or.inl rfl) (pe_op op_add (pe_op op_add (pv 1) pe_int) (pe_ix ix_list (pv 0) (pv 1) (fun _ _ => rfl))))
      (pss_cons (ps_expr (pe_bm PySem.F.plainAttrs_list PySem.F.slot_list_append PySem.F.type_list_append mt_append (pv 3) (pa_cons (pe_slice sl_list (pv 0) (po_some (pe_op op_add (pv 1) pe_int)) (po_some (pv 5))) pa_nil)))
      (pss_one (ps_set (i := 1) nd rfl (Or.inl rfl) (pv 5))))))
    (pss_one (ps_ret (pe_tup (pa_cons (pv 3) (pa_cons (pv 1) pa_nil)))))), ?_⟩
  refine ⟨by show 0 ≤ sizeLine; decide, fun f hf => ?_⟩
  refine ⟨_, rfl, (ys.length : Int), rfl, by omega, by omega, ?_⟩
  refine for_range (lo := 0) (n := (ys.length : Int).toNat) (fun i σ H' => ∃ (us : List V) (v4 v5 : Option V), σ = [some (.ref p), some (.int ((pre.length + (flatRows (ys.take i)).length : Nat) : Int)), some (.int ys.length), some (.ref f), v4, v5] ∧ Same H H' ∧ H' f = some (.lst us) ∧ Paired (RowOff f H H') us (ys.take i))
    ⟨[], none, none, rfl, same_new hf _, upd_same, .nil⟩ ?_ ?_
  · rintro i σ H1 hi ⟨us, v4, v5, rfl, s1, hf1, hus⟩
    rw [Int.toNat_natCast] at hi
    have hul := Paired.length hus
    obtain ⟨y, hy⟩ : ∃ y, ys[i]? = some y := ⟨_, List.getElem?_eq_getElem hi⟩
    have htk := take_more hy
    have hys : ys = ys.take i ++ (y :: ys.drop (i + 1)) := by
      have e : ys.drop i = y :: ys.drop (i + 1) := by
        rw [List.drop_eq_getElem_cons hi]
        congr 1
        exact Option.some.inj ((List.getElem?_eq_getElem hi).symm.trans hy)
      rw [← e, List.take_append_drop]
    have hLi : L = (pre ++ flatRows (ys.take i)) ++ (y.length :: (y ++ (flatRows (ys.drop (i + 1)) ++ u))) := by
      rw [hL]
      conv => lhs; rw [hys, flat_len_append]
      simp [flatRows]
    generalize hn : pre.length + (flatRows (ys.take i)).length = n
    have hn2 : (pre ++ flatRows (ys.take i)).length = n := by rw [List.length_append, hn]
    have hat : L[n]? = some y.length := by
      rw [hLi, List.getElem?_append_right (by omega), hn2, Nat.sub_self]
      rfl
    refine ⟨_, rfl, _, _, rfl, rfl, _, rfl, _, rfl, p, _, _, _, rfl, rfl, s1.seq hp, nv_at hat, _, _, rfl, rfl, ?_⟩
    refine ⟨_, rfl, .inl ⟨rfl, _, SqL.of hf1⟩, _, rfl, _, rfl, _, _, rfl, rfl, _, rfl, _, rfl, _, rfl, p, _, rfl, s1.seq hp, fun k hk => ?_⟩
    have hlen : n + 1 + y.length ≤ L.length := by
      rw [hLi, List.length_append, hn2, List.length_cons, List.length_append]
      omega
    have hcut : cutV (nv L) (some ((n : Int) + 1)) (some ((n : Int) + 1 + (y.length : Int))) = nv y := by
      have := cut_nat (nv L) (i := n + 1) (j := n + 1 + y.length) (by omega) (by rw [nv_len]; exact hlen)
      rw [show ((n + 1 : Nat) : Int) = (n : Int) + 1 by omega, show ((n + 1 + y.length : Nat) : Int) = (n : Int) + 1 + (y.length : Int) by omega] at this
      rw [this, nv_drop, nv_take, show n + 1 + y.length - (n + 1) = y.length by omega]
      congr 1
      rw [hLi, ← hn2, ← List.drop_drop, List.drop_left, List.drop_one, List.tail_cons, List.take_left]
    rw [hcut]
    have s2 := same_new hk (.lst (nv y))
    have nk : k ≠ f := Ne.symm (ne_of_none hf1 hk)
    refine ⟨f, us, _, rfl, rfl, s2 _ _ hf1, size_lt (by rw [hul, List.length_take]; omega), _, rfl, ?_⟩
    refine ⟨us ++ [.ref k], some (.int (0 + (i : Int))), some (.int ((n : Int) + 1 + (y.length : Int))), ?_, upd_free (s1.trans s2) hf _, upd_same, ?_⟩
    · have e : (pre.length + (flatRows (ys.take (i + 1))).length : Nat) = n + 1 + y.length := by
        rw [htk, flat_len_append, List.length_append]
        simp only [flatRows, List.length_cons, List.length_append, List.length_nil]
        omega
      rw [e, show ((n + 1 + y.length : Nat) : Int) = (n : Int) + 1 + (y.length : Int) by omega]
      rfl
    · rw [htk]
      refine pa_append (pa_imp ?_ hus) (.cons ⟨k, rfl, nk, s1.free hk, (upd_ne nk).trans upd_same⟩ .nil)
      rintro v x ⟨k', e, n1, n2, n3⟩
      exact ⟨k', e, n1, n2, (upd_ne n1).trans (s2 _ _ n3)⟩
  · rintro σ H1 ⟨us, v4, v5, rfl, s1, hf1, hus⟩
    rw [Int.toNat_natCast, List.take_length] at hus ⊢
    refine ⟨_, rfl, _, rfl, by show 2 ≤ sizeLine; decide, fun q hq => ?_⟩
    have s2 := same_new hq (.tup [.ref f, .int ((pre.length + (flatRows ys).length : Nat) : Int)])
    refine kk _ q f us (s1.trans s2) upd_same hf (s2 _ _ hf1) (pa_imp ?_ hus)
    rintro v x ⟨k', e, n1, n2, n3⟩
    exact ⟨k', e, n2, s2 _ _ n3⟩
end
end Mr

/-! ## MrHouse1 -/
set_option Elab.async false
set_option linter.all false
set_option maxRecDepth 100000
set_option maxHeartbeats 400000
/-! # The house: answers -/
namespace Mr
open PySem PySem.Spec PyProof.Rows L2
open Sq16 (Item Open State Line House)
/-- the heap without what stands at f -/
def mask (H : Hp) (f : Addr) : Hp := fun b => if b = f then none else H b
theorem mask_of {H : Hp} {f b : Addr} (n : b ≠ f) : mask H f b = H b := if_neg n
theorem mask_some {H : Hp} {f b : Addr} {o : HO} (h : mask H f b = some o) : b ≠ f ∧ H b = some o := by
  unfold mask at h
  split at h
  · cases h
  · exact ⟨by assumption, h⟩
theorem DeskAt.off {a : Ad} {H H' : Hp} {f d : Addr} {h : House} (D : DeskAt a (mask H f) d h) (s : ∀ b o, H b = some o → b ≠ f → H' b = some o) : DeskAt a (mask H' f) d h :=
  D.move fun b o e _ => by
    obtain ⟨n, e⟩ := mask_some e
    rw [mask_of n]
    exact s b o e n
theorem DeskAt.on {a : Ad} {H H' : Hp} {f d : Addr} {h : House} (D : DeskAt a (mask H f) d h) (s : ∀ b o, H b = some o → b ≠ f → H' b = some o) : DeskAt a H' d h :=
  D.move fun b o e _ => by
    obtain ⟨n, e⟩ := mask_some e
    exact s b o e n
theorem not_desk {a : Ad} {o : Obj} {u : HO} : ¬ DeskO a (.frz o u) := by
  rintro ((⟨_, z⟩ | ⟨_, _, z⟩ | ⟨_, _, z⟩) | ⟨_, z⟩ | ⟨_, z⟩ | ⟨_, _, z⟩) <;> cases z
def spAnswers (K : PySem.W.Frag) : Sp := fun vs H Q _ => ∃ (p : Addr) (L : List Nat), vs = [.ref p] ∧ SqL K H p (nv L) ∧ L.length ≤ 16000 ∧ PySq16.answers_asked (Sq16.ints L) = true ∧
  ∀ (H' : Hp) (q : Addr), H' q = some (.lst (iv (PySq16.answers (Sq16.ints L)))) → Q (.ref q) H'
theorem numbers_at {p : Nat} {own : List Nat} {ys : List (List Nat)} {c : Sq16.Call} (r : CallR p own ys c) : ([.int 0, .int 0, .int 0, .int 0, .int 2, .int 0, .int 1, .int 1, .int 3, .int 3] : List V)[p]? = some (.int own.length) := by
  cases r <;> rfl
theorem rows_at {p : Nat} {own : List Nat} {ys : List (List Nat)} {c : Sq16.Call} (r : CallR p own ys c) : ([.int 0, .int 2, .int 1, .int 0, .int 0, .int 0, .int 0, .int 0, .int 0, .int 0] : List V)[p]? = some (.int ys.length) := by
  cases r <;> rfl
theorem rows_few {p : Nat} {own : List Nat} {ys : List (List Nat)} {c : Sq16.Call} (r : CallR p own ys c) : ys.length ≤ 2 := by
  cases r <;> simp
section
variable {P : Program} {w : World} {K : PySem.W.Frag} {mg : Str → Option Value} {base : Heap} {a : Ad}
theorem scAnswers : FnScope ["calls", "desk", "found", "at", "call", "behind", "own", "rows", "told"] ["calls"] (defScope stAnswers) := ⟨rfl, rfl, rfl, by decide +kernel, rfl, by decide +kernel, by decide +kernel⟩
theorem ok_answers (T : Tx K mg a) : FnOk P w K mg base CX0 44 a.fAnswers a.dAnswers ["calls"] (spAnswers K) := by
  have GI : FnOk P w K mg base CX0 10 a.fDInit a.dDInit ["self"] (spDInit a) := ok_dInit T
  have GT : FnOk P w K mg base CX0 43 a.fOfTexts a.dOfTexts ["desk", "call", "own", "rows"] (spOfTexts a) := ok_ofTexts T
  have GL : FnOk P w K mg base CX0 22 a.fOfLines a.dOfLines ["desk", "call", "own"] (spOfLines a) := ok_ofLines T
  have GR : FnOk P w K mg base CX0 1 a.fRowsAt a.dRowsAt ["calls", "at", "many"] (spRowsAt K) := ok_rowsAt T
  refine T.answers.fn.ok scAnswers (fun vs H Q E h => ?_) (fun cdv A outer s H vs Q E hr h => ?_)
  · obtain ⟨p, L, rfl, _⟩ := h
    rfl
  obtain ⟨p, L, rfl, hp, hlen, hask, kk⟩ := h
  have nd := scAnswers.nd
  refine ⟨_, pss_cons (ps_set (i := 1) nd rfl (Or.inl rfl) (pe_make0 T.dInit.made GI (hr.mono (by decide)) rfl T.dInit.g T.dInit.b .nil pass0))
    (pss_cons (ps_set (i := 2) nd rfl (Or.inl rfl) (pe_lst pa_nil))
    (pss_cons (ps_set (i := 3) nd rfl (Or.inl rfl) pe_int)
    (pss_cons (ps_while PassesOwn.never (pt_cmpR op_lt (pv 3) (pe_callB call_len_seq (by rfl) T.b_len PySem.boot_len (pa_cons (pv 0) pa_nil)) (nomark _))
      (pss_cons (ps_set (i := 4) nd rfl (Or.inl rfl) (pe_ix ix_list (pv 0) (pv 3) (fun _ _ => rfl)))
      (pss_cons (ps_set (i := 5) nd rfl (Or.inl rfl) (pe_op op_add (pe_op op_add (pv 3) pe_int) (pe_ix ix_tup (pe_glob (v := .ref a.aN) rfl T.gN rfl) (pv 4) (fun _ _ => rfl))))
      (pss_cons (ps_set (i := 6) nd rfl (Or.inl rfl) (pe_slice sl_list (pv 0) (po_some (pe_op op_add (pv 3) pe_int)) (po_some (pv 5))))
      (pss_cons (ps_asg (pe_call GR (hr.mono (by decide)) rfl T.rowsAt.g T.rowsAt.fn.kp T.rowsAt.b .nil pass0 (pa_cons (pv 0) (pa_cons (pv 5) (pa_cons (pe_ix ix_tup (pe_glob (v := .ref a.aR) rfl T.gR rfl) (pv 4) (fun _ _ => rfl)) pa_nil))))
          (pg_tup rfl (pgs_cons (pg_name (i := 7) nd rfl (Or.inl rfl)) (pgs_cons (pg_name (i := 3) nd rfl (Or.inl rfl)) pgs_nil))))
      (pss_cons (ps_lock (ps_set (i := 8) nd rfl (Or.inl rfl) (pe_ifExp (pt_cmpR op_lt (pv 4) pe_int (nomark _))
          (pe_call GT hr rfl T.ofTexts.g T.ofTexts.fn.kp T.ofTexts.b .nil pass0 (pa_cons (pv 1) (pa_cons (pv 4) (pa_cons (pv 6) (pa_cons (pv 7) pa_nil)))))
          (pe_call GL (hr.mono (by decide)) rfl T.ofLines.g T.ofLines.fn.kp T.ofLines.b .nil pass0 (pa_cons (pv 1) (pa_cons (pv 4) (pa_cons (pv 6) pa_nil)))))))
      (pss_cons (ps_expr (pe_bm PySem.F.plainAttrs_list PySem.F.slot_list_append PySem.F.type_list_append mt_append (pv 2) (pa_cons (pe_callB call_len_seq (by rfl) T.b_len PySem.boot_len (pa_cons (pv 8) pa_nil)) pa_nil)))
      (pss_one (ps_expr (pe_bm PySem.F.plainAttrs_list PySem.F.slot_list_extend PySem.F.type_list_extend mt_extend (pv 2) (pa_cons (pv 8) pa_nil)))))))))))
    (pss_one (ps_ret (pv 2)))))), ?_⟩
  intro x dx nx ndx nex
  refine ⟨x, dx, rfl, upd_same, fun H1 b1 D1 => ⟨rfl, ?_⟩⟩
  have s1 : Same H H1 := fun b o e => b1 b o (((same_new ndx _).trans (same_new (by rw [upd_ne (Ne.symm nex)]; exact nx) _)) b o e) (ne_of_none e nx)
  refine ⟨by show 0 ≤ sizeLine; decide, fun f hf => ?_⟩
  have hHf : H f = none := s1.free hf
  have hmax := asked_len hask
  have D2 : DeskAt a (mask (upd H1 f (.lst [])) f) x Sq16.fresh := D1.move fun b o e _ => by
    have n := ne_of_none e hf
    rw [mask_of n, upd_ne n]
    exact e
  refine ⟨fun k σ H' => ∃ (n : Nat) (h : House) (acc : List Int) (v4 v5 v6 v7 v8 : Option V), k = L.length - n ∧ σ = [some (.ref p), some (.ref x), some (.ref f), some (.int n), v4, v5, v6, v7, v8] ∧ Same H H' ∧ H' f = some (.lst (iv acc)) ∧ DeskAt a (mask H' f) x h ∧ Todo L n h acc,
    ⟨_, 0, Sq16.fresh, [], none, none, none, none, none, rfl, rfl, s1.trans (same_new hf _), upd_same, D2, Todo.start hask⟩, ?_⟩
  rintro k σ H2 ⟨n, h, acc, v4, v5, v6, v7, v8, rfl, rfl, s2, hf2, D, td⟩
  refine ⟨_, rfl, _, rfl, p, _, rfl, .inl (s2.seq hp), _, _, rfl, rfl, _, rfl, ?_⟩
  rw [nv_len]
  by_cases hend : n < L.length
  case neg =>
    refine if_false_of (decide_eq_false (by omega)) ⟨_, rfl, ?_⟩
    refine kk H2 f ?_
    rw [td.done (by omega)]
    exact hf2
  refine if_true_of (decide_eq_true (by omega)) ?_
  obtain ⟨c, own, ys, u, cl, hd, hc, hb, td2⟩ := td.next hend
  have hLn : L = L.take n ++ (c :: (own ++ (flatRows ys ++ u))) := by rw [← hd, List.take_append_drop]
  have htn : (L.take n).length = n := by
    rw [List.length_take]
    omega
  have hat : L[n]? = some c := by
    rw [hLn, List.getElem?_append_right (by omega), htn, Nat.sub_self]
    rfl
  have hll : n + 1 + own.length + (flatRows ys).length ≤ L.length := by
    have := congrArg List.length hLn
    rw [List.length_append, htn, List.length_cons, List.length_append, List.length_append] at this
    omega
  refine ⟨fun σ' H' => ∃ m', m' < L.length - n ∧ ∃ (n : Nat) (h : House) (acc : List Int) (v4 v5 v6 v7 v8 : Option V), m' = L.length - n ∧ σ' = [some (.ref p), some (.ref x), some (.ref f), some (.int n), v4, v5, v6, v7, v8] ∧ Same H H' ∧ H' f = some (.lst (iv acc)) ∧ DeskAt a (mask H' f) x h ∧ Todo L n h acc, fun _ _ q => q, ?_⟩
  -- call = calls[at]; behind = at + 1 + NUMBERS[call]
  refine ⟨_, rfl, _, rfl, p, _, _, _, rfl, rfl, s2.seq hp, nv_at hat, ?_⟩
  refine ⟨_, rfl, _, _, rfl, rfl, _, rfl, a.aN, _, _, _, rfl, rfl, T.tN _, atI_nat (numbers_at hc), _, _, rfl, rfl, ?_⟩
  -- own = calls[at + 1:behind]
  refine ⟨_, rfl, _, rfl, _, _, rfl, rfl, _, rfl, _, rfl, _, rfl, p, _, rfl, s2.seq hp, fun o ho => ?_⟩
  have hcut : cutV (nv L) (some ((n : Int) + 1)) (some ((n : Int) + 1 + (own.length : Int))) = nv own := by
    have := cut_nat (nv L) (i := n + 1) (j := n + 1 + own.length) (by omega) (by rw [nv_len]; omega)
    rw [show ((n + 1 : Nat) : Int) = (n : Int) + 1 by omega, show ((n + 1 + own.length : Nat) : Int) = (n : Int) + 1 + (own.length : Int) by omega] at this
    rw [this, nv_drop, nv_take, show n + 1 + own.length - (n + 1) = own.length by omega]
    congr 1
    rw [← List.drop_drop, hd, List.drop_one, List.tail_cons, List.take_left]
  rw [hcut]
  have s3 := same_new ho (.lst (nv own))
  have ho3 : upd H2 o (.lst (nv own)) o = some (.lst (nv own)) := upd_same
  have of_ : o ≠ f := Ne.symm (ne_of_none hf2 ho)
  generalize upd H2 o (.lst (nv own)) = H3 at s3 ho3 ⊢
  -- rows, at = rows_at(calls, behind, ROWS[call])
  have hpre : (L.take (n + 1 + own.length)).length = n + 1 + own.length := by
    rw [List.length_take]
    omega
  have hLr : L = L.take (n + 1 + own.length) ++ (flatRows ys ++ u) := by
    have e : L.drop (n + 1 + own.length) = flatRows ys ++ u := by
      rw [← List.drop_drop, ← List.drop_drop, hd, List.drop_one, List.tail_cons, List.drop_left]
    rw [← e, List.take_append_drop]
  refine ⟨_, rfl, _, rfl, _, rfl, a.aR, _, _, _, rfl, rfl, T.tR _, atI_nat (rows_at hc), ?_⟩
  refine ⟨p, L, L.take (n + 1 + own.length), ys, u, by rw [hpre, show ((n + 1 + own.length : Nat) : Int) = (n : Int) + 1 + (own.length : Int) by omega]; rfl, (s2.trans s3).seq hp, hLr, rows_few hc, fun H4 q r us s4 hq hr0 hr4 hus => ?_⟩
  rw [hpre] at hq
  refine ⟨q, _, rfl, SqT.of hq, rfl, _, _, rfl, _, _, rfl, rfl, ?_⟩
  have hf4 := s4 _ _ (s3 _ _ hf2)
  have rf : r ≠ f := Ne.symm (ne_of_none (s3 _ _ hf2) hr0)
  have D4 : DeskAt a (mask H4 f) x h := D.off fun b o e _ => s4 _ _ (s3 _ _ e)
  have s24 := (s2.trans s3).trans s4
  have hxf : x ≠ f := fun z => by
    obtain ⟨dx', k', c', L', bv', fl', kd', cl', us', D'⟩ := D4
    exact (mask_some D'.hd).1 z
  -- told = ..
  refine ⟨f, _, hf4, trivial, fun od => ?_⟩
  have up : ∀ b o', H4 b = some o' → b ≠ f → upd H4 f (.frz od (.lst (iv acc))) b = some o' := fun b o' e n => (upd_ne n).trans e
  have DL := D4.on up
  have ans : Ans a (upd H4 f (.frz od (.lst (iv acc)))) x (h.step cl) (fun v H' => H' f = some (.frz od (.lst (iv acc))) ∧
      ∃ t, v = .ref t ∧ t ≠ f ∧ upd H' f (.lst (iv acc)) t = some (.lst (iv (outL (h.step cl).2))) ∧ Same H (upd H' f (.lst (iv acc))) ∧ DeskAt a (mask (upd H' f (.lst (iv acc))) f) x (h.step cl).1) := by
    intro H5 t b5 D5 ht
    have hf5 : H5 f = some (.frz od (.lst (iv acc))) := b5 _ _ upd_same (Ne.symm hxf)
    have tf : t ≠ f := fun z => by
      rw [z, hf5] at ht
      cases ht
    refine ⟨hf5, t, rfl, tf, (upd_ne tf).trans ht, fun b o' e => ?_, D5.move fun b o' e q => ?_⟩
    · have nbf := ne_of_none e hHf
      have nbx := ne_of_none e nx
      exact (upd_ne nbf).trans (b5 _ _ (up _ _ (s24 _ _ e) nbf) nbx)
    · have nbf : b ≠ f := fun z => by
        rw [z, hf5] at e
        rw [← Option.some.inj e] at q
        exact not_desk q
      rw [mask_of nbf, upd_ne nbf]
      exact e
  refine ⟨_, rfl, _, _, rfl, rfl, _, rfl, ?_⟩
  refine if_val (fun v H' => H' f = some (.frz od (.lst (iv acc))) ∧
      ∃ t, v = .ref t ∧ t ≠ f ∧ upd H' f (.lst (iv acc)) t = some (.lst (iv (outL (h.step cl).2))) ∧ Same H (upd H' f (.lst (iv acc))) ∧ DeskAt a (mask (upd H' f (.lst (iv acc))) f) x (h.step cl).1) ?_ (fun h5 Q' hN => ?_) (fun h5 Q' hN => ?_)
  case refine_2 =>
    have h5 := of_decide_eq_true h5
    refine ⟨_, rfl, _, rfl, _, rfl, _, rfl, x, h, o, r, c, own, us, ys, cl, rfl, DL, up _ _ (s4 _ _ ho3) of_, up _ _ hr4 rf, pa_imp ?_ hus, hc, by omega, hb, fun H' q' b e1 e2 => hN _ _ (ans H' q' b e1 e2)⟩
    rintro v y ⟨k', e, n1, n2⟩
    exact ⟨k', e, up _ _ n2 (Ne.symm (ne_of_none (s3 _ _ hf2) n1))⟩
  case refine_3 =>
    have h5 := of_decide_eq_false h5
    exact ⟨_, rfl, _, rfl, _, rfl, x, h, o, c, own, ys, cl, rfl, DL, up _ _ (s4 _ _ ho3) of_, hc, by omega, fun H' q' b e1 e2 => hN _ _ (ans H' q' b e1 e2)⟩
  rintro v H5 ⟨hf5, t, rfl, tf, ht, s5, D5⟩
  refine ⟨hf5, ?_⟩
  -- found.append(len(told)); found.extend(told)
  have hf6 : upd H5 f (.lst (iv acc)) f = some (.lst (iv acc)) := upd_same
  generalize upd H5 f (.lst (iv acc)) = H6 at ht s5 D5 hf6 ⊢
  have hln := td2.len
  rw [List.length_append, List.length_cons] at hln
  have lacc : (iv acc).length = acc.length := by unfold iv; rw [List.length_map]
  have lout : (iv (outL (h.step cl).2)).length = (outL (h.step cl).2).length := by unfold iv; rw [List.length_map]
  refine ⟨_, rfl, .inl ⟨rfl, _, SqL.of hf6⟩, _, rfl, t, _, rfl, .inl (SqL.of ht), f, _, _, rfl, rfl, hf6, size_lt (by omega), ?_⟩
  refine ⟨_, rfl, .inl ⟨rfl, _, SqL.of upd_same⟩, _, rfl, f, t, _, _, rfl, rfl, upd_same, (upd_ne tf).trans ht, size_le (by rw [List.length_append, List.length_singleton]; omega), ?_⟩
  rw [upd_upd]
  refine ⟨L.length - (n + 1 + own.length + (flatRows ys).length), by omega, n + 1 + own.length + (flatRows ys).length, (h.step cl).1, _, _, _, _, _, _, rfl, rfl, fun b o' e => (upd_ne (ne_of_none e hHf)).trans (s5 _ _ e), ?_, D5.off fun b o' e nb => (upd_ne nb).trans e, td2⟩
  rw [upd_same, lout]
  unfold iv
  rw [List.map_append, List.map_cons, List.append_assoc]
  rfl
end
end Mr

/-! ## MrEnd -/
set_option Elab.async false
set_option linter.all false
set_option maxRecDepth 100000
set_option maxHeartbeats 4000000
/-! # What the top leaves, out of single facts of the written part -/
namespace Mr
open PySem PySem.Spec PyProof.Rows L2
/-- how a def's arguments meet its parameters -/
def BindOk (x qual : Str) (st : Stmt) (ps : List Str) : Prop := ∀ (kV doc pm : Value) (an : Option Addr) (cdv ct : Value) (us : List Value), us.length = ps.length → bindArgs (PySem.W.fnOf x qual (defArgs st) (defBody st) (defScope st) .none kV doc pm an cdv ct) ⟨us, []⟩ = pure (ps.zip us)
section
variable {K : PySem.W.Frag} {mg : Str → Option Value} {h : Heap} {x qual : Str} {st : Stmt} {ps : List Str} {f C : Addr} {od an : Option Addr} {sl : Array (Option Value)} {oc kV dc pm cd ct : Value}
theorem fnT_mk (X : K.In h) (G : h.Ns mainGlobals mg) (hb : BindOk x x st ps) (a1 : PySem.W.nsIn K mainGlobals x = some (some (.ref f))) (l1 : K.lookup f = some ⟨oc, od, .func (PySem.W.fnOf x x (defArgs st) (defBody st) (defScope st) .none kV dc pm an cd ct), sl⟩) (c1 : PySem.W.codeIn K cd x = true) (k1 : PySem.W.keepIn K (.ref f) = true) :
    FnT K mg x st ps f (PySem.W.fnOf x x (defArgs st) (defBody st) (defScope st) .none kV dc pm an cd ct) := ⟨fun_mk l1 c1 k1, (fun_mk l1 c1 k1).binds hb, PySem.W.mg_of X G a1⟩
theorem meT_mk (hb : BindOk x qual st ps) (a1 : PySem.W.findIn K (.ref C) x = some (some (.ref f))) (i1 : PySem.W.isFn K (.ref f) = true) (l1 : K.lookup f = some ⟨oc, od, .func (PySem.W.fnOf x qual (defArgs st) (defBody st) (defScope st) .none kV dc pm an cd ct), sl⟩) (c1 : PySem.W.codeIn K cd qual = true) (k1 : PySem.W.keepIn K (.ref f) = true) :
    MeT K C x qual st ps f (PySem.W.fnOf x qual (defArgs st) (defBody st) (defScope st) .none kV dc pm an cd ct) := ⟨fun_mk l1 c1 k1, (fun_mk l1 c1 k1).binds hb, ⟨a1, i1, k1⟩⟩
theorem inT_mk {n : Str} (X : K.In h) (G : h.Ns mainGlobals mg) (hb : BindOk "__init__" qual st ps) (g1 : PySem.W.nsIn K mainGlobals n = some (some (.ref C))) (mk : PySem.W.makesIn K C = true) (kc : PySem.W.keepIn K (.ref C) = true) (a1 : PySem.W.findIn K (.ref C) "__init__" = some (some (.ref f))) (i1 : PySem.W.isFn K (.ref f) = true)
    (l1 : K.lookup f = some ⟨oc, od, .func (PySem.W.fnOf "__init__" qual (defArgs st) (defBody st) (defScope st) .none kV dc pm an cd ct), sl⟩) (c1 : PySem.W.codeIn K cd qual = true) (k1 : PySem.W.keepIn K (.ref f) = true) :
    InT K mg n C qual st ps f (PySem.W.fnOf "__init__" qual (defArgs st) (defBody st) (defScope st) .none kV dc pm an cd ct) := ⟨fun_mk l1 c1 k1, (fun_mk l1 c1 k1).binds hb, ⟨mk, a1, i1, kc⟩, PySem.W.mg_of X G g1⟩
end
/-- an error of a class is what an except clause of that class names -/
theorem exm_self {K : PySem.W.Frag} {S : Addr} (h1 : PySem.W.subIn K (.ref S) (.type "BaseException") = some true) (h2 : PySem.W.isClsIn K S = true) (h3 : PySem.W.typeIn K (.ref S) = some (.type "type")) (h4 : PySem.W.subIn K (.ref S) (.ref S) = some true) : PySem.W.exmOne K (.ref S) (.ref S) = some true := by
  have e2 : ((PySem.W.clsIn K S).isSome && PySem.W.typeIn K (.ref S) == some (.type "type")) = true := by
    rw [show (PySem.W.clsIn K S).isSome = true from h2, h3]
    rfl
  have e1 : (PySem.W.subIn K (.ref S) (.type "BaseException") == some true) = true := by
    rw [h1]
    rfl
  exact (if_pos e1).trans ((if_pos e2).trans h4)
theorem kit_int {K : PySem.W.Frag} {C : Addr} (h : PySem.W.subIn K (.ref C) (.type "int") = some false) : PySem.W.kitOne K (.ref C) (.type "int") = some false := by
  have e1 : PySem.W.kitMeta "int" = true := by decide +kernel
  have e2 : PySem.W.kitCls K (.ref C) (.type "int") = some false := by
    show (if PySem.W.kitMeta "int" = true then PySem.W.subIn K (.ref C) (.type "int") else none) = some false
    rw [if_pos e1]
    exact h
  unfold PySem.W.kitOne
  rw [if_neg (fun z => nomatch z)]
  exact e2
theorem ints_of : ∀ {l : List Int}, (∀ x ∈ l, 0 ≤ x) → l = Sq16.ints (l.map Int.toNat)
  | [], _ => rfl
  | x :: l, h => by
    have h1 : 0 ≤ x := h x List.mem_cons_self
    have h2 := ints_of (l := l) fun y hy => h y (List.mem_cons_of_mem _ hy)
    show x :: l = ((x.toNat : Nat) : Int) :: Sq16.ints (l.map Int.toNat)
    rw [← h2, Int.toNat_of_nonneg h1]
theorem ask_of {K : PySem.W.Frag} {H : Hp} {p : Addr} {ns : List Int} {Q : VK} {E : XK} (h1 : ns.length ≤ 16000) (h2 : ∀ x ∈ ns, 0 ≤ x) (h3 : PySq16.answers_asked ns = true) (hs : SqL K H p (ns.map V.int)) (k : ∀ (H' : Hp) (q : Addr), H' q = some (.lst ((PySq16.answers ns).map V.int)) → Q (.ref q) H') : spAnswers K [.ref p] H Q E := by
  have e := ints_of h2
  refine ⟨p, ns.map Int.toNat, rfl, ?_, by rw [List.length_map]; exact h1, e ▸ h3, fun H' q hq => k H' q ?_⟩
  · rw [← iv_nv, ← e]
    exact hs
  · rw [← e] at hq
    exact hq
theorem bo_areKinds : BindOk "are_kinds" "are_kinds" stAreKinds ["kinds"] := fun _ _ _ _ _ _ us hl => match us, hl with | [_], _ => rfl
theorem bo_isPair : BindOk "is_pair" "is_pair" stIsPair ["kinds", "opening", "closing"] := fun _ _ _ _ _ _ us hl => match us, hl with | [_, _, _], _ => rfl
theorem bo_pairsIn : BindOk "pairs_in" "pairs_in" stPairsIn ["kinds", "numbers"] := fun _ _ _ _ _ _ us hl => match us, hl with | [_, _], _ => rfl
theorem bo_linesIn : BindOk "lines_in" "lines_in" stLinesIn ["numbers"] := fun _ _ _ _ _ _ us hl => match us, hl with | [_], _ => rfl
theorem bo_isLine : BindOk "is_line" "is_line" stIsLine ["line", "many"] := fun _ _ _ _ _ _ us hl => match us, hl with | [_, _], _ => rfl
theorem bo_numbersOf : BindOk "numbers_of" "numbers_of" stNumbersOf ["lines"] := fun _ _ _ _ _ _ us hl => match us, hl with | [_], _ => rfl
theorem bo_shapeOf : BindOk "shape_of" "shape_of" stShapeOf ["block"] := fun _ _ _ _ _ _ us hl => match us, hl with | [_], _ => rfl
theorem bo_allSt : BindOk "all_statements" "all_statements" stAllSt ["block", "depth"] := fun _ _ _ _ _ _ us hl => match us, hl with | [_, _], _ => rfl
theorem bo_readText : BindOk "read_text" "read_text" stReadText ["kinds", "closing", "lines"] := fun _ _ _ _ _ _ us hl => match us, hl with | [_, _, _], _ => rfl
theorem bo_wordLines : BindOk "word_lines" "word_lines" stWordLines ["words", "column", "step", "length"] := fun _ _ _ _ _ _ us hl => match us, hl with | [_, _, _, _], _ => rfl
theorem bo_stLines : BindOk "statement_lines" "statement_lines" stStLines ["statement", "depth", "step", "length"] := fun _ _ _ _ _ _ us hl => match us, hl with | [_, _, _, _], _ => rfl
theorem bo_blLines : BindOk "block_lines" "block_lines" stBlLines ["block", "depth", "step", "length"] := fun _ _ _ _ _ _ us hl => match us, hl with | [_, _, _, _], _ => rfl
theorem bo_ofTexts : BindOk "of_texts" "of_texts" stOfTexts ["desk", "call", "own", "rows"] := fun _ _ _ _ _ _ us hl => match us, hl with | [_, _, _, _], _ => rfl
theorem bo_ofLines : BindOk "of_lines" "of_lines" stOfLines ["desk", "call", "own"] := fun _ _ _ _ _ _ us hl => match us, hl with | [_, _, _], _ => rfl
theorem bo_rowsAt : BindOk "rows_at" "rows_at" stRowsAt ["calls", "at", "many"] := fun _ _ _ _ _ _ us hl => match us, hl with | [_, _, _], _ => rfl
theorem bo_answers : BindOk "answers" "answers" stAnswers ["calls"] := fun _ _ _ _ _ _ us hl => match us, hl with | [_], _ => rfl
theorem bo_sInit : BindOk "__init__" "Statement.__init__" stSInit ["self"] := fun _ _ _ _ _ _ us hl => match us, hl with | [_], _ => rfl
theorem bo_sTouch : BindOk "touch" "Statement.touch" stSTouch ["self", "line"] := fun _ _ _ _ _ _ us hl => match us, hl with | [_, _], _ => rfl
theorem bo_sEnds : BindOk "ends_with_block" "Statement.ends_with_block" stSEnds ["self"] := fun _ _ _ _ _ _ us hl => match us, hl with | [_], _ => rfl
theorem bo_bInit : BindOk "__init__" "Block.__init__" stBInit ["self", "column"] := fun _ _ _ _ _ _ us hl => match us, hl with | [_, _], _ => rfl
theorem bo_rInit : BindOk "__init__" "Reader.__init__" stRInit ["self", "kinds", "closing"] := fun _ _ _ _ _ _ us hl => match us, hl with | [_, _, _], _ => rfl
theorem bo_rCurrent : BindOk "current" "Reader.current" stRCurrent ["self"] := fun _ _ _ _ _ _ us hl => match us, hl with | [_], _ => rfl
theorem bo_rBeginSt : BindOk "begin_statement" "Reader.begin_statement" stRBeginSt ["self"] := fun _ _ _ _ _ _ us hl => match us, hl with | [_], _ => rfl
theorem bo_rOpen : BindOk "open_block" "Reader.open_block" stROpen ["self", "column"] := fun _ _ _ _ _ _ us hl => match us, hl with | [_, _], _ => rfl
theorem bo_rPut : BindOk "put_word" "Reader.put_word" stRPut ["self", "word", "number"] := fun _ _ _ _ _ _ us hl => match us, hl with | [_, _, _], _ => rfl
theorem bo_rBracket : BindOk "read_bracket" "Reader.read_bracket" stRBracket ["self", "word"] := fun _ _ _ _ _ _ us hl => match us, hl with | [_, _], _ => rfl
theorem bo_rWord : BindOk "read_word" "Reader.read_word" stRWord ["self", "word", "number", "is_last"] := fun _ _ _ _ _ _ us hl => match us, hl with | [_, _, _, _], _ => rfl
theorem bo_rWant : BindOk "want_beginning" "Reader.want_beginning" stRWant ["self", "word"] := fun _ _ _ _ _ _ us hl => match us, hl with | [_, _], _ => rfl
theorem bo_rBeginText : BindOk "begin_text" "Reader.begin_text" stRBeginText ["self", "column", "word"] := fun _ _ _ _ _ _ us hl => match us, hl with | [_, _, _], _ => rfl
theorem bo_rBeginDue : BindOk "begin_due" "Reader.begin_due" stRBeginDue ["self", "column", "word"] := fun _ _ _ _ _ _ us hl => match us, hl with | [_, _, _], _ => rfl
theorem bo_rToClose : BindOk "is_to_close" "Reader.is_to_close" stRToClose ["self", "column"] := fun _ _ _ _ _ _ us hl => match us, hl with | [_, _], _ => rfl
theorem bo_rClose : BindOk "close_blocks" "Reader.close_blocks" stRClose ["self", "column"] := fun _ _ _ _ _ _ us hl => match us, hl with | [_, _], _ => rfl
theorem bo_rGoOn : BindOk "go_on" "Reader.go_on" stRGoOn ["self", "column", "word"] := fun _ _ _ _ _ _ us hl => match us, hl with | [_, _, _], _ => rfl
theorem bo_rBeginLine : BindOk "begin_line" "Reader.begin_line" stRBeginLine ["self", "column", "word"] := fun _ _ _ _ _ _ us hl => match us, hl with | [_, _, _], _ => rfl
theorem bo_rLine : BindOk "read_line" "Reader.read_line" stRLine ["self", "number", "column", "words"] := fun _ _ _ _ _ _ us hl => match us, hl with | [_, _, _, _], _ => rfl
theorem bo_rEnd : BindOk "end" "Reader.end" stREnd ["self"] := fun _ _ _ _ _ _ us hl => match us, hl with | [_], _ => rfl
theorem bo_dInit : BindOk "__init__" "Desk.__init__" stDInit ["self"] := fun _ _ _ _ _ _ us hl => match us, hl with | [_], _ => rfl
theorem bo_dPut : BindOk "put_lines" "Desk.put_lines" stDPut ["self", "lines"] := fun _ _ _ _ _ _ us hl => match us, hl with | [_, _], _ => rfl
theorem bo_dBegin : BindOk "begin" "Desk.begin" stDBegin ["self", "kinds", "numbers"] := fun _ _ _ _ _ _ us hl => match us, hl with | [_, _, _], _ => rfl
theorem bo_dTold : BindOk "told" "Desk.told" stDTold ["self"] := fun _ _ _ _ _ _ us hl => match us, hl with | [_], _ => rfl
theorem bo_dText : BindOk "text" "Desk.text" stDText ["self", "numbers"] := fun _ _ _ _ _ _ us hl => match us, hl with | [_, _], _ => rfl
theorem bo_dShape : BindOk "shape" "Desk.shape" stDShape ["self"] := fun _ _ _ _ _ _ us hl => match us, hl with | [_], _ => rfl
theorem bo_dSet : BindOk "set_out" "Desk.set_out" stDSet ["self", "step", "length"] := fun _ _ _ _ _ _ us hl => match us, hl with | [_, _, _], _ => rfl
theorem bo_dTell : BindOk "tell_statements" "Desk.tell_statements" stDTell ["self"] := fun _ _ _ _ _ _ us hl => match us, hl with | [_], _ => rfl
theorem bo_dAround : BindOk "around" "Desk.around" stDAround ["self", "line"] := fun _ _ _ _ _ _ us hl => match us, hl with | [_, _], _ => rfl
theorem bo_dFold : BindOk "fold" "Desk.fold" stDFold ["self", "line"] := fun _ _ _ _ _ _ us hl => match us, hl with | [_, _], _ => rfl
theorem bo_dMoved : BindOk "moved" "Desk.moved" stDMoved ["self", "a", "b", "by"] := fun _ _ _ _ _ _ us hl => match us, hl with | [_, _, _, _], _ => rfl
theorem bo_wInit : BindOk "__init__" "Wrong.__init__" stWInit ["self", "what"] := fun _ _ _ _ _ _ us hl => match us, hl with | [_, _], _ => rfl
theorem tx_mk {K : PySem.W.Frag} {h : Heap} {mg : Str → Option Value} (X : K.In h) (G : h.Ns mainGlobals mg)
    {cS cB cW cR cD aN aR fAreKinds fIsPair fPairsIn fLinesIn fIsLine fNumbersOf fShapeOf fAllSt fReadText fWordLines fStLines fBlLines fOfTexts fOfLines fRowsAt fAnswers fSInit fSTouch fSEnds fBInit fRInit fRCurrent fRBeginSt fROpen fRPut fRBracket fRWord fRWant fRBeginText fRBeginDue fRToClose fRClose fRGoOn fRBeginLine fRLine fREnd fDInit fDPut fDBegin fDTold fDText fDShape fDSet fDTell fDAround fDFold fDMoved fWInit : Addr}
    {odAreKinds anAreKinds : Option Addr} {slAreKinds : Array (Option Value)} {ocAreKinds kVAreKinds dcAreKinds pmAreKinds cdAreKinds ctAreKinds : Value}
    {odIsPair anIsPair : Option Addr} {slIsPair : Array (Option Value)} {ocIsPair kVIsPair dcIsPair pmIsPair cdIsPair ctIsPair : Value}
    {odPairsIn anPairsIn : Option Addr} {slPairsIn : Array (Option Value)} {ocPairsIn kVPairsIn dcPairsIn pmPairsIn cdPairsIn ctPairsIn : Value}
    {odLinesIn anLinesIn : Option Addr} {slLinesIn : Array (Option Value)} {ocLinesIn kVLinesIn dcLinesIn pmLinesIn cdLinesIn ctLinesIn : Value}
    {odIsLine anIsLine : Option Addr} {slIsLine : Array (Option Value)} {ocIsLine kVIsLine dcIsLine pmIsLine cdIsLine ctIsLine : Value}
    {odNumbersOf anNumbersOf : Option Addr} {slNumbersOf : Array (Option Value)} {ocNumbersOf kVNumbersOf dcNumbersOf pmNumbersOf cdNumbersOf ctNumbersOf : Value}
    {odShapeOf anShapeOf : Option Addr} {slShapeOf : Array (Option Value)} {ocShapeOf kVShapeOf dcShapeOf pmShapeOf cdShapeOf ctShapeOf : Value}
    {odAllSt anAllSt : Option Addr} {slAllSt : Array (Option Value)} {ocAllSt kVAllSt dcAllSt pmAllSt cdAllSt ctAllSt : Value}
    {odReadText anReadText : Option Addr} {slReadText : Array (Option Value)} {ocReadText kVReadText dcReadText pmReadText cdReadText ctReadText : Value}
    {odWordLines anWordLines : Option Addr} {slWordLines : Array (Option Value)} {ocWordLines kVWordLines dcWordLines pmWordLines cdWordLines ctWordLines : Value}
    {odStLines anStLines : Option Addr} {slStLines : Array (Option Value)} {ocStLines kVStLines dcStLines pmStLines cdStLines ctStLines : Value}
    {odBlLines anBlLines : Option Addr} {slBlLines : Array (Option Value)} {ocBlLines kVBlLines dcBlLines pmBlLines cdBlLines ctBlLines : Value}
    {odOfTexts anOfTexts : Option Addr} {slOfTexts : Array (Option Value)} {ocOfTexts kVOfTexts dcOfTexts pmOfTexts cdOfTexts ctOfTexts : Value}
    {odOfLines anOfLines : Option Addr} {slOfLines : Array (Option Value)} {ocOfLines kVOfLines dcOfLines pmOfLines cdOfLines ctOfLines : Value}
    {odRowsAt anRowsAt : Option Addr} {slRowsAt : Array (Option Value)} {ocRowsAt kVRowsAt dcRowsAt pmRowsAt cdRowsAt ctRowsAt : Value}
    {odAnswers anAnswers : Option Addr} {slAnswers : Array (Option Value)} {ocAnswers kVAnswers dcAnswers pmAnswers cdAnswers ctAnswers : Value}
    {odSInit anSInit : Option Addr} {slSInit : Array (Option Value)} {ocSInit kVSInit dcSInit pmSInit cdSInit ctSInit : Value}
    {odSTouch anSTouch : Option Addr} {slSTouch : Array (Option Value)} {ocSTouch kVSTouch dcSTouch pmSTouch cdSTouch ctSTouch : Value}
    {odSEnds anSEnds : Option Addr} {slSEnds : Array (Option Value)} {ocSEnds kVSEnds dcSEnds pmSEnds cdSEnds ctSEnds : Value}
    {odBInit anBInit : Option Addr} {slBInit : Array (Option Value)} {ocBInit kVBInit dcBInit pmBInit cdBInit ctBInit : Value}
    {odRInit anRInit : Option Addr} {slRInit : Array (Option Value)} {ocRInit kVRInit dcRInit pmRInit cdRInit ctRInit : Value}
    {odRCurrent anRCurrent : Option Addr} {slRCurrent : Array (Option Value)} {ocRCurrent kVRCurrent dcRCurrent pmRCurrent cdRCurrent ctRCurrent : Value}
    {odRBeginSt anRBeginSt : Option Addr} {slRBeginSt : Array (Option Value)} {ocRBeginSt kVRBeginSt dcRBeginSt pmRBeginSt cdRBeginSt ctRBeginSt : Value}
    {odROpen anROpen : Option Addr} {slROpen : Array (Option Value)} {ocROpen kVROpen dcROpen pmROpen cdROpen ctROpen : Value}
    {odRPut anRPut : Option Addr} {slRPut : Array (Option Value)} {ocRPut kVRPut dcRPut pmRPut cdRPut ctRPut : Value}
    {odRBracket anRBracket : Option Addr} {slRBracket : Array (Option Value)} {ocRBracket kVRBracket dcRBracket pmRBracket cdRBracket ctRBracket : Value}
    {odRWord anRWord : Option Addr} {slRWord : Array (Option Value)} {ocRWord kVRWord dcRWord pmRWord cdRWord ctRWord : Value}
    {odRWant anRWant : Option Addr} {slRWant : Array (Option Value)} {ocRWant kVRWant dcRWant pmRWant cdRWant ctRWant : Value}
    {odRBeginText anRBeginText : Option Addr} {slRBeginText : Array (Option Value)} {ocRBeginText kVRBeginText dcRBeginText pmRBeginText cdRBeginText ctRBeginText : Value}
    {odRBeginDue anRBeginDue : Option Addr} {slRBeginDue : Array (Option Value)} {ocRBeginDue kVRBeginDue dcRBeginDue pmRBeginDue cdRBeginDue ctRBeginDue : Value}
    {odRToClose anRToClose : Option Addr} {slRToClose : Array (Option Value)} {ocRToClose kVRToClose dcRToClose pmRToClose cdRToClose ctRToClose : Value}
    {odRClose anRClose : Option Addr} {slRClose : Array (Option Value)} {ocRClose kVRClose dcRClose pmRClose cdRClose ctRClose : Value}
    {odRGoOn anRGoOn : Option Addr} {slRGoOn : Array (Option Value)} {ocRGoOn kVRGoOn dcRGoOn pmRGoOn cdRGoOn ctRGoOn : Value}
    {odRBeginLine anRBeginLine : Option Addr} {slRBeginLine : Array (Option Value)} {ocRBeginLine kVRBeginLine dcRBeginLine pmRBeginLine cdRBeginLine ctRBeginLine : Value}
    {odRLine anRLine : Option Addr} {slRLine : Array (Option Value)} {ocRLine kVRLine dcRLine pmRLine cdRLine ctRLine : Value}
    {odREnd anREnd : Option Addr} {slREnd : Array (Option Value)} {ocREnd kVREnd dcREnd pmREnd cdREnd ctREnd : Value}
    {odDInit anDInit : Option Addr} {slDInit : Array (Option Value)} {ocDInit kVDInit dcDInit pmDInit cdDInit ctDInit : Value}
    {odDPut anDPut : Option Addr} {slDPut : Array (Option Value)} {ocDPut kVDPut dcDPut pmDPut cdDPut ctDPut : Value}
    {odDBegin anDBegin : Option Addr} {slDBegin : Array (Option Value)} {ocDBegin kVDBegin dcDBegin pmDBegin cdDBegin ctDBegin : Value}
    {odDTold anDTold : Option Addr} {slDTold : Array (Option Value)} {ocDTold kVDTold dcDTold pmDTold cdDTold ctDTold : Value}
    {odDText anDText : Option Addr} {slDText : Array (Option Value)} {ocDText kVDText dcDText pmDText cdDText ctDText : Value}
    {odDShape anDShape : Option Addr} {slDShape : Array (Option Value)} {ocDShape kVDShape dcDShape pmDShape cdDShape ctDShape : Value}
    {odDSet anDSet : Option Addr} {slDSet : Array (Option Value)} {ocDSet kVDSet dcDSet pmDSet cdDSet ctDSet : Value}
    {odDTell anDTell : Option Addr} {slDTell : Array (Option Value)} {ocDTell kVDTell dcDTell pmDTell cdDTell ctDTell : Value}
    {odDAround anDAround : Option Addr} {slDAround : Array (Option Value)} {ocDAround kVDAround dcDAround pmDAround cdDAround ctDAround : Value}
    {odDFold anDFold : Option Addr} {slDFold : Array (Option Value)} {ocDFold kVDFold dcDFold pmDFold cdDFold ctDFold : Value}
    {odDMoved anDMoved : Option Addr} {slDMoved : Array (Option Value)} {ocDMoved kVDMoved dcDMoved pmDMoved cdDMoved ctDMoved : Value}
    {odWInit anWInit : Option Addr} {slWInit : Array (Option Value)} {ocWInit kVWInit dcWInit pmWInit cdWInit ctWInit : Value}
    {nmW qW : Str} {nW : Addr} {bsW : List Value} {snW : List Str} {subW : List Value} {abW : Bool} {colW : Option Bool} {ddW : Option Addr} {m0 m1 m2 m3 m5 : Option Value}
    {t_PLAIN t_OPENS t_CLOSES t_BLOCK t_GOES_ON t_MOST_WORDS t_MOST_LINES t_MOST_IN_LINE t_MOST_COLUMN t_BLOCK_BEGINS t_BLOCK_ENDS t_STATEMENT_ENDS t_LESS_RIGHT t_NO_BLOCK t_BEGINS_SO t_BEHIND_BLOCK t_NOT_CLOSING t_BRACKET_OPEN t_TOO_DEEP t_MOST_OPEN t_NOT_SO t_NONE_SUCH t_NOT_TOLD_SO t_IS_WRONG t_MOST_STEP t_MOST_LENGTH : Tok} {ddN ddR : Option Addr} {itsN itsR : Array Value} {numN numR : Nat} {slN slR : Array (Option Value)}
    (gS : PySem.W.nsIn K mainGlobals "Statement" = some (some (.ref cS)))
    (pgS : PySem.W.plainGet K cS Str.empty = true)
    (hdS : PySem.W.hasDictIn K cS = true)
    (poS : PySem.W.plainOver K cS = true)
    (saS : PySem.W.findIn K (.ref cS) "__setattr__" = some (some (.builtin "object.__setattr__")))
    (mkS : PySem.W.makesIn K cS = true)
    (kcS : PySem.W.keepIn K (.ref cS) = true)
    (nS_things : PySem.W.findIn K (.ref cS) "things" = some none)
    (nS_first : PySem.W.findIn K (.ref cS) "first" = some none)
    (nS_last : PySem.W.findIn K (.ref cS) "last" = some none)
    (gB : PySem.W.nsIn K mainGlobals "Block" = some (some (.ref cB)))
    (pgB : PySem.W.plainGet K cB Str.empty = true)
    (hdB : PySem.W.hasDictIn K cB = true)
    (poB : PySem.W.plainOver K cB = true)
    (saB : PySem.W.findIn K (.ref cB) "__setattr__" = some (some (.builtin "object.__setattr__")))
    (mkB : PySem.W.makesIn K cB = true)
    (kcB : PySem.W.keepIn K (.ref cB) = true)
    (nB_column : PySem.W.findIn K (.ref cB) "column" = some none)
    (nB_statements : PySem.W.findIn K (.ref cB) "statements" = some none)
    (gR : PySem.W.nsIn K mainGlobals "Reader" = some (some (.ref cR)))
    (pgR : PySem.W.plainGet K cR Str.empty = true)
    (hdR : PySem.W.hasDictIn K cR = true)
    (poR : PySem.W.plainOver K cR = true)
    (saR : PySem.W.findIn K (.ref cR) "__setattr__" = some (some (.builtin "object.__setattr__")))
    (mkR : PySem.W.makesIn K cR = true)
    (kcR : PySem.W.keepIn K (.ref cR) = true)
    (nR_kinds : PySem.W.findIn K (.ref cR) "kinds" = some none)
    (nR_closing : PySem.W.findIn K (.ref cR) "closing" = some none)
    (nR_blocks : PySem.W.findIn K (.ref cR) "blocks" = some none)
    (nR_brackets : PySem.W.findIn K (.ref cR) "brackets" = some none)
    (nR_is_due : PySem.W.findIn K (.ref cR) "is_due" = some none)
    (gD : PySem.W.nsIn K mainGlobals "Desk" = some (some (.ref cD)))
    (pgD : PySem.W.plainGet K cD Str.empty = true)
    (hdD : PySem.W.hasDictIn K cD = true)
    (poD : PySem.W.plainOver K cD = true)
    (saD : PySem.W.findIn K (.ref cD) "__setattr__" = some (some (.builtin "object.__setattr__")))
    (mkD : PySem.W.makesIn K cD = true)
    (kcD : PySem.W.keepIn K (.ref cD) = true)
    (nD_kinds : PySem.W.findIn K (.ref cD) "kinds" = some none)
    (nD_closing : PySem.W.findIn K (.ref cD) "closing" = some none)
    (nD_lines : PySem.W.findIn K (.ref cD) "lines" = some none)
    (nD_block : PySem.W.findIn K (.ref cD) "block" = some none)
    (nD_fault : PySem.W.findIn K (.ref cD) "fault" = some none)
    (nB_put : PySem.W.findIn K (.ref cB) "put_lines" = some none)
    (nS_put : PySem.W.findIn K (.ref cS) "put_lines" = some none)
    (gW : PySem.W.nsIn K mainGlobals "Wrong" = some (some (.ref cW)))
    (aAreKinds : PySem.W.nsIn K mainGlobals "are_kinds" = some (some (.ref fAreKinds)))
    (lAreKinds : K.lookup fAreKinds = some ⟨ocAreKinds, odAreKinds, .func (PySem.W.fnOf "are_kinds" "are_kinds" (defArgs stAreKinds) (defBody stAreKinds) (defScope stAreKinds) .none kVAreKinds dcAreKinds pmAreKinds anAreKinds cdAreKinds ctAreKinds), slAreKinds⟩)
    (cAreKinds : PySem.W.codeIn K cdAreKinds "are_kinds" = true)
    (kAreKinds : PySem.W.keepIn K (.ref fAreKinds) = true)
    (aIsPair : PySem.W.nsIn K mainGlobals "is_pair" = some (some (.ref fIsPair)))
    (lIsPair : K.lookup fIsPair = some ⟨ocIsPair, odIsPair, .func (PySem.W.fnOf "is_pair" "is_pair" (defArgs stIsPair) (defBody stIsPair) (defScope stIsPair) .none kVIsPair dcIsPair pmIsPair anIsPair cdIsPair ctIsPair), slIsPair⟩)
    (cIsPair : PySem.W.codeIn K cdIsPair "is_pair" = true)
    (kIsPair : PySem.W.keepIn K (.ref fIsPair) = true)
    (aPairsIn : PySem.W.nsIn K mainGlobals "pairs_in" = some (some (.ref fPairsIn)))
    (lPairsIn : K.lookup fPairsIn = some ⟨ocPairsIn, odPairsIn, .func (PySem.W.fnOf "pairs_in" "pairs_in" (defArgs stPairsIn) (defBody stPairsIn) (defScope stPairsIn) .none kVPairsIn dcPairsIn pmPairsIn anPairsIn cdPairsIn ctPairsIn), slPairsIn⟩)
    (cPairsIn : PySem.W.codeIn K cdPairsIn "pairs_in" = true)
    (kPairsIn : PySem.W.keepIn K (.ref fPairsIn) = true)
    (aLinesIn : PySem.W.nsIn K mainGlobals "lines_in" = some (some (.ref fLinesIn)))
    (lLinesIn : K.lookup fLinesIn = some ⟨ocLinesIn, odLinesIn, .func (PySem.W.fnOf "lines_in" "lines_in" (defArgs stLinesIn) (defBody stLinesIn) (defScope stLinesIn) .none kVLinesIn dcLinesIn pmLinesIn anLinesIn cdLinesIn ctLinesIn), slLinesIn⟩)
    (cLinesIn : PySem.W.codeIn K cdLinesIn "lines_in" = true)
    (kLinesIn : PySem.W.keepIn K (.ref fLinesIn) = true)
    (aIsLine : PySem.W.nsIn K mainGlobals "is_line" = some (some (.ref fIsLine)))
    (lIsLine : K.lookup fIsLine = some ⟨ocIsLine, odIsLine, .func (PySem.W.fnOf "is_line" "is_line" (defArgs stIsLine) (defBody stIsLine) (defScope stIsLine) .none kVIsLine dcIsLine pmIsLine anIsLine cdIsLine ctIsLine), slIsLine⟩)
    (cIsLine : PySem.W.codeIn K cdIsLine "is_line" = true)
    (kIsLine : PySem.W.keepIn K (.ref fIsLine) = true)
    (aNumbersOf : PySem.W.nsIn K mainGlobals "numbers_of" = some (some (.ref fNumbersOf)))
    (lNumbersOf : K.lookup fNumbersOf = some ⟨ocNumbersOf, odNumbersOf, .func (PySem.W.fnOf "numbers_of" "numbers_of" (defArgs stNumbersOf) (defBody stNumbersOf) (defScope stNumbersOf) .none kVNumbersOf dcNumbersOf pmNumbersOf anNumbersOf cdNumbersOf ctNumbersOf), slNumbersOf⟩)
    (cNumbersOf : PySem.W.codeIn K cdNumbersOf "numbers_of" = true)
    (kNumbersOf : PySem.W.keepIn K (.ref fNumbersOf) = true)
    (aShapeOf : PySem.W.nsIn K mainGlobals "shape_of" = some (some (.ref fShapeOf)))
    (lShapeOf : K.lookup fShapeOf = some ⟨ocShapeOf, odShapeOf, .func (PySem.W.fnOf "shape_of" "shape_of" (defArgs stShapeOf) (defBody stShapeOf) (defScope stShapeOf) .none kVShapeOf dcShapeOf pmShapeOf anShapeOf cdShapeOf ctShapeOf), slShapeOf⟩)
    (cShapeOf : PySem.W.codeIn K cdShapeOf "shape_of" = true)
    (kShapeOf : PySem.W.keepIn K (.ref fShapeOf) = true)
    (aAllSt : PySem.W.nsIn K mainGlobals "all_statements" = some (some (.ref fAllSt)))
    (lAllSt : K.lookup fAllSt = some ⟨ocAllSt, odAllSt, .func (PySem.W.fnOf "all_statements" "all_statements" (defArgs stAllSt) (defBody stAllSt) (defScope stAllSt) .none kVAllSt dcAllSt pmAllSt anAllSt cdAllSt ctAllSt), slAllSt⟩)
    (cAllSt : PySem.W.codeIn K cdAllSt "all_statements" = true)
    (kAllSt : PySem.W.keepIn K (.ref fAllSt) = true)
    (aReadText : PySem.W.nsIn K mainGlobals "read_text" = some (some (.ref fReadText)))
    (lReadText : K.lookup fReadText = some ⟨ocReadText, odReadText, .func (PySem.W.fnOf "read_text" "read_text" (defArgs stReadText) (defBody stReadText) (defScope stReadText) .none kVReadText dcReadText pmReadText anReadText cdReadText ctReadText), slReadText⟩)
    (cReadText : PySem.W.codeIn K cdReadText "read_text" = true)
    (kReadText : PySem.W.keepIn K (.ref fReadText) = true)
    (aWordLines : PySem.W.nsIn K mainGlobals "word_lines" = some (some (.ref fWordLines)))
    (lWordLines : K.lookup fWordLines = some ⟨ocWordLines, odWordLines, .func (PySem.W.fnOf "word_lines" "word_lines" (defArgs stWordLines) (defBody stWordLines) (defScope stWordLines) .none kVWordLines dcWordLines pmWordLines anWordLines cdWordLines ctWordLines), slWordLines⟩)
    (cWordLines : PySem.W.codeIn K cdWordLines "word_lines" = true)
    (kWordLines : PySem.W.keepIn K (.ref fWordLines) = true)
    (aStLines : PySem.W.nsIn K mainGlobals "statement_lines" = some (some (.ref fStLines)))
    (lStLines : K.lookup fStLines = some ⟨ocStLines, odStLines, .func (PySem.W.fnOf "statement_lines" "statement_lines" (defArgs stStLines) (defBody stStLines) (defScope stStLines) .none kVStLines dcStLines pmStLines anStLines cdStLines ctStLines), slStLines⟩)
    (cStLines : PySem.W.codeIn K cdStLines "statement_lines" = true)
    (kStLines : PySem.W.keepIn K (.ref fStLines) = true)
    (aBlLines : PySem.W.nsIn K mainGlobals "block_lines" = some (some (.ref fBlLines)))
    (lBlLines : K.lookup fBlLines = some ⟨ocBlLines, odBlLines, .func (PySem.W.fnOf "block_lines" "block_lines" (defArgs stBlLines) (defBody stBlLines) (defScope stBlLines) .none kVBlLines dcBlLines pmBlLines anBlLines cdBlLines ctBlLines), slBlLines⟩)
    (cBlLines : PySem.W.codeIn K cdBlLines "block_lines" = true)
    (kBlLines : PySem.W.keepIn K (.ref fBlLines) = true)
    (aOfTexts : PySem.W.nsIn K mainGlobals "of_texts" = some (some (.ref fOfTexts)))
    (lOfTexts : K.lookup fOfTexts = some ⟨ocOfTexts, odOfTexts, .func (PySem.W.fnOf "of_texts" "of_texts" (defArgs stOfTexts) (defBody stOfTexts) (defScope stOfTexts) .none kVOfTexts dcOfTexts pmOfTexts anOfTexts cdOfTexts ctOfTexts), slOfTexts⟩)
    (cOfTexts : PySem.W.codeIn K cdOfTexts "of_texts" = true)
    (kOfTexts : PySem.W.keepIn K (.ref fOfTexts) = true)
    (aOfLines : PySem.W.nsIn K mainGlobals "of_lines" = some (some (.ref fOfLines)))
    (lOfLines : K.lookup fOfLines = some ⟨ocOfLines, odOfLines, .func (PySem.W.fnOf "of_lines" "of_lines" (defArgs stOfLines) (defBody stOfLines) (defScope stOfLines) .none kVOfLines dcOfLines pmOfLines anOfLines cdOfLines ctOfLines), slOfLines⟩)
    (cOfLines : PySem.W.codeIn K cdOfLines "of_lines" = true)
    (kOfLines : PySem.W.keepIn K (.ref fOfLines) = true)
    (aRowsAt : PySem.W.nsIn K mainGlobals "rows_at" = some (some (.ref fRowsAt)))
    (lRowsAt : K.lookup fRowsAt = some ⟨ocRowsAt, odRowsAt, .func (PySem.W.fnOf "rows_at" "rows_at" (defArgs stRowsAt) (defBody stRowsAt) (defScope stRowsAt) .none kVRowsAt dcRowsAt pmRowsAt anRowsAt cdRowsAt ctRowsAt), slRowsAt⟩)
    (cRowsAt : PySem.W.codeIn K cdRowsAt "rows_at" = true)
    (kRowsAt : PySem.W.keepIn K (.ref fRowsAt) = true)
    (aAnswers : PySem.W.nsIn K mainGlobals "answers" = some (some (.ref fAnswers)))
    (lAnswers : K.lookup fAnswers = some ⟨ocAnswers, odAnswers, .func (PySem.W.fnOf "answers" "answers" (defArgs stAnswers) (defBody stAnswers) (defScope stAnswers) .none kVAnswers dcAnswers pmAnswers anAnswers cdAnswers ctAnswers), slAnswers⟩)
    (cAnswers : PySem.W.codeIn K cdAnswers "answers" = true)
    (kAnswers : PySem.W.keepIn K (.ref fAnswers) = true)
    (aSInit : PySem.W.findIn K (.ref cS) "__init__" = some (some (.ref fSInit)))
    (iSInit : PySem.W.isFn K (.ref fSInit) = true)
    (lSInit : K.lookup fSInit = some ⟨ocSInit, odSInit, .func (PySem.W.fnOf "__init__" "Statement.__init__" (defArgs stSInit) (defBody stSInit) (defScope stSInit) .none kVSInit dcSInit pmSInit anSInit cdSInit ctSInit), slSInit⟩)
    (cSInit : PySem.W.codeIn K cdSInit "Statement.__init__" = true)
    (kSInit : PySem.W.keepIn K (.ref fSInit) = true)
    (aSTouch : PySem.W.findIn K (.ref cS) "touch" = some (some (.ref fSTouch)))
    (iSTouch : PySem.W.isFn K (.ref fSTouch) = true)
    (lSTouch : K.lookup fSTouch = some ⟨ocSTouch, odSTouch, .func (PySem.W.fnOf "touch" "Statement.touch" (defArgs stSTouch) (defBody stSTouch) (defScope stSTouch) .none kVSTouch dcSTouch pmSTouch anSTouch cdSTouch ctSTouch), slSTouch⟩)
    (cSTouch : PySem.W.codeIn K cdSTouch "Statement.touch" = true)
    (kSTouch : PySem.W.keepIn K (.ref fSTouch) = true)
    (aSEnds : PySem.W.findIn K (.ref cS) "ends_with_block" = some (some (.ref fSEnds)))
    (iSEnds : PySem.W.isFn K (.ref fSEnds) = true)
    (lSEnds : K.lookup fSEnds = some ⟨ocSEnds, odSEnds, .func (PySem.W.fnOf "ends_with_block" "Statement.ends_with_block" (defArgs stSEnds) (defBody stSEnds) (defScope stSEnds) .none kVSEnds dcSEnds pmSEnds anSEnds cdSEnds ctSEnds), slSEnds⟩)
    (cSEnds : PySem.W.codeIn K cdSEnds "Statement.ends_with_block" = true)
    (kSEnds : PySem.W.keepIn K (.ref fSEnds) = true)
    (aBInit : PySem.W.findIn K (.ref cB) "__init__" = some (some (.ref fBInit)))
    (iBInit : PySem.W.isFn K (.ref fBInit) = true)
    (lBInit : K.lookup fBInit = some ⟨ocBInit, odBInit, .func (PySem.W.fnOf "__init__" "Block.__init__" (defArgs stBInit) (defBody stBInit) (defScope stBInit) .none kVBInit dcBInit pmBInit anBInit cdBInit ctBInit), slBInit⟩)
    (cBInit : PySem.W.codeIn K cdBInit "Block.__init__" = true)
    (kBInit : PySem.W.keepIn K (.ref fBInit) = true)
    (aRInit : PySem.W.findIn K (.ref cR) "__init__" = some (some (.ref fRInit)))
    (iRInit : PySem.W.isFn K (.ref fRInit) = true)
    (lRInit : K.lookup fRInit = some ⟨ocRInit, odRInit, .func (PySem.W.fnOf "__init__" "Reader.__init__" (defArgs stRInit) (defBody stRInit) (defScope stRInit) .none kVRInit dcRInit pmRInit anRInit cdRInit ctRInit), slRInit⟩)
    (cRInit : PySem.W.codeIn K cdRInit "Reader.__init__" = true)
    (kRInit : PySem.W.keepIn K (.ref fRInit) = true)
    (aRCurrent : PySem.W.findIn K (.ref cR) "current" = some (some (.ref fRCurrent)))
    (iRCurrent : PySem.W.isFn K (.ref fRCurrent) = true)
    (lRCurrent : K.lookup fRCurrent = some ⟨ocRCurrent, odRCurrent, .func (PySem.W.fnOf "current" "Reader.current" (defArgs stRCurrent) (defBody stRCurrent) (defScope stRCurrent) .none kVRCurrent dcRCurrent pmRCurrent anRCurrent cdRCurrent ctRCurrent), slRCurrent⟩)
    (cRCurrent : PySem.W.codeIn K cdRCurrent "Reader.current" = true)
    (kRCurrent : PySem.W.keepIn K (.ref fRCurrent) = true)
    (aRBeginSt : PySem.W.findIn K (.ref cR) "begin_statement" = some (some (.ref fRBeginSt)))
    (iRBeginSt : PySem.W.isFn K (.ref fRBeginSt) = true)
    (lRBeginSt : K.lookup fRBeginSt = some ⟨ocRBeginSt, odRBeginSt, .func (PySem.W.fnOf "begin_statement" "Reader.begin_statement" (defArgs stRBeginSt) (defBody stRBeginSt) (defScope stRBeginSt) .none kVRBeginSt dcRBeginSt pmRBeginSt anRBeginSt cdRBeginSt ctRBeginSt), slRBeginSt⟩)
    (cRBeginSt : PySem.W.codeIn K cdRBeginSt "Reader.begin_statement" = true)
    (kRBeginSt : PySem.W.keepIn K (.ref fRBeginSt) = true)
    (aROpen : PySem.W.findIn K (.ref cR) "open_block" = some (some (.ref fROpen)))
    (iROpen : PySem.W.isFn K (.ref fROpen) = true)
    (lROpen : K.lookup fROpen = some ⟨ocROpen, odROpen, .func (PySem.W.fnOf "open_block" "Reader.open_block" (defArgs stROpen) (defBody stROpen) (defScope stROpen) .none kVROpen dcROpen pmROpen anROpen cdROpen ctROpen), slROpen⟩)
    (cROpen : PySem.W.codeIn K cdROpen "Reader.open_block" = true)
    (kROpen : PySem.W.keepIn K (.ref fROpen) = true)
    (aRPut : PySem.W.findIn K (.ref cR) "put_word" = some (some (.ref fRPut)))
    (iRPut : PySem.W.isFn K (.ref fRPut) = true)
    (lRPut : K.lookup fRPut = some ⟨ocRPut, odRPut, .func (PySem.W.fnOf "put_word" "Reader.put_word" (defArgs stRPut) (defBody stRPut) (defScope stRPut) .none kVRPut dcRPut pmRPut anRPut cdRPut ctRPut), slRPut⟩)
    (cRPut : PySem.W.codeIn K cdRPut "Reader.put_word" = true)
    (kRPut : PySem.W.keepIn K (.ref fRPut) = true)
    (aRBracket : PySem.W.findIn K (.ref cR) "read_bracket" = some (some (.ref fRBracket)))
    (iRBracket : PySem.W.isFn K (.ref fRBracket) = true)
    (lRBracket : K.lookup fRBracket = some ⟨ocRBracket, odRBracket, .func (PySem.W.fnOf "read_bracket" "Reader.read_bracket" (defArgs stRBracket) (defBody stRBracket) (defScope stRBracket) .none kVRBracket dcRBracket pmRBracket anRBracket cdRBracket ctRBracket), slRBracket⟩)
    (cRBracket : PySem.W.codeIn K cdRBracket "Reader.read_bracket" = true)
    (kRBracket : PySem.W.keepIn K (.ref fRBracket) = true)
    (aRWord : PySem.W.findIn K (.ref cR) "read_word" = some (some (.ref fRWord)))
    (iRWord : PySem.W.isFn K (.ref fRWord) = true)
    (lRWord : K.lookup fRWord = some ⟨ocRWord, odRWord, .func (PySem.W.fnOf "read_word" "Reader.read_word" (defArgs stRWord) (defBody stRWord) (defScope stRWord) .none kVRWord dcRWord pmRWord anRWord cdRWord ctRWord), slRWord⟩)
    (cRWord : PySem.W.codeIn K cdRWord "Reader.read_word" = true)
    (kRWord : PySem.W.keepIn K (.ref fRWord) = true)
    (aRWant : PySem.W.findIn K (.ref cR) "want_beginning" = some (some (.ref fRWant)))
    (iRWant : PySem.W.isFn K (.ref fRWant) = true)
    (lRWant : K.lookup fRWant = some ⟨ocRWant, odRWant, .func (PySem.W.fnOf "want_beginning" "Reader.want_beginning" (defArgs stRWant) (defBody stRWant) (defScope stRWant) .none kVRWant dcRWant pmRWant anRWant cdRWant ctRWant), slRWant⟩)
    (cRWant : PySem.W.codeIn K cdRWant "Reader.want_beginning" = true)
    (kRWant : PySem.W.keepIn K (.ref fRWant) = true)
    (aRBeginText : PySem.W.findIn K (.ref cR) "begin_text" = some (some (.ref fRBeginText)))
    (iRBeginText : PySem.W.isFn K (.ref fRBeginText) = true)
    (lRBeginText : K.lookup fRBeginText = some ⟨ocRBeginText, odRBeginText, .func (PySem.W.fnOf "begin_text" "Reader.begin_text" (defArgs stRBeginText) (defBody stRBeginText) (defScope stRBeginText) .none kVRBeginText dcRBeginText pmRBeginText anRBeginText cdRBeginText ctRBeginText), slRBeginText⟩)
    (cRBeginText : PySem.W.codeIn K cdRBeginText "Reader.begin_text" = true)
    (kRBeginText : PySem.W.keepIn K (.ref fRBeginText) = true)
    (aRBeginDue : PySem.W.findIn K (.ref cR) "begin_due" = some (some (.ref fRBeginDue)))
    (iRBeginDue : PySem.W.isFn K (.ref fRBeginDue) = true)
    (lRBeginDue : K.lookup fRBeginDue = some ⟨ocRBeginDue, odRBeginDue, .func (PySem.W.fnOf "begin_due" "Reader.begin_due" (defArgs stRBeginDue) (defBody stRBeginDue) (defScope stRBeginDue) .none kVRBeginDue dcRBeginDue pmRBeginDue anRBeginDue cdRBeginDue ctRBeginDue), slRBeginDue⟩)
    (cRBeginDue : PySem.W.codeIn K cdRBeginDue "Reader.begin_due" = true)
    (kRBeginDue : PySem.W.keepIn K (.ref fRBeginDue) = true)
    (aRToClose : PySem.W.findIn K (.ref cR) "is_to_close" = some (some (.ref fRToClose)))
    (iRToClose : PySem.W.isFn K (.ref fRToClose) = true)
    (lRToClose : K.lookup fRToClose = some ⟨ocRToClose, odRToClose, .func (PySem.W.fnOf "is_to_close" "Reader.is_to_close" (defArgs stRToClose) (defBody stRToClose) (defScope stRToClose) .none kVRToClose dcRToClose pmRToClose anRToClose cdRToClose ctRToClose), slRToClose⟩)
    (cRToClose : PySem.W.codeIn K cdRToClose "Reader.is_to_close" = true)
    (kRToClose : PySem.W.keepIn K (.ref fRToClose) = true)
    (aRClose : PySem.W.findIn K (.ref cR) "close_blocks" = some (some (.ref fRClose)))
    (iRClose : PySem.W.isFn K (.ref fRClose) = true)
    (lRClose : K.lookup fRClose = some ⟨ocRClose, odRClose, .func (PySem.W.fnOf "close_blocks" "Reader.close_blocks" (defArgs stRClose) (defBody stRClose) (defScope stRClose) .none kVRClose dcRClose pmRClose anRClose cdRClose ctRClose), slRClose⟩)
    (cRClose : PySem.W.codeIn K cdRClose "Reader.close_blocks" = true)
    (kRClose : PySem.W.keepIn K (.ref fRClose) = true)
    (aRGoOn : PySem.W.findIn K (.ref cR) "go_on" = some (some (.ref fRGoOn)))
    (iRGoOn : PySem.W.isFn K (.ref fRGoOn) = true)
    (lRGoOn : K.lookup fRGoOn = some ⟨ocRGoOn, odRGoOn, .func (PySem.W.fnOf "go_on" "Reader.go_on" (defArgs stRGoOn) (defBody stRGoOn) (defScope stRGoOn) .none kVRGoOn dcRGoOn pmRGoOn anRGoOn cdRGoOn ctRGoOn), slRGoOn⟩)
    (cRGoOn : PySem.W.codeIn K cdRGoOn "Reader.go_on" = true)
    (kRGoOn : PySem.W.keepIn K (.ref fRGoOn) = true)
    (aRBeginLine : PySem.W.findIn K (.ref cR) "begin_line" = some (some (.ref fRBeginLine)))
    (iRBeginLine : PySem.W.isFn K (.ref fRBeginLine) = true)
    (lRBeginLine : K.lookup fRBeginLine = some ⟨ocRBeginLine, odRBeginLine, .func (PySem.W.fnOf "begin_line" "Reader.begin_line" (defArgs stRBeginLine) (defBody stRBeginLine) (defScope stRBeginLine) .none kVRBeginLine dcRBeginLine pmRBeginLine anRBeginLine cdRBeginLine ctRBeginLine), slRBeginLine⟩)
    (cRBeginLine : PySem.W.codeIn K cdRBeginLine "Reader.begin_line" = true)
    (kRBeginLine : PySem.W.keepIn K (.ref fRBeginLine) = true)
    (aRLine : PySem.W.findIn K (.ref cR) "read_line" = some (some (.ref fRLine)))
    (iRLine : PySem.W.isFn K (.ref fRLine) = true)
    (lRLine : K.lookup fRLine = some ⟨ocRLine, odRLine, .func (PySem.W.fnOf "read_line" "Reader.read_line" (defArgs stRLine) (defBody stRLine) (defScope stRLine) .none kVRLine dcRLine pmRLine anRLine cdRLine ctRLine), slRLine⟩)
    (cRLine : PySem.W.codeIn K cdRLine "Reader.read_line" = true)
    (kRLine : PySem.W.keepIn K (.ref fRLine) = true)
    (aREnd : PySem.W.findIn K (.ref cR) "end" = some (some (.ref fREnd)))
    (iREnd : PySem.W.isFn K (.ref fREnd) = true)
    (lREnd : K.lookup fREnd = some ⟨ocREnd, odREnd, .func (PySem.W.fnOf "end" "Reader.end" (defArgs stREnd) (defBody stREnd) (defScope stREnd) .none kVREnd dcREnd pmREnd anREnd cdREnd ctREnd), slREnd⟩)
    (cREnd : PySem.W.codeIn K cdREnd "Reader.end" = true)
    (kREnd : PySem.W.keepIn K (.ref fREnd) = true)
    (aDInit : PySem.W.findIn K (.ref cD) "__init__" = some (some (.ref fDInit)))
    (iDInit : PySem.W.isFn K (.ref fDInit) = true)
    (lDInit : K.lookup fDInit = some ⟨ocDInit, odDInit, .func (PySem.W.fnOf "__init__" "Desk.__init__" (defArgs stDInit) (defBody stDInit) (defScope stDInit) .none kVDInit dcDInit pmDInit anDInit cdDInit ctDInit), slDInit⟩)
    (cDInit : PySem.W.codeIn K cdDInit "Desk.__init__" = true)
    (kDInit : PySem.W.keepIn K (.ref fDInit) = true)
    (aDPut : PySem.W.findIn K (.ref cD) "put_lines" = some (some (.ref fDPut)))
    (iDPut : PySem.W.isFn K (.ref fDPut) = true)
    (lDPut : K.lookup fDPut = some ⟨ocDPut, odDPut, .func (PySem.W.fnOf "put_lines" "Desk.put_lines" (defArgs stDPut) (defBody stDPut) (defScope stDPut) .none kVDPut dcDPut pmDPut anDPut cdDPut ctDPut), slDPut⟩)
    (cDPut : PySem.W.codeIn K cdDPut "Desk.put_lines" = true)
    (kDPut : PySem.W.keepIn K (.ref fDPut) = true)
    (aDBegin : PySem.W.findIn K (.ref cD) "begin" = some (some (.ref fDBegin)))
    (iDBegin : PySem.W.isFn K (.ref fDBegin) = true)
    (lDBegin : K.lookup fDBegin = some ⟨ocDBegin, odDBegin, .func (PySem.W.fnOf "begin" "Desk.begin" (defArgs stDBegin) (defBody stDBegin) (defScope stDBegin) .none kVDBegin dcDBegin pmDBegin anDBegin cdDBegin ctDBegin), slDBegin⟩)
    (cDBegin : PySem.W.codeIn K cdDBegin "Desk.begin" = true)
    (kDBegin : PySem.W.keepIn K (.ref fDBegin) = true)
    (aDTold : PySem.W.findIn K (.ref cD) "told" = some (some (.ref fDTold)))
    (iDTold : PySem.W.isFn K (.ref fDTold) = true)
    (lDTold : K.lookup fDTold = some ⟨ocDTold, odDTold, .func (PySem.W.fnOf "told" "Desk.told" (defArgs stDTold) (defBody stDTold) (defScope stDTold) .none kVDTold dcDTold pmDTold anDTold cdDTold ctDTold), slDTold⟩)
    (cDTold : PySem.W.codeIn K cdDTold "Desk.told" = true)
    (kDTold : PySem.W.keepIn K (.ref fDTold) = true)
    (aDText : PySem.W.findIn K (.ref cD) "text" = some (some (.ref fDText)))
    (iDText : PySem.W.isFn K (.ref fDText) = true)
    (lDText : K.lookup fDText = some ⟨ocDText, odDText, .func (PySem.W.fnOf "text" "Desk.text" (defArgs stDText) (defBody stDText) (defScope stDText) .none kVDText dcDText pmDText anDText cdDText ctDText), slDText⟩)
    (cDText : PySem.W.codeIn K cdDText "Desk.text" = true)
    (kDText : PySem.W.keepIn K (.ref fDText) = true)
    (aDShape : PySem.W.findIn K (.ref cD) "shape" = some (some (.ref fDShape)))
    (iDShape : PySem.W.isFn K (.ref fDShape) = true)
    (lDShape : K.lookup fDShape = some ⟨ocDShape, odDShape, .func (PySem.W.fnOf "shape" "Desk.shape" (defArgs stDShape) (defBody stDShape) (defScope stDShape) .none kVDShape dcDShape pmDShape anDShape cdDShape ctDShape), slDShape⟩)
    (cDShape : PySem.W.codeIn K cdDShape "Desk.shape" = true)
    (kDShape : PySem.W.keepIn K (.ref fDShape) = true)
    (aDSet : PySem.W.findIn K (.ref cD) "set_out" = some (some (.ref fDSet)))
    (iDSet : PySem.W.isFn K (.ref fDSet) = true)
    (lDSet : K.lookup fDSet = some ⟨ocDSet, odDSet, .func (PySem.W.fnOf "set_out" "Desk.set_out" (defArgs stDSet) (defBody stDSet) (defScope stDSet) .none kVDSet dcDSet pmDSet anDSet cdDSet ctDSet), slDSet⟩)
    (cDSet : PySem.W.codeIn K cdDSet "Desk.set_out" = true)
    (kDSet : PySem.W.keepIn K (.ref fDSet) = true)
    (aDTell : PySem.W.findIn K (.ref cD) "tell_statements" = some (some (.ref fDTell)))
    (iDTell : PySem.W.isFn K (.ref fDTell) = true)
    (lDTell : K.lookup fDTell = some ⟨ocDTell, odDTell, .func (PySem.W.fnOf "tell_statements" "Desk.tell_statements" (defArgs stDTell) (defBody stDTell) (defScope stDTell) .none kVDTell dcDTell pmDTell anDTell cdDTell ctDTell), slDTell⟩)
    (cDTell : PySem.W.codeIn K cdDTell "Desk.tell_statements" = true)
    (kDTell : PySem.W.keepIn K (.ref fDTell) = true)
    (aDAround : PySem.W.findIn K (.ref cD) "around" = some (some (.ref fDAround)))
    (iDAround : PySem.W.isFn K (.ref fDAround) = true)
    (lDAround : K.lookup fDAround = some ⟨ocDAround, odDAround, .func (PySem.W.fnOf "around" "Desk.around" (defArgs stDAround) (defBody stDAround) (defScope stDAround) .none kVDAround dcDAround pmDAround anDAround cdDAround ctDAround), slDAround⟩)
    (cDAround : PySem.W.codeIn K cdDAround "Desk.around" = true)
    (kDAround : PySem.W.keepIn K (.ref fDAround) = true)
    (aDFold : PySem.W.findIn K (.ref cD) "fold" = some (some (.ref fDFold)))
    (iDFold : PySem.W.isFn K (.ref fDFold) = true)
    (lDFold : K.lookup fDFold = some ⟨ocDFold, odDFold, .func (PySem.W.fnOf "fold" "Desk.fold" (defArgs stDFold) (defBody stDFold) (defScope stDFold) .none kVDFold dcDFold pmDFold anDFold cdDFold ctDFold), slDFold⟩)
    (cDFold : PySem.W.codeIn K cdDFold "Desk.fold" = true)
    (kDFold : PySem.W.keepIn K (.ref fDFold) = true)
    (aDMoved : PySem.W.findIn K (.ref cD) "moved" = some (some (.ref fDMoved)))
    (iDMoved : PySem.W.isFn K (.ref fDMoved) = true)
    (lDMoved : K.lookup fDMoved = some ⟨ocDMoved, odDMoved, .func (PySem.W.fnOf "moved" "Desk.moved" (defArgs stDMoved) (defBody stDMoved) (defScope stDMoved) .none kVDMoved dcDMoved pmDMoved anDMoved cdDMoved ctDMoved), slDMoved⟩)
    (cDMoved : PySem.W.codeIn K cdDMoved "Desk.moved" = true)
    (kDMoved : PySem.W.keepIn K (.ref fDMoved) = true)
    (aWInit : PySem.W.findIn K (.ref cW) "__init__" = some (some (.ref fWInit)))
    (lWInit : K.lookup fWInit = some ⟨ocWInit, odWInit, .func (PySem.W.fnOf "__init__" "Wrong.__init__" (defArgs stWInit) (defBody stWInit) (defScope stWInit) .none kVWInit dcWInit pmWInit anWInit cdWInit ctWInit), slWInit⟩)
    (cWInit : PySem.W.codeIn K cdWInit "Wrong.__init__" = true)
    (kWInit : PySem.W.keepIn K (.ref fWInit) = true)
    (wL : K.lookup cW = some (excClassObj nmW qW cW nW bsW [.type "ValueError", .type "Exception", .type "BaseException", .type "object"] true snW subW abW colW ddW m0 m1 m2 m3 m5 "ValueError.__new__"))
    (wsa : PySem.W.findIn K (.ref cW) "__setattr__" = some (some (.builtin "object.__setattr__")))
    (wga : PySem.W.findIn K (.ref cW) "__getattribute__" = some (some (.builtin "BaseException.__getattribute__")))
    (wgg : PySem.W.findIn K (.ref cW) "__getattr__" = some none)
    (wnw : PySem.W.findIn K (.ref cW) "what" = some none)
    (wt1 : PySem.W.typeIn K (.ref fWInit) = some (.type "function"))
    (wkC : PySem.W.keepIn K (.ref cW) = true)
    (weC : PySem.W.subIn K (.ref cW) (.type "BaseException") = some true)
    (wtC : PySem.W.typeIn K (.ref cW) = some (.type "type"))
    (whC : PySem.W.hasDictIn K cW = true)
    (wiC : PySem.W.isClsIn K cW = true)
    (wsC : PySem.W.subIn K (.ref cW) (.ref cW) = some true)
    (vV : PySem.W.findCls K (.type "ValueError") (.type "type") "__init__" = some (.val (.builtin "ValueError.__init__")))
    (b1 : PySem.W.findIn K (.ref cB) "__class__" = some (some (.builtin "object.__class__")))
    (b2 : PySem.W.specialIn K (.builtin "object.__class__") "__get__" = some (some (.builtin "getset_descriptor.__get__")))
    (b3 : PySem.W.takesIn K (.builtin "object.__class__") = some true)
    (b4 : PySem.W.mroIn K cB (.type "object") = some true)
    (b5 : PySem.W.subIn K (.ref cB) (.type "int") = some false)
    (q_PLAIN : PySem.W.nsIn K mainGlobals "PLAIN" = some (some (.int 0 t_PLAIN)))
    (q_OPENS : PySem.W.nsIn K mainGlobals "OPENS" = some (some (.int 1 t_OPENS)))
    (q_CLOSES : PySem.W.nsIn K mainGlobals "CLOSES" = some (some (.int 2 t_CLOSES)))
    (q_BLOCK : PySem.W.nsIn K mainGlobals "BLOCK" = some (some (.int 3 t_BLOCK)))
    (q_GOES_ON : PySem.W.nsIn K mainGlobals "GOES_ON" = some (some (.int 4 t_GOES_ON)))
    (q_MOST_WORDS : PySem.W.nsIn K mainGlobals "MOST_WORDS" = some (some (.int 64 t_MOST_WORDS)))
    (q_MOST_LINES : PySem.W.nsIn K mainGlobals "MOST_LINES" = some (some (.int 40 t_MOST_LINES)))
    (q_MOST_IN_LINE : PySem.W.nsIn K mainGlobals "MOST_IN_LINE" = some (some (.int 16 t_MOST_IN_LINE)))
    (q_MOST_COLUMN : PySem.W.nsIn K mainGlobals "MOST_COLUMN" = some (some (.int 63 t_MOST_COLUMN)))
    (q_BLOCK_BEGINS : PySem.W.nsIn K mainGlobals "BLOCK_BEGINS" = some (some (.int 64 t_BLOCK_BEGINS)))
    (q_BLOCK_ENDS : PySem.W.nsIn K mainGlobals "BLOCK_ENDS" = some (some (.int 65 t_BLOCK_ENDS)))
    (q_STATEMENT_ENDS : PySem.W.nsIn K mainGlobals "STATEMENT_ENDS" = some (some (.int 66 t_STATEMENT_ENDS)))
    (q_LESS_RIGHT : PySem.W.nsIn K mainGlobals "LESS_RIGHT" = some (some (.int 1 t_LESS_RIGHT)))
    (q_NO_BLOCK : PySem.W.nsIn K mainGlobals "NO_BLOCK" = some (some (.int 2 t_NO_BLOCK)))
    (q_BEGINS_SO : PySem.W.nsIn K mainGlobals "BEGINS_SO" = some (some (.int 3 t_BEGINS_SO)))
    (q_BEHIND_BLOCK : PySem.W.nsIn K mainGlobals "BEHIND_BLOCK" = some (some (.int 4 t_BEHIND_BLOCK)))
    (q_NOT_CLOSING : PySem.W.nsIn K mainGlobals "NOT_CLOSING" = some (some (.int 5 t_NOT_CLOSING)))
    (q_BRACKET_OPEN : PySem.W.nsIn K mainGlobals "BRACKET_OPEN" = some (some (.int 6 t_BRACKET_OPEN)))
    (q_TOO_DEEP : PySem.W.nsIn K mainGlobals "TOO_DEEP" = some (some (.int 7 t_TOO_DEEP)))
    (q_MOST_OPEN : PySem.W.nsIn K mainGlobals "MOST_OPEN" = some (some (.int 20 t_MOST_OPEN)))
    (q_NOT_SO : PySem.W.nsIn K mainGlobals "NOT_SO" = some (some (.int (-1) t_NOT_SO)))
    (q_NONE_SUCH : PySem.W.nsIn K mainGlobals "NONE_SUCH" = some (some (.int (-2) t_NONE_SUCH)))
    (q_NOT_TOLD_SO : PySem.W.nsIn K mainGlobals "NOT_TOLD_SO" = some (some (.int (-3) t_NOT_TOLD_SO)))
    (q_IS_WRONG : PySem.W.nsIn K mainGlobals "IS_WRONG" = some (some (.int (-6) t_IS_WRONG)))
    (q_MOST_STEP : PySem.W.nsIn K mainGlobals "MOST_STEP" = some (some (.int 8 t_MOST_STEP)))
    (q_MOST_LENGTH : PySem.W.nsIn K mainGlobals "MOST_LENGTH" = some (some (.int 64 t_MOST_LENGTH)))
    (b_len : PySem.W.nsIn K mainGlobals "len" = some none)
    (b_all : PySem.W.nsIn K mainGlobals "all" = some none)
    (b_list : PySem.W.nsIn K mainGlobals "list" = some none)
    (b_zip : PySem.W.nsIn K mainGlobals "zip" = some none)
    (b_sorted : PySem.W.nsIn K mainGlobals "sorted" = some none)
    (b_enumerate : PySem.W.nsIn K mainGlobals "enumerate" = some none)
    (b_dict : PySem.W.nsIn K mainGlobals "dict" = some none)
    (b_isinstance : PySem.W.nsIn K mainGlobals "isinstance" = some none)
    (b_int : PySem.W.nsIn K mainGlobals "int" = some none)
    (b_range : PySem.W.nsIn K mainGlobals "range" = some none)
    (b_ValueError : PySem.W.nsIn K mainGlobals "ValueError" = some none)
    (qN : PySem.W.nsIn K mainGlobals "NUMBERS" = some (some (.ref aN)))
    (lN : K.lookup aN = some ⟨.type "tuple", ddN, .seq itsN numN, slN⟩)
    (zN : itsN.size ≤ sizeLine)
    (vN : Vals [V.int 0, V.int 0, V.int 0, V.int 0, V.int 2, V.int 0, V.int 1, V.int 1, V.int 3, V.int 3] itsN.toList)
    (qR : PySem.W.nsIn K mainGlobals "ROWS" = some (some (.ref aR)))
    (lR : K.lookup aR = some ⟨.type "tuple", ddR, .seq itsR numR, slR⟩)
    (zR : itsR.size ≤ sizeLine)
    (vR : Vals [V.int 0, V.int 2, V.int 1, V.int 0, V.int 0, V.int 0, V.int 0, V.int 0, V.int 0, V.int 0] itsR.toList)
    : Tx K mg ⟨cS, cB, cW, cR, cD, aN, aR, fAreKinds, (PySem.W.fnOf "are_kinds" "are_kinds" (defArgs stAreKinds) (defBody stAreKinds) (defScope stAreKinds) .none kVAreKinds dcAreKinds pmAreKinds anAreKinds cdAreKinds ctAreKinds), fIsPair, (PySem.W.fnOf "is_pair" "is_pair" (defArgs stIsPair) (defBody stIsPair) (defScope stIsPair) .none kVIsPair dcIsPair pmIsPair anIsPair cdIsPair ctIsPair), fPairsIn, (PySem.W.fnOf "pairs_in" "pairs_in" (defArgs stPairsIn) (defBody stPairsIn) (defScope stPairsIn) .none kVPairsIn dcPairsIn pmPairsIn anPairsIn cdPairsIn ctPairsIn), fLinesIn, (PySem.W.fnOf "lines_in" "lines_in" (defArgs stLinesIn) (defBody stLinesIn) (defScope stLinesIn) .none kVLinesIn dcLinesIn pmLinesIn anLinesIn cdLinesIn ctLinesIn), fIsLine, (PySem.W.fnOf "is_line" "is_line" (defArgs stIsLine) (defBody stIsLine) (defScope stIsLine) .none kVIsLine dcIsLine pmIsLine anIsLine cdIsLine ctIsLine), fNumbersOf, (PySem.W.fnOf "numbers_of" "numbers_of" (defArgs stNumbersOf) (defBody stNumbersOf) (defScope stNumbersOf) .none kVNumbersOf dcNumbersOf pmNumbersOf anNumbersOf cdNumbersOf ctNumbersOf), fShapeOf, (PySem.W.fnOf "shape_of" "shape_of" (defArgs stShapeOf) (defBody stShapeOf) (defScope stShapeOf) .none kVShapeOf dcShapeOf pmShapeOf anShapeOf cdShapeOf ctShapeOf), fAllSt, (PySem.W.fnOf "all_statements" "all_statements" (defArgs stAllSt) (defBody stAllSt) (defScope stAllSt) .none kVAllSt dcAllSt pmAllSt anAllSt cdAllSt ctAllSt), fReadText, (PySem.W.fnOf "read_text" "read_text" (defArgs stReadText) (defBody stReadText) (defScope stReadText) .none kVReadText dcReadText pmReadText anReadText cdReadText ctReadText), fWordLines, (PySem.W.fnOf "word_lines" "word_lines" (defArgs stWordLines) (defBody stWordLines) (defScope stWordLines) .none kVWordLines dcWordLines pmWordLines anWordLines cdWordLines ctWordLines), fStLines, (PySem.W.fnOf "statement_lines" "statement_lines" (defArgs stStLines) (defBody stStLines) (defScope stStLines) .none kVStLines dcStLines pmStLines anStLines cdStLines ctStLines), fBlLines, (PySem.W.fnOf "block_lines" "block_lines" (defArgs stBlLines) (defBody stBlLines) (defScope stBlLines) .none kVBlLines dcBlLines pmBlLines anBlLines cdBlLines ctBlLines), fOfTexts, (PySem.W.fnOf "of_texts" "of_texts" (defArgs stOfTexts) (defBody stOfTexts) (defScope stOfTexts) .none kVOfTexts dcOfTexts pmOfTexts anOfTexts cdOfTexts ctOfTexts), fOfLines, (PySem.W.fnOf "of_lines" "of_lines" (defArgs stOfLines) (defBody stOfLines) (defScope stOfLines) .none kVOfLines dcOfLines pmOfLines anOfLines cdOfLines ctOfLines), fRowsAt, (PySem.W.fnOf "rows_at" "rows_at" (defArgs stRowsAt) (defBody stRowsAt) (defScope stRowsAt) .none kVRowsAt dcRowsAt pmRowsAt anRowsAt cdRowsAt ctRowsAt), fAnswers, (PySem.W.fnOf "answers" "answers" (defArgs stAnswers) (defBody stAnswers) (defScope stAnswers) .none kVAnswers dcAnswers pmAnswers anAnswers cdAnswers ctAnswers), fSInit, (PySem.W.fnOf "__init__" "Statement.__init__" (defArgs stSInit) (defBody stSInit) (defScope stSInit) .none kVSInit dcSInit pmSInit anSInit cdSInit ctSInit), fSTouch, (PySem.W.fnOf "touch" "Statement.touch" (defArgs stSTouch) (defBody stSTouch) (defScope stSTouch) .none kVSTouch dcSTouch pmSTouch anSTouch cdSTouch ctSTouch), fSEnds, (PySem.W.fnOf "ends_with_block" "Statement.ends_with_block" (defArgs stSEnds) (defBody stSEnds) (defScope stSEnds) .none kVSEnds dcSEnds pmSEnds anSEnds cdSEnds ctSEnds), fBInit, (PySem.W.fnOf "__init__" "Block.__init__" (defArgs stBInit) (defBody stBInit) (defScope stBInit) .none kVBInit dcBInit pmBInit anBInit cdBInit ctBInit), fRInit, (PySem.W.fnOf "__init__" "Reader.__init__" (defArgs stRInit) (defBody stRInit) (defScope stRInit) .none kVRInit dcRInit pmRInit anRInit cdRInit ctRInit), fRCurrent, (PySem.W.fnOf "current" "Reader.current" (defArgs stRCurrent) (defBody stRCurrent) (defScope stRCurrent) .none kVRCurrent dcRCurrent pmRCurrent anRCurrent cdRCurrent ctRCurrent), fRBeginSt, (PySem.W.fnOf "begin_statement" "Reader.begin_statement" (defArgs stRBeginSt) (defBody stRBeginSt) (defScope stRBeginSt) .none kVRBeginSt dcRBeginSt pmRBeginSt anRBeginSt cdRBeginSt ctRBeginSt), fROpen, (PySem.W.fnOf "open_block" "Reader.open_block" (defArgs stROpen) (defBody stROpen) (defScope stROpen) .none kVROpen dcROpen pmROpen anROpen cdROpen ctROpen), fRPut, (PySem.W.fnOf "put_word" "Reader.put_word" (defArgs stRPut) (defBody stRPut) (defScope stRPut) .none kVRPut dcRPut pmRPut anRPut cdRPut ctRPut), fRBracket, (PySem.W.fnOf "read_bracket" "Reader.read_bracket" (defArgs stRBracket) (defBody stRBracket) (defScope stRBracket) .none kVRBracket dcRBracket pmRBracket anRBracket cdRBracket ctRBracket), fRWord, (PySem.W.fnOf "read_word" "Reader.read_word" (defArgs stRWord) (defBody stRWord) (defScope stRWord) .none kVRWord dcRWord pmRWord anRWord cdRWord ctRWord), fRWant, (PySem.W.fnOf "want_beginning" "Reader.want_beginning" (defArgs stRWant) (defBody stRWant) (defScope stRWant) .none kVRWant dcRWant pmRWant anRWant cdRWant ctRWant), fRBeginText, (PySem.W.fnOf "begin_text" "Reader.begin_text" (defArgs stRBeginText) (defBody stRBeginText) (defScope stRBeginText) .none kVRBeginText dcRBeginText pmRBeginText anRBeginText cdRBeginText ctRBeginText), fRBeginDue, (PySem.W.fnOf "begin_due" "Reader.begin_due" (defArgs stRBeginDue) (defBody stRBeginDue) (defScope stRBeginDue) .none kVRBeginDue dcRBeginDue pmRBeginDue anRBeginDue cdRBeginDue ctRBeginDue), fRToClose, (PySem.W.fnOf "is_to_close" "Reader.is_to_close" (defArgs stRToClose) (defBody stRToClose) (defScope stRToClose) .none kVRToClose dcRToClose pmRToClose anRToClose cdRToClose ctRToClose), fRClose, (PySem.W.fnOf "close_blocks" "Reader.close_blocks" (defArgs stRClose) (defBody stRClose) (defScope stRClose) .none kVRClose dcRClose pmRClose anRClose cdRClose ctRClose), fRGoOn, (PySem.W.fnOf "go_on" "Reader.go_on" (defArgs stRGoOn) (defBody stRGoOn) (defScope stRGoOn) .none kVRGoOn dcRGoOn pmRGoOn anRGoOn cdRGoOn ctRGoOn), fRBeginLine, (PySem.W.fnOf "begin_line" "Reader.begin_line" (defArgs stRBeginLine) (defBody stRBeginLine) (defScope stRBeginLine) .none kVRBeginLine dcRBeginLine pmRBeginLine anRBeginLine cdRBeginLine ctRBeginLine), fRLine, (PySem.W.fnOf "read_line" "Reader.read_line" (defArgs stRLine) (defBody stRLine) (defScope stRLine) .none kVRLine dcRLine pmRLine anRLine cdRLine ctRLine), fREnd, (PySem.W.fnOf "end" "Reader.end" (defArgs stREnd) (defBody stREnd) (defScope stREnd) .none kVREnd dcREnd pmREnd anREnd cdREnd ctREnd), fDInit, (PySem.W.fnOf "__init__" "Desk.__init__" (defArgs stDInit) (defBody stDInit) (defScope stDInit) .none kVDInit dcDInit pmDInit anDInit cdDInit ctDInit), fDPut, (PySem.W.fnOf "put_lines" "Desk.put_lines" (defArgs stDPut) (defBody stDPut) (defScope stDPut) .none kVDPut dcDPut pmDPut anDPut cdDPut ctDPut), fDBegin, (PySem.W.fnOf "begin" "Desk.begin" (defArgs stDBegin) (defBody stDBegin) (defScope stDBegin) .none kVDBegin dcDBegin pmDBegin anDBegin cdDBegin ctDBegin), fDTold, (PySem.W.fnOf "told" "Desk.told" (defArgs stDTold) (defBody stDTold) (defScope stDTold) .none kVDTold dcDTold pmDTold anDTold cdDTold ctDTold), fDText, (PySem.W.fnOf "text" "Desk.text" (defArgs stDText) (defBody stDText) (defScope stDText) .none kVDText dcDText pmDText anDText cdDText ctDText), fDShape, (PySem.W.fnOf "shape" "Desk.shape" (defArgs stDShape) (defBody stDShape) (defScope stDShape) .none kVDShape dcDShape pmDShape anDShape cdDShape ctDShape), fDSet, (PySem.W.fnOf "set_out" "Desk.set_out" (defArgs stDSet) (defBody stDSet) (defScope stDSet) .none kVDSet dcDSet pmDSet anDSet cdDSet ctDSet), fDTell, (PySem.W.fnOf "tell_statements" "Desk.tell_statements" (defArgs stDTell) (defBody stDTell) (defScope stDTell) .none kVDTell dcDTell pmDTell anDTell cdDTell ctDTell), fDAround, (PySem.W.fnOf "around" "Desk.around" (defArgs stDAround) (defBody stDAround) (defScope stDAround) .none kVDAround dcDAround pmDAround anDAround cdDAround ctDAround), fDFold, (PySem.W.fnOf "fold" "Desk.fold" (defArgs stDFold) (defBody stDFold) (defScope stDFold) .none kVDFold dcDFold pmDFold anDFold cdDFold ctDFold), fDMoved, (PySem.W.fnOf "moved" "Desk.moved" (defArgs stDMoved) (defBody stDMoved) (defScope stDMoved) .none kVDMoved dcDMoved pmDMoved anDMoved cdDMoved ctDMoved), fWInit, (PySem.W.fnOf "__init__" "Wrong.__init__" (defArgs stWInit) (defBody stWInit) (defScope stWInit) .none kVWInit dcWInit pmWInit anWInit cdWInit ctWInit)⟩ :=
  { areKinds := fnT_mk X G bo_areKinds aAreKinds lAreKinds cAreKinds kAreKinds,
    isPair := fnT_mk X G bo_isPair aIsPair lIsPair cIsPair kIsPair,
    pairsIn := fnT_mk X G bo_pairsIn aPairsIn lPairsIn cPairsIn kPairsIn,
    linesIn := fnT_mk X G bo_linesIn aLinesIn lLinesIn cLinesIn kLinesIn,
    isLine := fnT_mk X G bo_isLine aIsLine lIsLine cIsLine kIsLine,
    numbersOf := fnT_mk X G bo_numbersOf aNumbersOf lNumbersOf cNumbersOf kNumbersOf,
    shapeOf := fnT_mk X G bo_shapeOf aShapeOf lShapeOf cShapeOf kShapeOf,
    allSt := fnT_mk X G bo_allSt aAllSt lAllSt cAllSt kAllSt,
    readText := fnT_mk X G bo_readText aReadText lReadText cReadText kReadText,
    wordLines := fnT_mk X G bo_wordLines aWordLines lWordLines cWordLines kWordLines,
    stLines := fnT_mk X G bo_stLines aStLines lStLines cStLines kStLines,
    blLines := fnT_mk X G bo_blLines aBlLines lBlLines cBlLines kBlLines,
    ofTexts := fnT_mk X G bo_ofTexts aOfTexts lOfTexts cOfTexts kOfTexts,
    ofLines := fnT_mk X G bo_ofLines aOfLines lOfLines cOfLines kOfLines,
    rowsAt := fnT_mk X G bo_rowsAt aRowsAt lRowsAt cRowsAt kRowsAt,
    answers := fnT_mk X G bo_answers aAnswers lAnswers cAnswers kAnswers,
    clS := ⟨pgS, hdS, poS, saS⟩,
    sInit := inT_mk X G bo_sInit gS mkS kcS aSInit iSInit lSInit cSInit kSInit,
    sTouch := meT_mk bo_sTouch aSTouch iSTouch lSTouch cSTouch kSTouch,
    sEnds := meT_mk bo_sEnds aSEnds iSEnds lSEnds cSEnds kSEnds,
    nS_things := nS_things,
    nS_first := nS_first,
    nS_last := nS_last,
    clB := ⟨pgB, hdB, poB, saB⟩,
    bInit := inT_mk X G bo_bInit gB mkB kcB aBInit iBInit lBInit cBInit kBInit,
    nB_column := nB_column,
    nB_statements := nB_statements,
    clR := ⟨pgR, hdR, poR, saR⟩,
    rInit := inT_mk X G bo_rInit gR mkR kcR aRInit iRInit lRInit cRInit kRInit,
    rCurrent := meT_mk bo_rCurrent aRCurrent iRCurrent lRCurrent cRCurrent kRCurrent,
    rBeginSt := meT_mk bo_rBeginSt aRBeginSt iRBeginSt lRBeginSt cRBeginSt kRBeginSt,
    rOpen := meT_mk bo_rOpen aROpen iROpen lROpen cROpen kROpen,
    rPut := meT_mk bo_rPut aRPut iRPut lRPut cRPut kRPut,
    rBracket := meT_mk bo_rBracket aRBracket iRBracket lRBracket cRBracket kRBracket,
    rWord := meT_mk bo_rWord aRWord iRWord lRWord cRWord kRWord,
    rWant := meT_mk bo_rWant aRWant iRWant lRWant cRWant kRWant,
    rBeginText := meT_mk bo_rBeginText aRBeginText iRBeginText lRBeginText cRBeginText kRBeginText,
    rBeginDue := meT_mk bo_rBeginDue aRBeginDue iRBeginDue lRBeginDue cRBeginDue kRBeginDue,
    rToClose := meT_mk bo_rToClose aRToClose iRToClose lRToClose cRToClose kRToClose,
    rClose := meT_mk bo_rClose aRClose iRClose lRClose cRClose kRClose,
    rGoOn := meT_mk bo_rGoOn aRGoOn iRGoOn lRGoOn cRGoOn kRGoOn,
    rBeginLine := meT_mk bo_rBeginLine aRBeginLine iRBeginLine lRBeginLine cRBeginLine kRBeginLine,
    rLine := meT_mk bo_rLine aRLine iRLine lRLine cRLine kRLine,
    rEnd := meT_mk bo_rEnd aREnd iREnd lREnd cREnd kREnd,
    nR_kinds := nR_kinds,
    nR_closing := nR_closing,
    nR_blocks := nR_blocks,
    nR_brackets := nR_brackets,
    nR_is_due := nR_is_due,
    clD := ⟨pgD, hdD, poD, saD⟩,
    dInit := inT_mk X G bo_dInit gD mkD kcD aDInit iDInit lDInit cDInit kDInit,
    dPut := meT_mk bo_dPut aDPut iDPut lDPut cDPut kDPut,
    dBegin := meT_mk bo_dBegin aDBegin iDBegin lDBegin cDBegin kDBegin,
    dTold := meT_mk bo_dTold aDTold iDTold lDTold cDTold kDTold,
    dText := meT_mk bo_dText aDText iDText lDText cDText kDText,
    dShape := meT_mk bo_dShape aDShape iDShape lDShape cDShape kDShape,
    dSet := meT_mk bo_dSet aDSet iDSet lDSet cDSet kDSet,
    dTell := meT_mk bo_dTell aDTell iDTell lDTell cDTell kDTell,
    dAround := meT_mk bo_dAround aDAround iDAround lDAround cDAround kDAround,
    dFold := meT_mk bo_dFold aDFold iDFold lDFold cDFold kDFold,
    dMoved := meT_mk bo_dMoved aDMoved iDMoved lDMoved cDMoved kDMoved,
    nD_kinds := nD_kinds,
    nD_closing := nD_closing,
    nD_lines := nD_lines,
    nD_block := nD_block,
    nD_fault := nD_fault,
    nB_put := nB_put,
    nS_put := nS_put,
    wFn := fun_mk lWInit cWInit kWInit,
    wB := (fun_mk (st := stWInit) lWInit cWInit kWInit).binds bo_wInit,
    wOex := ⟨⟨nmW, qW, nW, bsW, _, snW, subW, abW, colW, ddW, m0, m1, m2, m3, m5, wL, by decide +kernel⟩, wsa, weC, wtC, wkC⟩,
    wXf := ⟨wga, wgg, weC, whC⟩,
    wWhat := wnw,
    wExm := exm_self weC wiC wtC wsC,
    wInit := aWInit,
    wTy := wt1,
    wG := PySem.W.mg_of X G gW,
    vV := vV,
    bTy1 := b1,
    bTy2 := b2,
    bTy3 := b3,
    bTy4 := b4,
    bTy5 := kit_int b5,
    k_PLAIN := ⟨t_PLAIN, PySem.W.mg_of X G q_PLAIN⟩,
    k_OPENS := ⟨t_OPENS, PySem.W.mg_of X G q_OPENS⟩,
    k_CLOSES := ⟨t_CLOSES, PySem.W.mg_of X G q_CLOSES⟩,
    k_BLOCK := ⟨t_BLOCK, PySem.W.mg_of X G q_BLOCK⟩,
    k_GOES_ON := ⟨t_GOES_ON, PySem.W.mg_of X G q_GOES_ON⟩,
    k_MOST_WORDS := ⟨t_MOST_WORDS, PySem.W.mg_of X G q_MOST_WORDS⟩,
    k_MOST_LINES := ⟨t_MOST_LINES, PySem.W.mg_of X G q_MOST_LINES⟩,
    k_MOST_IN_LINE := ⟨t_MOST_IN_LINE, PySem.W.mg_of X G q_MOST_IN_LINE⟩,
    k_MOST_COLUMN := ⟨t_MOST_COLUMN, PySem.W.mg_of X G q_MOST_COLUMN⟩,
    k_BLOCK_BEGINS := ⟨t_BLOCK_BEGINS, PySem.W.mg_of X G q_BLOCK_BEGINS⟩,
    k_BLOCK_ENDS := ⟨t_BLOCK_ENDS, PySem.W.mg_of X G q_BLOCK_ENDS⟩,
    k_STATEMENT_ENDS := ⟨t_STATEMENT_ENDS, PySem.W.mg_of X G q_STATEMENT_ENDS⟩,
    k_LESS_RIGHT := ⟨t_LESS_RIGHT, PySem.W.mg_of X G q_LESS_RIGHT⟩,
    k_NO_BLOCK := ⟨t_NO_BLOCK, PySem.W.mg_of X G q_NO_BLOCK⟩,
    k_BEGINS_SO := ⟨t_BEGINS_SO, PySem.W.mg_of X G q_BEGINS_SO⟩,
    k_BEHIND_BLOCK := ⟨t_BEHIND_BLOCK, PySem.W.mg_of X G q_BEHIND_BLOCK⟩,
    k_NOT_CLOSING := ⟨t_NOT_CLOSING, PySem.W.mg_of X G q_NOT_CLOSING⟩,
    k_BRACKET_OPEN := ⟨t_BRACKET_OPEN, PySem.W.mg_of X G q_BRACKET_OPEN⟩,
    k_TOO_DEEP := ⟨t_TOO_DEEP, PySem.W.mg_of X G q_TOO_DEEP⟩,
    k_MOST_OPEN := ⟨t_MOST_OPEN, PySem.W.mg_of X G q_MOST_OPEN⟩,
    k_NOT_SO := ⟨t_NOT_SO, PySem.W.mg_of X G q_NOT_SO⟩,
    k_NONE_SUCH := ⟨t_NONE_SUCH, PySem.W.mg_of X G q_NONE_SUCH⟩,
    k_NOT_TOLD_SO := ⟨t_NOT_TOLD_SO, PySem.W.mg_of X G q_NOT_TOLD_SO⟩,
    k_IS_WRONG := ⟨t_IS_WRONG, PySem.W.mg_of X G q_IS_WRONG⟩,
    k_MOST_STEP := ⟨t_MOST_STEP, PySem.W.mg_of X G q_MOST_STEP⟩,
    k_MOST_LENGTH := ⟨t_MOST_LENGTH, PySem.W.mg_of X G q_MOST_LENGTH⟩,
    b_len := PySem.W.mg_none_of X G b_len,
    b_all := PySem.W.mg_none_of X G b_all,
    b_list := PySem.W.mg_none_of X G b_list,
    b_zip := PySem.W.mg_none_of X G b_zip,
    b_sorted := PySem.W.mg_none_of X G b_sorted,
    b_enumerate := PySem.W.mg_none_of X G b_enumerate,
    b_dict := PySem.W.mg_none_of X G b_dict,
    b_isinstance := PySem.W.mg_none_of X G b_isinstance,
    b_int := PySem.W.mg_none_of X G b_int,
    b_range := PySem.W.mg_none_of X G b_range,
    b_ValueError := PySem.W.mg_none_of X G b_ValueError,
    gN := PySem.W.mg_of X G qN,
    gR := PySem.W.mg_of X G qR,
    tN := fun _ => .inr ⟨_, itsN, numN, lN, rfl, rfl, zN, vN⟩,
    tR := fun _ => .inr ⟨_, itsR, numR, lR, rfl, rfl, zR, vR⟩ }
theorem end_mk {P : Program} {w : World} {K : PySem.W.Frag} {mg : Str → Option Value} {fa : Addr} {a : Ad} (hfa : mg "answers" = some (.ref fa)) (T : Tx K mg a) (hb : ∀ (s : Shared) (us : List Value), us.length = (["calls"] : List Str).length → BindsTo s a.dAnswers ⟨us, []⟩ ((["calls"] : List Str).zip us)) :
    ∃ fd : FuncData, (∀ (s : Shared) (us : List Value), us.length = (["calls"] : List Str).length → BindsTo s fd ⟨us, []⟩ ((["calls"] : List Str).zip us)) ∧ ∀ base : Heap, K.In base → base.Ns mainGlobals mg → FnOk P w K mg base CX0 44 fa fd ["calls"] (spAnswers K) := by
  have e := hfa.symm.trans T.answers.g
  cases e
  exact ⟨a.dAnswers, hb, fun base _ _ => ok_answers T⟩
end Mr

/-! ## MrTop -/
set_option Elab.async false
set_option linter.all false
open PySem PySem.W PyProof.Rows
set_option maxRecDepth 100000 in
set_option maxHeartbeats 8000000 in
theorem PySem.Challenge.cw_marginread_s01_answers_holds : PySem.Challenge.rw_marginread_s01_answers.Holds := by
  w_on; k_headS; (case hw => exact ⟨[.list [.int 3]], by decide +kernel, by decide +kernel⟩)
  k_fillS
  refine L2.walk_specK (r := PySem.Challenge.rw_marginread_s01_answers) (k := 44) (CX := L2.CX0) (ps := ["calls"]) (sp := Mr.spAnswers) (by decide +kernel) rfl rfl ⟨rfl, by decide, by decide⟩ (fun w h Y => PySem.W.kIn_of Y) ?F ?S (fun _ _ _ _ z => z)
  case F =>
    intro w mg fa h Y KX G hmg
    refine' Mr.end_mk hmg (Mr.tx_mk KX G ?gS ?pgS ?hdS ?poS ?saS ?mkS ?kcS ?nS_things ?nS_first ?nS_last ?gB ?pgB ?hdB ?poB ?saB ?mkB ?kcB ?nB_column ?nB_statements ?gR ?pgR ?hdR ?poR ?saR ?mkR ?kcR ?nR_kinds ?nR_closing ?nR_blocks ?nR_brackets ?nR_is_due ?gD ?pgD ?hdD ?poD ?saD ?mkD ?kcD ?nD_kinds ?nD_closing ?nD_lines ?nD_block ?nD_fault ?nB_put ?nS_put ?gW ?aAreKinds ?lAreKinds ?cAreKinds ?kAreKinds ?aIsPair ?lIsPair ?cIsPair ?kIsPair ?aPairsIn ?lPairsIn ?cPairsIn ?kPairsIn ?aLinesIn ?lLinesIn ?cLinesIn ?kLinesIn ?aIsLine ?lIsLine ?cIsLine ?kIsLine ?aNumbersOf ?lNumbersOf ?cNumbersOf ?kNumbersOf ?aShapeOf ?lShapeOf ?cShapeOf ?kShapeOf ?aAllSt ?lAllSt ?cAllSt ?kAllSt ?aReadText ?lReadText ?cReadText ?kReadText ?aWordLines ?lWordLines ?cWordLines ?kWordLines ?aStLines ?lStLines ?cStLines ?kStLines ?aBlLines ?lBlLines ?cBlLines ?kBlLines ?aOfTexts ?lOfTexts ?cOfTexts ?kOfTexts ?aOfLines ?lOfLines ?cOfLines ?kOfLines ?aRowsAt ?lRowsAt ?cRowsAt ?kRowsAt ?aAnswers ?lAnswers ?cAnswers ?kAnswers ?aSInit ?iSInit ?lSInit ?cSInit ?kSInit ?aSTouch ?iSTouch ?lSTouch ?cSTouch ?kSTouch ?aSEnds ?iSEnds ?lSEnds ?cSEnds ?kSEnds ?aBInit ?iBInit ?lBInit ?cBInit ?kBInit ?aRInit ?iRInit ?lRInit ?cRInit ?kRInit ?aRCurrent ?iRCurrent ?lRCurrent ?cRCurrent ?kRCurrent ?aRBeginSt ?iRBeginSt ?lRBeginSt ?cRBeginSt ?kRBeginSt ?aROpen ?iROpen ?lROpen ?cROpen ?kROpen ?aRPut ?iRPut ?lRPut ?cRPut ?kRPut ?aRBracket ?iRBracket ?lRBracket ?cRBracket ?kRBracket ?aRWord ?iRWord ?lRWord ?cRWord ?kRWord ?aRWant ?iRWant ?lRWant ?cRWant ?kRWant ?aRBeginText ?iRBeginText ?lRBeginText ?cRBeginText ?kRBeginText ?aRBeginDue ?iRBeginDue ?lRBeginDue ?cRBeginDue ?kRBeginDue ?aRToClose ?iRToClose ?lRToClose ?cRToClose ?kRToClose ?aRClose ?iRClose ?lRClose ?cRClose ?kRClose ?aRGoOn ?iRGoOn ?lRGoOn ?cRGoOn ?kRGoOn ?aRBeginLine ?iRBeginLine ?lRBeginLine ?cRBeginLine ?kRBeginLine ?aRLine ?iRLine ?lRLine ?cRLine ?kRLine ?aREnd ?iREnd ?lREnd ?cREnd ?kREnd ?aDInit ?iDInit ?lDInit ?cDInit ?kDInit ?aDPut ?iDPut ?lDPut ?cDPut ?kDPut ?aDBegin ?iDBegin ?lDBegin ?cDBegin ?kDBegin ?aDTold ?iDTold ?lDTold ?cDTold ?kDTold ?aDText ?iDText ?lDText ?cDText ?kDText ?aDShape ?iDShape ?lDShape ?cDShape ?kDShape ?aDSet ?iDSet ?lDSet ?cDSet ?kDSet ?aDTell ?iDTell ?lDTell ?cDTell ?kDTell ?aDAround ?iDAround ?lDAround ?cDAround ?kDAround ?aDFold ?iDFold ?lDFold ?cDFold ?kDFold ?aDMoved ?iDMoved ?lDMoved ?cDMoved ?kDMoved ?aWInit ?lWInit ?cWInit ?kWInit ?wL ?wsa ?wga ?wgg ?wnw ?wt1 ?wkC ?weC ?wtC ?whC ?wiC ?wsC ?vV ?b1 ?b2 ?b3 ?b4 ?b5 ?q_PLAIN ?q_OPENS ?q_CLOSES ?q_BLOCK ?q_GOES_ON ?q_MOST_WORDS ?q_MOST_LINES ?q_MOST_IN_LINE ?q_MOST_COLUMN ?q_BLOCK_BEGINS ?q_BLOCK_ENDS ?q_STATEMENT_ENDS ?q_LESS_RIGHT ?q_NO_BLOCK ?q_BEGINS_SO ?q_BEHIND_BLOCK ?q_NOT_CLOSING ?q_BRACKET_OPEN ?q_TOO_DEEP ?q_MOST_OPEN ?q_NOT_SO ?q_NONE_SUCH ?q_NOT_TOLD_SO ?q_IS_WRONG ?q_MOST_STEP ?q_MOST_LENGTH ?b_len ?b_all ?b_list ?b_zip ?b_sorted ?b_enumerate ?b_dict ?b_isinstance ?b_int ?b_range ?b_ValueError ?qN ?lN ?zN ?vN ?qR ?lR ?zR ?vR) ?zz
    (case gS => k_is)
    (case pgS => k_is)
    (case hdS => k_is)
    (case poS => k_is)
    (case saS => k_is)
    (case mkS => k_is)
    (case kcS => k_is)
    (case nS_things => k_is)
    (case nS_first => k_is)
    (case nS_last => k_is)
    (case gB => k_is)
    (case pgB => k_is)
    (case hdB => k_is)
    (case poB => k_is)
    (case saB => k_is)
    (case mkB => k_is)
    (case kcB => k_is)
    (case nB_column => k_is)
    (case nB_statements => k_is)
    (case gR => k_is)
    (case pgR => k_is)
    (case hdR => k_is)
    (case poR => k_is)
    (case saR => k_is)
    (case mkR => k_is)
    (case kcR => k_is)
    (case nR_kinds => k_is)
    (case nR_closing => k_is)
    (case nR_blocks => k_is)
    (case nR_brackets => k_is)
    (case nR_is_due => k_is)
    (case gD => k_is)
    (case pgD => k_is)
    (case hdD => k_is)
    (case poD => k_is)
    (case saD => k_is)
    (case mkD => k_is)
    (case kcD => k_is)
    (case nD_kinds => k_is)
    (case nD_closing => k_is)
    (case nD_lines => k_is)
    (case nD_block => k_is)
    (case nD_fault => k_is)
    (case nB_put => k_is)
    (case nS_put => k_is)
    (case gW => k_is)
    (case aAreKinds => k_is)
    (case lAreKinds => k_is)
    (case cAreKinds => k_is)
    (case kAreKinds => k_is)
    (case aIsPair => k_is)
    (case lIsPair => k_is)
    (case cIsPair => k_is)
    (case kIsPair => k_is)
    (case aPairsIn => k_is)
    (case lPairsIn => k_is)
    (case cPairsIn => k_is)
    (case kPairsIn => k_is)
    (case aLinesIn => k_is)
    (case lLinesIn => k_is)
    (case cLinesIn => k_is)
    (case kLinesIn => k_is)
    (case aIsLine => k_is)
    (case lIsLine => k_is)
    (case cIsLine => k_is)
    (case kIsLine => k_is)
    (case aNumbersOf => k_is)
    (case lNumbersOf => k_is)
    (case cNumbersOf => k_is)
    (case kNumbersOf => k_is)
    (case aShapeOf => k_is)
    (case lShapeOf => k_is)
    (case cShapeOf => k_is)
    (case kShapeOf => k_is)
    (case aAllSt => k_is)
    (case lAllSt => k_is)
    (case cAllSt => k_is)
    (case kAllSt => k_is)
    (case aReadText => k_is)
    (case lReadText => k_is)
    (case cReadText => k_is)
    (case kReadText => k_is)
    (case aWordLines => k_is)
    (case lWordLines => k_is)
    (case cWordLines => k_is)
    (case kWordLines => k_is)
    (case aStLines => k_is)
    (case lStLines => k_is)
    (case cStLines => k_is)
    (case kStLines => k_is)
    (case aBlLines => k_is)
    (case lBlLines => k_is)
    (case cBlLines => k_is)
    (case kBlLines => k_is)
    (case aOfTexts => k_is)
    (case lOfTexts => k_is)
    (case cOfTexts => k_is)
    (case kOfTexts => k_is)
    (case aOfLines => k_is)
    (case lOfLines => k_is)
    (case cOfLines => k_is)
    (case kOfLines => k_is)
    (case aRowsAt => k_is)
    (case lRowsAt => k_is)
    (case cRowsAt => k_is)
    (case kRowsAt => k_is)
    (case aAnswers => k_is)
    (case lAnswers => k_is)
    (case cAnswers => k_is)
    (case kAnswers => k_is)
    (case aSInit => k_is)
    (case iSInit => k_is)
    (case lSInit => k_is)
    (case cSInit => k_is)
    (case kSInit => k_is)
    (case aSTouch => k_is)
    (case iSTouch => k_is)
    (case lSTouch => k_is)
    (case cSTouch => k_is)
    (case kSTouch => k_is)
    (case aSEnds => k_is)
    (case iSEnds => k_is)
    (case lSEnds => k_is)
    (case cSEnds => k_is)
    (case kSEnds => k_is)
    (case aBInit => k_is)
    (case iBInit => k_is)
    (case lBInit => k_is)
    (case cBInit => k_is)
    (case kBInit => k_is)
    (case aRInit => k_is)
    (case iRInit => k_is)
    (case lRInit => k_is)
    (case cRInit => k_is)
    (case kRInit => k_is)
    (case aRCurrent => k_is)
    (case iRCurrent => k_is)
    (case lRCurrent => k_is)
    (case cRCurrent => k_is)
    (case kRCurrent => k_is)
    (case aRBeginSt => k_is)
    (case iRBeginSt => k_is)
    (case lRBeginSt => k_is)
    (case cRBeginSt => k_is)
    (case kRBeginSt => k_is)
    (case aROpen => k_is)
    (case iROpen => k_is)
    (case lROpen => k_is)
    (case cROpen => k_is)
    (case kROpen => k_is)
    (case aRPut => k_is)
    (case iRPut => k_is)
    (case lRPut => k_is)
    (case cRPut => k_is)
    (case kRPut => k_is)
    (case aRBracket => k_is)
    (case iRBracket => k_is)
    (case lRBracket => k_is)
    (case cRBracket => k_is)
    (case kRBracket => k_is)
    (case aRWord => k_is)
    (case iRWord => k_is)
    (case lRWord => k_is)
    (case cRWord => k_is)
    (case kRWord => k_is)
    (case aRWant => k_is)
    (case iRWant => k_is)
    (case lRWant => k_is)
    (case cRWant => k_is)
    (case kRWant => k_is)
    (case aRBeginText => k_is)
    (case iRBeginText => k_is)
    (case lRBeginText => k_is)
    (case cRBeginText => k_is)
    (case kRBeginText => k_is)
    (case aRBeginDue => k_is)
    (case iRBeginDue => k_is)
    (case lRBeginDue => k_is)
    (case cRBeginDue => k_is)
    (case kRBeginDue => k_is)
    (case aRToClose => k_is)
    (case iRToClose => k_is)
    (case lRToClose => k_is)
    (case cRToClose => k_is)
    (case kRToClose => k_is)
    (case aRClose => k_is)
    (case iRClose => k_is)
    (case lRClose => k_is)
    (case cRClose => k_is)
    (case kRClose => k_is)
    (case aRGoOn => k_is)
    (case iRGoOn => k_is)
    (case lRGoOn => k_is)
    (case cRGoOn => k_is)
    (case kRGoOn => k_is)
    (case aRBeginLine => k_is)
    (case iRBeginLine => k_is)
    (case lRBeginLine => k_is)
    (case cRBeginLine => k_is)
    (case kRBeginLine => k_is)
    (case aRLine => k_is)
    (case iRLine => k_is)
    (case lRLine => k_is)
    (case cRLine => k_is)
    (case kRLine => k_is)
    (case aREnd => k_is)
    (case iREnd => k_is)
    (case lREnd => k_is)
    (case cREnd => k_is)
    (case kREnd => k_is)
    (case aDInit => k_is)
    (case iDInit => k_is)
    (case lDInit => k_is)
    (case cDInit => k_is)
    (case kDInit => k_is)
    (case aDPut => k_is)
    (case iDPut => k_is)
    (case lDPut => k_is)
    (case cDPut => k_is)
    (case kDPut => k_is)
    (case aDBegin => k_is)
    (case iDBegin => k_is)
    (case lDBegin => k_is)
    (case cDBegin => k_is)
    (case kDBegin => k_is)
    (case aDTold => k_is)
    (case iDTold => k_is)
    (case lDTold => k_is)
    (case cDTold => k_is)
    (case kDTold => k_is)
    (case aDText => k_is)
    (case iDText => k_is)
    (case lDText => k_is)
    (case cDText => k_is)
    (case kDText => k_is)
    (case aDShape => k_is)
    (case iDShape => k_is)
    (case lDShape => k_is)
    (case cDShape => k_is)
    (case kDShape => k_is)
    (case aDSet => k_is)
    (case iDSet => k_is)
    (case lDSet => k_is)
    (case cDSet => k_is)
    (case kDSet => k_is)
    (case aDTell => k_is)
    (case iDTell => k_is)
    (case lDTell => k_is)
    (case cDTell => k_is)
    (case kDTell => k_is)
    (case aDAround => k_is)
    (case iDAround => k_is)
    (case lDAround => k_is)
    (case cDAround => k_is)
    (case kDAround => k_is)
    (case aDFold => k_is)
    (case iDFold => k_is)
    (case lDFold => k_is)
    (case cDFold => k_is)
    (case kDFold => k_is)
    (case aDMoved => k_is)
    (case iDMoved => k_is)
    (case lDMoved => k_is)
    (case cDMoved => k_is)
    (case kDMoved => k_is)
    (case aWInit => k_is)
    (case lWInit => k_is)
    (case cWInit => k_is)
    (case kWInit => k_is)
    (case wL => k_is)
    (case wsa => k_is)
    (case wga => k_is)
    (case wgg => k_is)
    (case wnw => k_is)
    (case wt1 => k_is)
    (case wkC => k_is)
    (case weC => k_is)
    (case wtC => k_is)
    (case whC => k_is)
    (case wiC => k_is)
    (case wsC => first | rfl | k_is)
    (case vV => k_is)
    (case b1 => k_is)
    (case b2 => k_is)
    (case b3 => k_is)
    (case b4 => k_is)
    (case b5 => k_is)
    (case q_PLAIN => k_is)
    (case q_OPENS => k_is)
    (case q_CLOSES => k_is)
    (case q_BLOCK => k_is)
    (case q_GOES_ON => k_is)
    (case q_MOST_WORDS => k_is)
    (case q_MOST_LINES => k_is)
    (case q_MOST_IN_LINE => k_is)
    (case q_MOST_COLUMN => k_is)
    (case q_BLOCK_BEGINS => k_is)
    (case q_BLOCK_ENDS => k_is)
    (case q_STATEMENT_ENDS => k_is)
    (case q_LESS_RIGHT => k_is)
    (case q_NO_BLOCK => k_is)
    (case q_BEGINS_SO => k_is)
    (case q_BEHIND_BLOCK => k_is)
    (case q_NOT_CLOSING => k_is)
    (case q_BRACKET_OPEN => k_is)
    (case q_TOO_DEEP => k_is)
    (case q_MOST_OPEN => k_is)
    (case q_NOT_SO => k_is)
    (case q_NONE_SUCH => k_is)
    (case q_NOT_TOLD_SO => k_is)
    (case q_IS_WRONG => k_is)
    (case q_MOST_STEP => k_is)
    (case q_MOST_LENGTH => k_is)
    (case b_len => k_is)
    (case b_all => k_is)
    (case b_list => k_is)
    (case b_zip => k_is)
    (case b_sorted => k_is)
    (case b_enumerate => k_is)
    (case b_dict => k_is)
    (case b_isinstance => k_is)
    (case b_int => k_is)
    (case b_range => k_is)
    (case b_ValueError => k_is)
    (case qN => k_is)
    (case lN => k_is)
    (case zN => exact (by decide : 10 ≤ 16777216))
    (case vN => exact (.cons ⟨_, rfl⟩ (.cons ⟨_, rfl⟩ (.cons ⟨_, rfl⟩ (.cons ⟨_, rfl⟩ (.cons ⟨_, rfl⟩ (.cons ⟨_, rfl⟩ (.cons ⟨_, rfl⟩ (.cons ⟨_, rfl⟩ (.cons ⟨_, rfl⟩ (.cons ⟨_, rfl⟩ .nil)))))))))))
    (case qR => k_is)
    (case lR => k_is)
    (case zR => exact (by decide : 10 ≤ 16777216))
    (case vR => exact (.cons ⟨_, rfl⟩ (.cons ⟨_, rfl⟩ (.cons ⟨_, rfl⟩ (.cons ⟨_, rfl⟩ (.cons ⟨_, rfl⟩ (.cons ⟨_, rfl⟩ (.cons ⟨_, rfl⟩ (.cons ⟨_, rfl⟩ (.cons ⟨_, rfl⟩ (.cons ⟨_, rfl⟩ .nil)))))))))))
    (case zz => exact fun s us hu => match us, hu with | [_], _ => .of_eq rfl)
  case S =>
    intro K H xs a hO hwi hask hx
    cases hx with
    | cons h1 h2 =>
      cases h2
      cases h1 with
      | lst hs ha =>
        have e := L2.ints_dw a.1 _ ha
        subst e
        have q : ((Codec.inLen 0 16000 a.1 && a.1.all (Codec.inInt 0 18446744073709551615)) && true) = true := hwi
        rw [Bool.and_eq_true, Bool.and_eq_true] at q
        exact Mr.ask_of (Codec.inNat_iff.mp q.1.1).2 (fun x hx => (Codec.inInt_iff.mp (List.all_eq_true.mp q.1.2 x hx)).1) hask hs (fun H' p hp => .lst (L2.SqL.of hp) (L2.dw_ints _))
#print axioms PySem.Challenge.cw_marginread_s01_answers_holds
