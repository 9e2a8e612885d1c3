import PyProof.Rows.All
import Wide.All
import OpenK.AllK
import Wide.FinOn
import Open.SpecLaws
import KE.OsGo
import HandS.ForSpec
import HandS.ForMost
import HandS.Conv
import KE.KDictKeyed
import KE.KDictDisplayH
import HandS.Evl
import HandS.Walk
import HandS.Style
import HandS.TupAny
import KE.DataMinMax
import KE.DatumOrd
import PySem.Challenge.RW_strataproofs_s01_answers
set_option Elab.async false
set_option linter.all false
/-! M1: shortlex order of lists of ids; paths in a finite graph can be cut short -/
set_option linter.all false
namespace SG
open Stratigraphy

/-! ### shortlex -/
theorem lex_irrefl : ∀ a : List Nat, lexLess a a = false
  | [] => rfl
  | x :: xs => by simp [lexLess, lex_irrefl xs]
theorem lex_total : ∀ {a b : List Nat}, a.length = b.length → a ≠ b → lexLess a b = true ∨ lexLess b a = true
  | [], [], _, h => absurd rfl h
  | [], _ :: _, h, _ => by simp at h
  | _ :: _, [], h, _ => by simp at h
  | x :: xs, y :: ys, h, hne => by
    simp only [lexLess, Bool.or_eq_true, decide_eq_true_eq, Bool.and_eq_true, beq_iff_eq]
    by_cases e : x = y
    · subst e
      have h2 : xs ≠ ys := fun q => hne (by rw [q])
      rcases lex_total (a := xs) (b := ys) (by simpa using h) h2 with q | q
      · exact .inl (.inr ⟨rfl, q⟩)
      · exact .inr (.inr ⟨rfl, q⟩)
    · rcases Nat.lt_or_ge x y with q | q
      · exact .inl (.inl q)
      · exact .inr (.inl (by omega))
theorem lex_trans : ∀ {a b c : List Nat}, lexLess a b = true → lexLess b c = true → lexLess a c = true
  | [], _, _, h, _ => by simp [lexLess] at h
  | _ :: _, [], _, h, _ => by simp [lexLess] at h
  | _ :: _, _ :: _, [], _, h => by simp [lexLess] at h
  | x :: xs, y :: ys, z :: zs, h1, h2 => by
    simp only [lexLess, Bool.or_eq_true, decide_eq_true_eq, Bool.and_eq_true, beq_iff_eq] at h1 h2 ⊢
    rcases h1 with h1 | ⟨e1, h1⟩
    · rcases h2 with h2 | ⟨e2, _⟩
      · exact .inl (by omega)
      · exact .inl (by omega)
    · rcases h2 with h2 | ⟨e2, h2⟩
      · exact .inl (by omega)
      · exact .inr ⟨by omega, lex_trans h1 h2⟩
theorem lex_append_left : ∀ (c a b : List Nat), lexLess (c ++ a) (c ++ b) = lexLess a b
  | [], _, _ => rfl
  | x :: c, a, b => by simp [lexLess, lex_append_left c a b]
theorem lex_append_right : ∀ {a b : List Nat} (c : List Nat), a.length = b.length → lexLess a b = true → lexLess (a ++ c) (b ++ c) = true
  | [], _, _, _, h => by simp [lexLess] at h
  | _ :: _, [], _, _, h => by simp [lexLess] at h
  | x :: xs, y :: ys, c, hl, h => by
    simp only [List.cons_append, lexLess, Bool.or_eq_true, decide_eq_true_eq, Bool.and_eq_true, beq_iff_eq] at h ⊢
    rcases h with h | ⟨e, h⟩
    · exact .inl h
    · exact .inr ⟨e, lex_append_right c (by simpa using hl) h⟩

/-- strictly preferred -/
def SLt (a b : List Nat) : Prop := a.length < b.length ∨ (a.length = b.length ∧ lexLess a b = true)
theorem preferred_iff {a b : List Nat} : preferred a b = true ↔ SLt a b := by
  simp [preferred, SLt]
/-- preferred, or the same -/
def SLe (a b : List Nat) : Prop := SLt a b ∨ a = b
theorem SLt.irrefl {a : List Nat} : ¬ SLt a a := fun h => by
  rcases h with h | ⟨_, h⟩
  · omega
  · rw [lex_irrefl] at h; cases h
theorem SLt.trans {a b c : List Nat} (h1 : SLt a b) (h2 : SLt b c) : SLt a c := by
  rcases h1 with h1 | ⟨e1, h1⟩ <;> rcases h2 with h2 | ⟨e2, h2⟩
  · exact .inl (by omega)
  · exact .inl (by omega)
  · exact .inl (by omega)
  · exact .inr ⟨by omega, lex_trans h1 h2⟩
theorem SLe.refl (a : List Nat) : SLe a a := .inr rfl
theorem SLe.trans {a b c : List Nat} (h1 : SLe a b) (h2 : SLe b c) : SLe a c := by
  rcases h1 with h1 | rfl
  · rcases h2 with h2 | rfl
    · exact .inl (h1.trans h2)
    · exact .inl h1
  · exact h2
theorem SLe.antisymm {a b : List Nat} (h1 : SLe a b) (h2 : SLe b a) : a = b := by
  rcases h1 with h1 | h1
  · rcases h2 with h2 | h2
    · exact absurd (h1.trans h2) SLt.irrefl
    · exact h2.symm
  · exact h1
theorem SLt.total (a b : List Nat) : SLt a b ∨ SLe b a := by
  by_cases e : a = b
  · exact .inr (.inr e.symm)
  · rcases Nat.lt_trichotomy a.length b.length with h | h | h
    · exact .inl (.inl h)
    · rcases lex_total h e with q | q
      · exact .inl (.inr ⟨h, q⟩)
      · exact .inr (.inl (.inr ⟨h.symm, q⟩))
    · exact .inr (.inl (.inl h))
theorem SLe.total (a b : List Nat) : SLe a b ∨ SLe b a := (SLt.total a b).imp .inl id
theorem SLe.of_len {a b : List Nat} (h : a.length < b.length) : SLe a b := .inl (.inl h)
theorem SLe.length {a b : List Nat} (h : SLe a b) : a.length ≤ b.length := by
  rcases h with (h | ⟨h, _⟩) | h
  · omega
  · omega
  · rw [h]; exact Nat.le_refl _
theorem SLe.append_left (c : List Nat) {a b : List Nat} (h : SLe a b) : SLe (c ++ a) (c ++ b) := by
  rcases h with (h | ⟨e, h⟩) | h
  · exact .inl (.inl (by simp; omega))
  · exact .inl (.inr ⟨by simp; omega, by rw [lex_append_left]; exact h⟩)
  · exact .inr (by rw [h])
theorem SLe.append_right (c : List Nat) {a b : List Nat} (h : SLe a b) : SLe (a ++ c) (b ++ c) := by
  rcases h with (h | ⟨e, h⟩) | h
  · exact .inl (.inl (by simp; omega))
  · exact .inl (.inr ⟨by simp; omega, lex_append_right c e h⟩)
  · exact .inr (by rw [h])

/-- the best of what P says -/
def IsBest (P : List Nat → Prop) (L : List Nat) : Prop := P L ∧ ∀ L', P L' → SLe L L'
theorem IsBest.unique {P : List Nat → Prop} {L M : List Nat} (h1 : IsBest P L) (h2 : IsBest P M) : L = M := (h1.2 M h2.1).antisymm (h2.2 L h1.1)
theorem IsBest.congr {P Q : List Nat → Prop} {L : List Nat} (h : IsBest P L) (e : ∀ L, P L ↔ Q L) : IsBest Q L := ⟨(e L).mp h.1, fun L' q => h.2 L' ((e L').mpr q)⟩
/-- an answer that is the best, none where there is none -/
def Answers (P : List Nat → Prop) (o : Option (List Nat)) : Prop := match o with
  | some L => IsBest P L
  | none => ∀ L, ¬ P L
theorem Answers.unique {P : List Nat → Prop} {o o' : Option (List Nat)} (h : Answers P o) (h' : Answers P o') : o = o' := by
  cases o with
  | none => cases o' with
    | none => rfl
    | some L => exact absurd h'.1 (h L)
  | some L => cases o' with
    | none => exact absurd h.1 (h' L)
    | some M => rw [IsBest.unique h h']
theorem Answers.congr {P Q : List Nat → Prop} {o : Option (List Nat)} (h : Answers P o) (e : ∀ L, P L ↔ Q L) : Answers Q o := by
  cases o with
  | none => exact fun L q => h L ((e L).mpr q)
  | some L => exact IsBest.congr h e
theorem Answers.some_iff {P : List Nat → Prop} {o : Option (List Nat)} (h : Answers P o) : o ≠ none ↔ ∃ L, P L := by
  cases o with
  | none => exact ⟨fun q => absurd rfl q, fun ⟨L, q⟩ => absurd q (h L)⟩
  | some L => exact ⟨fun _ => ⟨L, h.1⟩, fun _ q => by cases q⟩
theorem Answers.none_iff {P : List Nat → Prop} {o : Option (List Nat)} (h : Answers P o) : o = none ↔ ∀ L, ¬ P L := by
  cases o with
  | none => exact ⟨fun _ => h, fun _ => rfl⟩
  | some L => exact ⟨fun q => (by cases q), fun q => absurd h.1 (q L)⟩
theorem answers_betterOf {P Q : List Nat → Prop} {o o' : Option (List Nat)} (h : Answers P o) (h' : Answers Q o') : Answers (fun L => P L ∨ Q L) (betterOf o o') := by
  cases o with
  | none => cases o' with
    | none => exact fun L q => q.elim (h L) (h' L)
    | some M => exact ⟨.inr h'.1, fun L' q => q.elim (fun z => absurd z (h L')) (h'.2 L')⟩
  | some L => cases o' with
    | none => exact ⟨.inl h.1, fun L' q => q.elim (h.2 L') fun z => absurd z (h' L')⟩
    | some M =>
      show Answers _ (if preferred M L = true then some M else some L)
      by_cases c : preferred M L = true
      · rw [if_pos c]
        have c' := preferred_iff.mp c
        exact ⟨.inr h'.1, fun L' q => q.elim (fun z => SLe.trans (.inl c') (h.2 L' z)) (h'.2 L')⟩
      · rw [if_neg c]
        have c' : SLe L M := (SLt.total M L).elim (fun z => absurd (preferred_iff.mpr z) c) id
        exact ⟨.inl h.1, fun L' q => q.elim (h.2 L') fun z => c'.trans (h'.2 L' z)⟩

/-! ### paths -/
section
variable {σ : Type} [DecidableEq σ]
/-- a path whose nodes lie in A, with its label and its number of steps -/
inductive Path (R : σ → List Nat → σ → Prop) (A : List σ) : σ → List Nat → σ → Nat → Prop
  | nil {x : σ} (h : x ∈ A) : Path R A x [] x 0
  | cons {x y z : σ} {l L : List Nat} {n : Nat} (h : x ∈ A) (r : R x l y) (p : Path R A y L z n) : Path R A x (l ++ L) z (n + 1)
variable {R : σ → List Nat → σ → Prop}
theorem Path.start {A : List σ} {x y : σ} {L : List Nat} {n : Nat} (p : Path R A x L y n) : x ∈ A := by
  cases p with
  | nil h => exact h
  | cons h _ _ => exact h
theorem Path.mono {A B : List σ} (hAB : ∀ x ∈ A, x ∈ B) {x y : σ} {L : List Nat} {n : Nat} (p : Path R A x L y n) : Path R B x L y n := by
  induction p with
  | nil h => exact .nil (hAB _ h)
  | cons h r _ ih => exact .cons (hAB _ h) r ih
/-- a path either keeps away from x or has an end that begins at x and doesn't come back -/
theorem Path.last {A : List σ} (x : σ) {w y : σ} {L : List Nat} {n : Nat} (p : Path R A w L y n) :
    Path R (A.filter (· ≠ x)) w L y n ∨ ∃ pre L1, L = pre ++ L1 ∧ ((y = x ∧ L1 = []) ∨ ∃ z l L2 n2, R x l z ∧ Path R (A.filter (· ≠ x)) z L2 y n2 ∧ L1 = l ++ L2) := by
  induction p with
  | @nil w h =>
    by_cases e : w = x
    · exact .inr ⟨[], [], rfl, .inl ⟨e, rfl⟩⟩
    · exact .inl (.nil (by simp [h, e]))
  | @cons w w1 y l L n h r p ih =>
    rcases ih with ih | ⟨pre, L1, e, q⟩
    · by_cases e : w = x
      · subst e
        exact .inr ⟨[], l ++ L, rfl, .inr ⟨w1, l, L, n, r, ih, rfl⟩⟩
      · exact .inl (.cons (by simp [h, e]) r ih)
    · exact .inr ⟨l ++ pre, L1, by rw [e, List.append_assoc], q⟩
theorem filter_len_lt {A : List σ} {x : σ} (h : x ∈ A) : (A.filter (· ≠ x)).length < A.length := by
  induction A with
  | nil => cases h
  | cons a A ih =>
    by_cases e : a = x
    · simp only [e, ne_eq, not_true, decide_false, Bool.false_eq_true, not_false_eq_true, List.filter_cons_of_neg, List.length_cons]
      exact Nat.lt_succ_of_le (List.length_filter_le _ _)
    · have h' : x ∈ A := by
        rcases List.mem_cons.mp h with q | q
        · exact absurd q.symm e
        · exact q
      have := ih h'
      simp only [ne_eq, e, not_false_eq_true, decide_true, List.filter_cons_of_pos, List.length_cons]
      simp only [ne_eq] at this
      omega
/-- a path can be cut to one of fewer steps than there are nodes; its label is the same or shorter -/
theorem Path.cut : ∀ (k : Nat) {A : List σ}, A.length ≤ k → ∀ {x y : σ} {L : List Nat} {n : Nat}, Path R A x L y n →
    ∃ L' n', Path R A x L' y n' ∧ n' < A.length ∧ (L'.length < L.length ∨ L' = L)
  | 0, A, hk, x, y, L, n, p => by
    have h := p.start
    have : A = [] := List.length_eq_zero_iff.mp (by omega)
    rw [this] at h; cases h
  | k + 1, A, hk, x, y, L, n, p => by
    have h := p.start
    have hlt := filter_len_lt h
    have sub : ∀ a ∈ A.filter (· ≠ x), a ∈ A := fun a ha => (List.mem_filter.mp ha).1
    rcases p.last x with q | ⟨pre, L1, e, q⟩
    · have := q.start
      simp at this
    · rcases q with ⟨e1, e2⟩ | ⟨z, l, L2, n2, r, p2, e2⟩
      · subst e1
        refine ⟨[], 0, .nil h, by omega, ?_⟩
        subst e2
        rw [List.append_nil] at e
        subst e
        cases L with
        | nil => exact .inr rfl
        | cons _ _ => exact .inl (by simp)
      · obtain ⟨L2', n2', p2', hn, hl⟩ := Path.cut k (A := A.filter (· ≠ x)) (by omega) p2
        refine ⟨l ++ L2', n2' + 1, .cons h r (p2'.mono sub), by omega, ?_⟩
        subst e2
        subst e
        rcases hl with hl | hl
        · left; simp; omega
        · subst hl
          cases pre with
          | nil => exact .inr rfl
          | cons _ _ => left; simp; omega
theorem Path.short {A : List σ} {x y : σ} {L : List Nat} {n : Nat} (p : Path R A x L y n) : ∃ L' n', Path R A x L' y n' ∧ n' < A.length ∧ SLe L' L := by
  obtain ⟨L', n', p', h, q⟩ := Path.cut _ (Nat.le_refl _) p
  exact ⟨L', n', p', h, q.elim SLe.of_len .inr⟩
end
end SG

/-! M2: walks over steps; the specification's best chains are the best walks; so are the program's -/
set_option linter.all false
namespace SG
open Stratigraphy

/-- a chain from u to v: whether it has a strict step, its ids -/
inductive Walk (S : List Step) : Nat → Bool → List Nat → Nat → Prop
  | nil (u : Nat) : Walk S u false [] u
  | cons {u : Nat} {st : Step} {b : Bool} {L : List Nat} {v : Nat} (h : st ∈ S) (e : st.source = u) (w : Walk S st.target b L v) : Walk S u (st.strict || b) (st.facts ++ L) v
theorem Walk.mono {S T : List Step} (hS : ∀ st ∈ S, st ∈ T) {u v : Nat} {b : Bool} {L : List Nat} (w : Walk S u b L v) : Walk T u b L v := by
  induction w with
  | nil u => exact .nil u
  | cons h e _ ih => exact .cons (hS _ h) e ih
theorem Walk.trans {S : List Step} {u v : Nat} {b : Bool} {L : List Nat} (w : Walk S u b L v) : ∀ {c : Bool} {M : List Nat} {x : Nat}, Walk S v c M x → Walk S u (b || c) (L ++ M) x := by
  induction w with
  | nil u => intro c M x w'; simpa using w'
  | cons h e _ ih =>
    intro c M x w'
    rw [Bool.or_assoc, List.append_assoc]
    exact .cons h e (ih w')
theorem Walk.one {S : List Step} {st : Step} (h : st ∈ S) : Walk S st.source st.strict st.facts st.target := by
  have := Walk.cons h rfl (.nil st.target)
  simpa using this
theorem Walk.unsnoc {S : List Step} {u v : Nat} {b : Bool} {L : List Nat} (w : Walk S u b L v) :
    (u = v ∧ b = false ∧ L = []) ∨ ∃ st, st ∈ S ∧ ∃ b' L', st.target = v ∧ Walk S u b' L' st.source ∧ b = (b' || st.strict) ∧ L = L' ++ st.facts := by
  induction w with
  | nil u => exact .inl ⟨rfl, rfl, rfl⟩
  | @cons u st b L v h e w ih =>
    rcases ih with ⟨e1, e2, e3⟩ | ⟨s2, h2, b', L', e1, w2, e2, e3⟩
    · refine .inr ⟨st, h, false, [], e1, ?_, by simp [e2], by simp [e3]⟩
      rw [e]; exact .nil _
    · exact .inr ⟨s2, h2, st.strict || b', st.facts ++ L', e1, .cons h e w2, by rw [e2, Bool.or_assoc], by rw [e3, List.append_assoc]⟩

/-- steps over nodes below n, of one or two ids -/
def Bd (S : List Step) (n : Nat) : Prop := ∀ st ∈ S, st.source < n ∧ st.target < n ∧ st.facts.length ≤ 2 ∧ st.facts ≠ []
def sts (n : Nat) : List (Nat × Bool) := (List.range n).flatMap fun u => [(u, false), (u, true)]
theorem mem_sts {n : Nat} {x : Nat × Bool} : x ∈ sts n ↔ x.1 < n := by
  obtain ⟨u, b⟩ := x
  simp only [sts, List.mem_flatMap, List.mem_range]
  constructor
  · rintro ⟨w, h, q⟩
    cases b <;> simp_all
  · intro h
    exact ⟨u, h, by cases b <;> simp⟩
theorem length_sts (n : Nat) : (sts n).length = 2 * n := by
  induction n with
  | zero => rfl
  | succ n ih =>
    unfold sts at ih ⊢
    rw [List.range_succ, List.flatMap_append, List.length_append, ih]
    simp; omega

/-- from the end: whether a strict step is still wanted -/
def RB (S : List Step) (x : Nat × Bool) (l : List Nat) (y : Nat × Bool) : Prop := ∃ st, st ∈ S ∧ st.source = x.1 ∧ st.target = y.1 ∧ y.2 = (x.2 && !st.strict) ∧ l = st.facts
/-- from the start: whether a step was strict -/
def RF (S : List Step) (x : Nat × Bool) (l : List Nat) (y : Nat × Bool) : Prop := ∃ st, st ∈ S ∧ st.source = x.1 ∧ st.target = y.1 ∧ y.2 = (x.2 || st.strict) ∧ l = st.facts
theorem Walk.pathB {S : List Step} {n : Nat} (hS : Bd S n) {u v : Nat} {b : Bool} {L : List Nat} (w : Walk S u b L v) : u < n → ∀ need, ∃ m, Path (RB S) (sts n) (u, need) L (v, need && !b) m := by
  induction w with
  | nil u => intro hu need; exact ⟨0, by simpa using Path.nil (R := RB S) (A := sts n) (x := (u, need)) (mem_sts.mpr hu)⟩
  | @cons u st b L v h e w ih =>
    intro hu need
    obtain ⟨m, p⟩ := ih (hS st h).2.1 (need && !st.strict)
    refine ⟨m + 1, ?_⟩
    have q := Path.cons (R := RB S) (A := sts n) (x := (u, need)) (l := st.facts) (mem_sts.mpr hu) ⟨st, h, e, rfl, rfl, rfl⟩ p
    have e2 : (need && !st.strict && !b) = (need && !(st.strict || b)) := by cases need <;> cases st.strict <;> cases b <;> rfl
    rw [e2] at q
    exact q
theorem Walk.pathF {S : List Step} {n : Nat} (hS : Bd S n) {u v : Nat} {b : Bool} {L : List Nat} (w : Walk S u b L v) : u < n → ∀ c, ∃ m, Path (RF S) (sts n) (u, c) L (v, c || b) m := by
  induction w with
  | nil u => intro hu need; exact ⟨0, by simpa using Path.nil (R := RF S) (A := sts n) (x := (u, need)) (mem_sts.mpr hu)⟩
  | @cons u st b L v h e w ih =>
    intro hu need
    obtain ⟨m, p⟩ := ih (hS st h).2.1 (need || st.strict)
    refine ⟨m + 1, ?_⟩
    have q := Path.cons (R := RF S) (A := sts n) (x := (u, need)) (l := st.facts) (mem_sts.mpr hu) ⟨st, h, e, rfl, rfl, rfl⟩ p
    rw [Bool.or_assoc] at q
    exact q
theorem Path.walkB {S : List Step} {A : List (Nat × Bool)} {x y : Nat × Bool} {L : List Nat} {m : Nat} (p : Path (RB S) A x L y m) : ∃ b, Walk S x.1 b L y.1 ∧ y.2 = (x.2 && !b) := by
  induction p with
  | @nil x h => exact ⟨false, .nil _, by simp⟩
  | cons h r p ih =>
    obtain ⟨st, h1, h2, h3, h4, h5⟩ := r
    obtain ⟨b, w, e⟩ := ih
    refine ⟨st.strict || b, ?_, ?_⟩
    · rw [h5]; exact .cons h1 h2 (by rw [h3]; exact w)
    · rw [e, h4]; rename_i x _ _ _ _ _; cases x.2 <;> cases st.strict <;> cases b <;> rfl
theorem Path.walkF {S : List Step} {A : List (Nat × Bool)} {x y : Nat × Bool} {L : List Nat} {m : Nat} (p : Path (RF S) A x L y m) : ∃ b, Walk S x.1 b L y.1 ∧ y.2 = (x.2 || b) := by
  induction p with
  | @nil x h => exact ⟨false, .nil _, by simp⟩
  | cons h r p ih =>
    obtain ⟨st, h1, h2, h3, h4, h5⟩ := r
    obtain ⟨b, w, e⟩ := ih
    refine ⟨st.strict || b, ?_, ?_⟩
    · rw [h5]; exact .cons h1 h2 (by rw [h3]; exact w)
    · rw [e, h4, Bool.or_assoc]

/-! ### the specification's rounds -/
/-- walks from u to d, strict ones if s -/
def WS (S : List Step) (u : Nat) (s : Bool) (d : Nat) (L : List Nat) : Prop := ∃ b, Walk S u b L d ∧ (s = true → b = true)
def get (best : BestChains) (u : Nat) (s : Bool) : Option (List Nat) := if s = true then (best.getD u (none, none)).2 else (best.getD u (none, none)).1
/-- at least as good -/
def OLe (o o' : Option (List Nat)) : Prop := ∀ L, o' = some L → ∃ L', o = some L' ∧ SLe L' L
theorem OLe.refl (o : Option (List Nat)) : OLe o o := fun L e => ⟨L, e, .refl L⟩
theorem OLe.trans {a b c : Option (List Nat)} (h1 : OLe a b) (h2 : OLe b c) : OLe a c := fun L e => by
  obtain ⟨M, e2, l2⟩ := h2 L e
  obtain ⟨N, e1, l1⟩ := h1 M e2
  exact ⟨N, e1, l1.trans l2⟩
theorem OLe.map {a b : Option (List Nat)} (h : OLe a b) (c : List Nat) : OLe (a.map (c ++ ·)) (b.map (c ++ ·)) := fun L e => by
  obtain ⟨M, e2, e3⟩ := Option.map_eq_some_iff.mp e
  obtain ⟨N, e1, l1⟩ := h M e2
  refine ⟨c ++ N, by rw [e1]; rfl, ?_⟩
  rw [← e3]
  exact l1.append_left c
theorem betterOf_le_left (a b : Option (List Nat)) : OLe (betterOf a b) a := fun L e => by
  subst e
  cases b with
  | none => exact ⟨L, rfl, .refl L⟩
  | some M =>
    show ∃ L', (if preferred M L = true then some M else some L) = some L' ∧ _
    by_cases c : preferred M L = true
    · rw [if_pos c]; exact ⟨M, rfl, .inl (preferred_iff.mp c)⟩
    · rw [if_neg c]; exact ⟨L, rfl, .refl L⟩
theorem betterOf_le_right (a b : Option (List Nat)) : OLe (betterOf a b) b := fun L e => by
  subst e
  cases a with
  | none => exact ⟨L, rfl, .refl L⟩
  | some M =>
    show ∃ L', (if preferred L M = true then some L else some M) = some L' ∧ _
    by_cases c : preferred L M = true
    · rw [if_pos c]; exact ⟨L, rfl, .refl L⟩
    · rw [if_neg c]
      refine ⟨M, rfl, (SLt.total L M).elim (fun z => absurd (preferred_iff.mpr z) c) id⟩
theorem betterOf_cases {a b : Option (List Nat)} {L : List Nat} (h : betterOf a b = some L) : a = some L ∨ b = some L := by
  cases a with
  | none => exact .inr (by cases b <;> exact h)
  | some M => cases b with
    | none => exact .inl h
    | some N =>
      have h' : (if preferred N M = true then some N else some M) = some L := h
      by_cases c : preferred N M = true
      · rw [if_pos c] at h'; exact .inr h'
      · rw [if_neg c] at h'; exact .inl h'
theorem relax_length (best : BestChains) (st : Step) : (relax best st).length = best.length := by simp [relax]
theorem relax_get {best : BestChains} {st : Step} (hl : st.source < best.length) (u : Nat) (s : Bool) :
    get (relax best st) u s = if u = st.source then betterOf (get best u s) ((get best st.target (s && !st.strict)).map (st.facts ++ ·)) else get best u s := by
  unfold relax get
  by_cases e : u = st.source
  · subst e
    rw [if_pos rfl]
    simp only [List.getD_eq_getElem?_getD, List.getElem?_set_self hl, Option.getD_some]
    cases s <;> cases hs : st.strict <;> simp
  · rw [if_neg e]
    simp only [List.getD_eq_getElem?_getD, List.getElem?_set_ne (Ne.symm e)]
theorem relax_le {best : BestChains} {st : Step} (hl : st.source < best.length) (u : Nat) (s : Bool) : OLe (get (relax best st) u s) (get best u s) := by
  rw [relax_get hl]
  split
  · exact betterOf_le_left _ _
  · exact .refl _
theorem fold_length (S : List Step) : ∀ best : BestChains, (S.foldl relax best).length = best.length := by
  induction S with
  | nil => intro best; rfl
  | cons st S ih => intro best; rw [List.foldl_cons, ih, relax_length]
theorem fold_le {S : List Step} : ∀ {best : BestChains}, (∀ st ∈ S, st.source < best.length) → ∀ u s, OLe (get (S.foldl relax best) u s) (get best u s) := by
  induction S with
  | nil => intro best _ u s; exact .refl _
  | cons st S ih =>
    intro best h u s
    rw [List.foldl_cons]
    exact (ih (fun t ht => by rw [relax_length]; exact h t (List.mem_cons_of_mem _ ht)) u s).trans (relax_le (h st List.mem_cons_self) u s)
theorem fold_hit {S : List Step} : ∀ {best : BestChains}, (∀ st ∈ S, st.source < best.length) → ∀ st ∈ S, ∀ s, OLe (get (S.foldl relax best) st.source s) ((get best st.target (s && !st.strict)).map (st.facts ++ ·)) := by
  induction S with
  | nil => intro best _ st h; cases h
  | cons t S ih =>
    intro best h st hst s
    have hb : ∀ x ∈ S, x.source < (relax best t).length := fun x hx => by rw [relax_length]; exact h x (List.mem_cons_of_mem _ hx)
    rw [List.foldl_cons]
    rcases List.mem_cons.mp hst with e | hst
    · subst e
      refine (fold_le hb _ _).trans ?_
      rw [relax_get (h st List.mem_cons_self), if_pos rfl]
      exact betterOf_le_right _ _
    · exact (ih hb st hst s).trans ((relax_le (h t List.mem_cons_self) _ _).map _)
section
variable {S : List Step} {n d : Nat}
/-- as good as all paths of at most k steps -/
def Compl (S : List Step) (n d k : Nat) (best : BestChains) : Prop := ∀ x L m, Path (RB S) (sts n) x L (d, false) m → m ≤ k → OLe (get best x.1 x.2) (some L)
theorem compl_round {k : Nat} {best : BestChains} (hl : best.length = n) (hS : Bd S n) (h : Compl S n d k best) : Compl S n d (k + 1) (S.foldl relax best) := by
  have hb : ∀ st ∈ S, st.source < best.length := fun st hst => by rw [hl]; exact (hS st hst).1
  intro x L m p hm
  cases p with
  | nil hx => exact (fold_le hb _ _).trans (h (d, false) [] 0 (.nil hx) (Nat.zero_le _))
  | @cons _ y _ l L' m' hx r p' =>
    obtain ⟨st, h1, h2, h3, h4, h5⟩ := r
    have q := h y L' m' p' (by omega)
    rw [← h2, h5]
    refine (fold_hit hb st h1 x.2).trans ?_
    rw [← h4, h3]
    exact q.map st.facts
theorem compl_rounds (hS : Bd S n) : ∀ (r : Nat) {k : Nat} {best : BestChains}, best.length = n → Compl S n d k best → Compl S n d (k + r) (relaxRounds S r best)
  | 0, k, best, _, h => h
  | r + 1, k, best, hl, h => by
    have := compl_rounds hS r (k := k + 1) (best := S.foldl relax best) (by rw [fold_length]; exact hl) (compl_round hl hS h)
    rw [show k + (r + 1) = k + 1 + r by omega]
    exact this
/-- every entry is a walk's -/
def Sound (S : List Step) (d : Nat) (best : BestChains) : Prop := ∀ u s L, get best u s = some L → WS S u s d L
theorem sound_relax {best : BestChains} {st : Step} (hst : st ∈ S) (hl : st.source < best.length) (h : Sound S d best) : Sound S d (relax best st) := by
  intro u s L e
  rw [relax_get hl] at e
  by_cases c : u = st.source
  · rw [if_pos c] at e
    rcases betterOf_cases e with e | e
    · exact h u s L e
    · obtain ⟨M, e1, e2⟩ := Option.map_eq_some_iff.mp e
      obtain ⟨b, w, hb⟩ := h _ _ M e1
      refine ⟨st.strict || b, ?_, fun hs => ?_⟩
      · rw [← e2]; exact .cons hst c.symm w
      · subst hs
        cases hk : st.strict with
        | true => rfl
        | false => simpa using hb (by simp [hk])
  · rw [if_neg c] at e
    exact h u s L e
theorem sound_fold : ∀ (T : List Step) {best : BestChains}, (∀ st ∈ T, st ∈ S) → (∀ st ∈ T, st.source < best.length) → Sound S d best → Sound S d (T.foldl relax best)
  | [], _, _, _, h => h
  | t :: T, best, hT, hl, h => by
    rw [List.foldl_cons]
    exact sound_fold T (fun st hst => hT st (List.mem_cons_of_mem _ hst)) (fun st hst => by rw [relax_length]; exact hl st (List.mem_cons_of_mem _ hst)) (sound_relax (hT t List.mem_cons_self) (hl t List.mem_cons_self) h)
theorem sound_rounds (hS : Bd S n) : ∀ (r : Nat) {best : BestChains}, best.length = n → Sound S d best → Sound S d (relaxRounds S r best)
  | 0, _, _, h => h
  | r + 1, best, hl, h => sound_rounds hS r (by rw [fold_length]; exact hl) (sound_fold S (fun _ h => h) (fun st hst => by rw [hl]; exact (hS st hst).1) h)
theorem init_get {u : Nat} {s : Bool} : get ((List.range nodeCount).map fun (node : Nat) => if node = d then (some [], none) else (none, none)) u s = if u < 14 ∧ u = d ∧ s = false then some [] else none := by
  unfold get
  rw [List.getD_eq_getElem?_getD, List.getElem?_map]
  by_cases h : u < 14
  · rw [List.getElem?_range (show u < nodeCount from h)]
    simp only [Option.map_some, Option.getD_some, h, true_and]
    by_cases e : u = d
    · simp only [e, if_true, true_and]; cases s <;> simp
    · simp only [e, if_false, false_and]; cases s <;> simp
  · rw [List.getElem?_eq_none (by rw [List.length_range]; exact Nat.le_of_not_lt h)]
    simp [h]
/-- the specification's table holds the best walks -/
theorem bestChains_ok (hS : Bd S 14) (hd : d < 14) {u : Nat} (hu : u < 14) (s : Bool) : Answers (WS S u s d) (get (bestChainsTo S d) u s) := by
  have hl : ((List.range nodeCount).map fun (node : Nat) => if node = d then ((some [], none) : Option (List Nat) × Option (List Nat)) else (none, none)).length = 14 := by simp [nodeCount]
  have c0 : Compl S 14 d 0 ((List.range nodeCount).map fun (node : Nat) => if node = d then (some [], none) else (none, none)) := by
    intro x L m p hm
    cases p with
    | nil hx =>
      rw [init_get, if_pos ⟨hd, rfl, rfl⟩]
      exact .refl _
    | cons _ _ _ => omega
  have s0 : Sound S d ((List.range nodeCount).map fun (node : Nat) => if node = d then (some [], none) else (none, none)) := by
    intro u s L e
    rw [init_get] at e
    by_cases c : u < 14 ∧ u = d ∧ s = false
    · rw [if_pos c] at e
      cases e
      obtain ⟨_, rfl, rfl⟩ := c
      exact ⟨false, .nil _, fun z => by cases z⟩
    · rw [if_neg c] at e; cases e
  have C := compl_rounds hS (2 * nodeCount) hl c0
  have Sd := sound_rounds hS (2 * nodeCount) hl s0
  have all : ∀ L, WS S u s d L → OLe (get (bestChainsTo S d) u s) (some L) := by
    rintro L ⟨b, w, hb⟩
    obtain ⟨m, p⟩ := w.pathB hS hu s
    obtain ⟨L', m', p', hm, hle⟩ := p.short
    have e : (s && !b) = false := by
      cases s with
      | false => rfl
      | true => rw [hb rfl]; rfl
    rw [e] at p'
    rw [length_sts] at hm
    have q := C (u, s) L' m' p' (by show m' ≤ 0 + 2 * 14; omega)
    intro M eM
    cases eM
    obtain ⟨N, e1, l1⟩ := q L' rfl
    exact ⟨N, e1, l1.trans hle⟩
  cases e : get (bestChainsTo S d) u s with
  | none =>
    intro L w
    obtain ⟨N, e1, _⟩ := all L w L rfl
    rw [e] at e1; cases e1
  | some L =>
    refine ⟨Sd u s L e, fun L' w => ?_⟩
    obtain ⟨N, e1, l1⟩ := all L' w L' rfl
    rw [e] at e1; cases e1
    exact l1
theorem chain_ok (hS : Bd S 14) (hd : d < 14) {u : Nat} (hu : u < 14) : Answers (fun L => ∃ b, Walk S u b L d) (chain S u d) :=
  (show Answers _ (chain S u d) from bestChains_ok hS hd hu false).congr fun L => ⟨fun ⟨b, w, _⟩ => ⟨b, w⟩, fun ⟨b, w⟩ => ⟨b, w, fun z => by cases z⟩⟩
theorem strictChain_ok (hS : Bd S 14) (hd : d < 14) {u : Nat} (hu : u < 14) : Answers (fun L => Walk S u true L d) (strictChain S u d) :=
  (show Answers _ (strictChain S u d) from bestChains_ok hS hd hu true).congr fun L => ⟨fun ⟨b, w, h⟩ => by rw [h rfl] at w; exact w, fun w => ⟨true, w, fun _ => rfl⟩⟩
end
end SG

/-! M3: the program's chains (chains.py), as plain functions, and that they are the best walks -/
set_option linter.all false
namespace SG
open Stratigraphy

/-! ### tables -/
section
variable {κ β : Type} [DecidableEq κ]
def look (t : List (κ × β)) (k : κ) : Option β := (t.find? fun p => decide (p.1 = k)).map (·.2)
def put (t : List (κ × β)) (k : κ) (v : β) : List (κ × β) := if (look t k).isSome = true then t.map (fun p => if p.1 = k then (p.1, v) else p) else t ++ [(k, v)]
theorem look_cons (p : κ × β) (t : List (κ × β)) (k : κ) : look (p :: t) k = if p.1 = k then some p.2 else look t k := by
  unfold look
  rw [List.find?_cons]
  by_cases h : p.1 = k <;> simp [h]
theorem look_nil (k : κ) : look ([] : List (κ × β)) k = none := rfl
theorem look_map (k j : κ) (v : β) : ∀ t : List (κ × β), look (t.map fun p => if p.1 = k then (p.1, v) else p) j = (look t j).map fun x => if j = k then v else x
  | [] => rfl
  | p :: t => by
    rw [List.map_cons, look_cons, look_cons, look_map k j v t]
    by_cases h : p.1 = k
    · by_cases e : p.1 = j
      · simp [h, e, e.symm.trans h]
      · have : ¬ k = j := fun q => e (h.trans q)
        simp [h, e, this]
    · by_cases e : p.1 = j
      · have : ¬ j = k := fun q => h (e.trans q)
        simp [h, e, this]
      · simp [h, e]
theorem look_append (a b : List (κ × β)) (k : κ) : look (a ++ b) k = (look a k).or (look b k) := by
  induction a with
  | nil => simp [look_nil]
  | cons p a ih =>
    rw [List.cons_append, look_cons, look_cons, ih]
    by_cases h : p.1 = k <;> simp [h]
theorem look_put (t : List (κ × β)) (k j : κ) (v : β) : look (put t k v) j = if j = k then some v else look t j := by
  unfold put
  by_cases h : (look t k).isSome = true
  · rw [if_pos h, look_map]
    by_cases e : j = k
    · subst e
      obtain ⟨x, hx⟩ := Option.isSome_iff_exists.mp h
      simp [hx]
    · simp [e]
  · rw [if_neg h, look_append, look_cons, look_nil]
    by_cases e : j = k
    · subst e
      have : look t j = none := by simpa using h
      simp [this]
    · have : ¬ k = j := fun q => e q.symm
      simp [this, e]
theorem mem_keys (t : List (κ × β)) (k : κ) : k ∈ t.map (·.1) ↔ ∃ v, look t k = some v := by
  induction t with
  | nil => simp [look_nil]
  | cons p t ih =>
    rw [List.map_cons, List.mem_cons, look_cons, ih]
    by_cases h : p.1 = k
    · simp [h]
    · have : ¬ k = p.1 := fun q => h q.symm
      simp [h, this]
theorem keys_put (t : List (κ × β)) (k : κ) (v : β) : (put t k v).map (·.1) = if (look t k).isSome = true then t.map (·.1) else t.map (·.1) ++ [k] := by
  unfold put
  by_cases h : (look t k).isSome = true
  · rw [if_pos h, if_pos h, List.map_map]
    refine List.map_congr_left fun p _ => ?_
    by_cases e : p.1 = k <;> simp [e]
  · rw [if_neg h, if_neg h]; simp
theorem nodup_put {t : List (κ × β)} (k : κ) (v : β) (h : (t.map (·.1)).Nodup) : ((put t k v).map (·.1)).Nodup := by
  rw [keys_put]
  by_cases c : (look t k).isSome = true
  · rw [if_pos c]; exact h
  · rw [if_neg c]
    have hn : k ∉ t.map (·.1) := fun q => by
      obtain ⟨v, e⟩ := (mem_keys t k).mp q
      rw [e] at c; exact c rfl
    rw [List.nodup_append]
    refine ⟨h, by simp, fun a ha b hb => ?_⟩
    rw [List.mem_singleton] at hb
    subst hb
    rintro rfl
    exact hn ha
def putAll (f : List (κ × β)) (g : List (κ × β)) : List (κ × β) := g.foldl (fun f p => put f p.1 p.2) f
theorem look_putAll (k : κ) : ∀ (g f : List (κ × β)), (g.map (·.1)).Nodup → look (putAll f g) k = (look g k).or (look f k)
  | [], f, _ => by simp [putAll, look_nil]
  | p :: g, f, h => by
    rw [List.map_cons, List.nodup_cons] at h
    show look (putAll (put f p.1 p.2) g) k = _
    rw [look_putAll k g _ h.2, look_put, look_cons]
    by_cases e : k = p.1
    · have hg : look g k = none := by
        cases q : look g k with
        | none => rfl
        | some v => exact absurd ((mem_keys g k).mpr ⟨v, q⟩) (by rw [e]; exact h.1)
      rw [hg, if_pos e, if_pos e.symm]; rfl
    · have : ¬ p.1 = k := fun q => e q.symm
      simp [this, e]
end

/-! ### Python's order of tuples of ids -/
def pyLt : List Nat → List Nat → Bool
  | [], [] => false
  | [], _ :: _ => true
  | _ :: _, [] => false
  | x :: xs, y :: ys => if x = y then pyLt xs ys else decide (x < y)
theorem pyLt_lex : ∀ {a b : List Nat}, a.length = b.length → pyLt a b = lexLess a b
  | [], [], _ => rfl
  | [], _ :: _, h => by simp at h
  | _ :: _, [], h => by simp at h
  | x :: xs, y :: ys, h => by
    have ih := pyLt_lex (a := xs) (b := ys) (by simpa using h)
    simp only [pyLt, lexLess]
    by_cases e : x = y
    · simp [e, ih]
    · simp [e]
/-- min(a, b) -/
def minT (a b : List Nat) : List Nat := if pyLt b a = true then b else a
theorem minT_cases (a b : List Nat) : minT a b = a ∨ minT a b = b := by
  unfold minT; split
  · exact .inr rfl
  · exact .inl rfl
theorem minT_le {a b : List Nat} (h : a.length = b.length) : SLe (minT a b) a ∧ SLe (minT a b) b := by
  unfold minT
  rw [pyLt_lex h.symm]
  by_cases c : lexLess b a = true
  · rw [if_pos c]; exact ⟨.inl (.inr ⟨h.symm, c⟩), .refl _⟩
  · rw [if_neg c]
    refine ⟨.refl _, ?_⟩
    by_cases e : a = b
    · exact .inr e
    · rcases lex_total h e with q | q
      · exact .inl (.inr ⟨h, q⟩)
      · exact absurd q c

/-! ### chains_from -/
abbrev SK := Nat × Bool
abbrev Tab := List (SK × List Nat)
def trySt (found : Tab) (st : Step) (fresh : Tab) (state : SK) : Tab :=
  if state.1 = st.source ∧ look found (st.target, state.2 || st.strict) = none then
    put fresh (st.target, state.2 || st.strict) (minT ((look found state).getD [] ++ st.facts) ((look fresh (st.target, state.2 || st.strict)).getD ((look found state).getD [] ++ st.facts)))
  else fresh
def tryStep (layers : List (List SK)) (found : Tab) (length : Nat) (fresh : Tab) (st : Step) : Tab :=
  if st.facts.length ≤ length then (layers.getD (length - st.facts.length) []).foldl (trySt found st) fresh else fresh
def nextStates (S : List Step) (layers : List (List SK)) (found : Tab) (length : Nat) : Tab := S.foldl (tryStep layers found length) []
def round (S : List Step) (p : Tab × List (List SK)) (length : Nat) : Tab × List (List SK) :=
  (putAll p.1 (nextStates S p.2 p.1 length), p.2 ++ [(nextStates S p.2 p.1 length).map (·.1)])
def rounds (S : List Step) (start : Nat) (n : Nat) : Tab × List (List SK) := (List.range n).foldl (fun p i => round S p (i + 1)) ([((start, false), [])], [[(start, false)]])
def chainsFrom (S : List Step) (start : Nat) : Tab := (rounds S start 48).1
theorem rounds_succ (S : List Step) (start n : Nat) : rounds S start (n + 1) = round S (rounds S start n) (n + 1) := by
  unfold rounds
  rw [List.range_succ, List.foldl_append]
  rfl

theorem foldl_inv {α β : Type} {P : β → Prop} {f : β → α → β} : ∀ (l : List α) (b : β), (∀ b x, x ∈ l → P b → P (f b x)) → P b → P (l.foldl f b)
  | [], _, _, h => h
  | x :: l, b, hs, h => foldl_inv l (f b x) (fun b y hy => hs b y (List.mem_cons_of_mem _ hy)) (hs b x List.mem_cons_self h)
theorem foldl_hit {α β : Type} {P Q : β → Prop} {f : β → α → β} (x0 : α) (h0 : ∀ b, P b → Q (f b x0)) : ∀ (l : List α) (b : β), x0 ∈ l → (∀ b x, x ∈ l → P b → P (f b x)) → (∀ b x, x ∈ l → P b → Q b → Q (f b x)) → P b → Q (l.foldl f b)
  | [], _, h, _, _, _ => by cases h
  | x :: l, b, hx, hP, hQ, h => by
    rw [List.foldl_cons]
    rcases List.mem_cons.mp hx with e | hx
    · subst e
      have := foldl_inv (P := fun b => P b ∧ Q b) l (f b x0) (fun b y hy ⟨p, q⟩ => ⟨hP b y (List.mem_cons_of_mem _ hy) p, hQ b y (List.mem_cons_of_mem _ hy) p q⟩) ⟨hP b x0 List.mem_cons_self h, h0 b h⟩
      exact this.2
    · exact foldl_hit x0 h0 l (f b x) hx (fun b y hy => hP b y (List.mem_cons_of_mem _ hy)) (fun b y hy => hQ b y (List.mem_cons_of_mem _ hy)) (hP b x List.mem_cons_self h)

section
variable {S : List Step} {start : Nat}
/-- what holds behind the rounds up to l -/
structure RInv (S : List Step) (start l : Nat) (p : Tab × List (List SK)) : Prop where
  len : p.2.length = l + 1
  nd : (p.1.map (·.1)).Nodup
  snd : ∀ k L, look p.1 k = some L → Walk S start k.2 L k.1 ∧ L.length ≤ l
  cpl : ∀ v b L, Walk S start b L v → L.length ≤ l → ∃ L', look p.1 (v, b) = some L' ∧ SLe L' L
  lay : ∀ j, j ≤ l → ∀ k, k ∈ p.2.getD j [] ↔ ∃ L, look p.1 k = some L ∧ L.length = j
/-- what holds of the fresh ones -/
structure FInv (S : List Step) (start l : Nat) (found fresh : Tab) : Prop where
  nd : (fresh.map (·.1)).Nodup
  ok : ∀ k L, look fresh k = some L → look found k = none ∧ Walk S start k.2 L k.1 ∧ L.length = l + 1
theorem trySt_inv {l : Nat} {p : Tab × List (List SK)} (R : RInv S start l p) {st : Step} (hst : st ∈ S) (hf : st.facts ≠ []) (hle : st.facts.length ≤ l + 1) {fresh : Tab} {s : SK} (hs : s ∈ p.2.getD (l + 1 - st.facts.length) [])
    (F : FInv S start l p.1 fresh) : FInv S start l p.1 (trySt p.1 st fresh s) := by
  unfold trySt
  by_cases c : s.1 = st.source ∧ look p.1 (st.target, s.2 || st.strict) = none
  · rw [if_pos c]
    have hpos : 0 < st.facts.length := List.length_pos_iff.mpr hf
    obtain ⟨M, hM, hl⟩ := (R.lay _ (by omega) s).mp hs
    rw [hM]
    simp only [Option.getD_some]
    have w : Walk S start (s.2 || st.strict) (M ++ st.facts) st.target := (R.snd s M hM).1.trans (by have := Walk.one hst; rw [← c.1] at this; exact this)
    have hlen : (M ++ st.facts).length = l + 1 := by rw [List.length_append]; omega
    refine ⟨nodup_put _ _ F.nd, fun k L e => ?_⟩
    rw [look_put] at e
    by_cases ek : k = (st.target, s.2 || st.strict)
    · rw [if_pos ek] at e
      cases e
      subst ek
      refine ⟨c.2, ?_⟩
      rcases minT_cases (M ++ st.facts) ((look fresh (st.target, s.2 || st.strict)).getD (M ++ st.facts)) with q | q
      · rw [q]; exact ⟨w, hlen⟩
      · rw [q]
        cases e2 : look fresh (st.target, s.2 || st.strict) with
        | none => exact ⟨w, hlen⟩
        | some N => exact (F.ok _ N e2).2
    · rw [if_neg ek] at e
      exact F.ok k L e
  · rw [if_neg c]; exact F
theorem trySt_le {l : Nat} {p : Tab × List (List SK)} (R : RInv S start l p) {st : Step} (hst : st ∈ S) (hf : st.facts ≠ []) (hle : st.facts.length ≤ l + 1) {fresh : Tab} {s : SK} (hs : s ∈ p.2.getD (l + 1 - st.facts.length) [])
    (F : FInv S start l p.1 fresh) (k : SK) : OLe (look (trySt p.1 st fresh s) k) (look fresh k) := by
  unfold trySt
  by_cases c : s.1 = st.source ∧ look p.1 (st.target, s.2 || st.strict) = none
  · rw [if_pos c, look_put]
    by_cases ek : k = (st.target, s.2 || st.strict)
    · rw [if_pos ek]
      intro L e
      rw [← ek, e]
      simp only [Option.getD_some]
      have hpos : 0 < st.facts.length := List.length_pos_iff.mpr hf
      obtain ⟨M, hM, hl⟩ := (R.lay _ (by omega) s).mp hs
      rw [hM]
      simp only [Option.getD_some]
      refine ⟨_, rfl, (minT_le ?_).2⟩
      rw [(F.ok k L e).2.2, List.length_append]; omega
    · rw [if_neg ek]; exact .refl _
  · rw [if_neg c]; exact .refl _
theorem trySt_hit {l : Nat} {p : Tab × List (List SK)} (R : RInv S start l p) {st : Step} (hst : st ∈ S) (hf : st.facts ≠ []) (hle : st.facts.length ≤ l + 1) {fresh : Tab} {s : SK} {M : List Nat} (hM : look p.1 s = some M) (hl : M.length = l + 1 - st.facts.length)
    (F : FInv S start l p.1 fresh) (h1 : s.1 = st.source) (h2 : look p.1 (st.target, s.2 || st.strict) = none) : OLe (look (trySt p.1 st fresh s) (st.target, s.2 || st.strict)) (some (M ++ st.facts)) := by
  unfold trySt
  rw [if_pos ⟨h1, h2⟩, look_put, if_pos rfl, hM]
  simp only [Option.getD_some]
  intro L e
  cases e
  have hpos : 0 < st.facts.length := List.length_pos_iff.mpr hf
  refine ⟨_, rfl, (minT_le ?_).1⟩
  cases e2 : look fresh (st.target, s.2 || st.strict) with
  | none => rfl
  | some N =>
    simp only [Option.getD_some]
    rw [(F.ok _ N e2).2.2, List.length_append]; omega
theorem tryStep_inv {l : Nat} {p : Tab × List (List SK)} (R : RInv S start l p) {st : Step} (hst : st ∈ S) (hf : st.facts ≠ []) {fresh : Tab} (F : FInv S start l p.1 fresh) : FInv S start l p.1 (tryStep p.2 p.1 (l + 1) fresh st) := by
  unfold tryStep
  by_cases c : st.facts.length ≤ l + 1
  · rw [if_pos c]
    exact foldl_inv (P := FInv S start l p.1) _ _ (fun b x hx hb => trySt_inv R hst hf c hx hb) F
  · rw [if_neg c]; exact F
theorem next_inv {l : Nat} {p : Tab × List (List SK)} (R : RInv S start l p) (hS : ∀ st ∈ S, st.facts ≠ []) : FInv S start l p.1 (nextStates S p.2 p.1 (l + 1)) := by
  unfold nextStates
  exact foldl_inv (P := FInv S start l p.1) _ _ (fun b st hst hb => tryStep_inv R hst (hS st hst) hb) ⟨by simp, fun k L e => by rw [look_nil] at e; cases e⟩
theorem next_hit {l : Nat} {p : Tab × List (List SK)} (R : RInv S start l p) (hS : ∀ st ∈ S, st.facts ≠ []) {st : Step} (hst : st ∈ S) {s : SK} {M : List Nat} (hM : look p.1 s = some M) (hl : M.length + st.facts.length = l + 1)
    (h1 : s.1 = st.source) (h2 : look p.1 (st.target, s.2 || st.strict) = none) : OLe (look (nextStates S p.2 p.1 (l + 1)) (st.target, s.2 || st.strict)) (some (M ++ st.facts)) := by
  have hpos : 0 < st.facts.length := List.length_pos_iff.mpr (hS st hst)
  have hmem : s ∈ p.2.getD (l + 1 - st.facts.length) [] := (R.lay _ (by omega) s).mpr ⟨M, hM, by omega⟩
  unfold nextStates
  refine foldl_hit (P := FInv S start l p.1) (Q := fun fresh => OLe (look fresh (st.target, s.2 || st.strict)) (some (M ++ st.facts))) st ?_ S [] hst (fun b x hx hb => tryStep_inv R hx (hS x hx) hb) ?_ ⟨by simp, fun k L e => by rw [look_nil] at e; cases e⟩
  · intro fresh F
    unfold tryStep
    rw [if_pos (by omega)]
    exact foldl_hit (P := FInv S start l p.1) (Q := fun fresh => OLe (look fresh (st.target, s.2 || st.strict)) (some (M ++ st.facts))) s (fun fresh F => trySt_hit R hst (hS st hst) (by omega) hM (by omega) F h1 h2) _ _ hmem (fun b x hx hb => trySt_inv R hst (hS st hst) (by omega) hx hb)
      (fun b x hx hb q => (trySt_le R hst (hS st hst) (by omega) hx hb _).trans q) F
  · intro fresh t ht F q
    unfold tryStep
    by_cases c : t.facts.length ≤ l + 1
    · rw [if_pos c]
      exact (foldl_inv (P := fun fresh => FInv S start l p.1 fresh ∧ OLe (look fresh (st.target, s.2 || st.strict)) (some (M ++ st.facts))) _ _ (fun b x hx ⟨hb, q⟩ => ⟨trySt_inv R ht (hS t ht) c hx hb, (trySt_le R ht (hS t ht) c hx hb _).trans q⟩) ⟨F, q⟩).2
    · rw [if_neg c]; exact q
theorem getD_append {α : Type} (a : List α) (x d : α) (j : Nat) : (a ++ [x]).getD j d = if j = a.length then x else a.getD j d := by
  rw [List.getD_eq_getElem?_getD, List.getD_eq_getElem?_getD, List.getElem?_append]
  by_cases h : j < a.length
  · rw [if_pos h, if_neg (by omega)]
  · rw [if_neg h]
    by_cases e : j = a.length
    · subst e; simp
    · rw [if_neg e]
      rw [List.getElem?_eq_none (by simp; omega), List.getElem?_eq_none (by omega)]
theorem round_inv {l : Nat} {p : Tab × List (List SK)} (R : RInv S start l p) (hS : ∀ st ∈ S, st.facts ≠ []) : RInv S start (l + 1) (round S p (l + 1)) := by
  have F := next_inv R hS
  have lk : ∀ k, look (putAll p.1 (nextStates S p.2 p.1 (l + 1))) k = (look (nextStates S p.2 p.1 (l + 1)) k).or (look p.1 k) := fun k => look_putAll k _ _ F.nd
  refine ⟨?_, ?_, fun k L e => ?_, fun v b L w hl => ?_, fun j hj k => ?_⟩
  · show (p.2 ++ [_]).length = _
    rw [List.length_append, R.len]; rfl
  · exact foldl_inv (P := fun t : Tab => (t.map (·.1)).Nodup) _ _ (fun b x _ hb => nodup_put _ _ hb) R.nd
  · have e' : (look (nextStates S p.2 p.1 (l + 1)) k).or (look p.1 k) = some L := (lk k).symm.trans e
    cases q : look (nextStates S p.2 p.1 (l + 1)) k with
    | some M =>
      rw [q] at e'
      cases e'
      exact ⟨(F.ok k L q).2.1, Nat.le_of_eq (F.ok k L q).2.2⟩
    | none =>
      rw [q] at e'
      have := R.snd k L e'
      exact ⟨this.1, by omega⟩
  · show ∃ L', look (putAll p.1 (nextStates S p.2 p.1 (l + 1))) (v, b) = some L' ∧ _
    rw [lk]
    have old : ∀ M, look p.1 (v, b) = some M → look (nextStates S p.2 p.1 (l + 1)) (v, b) = none := fun M e => by
      cases q : look (nextStates S p.2 p.1 (l + 1)) (v, b) with
      | none => rfl
      | some N => have := (F.ok _ N q).1; rw [e] at this; cases this
    by_cases hlt : L.length ≤ l
    · obtain ⟨L', e1, h1⟩ := R.cpl v b L w hlt
      rw [old L' e1, e1]
      exact ⟨L', rfl, h1⟩
    · have hlen : L.length = l + 1 := by omega
      cases q : look p.1 (v, b) with
      | some M =>
        rw [old M q]
        exact ⟨M, rfl, .of_len (by have := (R.snd _ M q).2; omega)⟩
      | none =>
        rcases w.unsnoc with ⟨e1, e2, e3⟩ | ⟨st, hst, b', L1, e1, w1, e2, e3⟩
        · subst e3; simp at hlen
        · have hpos : 0 < st.facts.length := List.length_pos_iff.mpr (hS st hst)
          have hll : L1.length + st.facts.length = l + 1 := by rw [← hlen, e3, List.length_append]
          obtain ⟨M, hM, hle⟩ := R.cpl _ _ L1 w1 (by omega)
          have wM : Walk S start b (M ++ st.facts) v := by
            have := (R.snd _ M hM).1.trans (Walk.one hst)
            rw [e2, ← e1]; exact this
          have hMl : M.length = L1.length := by
            have h1 := hle.length
            by_cases c : M.length < L1.length
            · obtain ⟨L', e4, _⟩ := R.cpl v b _ wM (by rw [List.length_append]; omega)
              rw [q] at e4; cases e4
            · omega
          have h2 : look p.1 (st.target, b' || st.strict) = none := by rw [e1, ← e2]; exact q
          have hit := next_hit R hS hst hM (by omega) rfl h2
          simp only [e1, ← e2] at hit
          obtain ⟨N, e5, h5⟩ := hit _ rfl
          rw [e5]
          refine ⟨N, rfl, h5.trans ?_⟩
          rw [e3]
          exact hle.append_right st.facts
  · show k ∈ (p.2 ++ [(nextStates S p.2 p.1 (l + 1)).map (·.1)]).getD j [] ↔ ∃ L, look (putAll p.1 (nextStates S p.2 p.1 (l + 1))) k = some L ∧ L.length = j
    rw [getD_append, R.len, lk]
    by_cases e : j = l + 1
    · rw [if_pos e, mem_keys]
      constructor
      · rintro ⟨L, h⟩
        rw [h]
        exact ⟨L, rfl, by rw [(F.ok k L h).2.2]; exact e.symm⟩
      · rintro ⟨L, h, hl⟩
        cases q : look (nextStates S p.2 p.1 (l + 1)) k with
        | some M => exact ⟨M, rfl⟩
        | none =>
          rw [q] at h
          have := (R.snd k L h).2
          omega
    · rw [if_neg e, R.lay j (by omega) k]
      constructor
      · rintro ⟨L, h, hl⟩
        cases q : look (nextStates S p.2 p.1 (l + 1)) k with
        | none => exact ⟨L, h, hl⟩
        | some N => have := (F.ok _ N q).1; rw [h] at this; cases this
      · rintro ⟨L, h, hl⟩
        cases q : look (nextStates S p.2 p.1 (l + 1)) k with
        | none => rw [q] at h; exact ⟨L, h, hl⟩
        | some N =>
          rw [q] at h
          cases h
          have := (F.ok _ _ q).2.2
          omega
theorem rounds_inv (hS : ∀ st ∈ S, st.facts ≠ []) : ∀ n, RInv S start n (rounds S start n)
  | 0 => by
    have lk : ∀ k : SK, look [((start, false), ([] : List Nat))] k = if (start, false) = k then some [] else none := fun k => by rw [look_cons, look_nil]
    refine ⟨rfl, by simp [rounds], fun k L e => ?_, fun v b L w hl => ?_, fun j hj k => ?_⟩
    · have e' : (if (start, false) = k then some ([] : List Nat) else none) = some L := (lk k).symm.trans e
      by_cases c : (start, false) = k
      · rw [if_pos c] at e'
        cases e'
        subst c
        exact ⟨.nil _, Nat.le_refl _⟩
      · rw [if_neg c] at e'; cases e'
    · rcases w.unsnoc with ⟨e1, e2, e3⟩ | ⟨st, hst, b', L1, e1, w1, e2, e3⟩
      · subst e1 e2 e3
        exact ⟨[], by show look [((start, false), ([] : List Nat))] (start, false) = _; rw [lk, if_pos rfl], .refl _⟩
      · have hpos : 0 < st.facts.length := List.length_pos_iff.mpr (hS st hst)
        rw [e3, List.length_append] at hl
        omega
    · have : j = 0 := by omega
      subst this
      show k ∈ [(start, false)] ↔ ∃ L, look [((start, false), ([] : List Nat))] k = some L ∧ _
      rw [lk, List.mem_singleton]
      constructor
      · rintro rfl; exact ⟨[], by rw [if_pos rfl], rfl⟩
      · rintro ⟨L, h, _⟩
        by_cases c : (start, false) = k
        · exact c.symm
        · rw [if_neg c] at h; cases h
  | n + 1 => by
    rw [rounds_succ]
    exact round_inv (rounds_inv hS n) hS
theorem path_len {σ : Type} [DecidableEq σ] {R : σ → List Nat → σ → Prop} {A : List σ} (h2 : ∀ x l y, R x l y → l.length ≤ 2) {x y : σ} {L : List Nat} {n : Nat} (p : Path R A x L y n) : L.length ≤ 2 * n := by
  induction p with
  | nil h => simp
  | cons h r p ih => have := h2 _ _ _ r; rw [List.length_append]; omega
/-- the program's table holds the best walks -/
theorem chainsFrom_ok (hS : Bd S 12) (hst : start < 12) (v : Nat) (b : Bool) : Answers (fun L => Walk S start b L v) (look (chainsFrom S start) (v, b)) := by
  have R := rounds_inv (S := S) (start := start) (fun st h => (hS st h).2.2.2) 48
  have all : ∀ L, Walk S start b L v → ∃ L', look (chainsFrom S start) (v, b) = some L' ∧ SLe L' L := by
    intro L w
    obtain ⟨m, p⟩ := w.pathF hS hst false
    obtain ⟨L', m', p', hm, hle⟩ := p.short
    rw [length_sts] at hm
    have hlen := path_len (R := RF S) (fun x l y ⟨st, h1, _, _, _, h5⟩ => by rw [h5]; exact (hS st h1).2.2.1) p'
    obtain ⟨b2, w2, e2⟩ := p'.walkF
    have e3 : b = b2 := by simpa using e2
    subst e3
    obtain ⟨N, e1, h1⟩ := R.cpl v b L' w2 (by omega)
    exact ⟨N, e1, h1.trans hle⟩
  cases e : look (chainsFrom S start) (v, b) with
  | none =>
    intro L w
    obtain ⟨N, e1, _⟩ := all L w
    rw [e] at e1; cases e1
  | some L =>
    refine ⟨(R.snd _ L e).1, fun L' w => ?_⟩
    obtain ⟨N, e1, h1⟩ := all L' w
    rw [e] at e1; cases e1
    exact h1
end
end SG

/-! M4: steps of facts; the program's explanations are the specification's; what is accepted stays free of strict cycles -/
set_option linter.all false
namespace SG
open Stratigraphy

/-! ### facts in their ranges -/
def VYears (s e : Int) : Prop := -5000 ≤ s ∧ s ≤ e ∧ e ≤ 2100
def VFact (n : Nat) : Fact → Prop
  | .above u l => u < n ∧ l < n
  | .same a b => a < n ∧ b < n
  | .find u s e => u < n ∧ VYears s e
  | .date u s e => u < n ∧ VYears s e
def VEnt (n : Nat) (es : List (Nat × Fact)) : Prop := ∀ e ∈ es, VFact n e.2
theorem VFact.mono {n m : Nat} (h : n ≤ m) : ∀ {f : Fact}, VFact n f → VFact m f
  | .above _ _, ⟨a, b⟩ => ⟨Nat.lt_of_lt_of_le a h, Nat.lt_of_lt_of_le b h⟩
  | .same _ _, ⟨a, b⟩ => ⟨Nat.lt_of_lt_of_le a h, Nat.lt_of_lt_of_le b h⟩
  | .find _ _ _, ⟨a, b⟩ => ⟨Nat.lt_of_lt_of_le a h, b⟩
  | .date _ _ _, ⟨a, b⟩ => ⟨Nat.lt_of_lt_of_le a h, b⟩
theorem VFact.upper {n : Nat} {f : Fact} (h : VFact n f) {hi : Nat × Int} (e : upperYearBound f = some hi) : hi.1 < n ∧ -5000 ≤ hi.2 := by
  cases f with
  | date u s t => cases e; exact ⟨h.1, Int.le_trans h.2.1 h.2.2.1⟩
  | _ => cases e
theorem VFact.lower {n : Nat} {f : Fact} (h : VFact n f) {lo : Nat × Int} (e : lowerYearBound f = some lo) : lo.1 < n ∧ lo.2 ≤ 2100 := by
  cases f with
  | date u s t => cases e; exact ⟨h.1, Int.le_trans h.2.2.1 h.2.2.2⟩
  | find u s t => cases e; exact ⟨h.1, Int.le_trans h.2.2.1 h.2.2.2⟩
  | _ => cases e

/-! ### steps -/
def sglOf (e : Nat × Fact) : List Step := match e.2 with
  | .above upper lower => [⟨lower, upper, true, [e.1]⟩]
  | .same a b => [⟨a, b, false, [e.1]⟩, ⟨b, a, false, [e.1]⟩]
  | _ => []
/-- a step by dates -/
def DateStep (es : List (Nat × Fact)) (st : Step) : Prop := ∃ e1 e2 hi lo, e1 ∈ es ∧ e2 ∈ es ∧ upperYearBound e1.2 = some hi ∧ lowerYearBound e2.2 = some lo ∧ hi.2 < lo.2 ∧ st = ⟨hi.1, lo.1, true, [e1.1, e2.1]⟩
def SglStep (es : List (Nat × Fact)) (st : Step) : Prop := ∃ e, e ∈ es ∧ st ∈ sglOf e
theorem mem_stepsOf {es : List (Nat × Fact)} {st : Step} : st ∈ stepsOf es ↔ SglStep es st ∨ DateStep es st := by
  unfold stepsOf
  rw [List.mem_append, List.mem_flatMap, List.mem_flatMap]
  constructor
  · rintro (⟨e, he, h⟩ | ⟨e1, he1, h⟩)
    · exact .inl ⟨e, he, h⟩
    · right
      cases q : upperYearBound e1.2 with
      | none => rw [q] at h; cases h
      | some hi =>
        rw [q] at h
        obtain ⟨e2, he2, h2⟩ := List.mem_filterMap.mp h
        cases q2 : lowerYearBound e2.2 with
        | none => rw [q2] at h2; cases h2
        | some lo =>
          rw [q2] at h2
          simp only [Option.bind_some] at h2
          by_cases c : hi.2 < lo.2
          · rw [if_pos c] at h2
            exact ⟨e1, e2, hi, lo, he1, he2, q, q2, c, (Option.some.inj h2).symm⟩
          · rw [if_neg c] at h2; cases h2
  · rintro (⟨e, he, h⟩ | ⟨e1, e2, hi, lo, he1, he2, q, q2, c, h⟩)
    · exact .inl ⟨e, he, h⟩
    · refine .inr ⟨e1, he1, ?_⟩
      rw [q]
      refine List.mem_filterMap.mpr ⟨e2, he2, ?_⟩
      rw [q2]
      simp only [Option.bind_some]
      rw [if_pos c, h]
theorem sgl_cases {e : Nat × Fact} {st : Step} (h : st ∈ sglOf e) : (∃ u l, e.2 = .above u l ∧ st = ⟨l, u, true, [e.1]⟩) ∨ (∃ a b, (e.2 = .same a b ∨ e.2 = .same b a) ∧ st = ⟨a, b, false, [e.1]⟩) := by
  obtain ⟨i, f⟩ := e
  cases f with
  | above u l => simp [sglOf] at h; exact .inl ⟨u, l, rfl, h⟩
  | same a b =>
    simp [sglOf] at h
    rcases h with h | h
    · exact .inr ⟨a, b, .inl rfl, h⟩
    · exact .inr ⟨b, a, .inr rfl, h⟩
  | find _ _ _ => simp [sglOf] at h
  | date _ _ _ => simp [sglOf] at h
theorem bd_stepsOf {n : Nat} {es : List (Nat × Fact)} (V : VEnt n es) : Bd (stepsOf es) n := by
  intro st h
  rcases mem_stepsOf.mp h with ⟨e, he, h⟩ | ⟨e1, e2, hi, lo, he1, he2, q, q2, c, h⟩
  · have ve := V e he
    rcases sgl_cases h with ⟨u, l, ef, rfl⟩ | ⟨a, b, ef, rfl⟩
    · rw [ef] at ve; exact ⟨ve.2, ve.1, by simp, by simp⟩
    · rcases ef with ef | ef <;> rw [ef] at ve
      · exact ⟨ve.1, ve.2, by simp, by simp⟩
      · exact ⟨ve.2, ve.1, by simp, by simp⟩
  · subst h
    exact ⟨((V e1 he1).upper q).1, ((V e2 he2).lower q2).1, by simp, by simp⟩
theorem Bd.mono {S : List Step} {n m : Nat} (h : n ≤ m) (b : Bd S n) : Bd S m := fun st hst => ⟨Nat.lt_of_lt_of_le (b st hst).1 h, Nat.lt_of_lt_of_le (b st hst).2.1 h, (b st hst).2.2⟩
theorem Bd.append {S T : List Step} {n : Nat} (a : Bd S n) (b : Bd T n) : Bd (S ++ T) n := fun st h => (List.mem_append.mp h).elim (a st) (b st)

/-! ### the program's lists -/
/-- min over pairs (length, chain), none of none -/
def prefMin : List (List Nat) → Option (List Nat)
  | [] => none
  | x :: xs => some (xs.foldl (fun a y => if preferred y a = true then y else a) x)
theorem prefMin_fold : ∀ (xs : List (List Nat)) (x : List Nat), IsBest (fun L => L = x ∨ L ∈ xs) (xs.foldl (fun a y => if preferred y a = true then y else a) x)
  | [], x => ⟨.inl rfl, fun L h => by rcases h with h | h; exact .inr h.symm; cases h⟩
  | y :: ys, x => by
    rw [List.foldl_cons]
    have ih := prefMin_fold ys (if preferred y x = true then y else x)
    by_cases c : preferred y x = true
    · rw [if_pos c] at ih ⊢
      refine ⟨?_, fun L h => ?_⟩
      · rcases ih.1 with h | h
        · exact .inr (by rw [h]; exact List.mem_cons_self)
        · exact .inr (List.mem_cons_of_mem _ h)
      · rcases h with h | h
        · subst h; exact (ih.2 y (.inl rfl)).trans (.inl (preferred_iff.mp c))
        · rcases List.mem_cons.mp h with h | h
          · exact ih.2 L (.inl h)
          · exact ih.2 L (.inr h)
    · rw [if_neg c] at ih ⊢
      refine ⟨?_, fun L h => ?_⟩
      · rcases ih.1 with h | h
        · exact .inl h
        · exact .inr (List.mem_cons_of_mem _ h)
      · rcases h with h | h
        · exact ih.2 L (.inl h)
        · rcases List.mem_cons.mp h with h | h
          · subst h
            exact (ih.2 x (.inl rfl)).trans ((SLt.total L x).elim (fun z => absurd (preferred_iff.mpr z) c) id)
          · exact ih.2 L (.inr h)
theorem prefMin_ok (l : List (List Nat)) : Answers (fun L => L ∈ l) (prefMin l) := by
  cases l with
  | nil => exact fun L h => by cases h
  | cons x xs => exact IsBest.congr (prefMin_fold xs x) fun L => List.mem_cons.symm
/-- answers over some that go below all -/
theorem Answers.dense {P Q : List Nat → Prop} {o : Option (List Nat)} (h : Answers P o) (h1 : ∀ L, P L → Q L) (h2 : ∀ L, Q L → ∃ L', P L' ∧ SLe L' L) : Answers Q o := by
  cases o with
  | none => exact fun L q => by obtain ⟨L', p, _⟩ := h2 L q; exact h L' p
  | some L => exact ⟨h1 L h.1, fun L' q => by obtain ⟨M, p, le⟩ := h2 L' q; exact (h.2 M p).trans le⟩
def anyCh (t : Tab) (v : Nat) : List (List Nat) := [(v, false), (v, true)].filterMap (look t)
def strictCh (t : Tab) (v : Nat) : List (List Nat) := (look t (v, true)).toList
def agBegin (es : List (Nat × Fact)) (t : Tab) (year : Int) : List (List Nat) := es.flatMap fun e => match upperYearBound e.2 with
  | some hi => if hi.2 < year then (anyCh t hi.1).map (· ++ [e.1]) else []
  | none => []
def agEnd (es : List (Nat × Fact)) (u : Nat) (year : Int) : List (List Nat) := es.flatMap fun e => match lowerYearBound e.2 with
  | some lo => if year < lo.2 then (anyCh (chainsFrom (stepsOf es) lo.1) u).map ([e.1] ++ ·) else []
  | none => []
def contrM (es : List (Nat × Fact)) : Fact → Option (List Nat)
  | .above u l => prefMin (anyCh (chainsFrom (stepsOf es) u) l)
  | .same a b => prefMin (strictCh (chainsFrom (stepsOf es) a) b ++ strictCh (chainsFrom (stepsOf es) b) a)
  | .find u s _ => prefMin (agBegin es (chainsFrom (stepsOf es) u) s)
  | .date u s e => prefMin (agBegin es (chainsFrom (stepsOf es) u) s ++ agEnd es u e)
section
variable {S : List Step} {u : Nat}
theorem mem_anyCh {t : Tab} {v : Nat} {L : List Nat} : L ∈ anyCh t v ↔ look t (v, false) = some L ∨ look t (v, true) = some L := by
  unfold anyCh
  rw [List.mem_filterMap]
  constructor
  · rintro ⟨k, hk, e⟩
    simp at hk
    rcases hk with rfl | rfl
    · exact .inl e
    · exact .inr e
  · rintro (e | e)
    · exact ⟨_, by simp, e⟩
    · exact ⟨_, by simp, e⟩
theorem anyCh_sub (hS : Bd S 12) (hu : u < 12) {v : Nat} {L : List Nat} (h : L ∈ anyCh (chainsFrom S u) v) : ∃ b, Walk S u b L v := by
  rcases mem_anyCh.mp h with e | e
  · have := chainsFrom_ok hS hu v false
    rw [e] at this
    exact ⟨_, this.1⟩
  · have := chainsFrom_ok hS hu v true
    rw [e] at this
    exact ⟨_, this.1⟩
theorem anyCh_dense (hS : Bd S 12) (hu : u < 12) {v : Nat} {b : Bool} {L : List Nat} (w : Walk S u b L v) : ∃ L', L' ∈ anyCh (chainsFrom S u) v ∧ SLe L' L := by
  have := chainsFrom_ok hS hu v b
  cases e : look (chainsFrom S u) (v, b) with
  | none => rw [e] at this; exact absurd w (this L)
  | some M =>
    rw [e] at this
    refine ⟨M, mem_anyCh.mpr ?_, this.2 L w⟩
    cases b
    · exact .inl e
    · exact .inr e
theorem mem_strictCh (hS : Bd S 12) (hu : u < 12) {v : Nat} {L : List Nat} (h : L ∈ strictCh (chainsFrom S u) v) : Walk S u true L v := by
  have := chainsFrom_ok hS hu v true
  unfold strictCh at h
  cases e : look (chainsFrom S u) (v, true) with
  | none => rw [e] at h; simp at h
  | some M => rw [e] at h this; simp at h; subst h; exact this.1
theorem strictCh_dense (hS : Bd S 12) (hu : u < 12) {v : Nat} {L : List Nat} (w : Walk S u true L v) : ∃ L', L' ∈ strictCh (chainsFrom S u) v ∧ SLe L' L := by
  have := chainsFrom_ok hS hu v true
  unfold strictCh
  cases e : look (chainsFrom S u) (v, true) with
  | none => rw [e] at this; exact absurd w (this L)
  | some M => rw [e] at this; exact ⟨M, by simp, this.2 L w⟩
/-- what rejects strict chains -/
theorem strict_answers (hS : Bd S 12) (hu : u < 12) (v : Nat) : prefMin (strictCh (chainsFrom S u) v) = look (chainsFrom S u) (v, true) := by
  unfold strictCh
  cases look (chainsFrom S u) (v, true) <;> rfl
end
section
variable {es : List (Nat × Fact)}
def BegL (es : List (Nat × Fact)) (u : Nat) (year : Int) (L : List Nat) : Prop := ∃ e hi b L1, e ∈ es ∧ upperYearBound e.2 = some hi ∧ hi.2 < year ∧ Walk (stepsOf es) u b L1 hi.1 ∧ L = L1 ++ [e.1]
def EndL (es : List (Nat × Fact)) (u : Nat) (year : Int) (L : List Nat) : Prop := ∃ e lo b L1, e ∈ es ∧ lowerYearBound e.2 = some lo ∧ year < lo.2 ∧ Walk (stepsOf es) lo.1 b L1 u ∧ L = [e.1] ++ L1
theorem agBegin_ok {year : Int} (V : VEnt 12 es) {u : Nat} (hu : u < 12) : (∀ L, L ∈ agBegin es (chainsFrom (stepsOf es) u) year → BegL es u year L) ∧ ∀ L, BegL es u year L → ∃ L', L' ∈ agBegin es (chainsFrom (stepsOf es) u) year ∧ SLe L' L := by
  have hS := bd_stepsOf V
  constructor
  · intro L h
    obtain ⟨e, he, h⟩ := List.mem_flatMap.mp h
    cases q : upperYearBound e.2 with
    | none => rw [q] at h; cases h
    | some hi =>
      rw [q] at h
      dsimp only at h
      by_cases c : hi.2 < year
      · rw [if_pos c] at h
        obtain ⟨L1, h1, e1⟩ := List.mem_map.mp h
        obtain ⟨b, w⟩ := anyCh_sub hS hu h1
        exact ⟨e, hi, b, L1, he, q, c, w, e1.symm⟩
      · rw [if_neg c] at h; cases h
  · rintro L ⟨e, hi, b, L1, he, q, c, w, rfl⟩
    obtain ⟨L2, h2, le⟩ := anyCh_dense hS hu w
    refine ⟨L2 ++ [e.1], List.mem_flatMap.mpr ⟨e, he, ?_⟩, le.append_right _⟩
    rw [q]
    dsimp only
    rw [if_pos c]
    exact List.mem_map.mpr ⟨L2, h2, rfl⟩
theorem agEnd_ok {year : Int} (V : VEnt 12 es) {u : Nat} : (∀ L, L ∈ agEnd es u year → EndL es u year L) ∧ ∀ L, EndL es u year L → ∃ L', L' ∈ agEnd es u year ∧ SLe L' L := by
  have hS := bd_stepsOf V
  constructor
  · intro L h
    obtain ⟨e, he, h⟩ := List.mem_flatMap.mp h
    cases q : lowerYearBound e.2 with
    | none => rw [q] at h; cases h
    | some lo =>
      rw [q] at h
      dsimp only at h
      by_cases c : year < lo.2
      · rw [if_pos c] at h
        obtain ⟨L1, h1, e1⟩ := List.mem_map.mp h
        obtain ⟨b, w⟩ := anyCh_sub hS ((V e he).lower q).1 h1
        exact ⟨e, lo, b, L1, he, q, c, w, e1.symm⟩
      · rw [if_neg c] at h; cases h
  · rintro L ⟨e, lo, b, L1, he, q, c, w, rfl⟩
    obtain ⟨L2, h2, le⟩ := anyCh_dense hS ((V e he).lower q).1 w
    refine ⟨[e.1] ++ L2, List.mem_flatMap.mpr ⟨e, he, ?_⟩, le.append_left _⟩
    rw [q]
    dsimp only
    rw [if_pos c]
    exact List.mem_map.mpr ⟨L2, h2, rfl⟩
def belowSteps (es : List (Nat × Fact)) (year : Int) : List Step := es.filterMap fun (entry : Nat × Fact) => (upperYearBound entry.2).bind fun (bound : Nat × Int) => if bound.2 < year then some (⟨bound.1, upperEndNode, true, [entry.1]⟩ : Step) else none
def aboveSteps (es : List (Nat × Fact)) (year : Int) : List Step := es.filterMap fun (entry : Nat × Fact) => (lowerYearBound entry.2).bind fun (bound : Nat × Int) => if year < bound.2 then some (⟨lowerEndNode, bound.1, true, [entry.1]⟩ : Step) else none
theorem mem_below {year : Int} {st : Step} : st ∈ belowSteps es year ↔ ∃ e hi, e ∈ es ∧ upperYearBound e.2 = some hi ∧ hi.2 < year ∧ st = ⟨hi.1, 12, true, [e.1]⟩ := by
  unfold belowSteps
  rw [List.mem_filterMap]
  constructor
  · rintro ⟨e, he, h⟩
    cases q : upperYearBound e.2 with
    | none => rw [q] at h; cases h
    | some hi =>
      rw [q] at h
      simp only [Option.bind_some] at h
      by_cases c : hi.2 < year
      · rw [if_pos c] at h; exact ⟨e, hi, he, q, c, (Option.some.inj h).symm⟩
      · rw [if_neg c] at h; cases h
  · rintro ⟨e, hi, he, q, c, h⟩
    refine ⟨e, he, ?_⟩
    rw [q]
    simp only [Option.bind_some]
    rw [if_pos c, h]
    rfl
theorem mem_above {year : Int} {st : Step} : st ∈ aboveSteps es year ↔ ∃ e lo, e ∈ es ∧ lowerYearBound e.2 = some lo ∧ year < lo.2 ∧ st = ⟨13, lo.1, true, [e.1]⟩ := by
  unfold aboveSteps
  rw [List.mem_filterMap]
  constructor
  · rintro ⟨e, he, h⟩
    cases q : lowerYearBound e.2 with
    | none => rw [q] at h; cases h
    | some hi =>
      rw [q] at h
      simp only [Option.bind_some] at h
      by_cases c : year < hi.2
      · rw [if_pos c] at h; exact ⟨e, hi, he, q, c, (Option.some.inj h).symm⟩
      · rw [if_neg c] at h; cases h
  · rintro ⟨e, hi, he, q, c, h⟩
    refine ⟨e, he, ?_⟩
    rw [q]
    simp only [Option.bind_some]
    rw [if_pos c, h]
    rfl
theorem bd_below {year : Int} (V : VEnt 12 es) : Bd (belowSteps es year) 14 := fun st h => by
  obtain ⟨e, hi, he, q, c, rfl⟩ := mem_below.mp h
  have := ((V e he).upper q).1
  exact ⟨by show hi.1 < 14; omega, by show 12 < 14; omega, by simp, by simp⟩
theorem bd_above {year : Int} (V : VEnt 12 es) : Bd (aboveSteps es year) 14 := fun st h => by
  obtain ⟨e, hi, he, q, c, rfl⟩ := mem_above.mp h
  have := ((V e he).lower q).1
  exact ⟨by show 13 < 14; omega, by show hi.1 < 14; omega, by simp, by simp⟩
/-- a walk that ends among the units doesn't use the end's steps -/
theorem walk_no_below {year : Int} (V : VEnt 12 es) {u v : Nat} {b : Bool} {L : List Nat} (w : Walk (stepsOf es ++ belowSteps es year) u b L v) : v < 12 → Walk (stepsOf es) u b L v := by
  induction w with
  | nil u => intro _; exact .nil u
  | @cons u st b L v h e w ih =>
    intro hv
    rcases List.mem_append.mp h with h | h
    · exact .cons h e (ih hv)
    · exfalso
      obtain ⟨e1, hi, he, q, c, rfl⟩ := mem_below.mp h
      cases w with
      | nil => exact absurd (show 12 < 12 from hv) (by decide)
      | @cons _ s2 _ _ _ h2 e2 w2 =>
        have e2 : s2.source = 12 := e2
        rcases List.mem_append.mp h2 with h2 | h2
        · have := (bd_stepsOf V s2 h2).1; omega
        · obtain ⟨e3, hi3, he3, q3, c3, rfl⟩ := mem_below.mp h2
          have := ((V e3 he3).upper q3).1
          have e2 : hi3.1 = 12 := e2
          omega
theorem walk_no_above {year : Int} (V : VEnt 12 es) {u v : Nat} {b : Bool} {L : List Nat} (w : Walk (stepsOf es ++ aboveSteps es year) u b L v) : u < 12 → Walk (stepsOf es) u b L v := by
  induction w with
  | nil u => intro _; exact .nil u
  | @cons u st b L v h e w ih =>
    intro hu
    rcases List.mem_append.mp h with h | h
    · exact .cons h e (ih (bd_stepsOf V st h).2.1)
    · exfalso
      obtain ⟨e1, hi, he, q, c, rfl⟩ := mem_above.mp h
      have e : 13 = u := e
      omega
theorem chain_below {year : Int} (V : VEnt 12 es) {u : Nat} (hu : u < 12) : Answers (BegL es u year) (chain (stepsOf es ++ belowSteps es year) u upperEndNode) := by
  refine (chain_ok (((bd_stepsOf V).mono (by decide)).append (bd_below V)) (show upperEndNode < 14 by decide) (show u < 14 by omega)).congr fun L => ⟨?_, ?_⟩
  · rintro ⟨b, w⟩
    rcases w.unsnoc with ⟨e1, e2, e3⟩ | ⟨st, hst, b', L1, e1, w1, e2, e3⟩
    · exact absurd hu (by rw [e1]; decide)
    · rcases List.mem_append.mp hst with h | h
      · have := (bd_stepsOf V st h).2.1
        exact absurd this (by rw [e1]; decide)
      · obtain ⟨e, hi, he, q, c, rfl⟩ := mem_below.mp h
        exact ⟨e, hi, b', L1, he, q, c, walk_no_below V w1 ((V e he).upper q).1, e3⟩
  · rintro ⟨e, hi, b, L1, he, q, c, w, rfl⟩
    have h : (⟨hi.1, 12, true, [e.1]⟩ : Step) ∈ stepsOf es ++ belowSteps es year := List.mem_append_right _ (mem_below.mpr ⟨e, hi, he, q, c, rfl⟩)
    exact ⟨_, (w.mono fun st h => List.mem_append_left _ h).trans (Walk.one h)⟩
theorem chain_above {year : Int} (V : VEnt 12 es) {u : Nat} (hu : u < 12) : Answers (EndL es u year) (chain (stepsOf es ++ aboveSteps es year) lowerEndNode u) := by
  refine (chain_ok (((bd_stepsOf V).mono (by decide)).append (bd_above V)) (show u < 14 by omega) (show lowerEndNode < 14 by decide)).congr fun L => ⟨?_, ?_⟩
  · rintro ⟨b, w⟩
    cases w with
    | nil => exact absurd hu (by decide)
    | @cons _ st b L1 _ h e w =>
      rcases List.mem_append.mp h with h | h
      · have := (bd_stepsOf V st h).1
        exact absurd this (by rw [e]; decide)
      · obtain ⟨e0, lo, he, q, c, rfl⟩ := mem_above.mp h
        exact ⟨e0, lo, b, L1, he, q, c, walk_no_above V w ((V e0 he).lower q).1, rfl⟩
  · rintro ⟨e, lo, b, L1, he, q, c, w, rfl⟩
    have h : (⟨13, lo.1, true, [e.1]⟩ : Step) ∈ stepsOf es ++ aboveSteps es year := List.mem_append_right _ (mem_above.mpr ⟨e, lo, he, q, c, rfl⟩)
    exact ⟨_, (Walk.one h).trans (w.mono fun st h => List.mem_append_left _ h)⟩
theorem Answers.mem_append {A B : List (List Nat)} {P Q : List Nat → Prop} (hA : (∀ L, L ∈ A → P L) ∧ ∀ L, P L → ∃ L', L' ∈ A ∧ SLe L' L) (hB : (∀ L, L ∈ B → Q L) ∧ ∀ L, Q L → ∃ L', L' ∈ B ∧ SLe L' L) :
    Answers (fun L => P L ∨ Q L) (prefMin (A ++ B)) := by
  refine (prefMin_ok (A ++ B)).dense (fun L h => (List.mem_append.mp h).imp (hA.1 L) (hB.1 L)) fun L h => ?_
  rcases h with h | h
  · obtain ⟨L', a, b⟩ := hA.2 L h
    exact ⟨L', List.mem_append_left _ a, b⟩
  · obtain ⟨L', a, b⟩ := hB.2 L h
    exact ⟨L', List.mem_append_right _ a, b⟩
/-- what contradicts a fact -/
def Against (es : List (Nat × Fact)) : Fact → List Nat → Prop
  | .above u l => fun L => ∃ b, Walk (stepsOf es) u b L l
  | .same a b => fun L => Walk (stepsOf es) a true L b ∨ Walk (stepsOf es) b true L a
  | .find u s _ => BegL es u s
  | .date u s e => fun L => BegL es u s L ∨ EndL es u e L
theorem contradiction_ok (V : VEnt 12 es) {f : Fact} (hf : VFact 12 f) : Answers (Against es f) (contradiction es f) := by
  have hS14 : Bd (stepsOf es) 14 := (bd_stepsOf V).mono (by decide)
  cases f with
  | above u l => exact chain_ok hS14 (by have := hf.2; omega) (by have := hf.1; omega)
  | same a b => exact answers_betterOf (strictChain_ok hS14 (by have := hf.2; omega) (by have := hf.1; omega)) (strictChain_ok hS14 (by have := hf.1; omega) (by have := hf.2; omega))
  | find u s e => exact chain_below V hf.1
  | date u s e => exact answers_betterOf (chain_below V hf.1) (chain_above V hf.1)
theorem contrM_ok (V : VEnt 12 es) {f : Fact} (hf : VFact 12 f) : Answers (Against es f) (contrM es f) := by
  have hS := bd_stepsOf V
  cases f with
  | above u l => exact (prefMin_ok _).dense (fun L h => anyCh_sub hS hf.1 h) fun L ⟨b, w⟩ => anyCh_dense hS hf.1 w
  | same a b => exact Answers.mem_append ⟨fun L h => mem_strictCh hS hf.1 h, fun L w => strictCh_dense hS hf.1 w⟩ ⟨fun L h => mem_strictCh hS hf.2 h, fun L w => strictCh_dense hS hf.2 w⟩
  | find u s e =>
    have := agBegin_ok (year := s) V hf.1
    exact (prefMin_ok _).dense this.1 this.2
  | date u s e => exact Answers.mem_append (agBegin_ok V hf.1) (agEnd_ok V)
theorem contr_eq (V : VEnt 12 es) {f : Fact} (hf : VFact 12 f) : contrM es f = contradiction es f := (contrM_ok V hf).unique (contradiction_ok V hf)
/-- the chain of explain -/
theorem strict_eq (V : VEnt 12 es) {a b : Nat} (ha : a < 12) (hb : b < 12) : prefMin (strictCh (chainsFrom (stepsOf es) a) b) = strictChain (stepsOf es) a b := by
  have hS := bd_stepsOf V
  rw [strict_answers hS ha]
  exact (chainsFrom_ok hS ha b true).unique (strictChain_ok (hS.mono (by decide)) (by omega) (by omega))

/-! ### no strict cycle -/
def Cons (es : List (Nat × Fact)) : Prop := ∀ u L, ¬ Walk (stepsOf es) u true L u
/-- u leads to v -/
def Rch (es : List (Nat × Fact)) (u : Nat) (b : Bool) (v : Nat) : Prop := ∃ L, Walk (stepsOf es) u b L v
theorem Rch.nil (u : Nat) : Rch es u false u := ⟨[], .nil u⟩
theorem Rch.trans {u v x : Nat} {b c : Bool} (h : Rch es u b v) (g : Rch es v c x) : Rch es u (b || c) x := let ⟨_, w⟩ := h; let ⟨_, w'⟩ := g; ⟨_, w.trans w'⟩
theorem Rch.one {st : Step} (h : st ∈ stepsOf es) : Rch es st.source st.strict st.target := ⟨_, Walk.one h⟩
theorem Rch.lt {n : Nat} (V : VEnt n es) {u v : Nat} {b : Bool} (h : Rch es u b v) : u < n → v < n := by
  obtain ⟨L, w⟩ := h
  induction w with
  | nil => exact id
  | cons h e _ ih => exact fun _ => ih (bd_stepsOf V _ h).2.1
theorem Rch.lt' {n : Nat} (V : VEnt n es) {u v : Nat} {b : Bool} (h : Rch es u b v) : v < n → u < n := by
  obtain ⟨L, w⟩ := h
  induction w with
  | nil => exact id
  | cons h e _ ih => exact fun _ => e ▸ (bd_stepsOf V _ h).1
theorem Cons.rch (C : Cons es) {u : Nat} : ¬ Rch es u true u := fun ⟨L, w⟩ => C u L w
/-- by induction, from the front -/
theorem rch_ind {P : Nat → Bool → Nat → Prop} (h0 : ∀ u, P u false u) (h1 : ∀ st b v, st ∈ stepsOf es → Rch es st.target b v → P st.target b v → P st.source (st.strict || b) v) {u v : Nat} {b : Bool} (h : Rch es u b v) : P u b v := by
  obtain ⟨L, w⟩ := h
  induction w with
  | nil u => exact h0 u
  | @cons u st b L v h e w ih => rw [← e]; exact h1 st b v h ⟨_, w⟩ ih
theorem cons_sub {fs : List (Nat × Fact)} (h : ∀ e ∈ fs, e ∈ es) (C : Cons es) : Cons fs := by
  intro u L w
  refine C u L (w.mono fun st hst => ?_)
  rcases mem_stepsOf.mp hst with ⟨e, he, q⟩ | ⟨e1, e2, hi, lo, he1, he2, q⟩
  · exact mem_stepsOf.mpr (.inl ⟨e, h e he, q⟩)
  · exact mem_stepsOf.mpr (.inr ⟨e1, e2, hi, lo, h e1 he1, h e2 he2, q⟩)
theorem cons_nil : Cons [] := by
  intro u L w
  rcases w.unsnoc with ⟨_, e, _⟩ | ⟨st, h, _⟩
  · cases e
  · cases h
section
variable {i : Nat}
theorem steps_more {e : Nat × Fact} {st : Step} (h : st ∈ stepsOf es) : st ∈ stepsOf (es ++ [e]) := by
  rcases mem_stepsOf.mp h with ⟨e, he, q⟩ | ⟨e1, e2, hi, lo, he1, he2, q⟩
  · exact mem_stepsOf.mpr (.inl ⟨e, List.mem_append_left _ he, q⟩)
  · exact mem_stepsOf.mpr (.inr ⟨e1, e2, hi, lo, List.mem_append_left _ he1, List.mem_append_left _ he2, q⟩)
theorem Rch.more {e : Nat × Fact} {u v : Nat} {b : Bool} (h : Rch es u b v) : Rch (es ++ [e]) u b v := let ⟨L, w⟩ := h; ⟨L, w.mono fun _ q => steps_more q⟩
/-- with a fact above: the steps -/
theorem steps_above {up lo : Nat} {st : Step} (h : st ∈ stepsOf (es ++ [(i, .above up lo)])) : st ∈ stepsOf es ∨ st = ⟨lo, up, true, [i]⟩ := by
  rcases mem_stepsOf.mp h with ⟨e, he, q⟩ | ⟨e1, e2, hi, l, he1, he2, q, q2, c, es⟩
  · rcases List.mem_append.mp he with he | he
    · exact .inl (mem_stepsOf.mpr (.inl ⟨e, he, q⟩))
    · rw [List.mem_singleton] at he
      subst he
      simp [sglOf] at q
      exact .inr q
  · have h1 : e1 ∈ _ := (List.mem_append.mp he1).elim id fun z => by rw [List.mem_singleton] at z; subst z; cases q
    have h2 : e2 ∈ _ := (List.mem_append.mp he2).elim id fun z => by rw [List.mem_singleton] at z; subst z; cases q2
    exact .inl (mem_stepsOf.mpr (.inr ⟨e1, e2, hi, l, h1, h2, q, q2, c, es⟩))
theorem rch_above {up lo u v : Nat} {b : Bool} (h : Rch (es ++ [(i, .above up lo)]) u b v) : Rch es u b v ∨ (b = true ∧ (∃ c, Rch es u c lo) ∧ ∃ c, Rch es up c v) := by
  refine rch_ind (es := es ++ [(i, .above up lo)]) (P := fun u b v => Rch es u b v ∨ (b = true ∧ (∃ c, Rch es u c lo) ∧ ∃ c, Rch es up c v)) (fun u => .inl (.nil u)) (fun st b v hst _ ih => ?_) h
  rcases steps_above hst with hs | rfl
  · rcases ih with ih | ⟨rfl, ⟨c, h1⟩, h2⟩
    · exact .inl ((Rch.one hs).trans ih)
    · exact .inr ⟨by cases st.strict <;> rfl, ⟨_, (Rch.one hs).trans h1⟩, h2⟩
  · rcases ih with ih | ⟨rfl, _, h2⟩
    · exact .inr ⟨rfl, ⟨_, .nil _⟩, ⟨_, ih⟩⟩
    · exact .inr ⟨rfl, ⟨_, .nil _⟩, h2⟩
theorem rch_above_mk {up lo u v : Nat} {b c : Bool} (h1 : Rch es u b lo) (h2 : Rch es up c v) : Rch (es ++ [(i, .above up lo)]) u true v := by
  have h : (⟨lo, up, true, [i]⟩ : Step) ∈ stepsOf (es ++ [(i, .above up lo)]) := mem_stepsOf.mpr (.inl ⟨(i, .above up lo), by simp, by simp [sglOf]⟩)
  have := (h1.more (e := (i, .above up lo))).trans ((Rch.one h).trans (h2.more (e := (i, .above up lo))))
  simpa using this
theorem cons_above {up lo : Nat} (C : Cons es) (h : ∀ b, ¬ Rch es up b lo) : Cons (es ++ [(i, .above up lo)]) := by
  intro u L w
  rcases rch_above ⟨L, w⟩ with q | ⟨_, ⟨c, h1⟩, ⟨d, h2⟩⟩
  · exact C.rch q
  · exact h _ (h2.trans h1)
theorem steps_same {a b : Nat} {st : Step} (h : st ∈ stepsOf (es ++ [(i, .same a b)])) : st ∈ stepsOf es ∨ st = ⟨a, b, false, [i]⟩ ∨ st = ⟨b, a, false, [i]⟩ := by
  rcases mem_stepsOf.mp h with ⟨e, he, q⟩ | ⟨e1, e2, hi, l, he1, he2, q, q2, c, es⟩
  · rcases List.mem_append.mp he with he | he
    · exact .inl (mem_stepsOf.mpr (.inl ⟨e, he, q⟩))
    · rw [List.mem_singleton] at he
      subst he
      simp [sglOf] at q
      exact .inr q
  · have h1 : e1 ∈ _ := (List.mem_append.mp he1).elim id fun z => by rw [List.mem_singleton] at z; subst z; cases q
    have h2 : e2 ∈ _ := (List.mem_append.mp he2).elim id fun z => by rw [List.mem_singleton] at z; subst z; cases q2
    exact .inl (mem_stepsOf.mpr (.inr ⟨e1, e2, hi, l, h1, h2, q, q2, c, es⟩))
theorem cons_same {a b : Nat} (C : Cons es) (h1 : ¬ Rch es a true b) (h2 : ¬ Rch es b true a) : Cons (es ++ [(i, .same a b)]) := by
  have no : ∀ x y, (x = a ∨ x = b) → (y = a ∨ y = b) → ¬ Rch es x true y := by
    rintro x y (rfl | rfl) (rfl | rfl)
    · exact C.rch
    · exact h1
    · exact h2
    · exact C.rch
  have dec : ∀ {u v : Nat} {s : Bool}, Rch (es ++ [(i, .same a b)]) u s v → Rch es u s v ∨ ∃ x y s1 s2, (x = a ∨ x = b) ∧ (y = a ∨ y = b) ∧ Rch es u s1 x ∧ Rch es y s2 v ∧ (s = true → (s1 || s2) = true) := by
    intro u v s h
    refine rch_ind (es := es ++ [(i, .same a b)]) (P := fun u s v => Rch es u s v ∨ ∃ x y s1 s2, (x = a ∨ x = b) ∧ (y = a ∨ y = b) ∧ Rch es u s1 x ∧ Rch es y s2 v ∧ (s = true → (s1 || s2) = true)) (fun u => .inl (.nil u)) (fun st s v hst _ ih => ?_) h
    have new : ∀ c d, (c = a ∨ c = b) → (d = a ∨ d = b) → (Rch es d s v ∨ ∃ x y s1 s2, (x = a ∨ x = b) ∧ (y = a ∨ y = b) ∧ Rch es d s1 x ∧ Rch es y s2 v ∧ (s = true → (s1 || s2) = true)) →
        ∃ x y s1 s2, (x = a ∨ x = b) ∧ (y = a ∨ y = b) ∧ Rch es c s1 x ∧ Rch es y s2 v ∧ (s = true → (s1 || s2) = true) := by
      intro c d hc hd ih
      rcases ih with ih | ⟨x, y, s1, s2, hx, hy, w1, w2, hs⟩
      · exact ⟨c, d, false, s, hc, hd, .nil c, ih, fun z => by simpa using z⟩
      · have : s1 = false := by
          cases s1 with
          | false => rfl
          | true => exact absurd w1 (no d x hd hx)
        subst this
        exact ⟨c, y, false, s2, hc, hy, .nil c, w2, hs⟩
    rcases steps_same hst with hs | rfl | rfl
    · rcases ih with ih | ⟨x, y, s1, s2, hx, hy, w1, w2, hs2⟩
      · exact .inl ((Rch.one hs).trans ih)
      · refine .inr ⟨x, y, st.strict || s1, s2, hx, hy, (Rch.one hs).trans w1, w2, fun z => ?_⟩
        cases h : st.strict with
        | true => rfl
        | false => rw [h] at z; simpa using hs2 z
    · exact .inr (by simpa using new a b (.inl rfl) (.inr rfl) ih)
    · exact .inr (by simpa using new b a (.inr rfl) (.inl rfl) ih)
  intro u L w
  rcases dec ⟨L, w⟩ with q | ⟨x, y, s1, s2, hx, hy, w1, w2, hs⟩
  · exact C.rch q
  · have hb := hs rfl
    have w3 := w2.trans w1
    rw [Bool.or_comm, hb] at w3
    exact no y x hy hx w3
/-- a new fact f that bounds the unit c: In: a unit that ends ahead of its first year; Out: one that begins behind its last -/
theorem cons_bound {c : Nat} {f : Fact} {In Out : Nat → Prop} (C : Cons es) (hst : ∀ st, st ∈ stepsOf (es ++ [(i, f)]) → st ∈ stepsOf es ∨ (In st.source ∧ st.target = c ∧ st.strict = true) ∨ (Out st.target ∧ st.source = c ∧ st.strict = true))
    (hIO : ∀ w v, In w → Out v → Rch es w true v) (h1 : ∀ b w, Rch es c b w → ¬ In w) (h2 : ∀ b w, Rch es w b c → ¬ Out w) : Cons (es ++ [(i, f)]) := by
  have dec : ∀ {u v : Nat} {s : Bool}, Rch (es ++ [(i, f)]) u s v → Rch es u s v ∨
      (((∃ b w, Rch es u b w ∧ In w) ∧ ((∃ b, Rch es c b v) ∨ ∃ b w, Out w ∧ Rch es w b v)) ∨ (((∃ b, Rch es u b c) ∨ ∃ b w, Rch es u b w ∧ In w) ∧ ∃ b w, Out w ∧ Rch es w b v)) := by
    intro u v s h
    refine rch_ind (es := es ++ [(i, f)]) (P := fun u s v => Rch es u s v ∨
      (((∃ b w, Rch es u b w ∧ In w) ∧ ((∃ b, Rch es c b v) ∨ ∃ b w, Out w ∧ Rch es w b v)) ∨ (((∃ b, Rch es u b c) ∨ ∃ b w, Rch es u b w ∧ In w) ∧ ∃ b w, Out w ∧ Rch es w b v))) (fun u => .inl (.nil u)) (fun st s v hst' _ ih => ?_) h
    rcases hst st hst' with hs | ⟨hi, ht, _⟩ | ⟨ho, hsrc, _⟩
    · rcases ih with ih | ⟨⟨b, w, w1, w2⟩, w3⟩ | ⟨w1, w3⟩
      · exact .inl ((Rch.one hs).trans ih)
      · exact .inr (.inl ⟨⟨_, w, (Rch.one hs).trans w1, w2⟩, w3⟩)
      · refine .inr (.inr ⟨?_, w3⟩)
        rcases w1 with ⟨b, w1⟩ | ⟨b, w, w1, w2⟩
        · exact .inl ⟨_, (Rch.one hs).trans w1⟩
        · exact .inr ⟨_, w, (Rch.one hs).trans w1, w2⟩
    · have hin : ∃ b w, Rch es st.source b w ∧ In w := ⟨_, st.source, .nil _, hi⟩
      rw [ht] at ih
      rcases ih with ih | ⟨_, w3⟩ | ⟨_, w3⟩
      · exact .inr (.inl ⟨hin, .inl ⟨_, ih⟩⟩)
      · exact .inr (.inl ⟨hin, w3⟩)
      · exact .inr (.inl ⟨hin, .inr w3⟩)
    · have hc : ∃ b, Rch es st.source b c := ⟨_, by rw [hsrc]; exact .nil c⟩
      rcases ih with ih | ⟨⟨b, w, w1, w2⟩, w3⟩ | ⟨_, w3⟩
      · exact .inr (.inr ⟨.inl hc, ⟨_, st.target, ho, ih⟩⟩)
      · have := w1.trans (hIO w st.target w2 ho)
        rw [Bool.or_true] at this
        exact absurd this C.rch
      · exact .inr (.inr ⟨.inl hc, w3⟩)
  intro u L w
  rcases dec ⟨L, w⟩ with q | ⟨⟨b, x, w1, w2⟩, w3⟩ | ⟨w1, ⟨b, y, w2, w3⟩⟩
  · exact C.rch q
  · rcases w3 with ⟨b', w3⟩ | ⟨b', y, w3, w4⟩
    · exact h1 _ _ (w3.trans w1) w2
    · have := (w4.trans w1).trans (hIO x y w2 w3)
      rw [Bool.or_true] at this
      exact absurd this C.rch
  · rcases w1 with ⟨b', w1⟩ | ⟨b', x, w1, w4⟩
    · exact h2 _ _ (w3.trans w1) w2
    · have := (w3.trans w1).trans (hIO x y w4 w2)
      rw [Bool.or_true] at this
      exact absurd this C.rch
def InB (es : List (Nat × Fact)) (year : Int) (w : Nat) : Prop := ∃ e t, e ∈ es ∧ upperYearBound e.2 = some (w, t) ∧ t < year
def OutB (es : List (Nat × Fact)) (year : Int) (w : Nat) : Prop := ∃ e s, e ∈ es ∧ lowerYearBound e.2 = some (w, s) ∧ year < s
theorem inb_none {u : Nat} {year : Int} (h : ∀ L, ¬ BegL es u year L) : ∀ b w, Rch es u b w → ¬ InB es year w := fun b w ⟨L, wk⟩ ⟨e, t, he, q, c⟩ => h (L ++ [e.1]) ⟨e, (w, t), b, L, he, q, c, wk, rfl⟩
theorem outb_none {u : Nat} {year : Int} (h : ∀ L, ¬ EndL es u year L) : ∀ b w, Rch es w b u → ¬ OutB es year w := fun b w ⟨L, wk⟩ ⟨e, s, he, q, c⟩ => h ([e.1] ++ L) ⟨e, (w, s), b, L, he, q, c, wk, rfl⟩
/-- what is accepted brings no strict cycle -/
theorem cons_add {f : Fact} (C : Cons es) (hf : VFact 12 f) (h : ∀ L, ¬ Against es f L) : Cons (es ++ [(i, f)]) := by
  cases f with
  | above u l => exact cons_above C fun b ⟨L, w⟩ => h L ⟨b, w⟩
  | same a b => exact cons_same C (fun ⟨L, w⟩ => h L (.inl w)) (fun ⟨L, w⟩ => h L (.inr w))
  | find u s e =>
    refine cons_bound (c := u) (In := InB es s) (Out := fun _ => False) C (fun st hst => ?_) (fun _ _ _ z => z.elim) (inb_none h) (fun _ _ _ z => z)
    rcases mem_stepsOf.mp hst with ⟨e1, he, q⟩ | ⟨e1, e2, hi, l, he1, he2, q, q2, c, e3⟩
    · rcases List.mem_append.mp he with he | he
      · exact .inl (mem_stepsOf.mpr (.inl ⟨e1, he, q⟩))
      · rw [List.mem_singleton] at he; subst he; simp [sglOf] at q
    · have k1 : e1 ∈ es := (List.mem_append.mp he1).elim id fun z => by rw [List.mem_singleton] at z; subst z; cases q
      rcases List.mem_append.mp he2 with he2 | he2
      · exact .inl (mem_stepsOf.mpr (.inr ⟨e1, e2, hi, l, k1, he2, q, q2, c, e3⟩))
      · rw [List.mem_singleton] at he2; subst he2
        cases q2
        subst e3
        exact .inr (.inl ⟨⟨e1, hi.2, k1, q, c⟩, rfl, rfl⟩)
  | date u s e =>
    have hs : s ≤ e := hf.2.2.1
    refine cons_bound (c := u) (In := InB es s) (Out := OutB es e) C (fun st hst => ?_) (fun w v ⟨e1, t, h1, q1, c1⟩ ⟨e2, y, h2, q2, c2⟩ => ?_) (inb_none fun L z => h L (.inl z)) (outb_none fun L z => h L (.inr z))
    · rcases mem_stepsOf.mp hst with ⟨e1, he, q⟩ | ⟨e1, e2, hi, l, he1, he2, q, q2, c, e3⟩
      · rcases List.mem_append.mp he with he | he
        · exact .inl (mem_stepsOf.mpr (.inl ⟨e1, he, q⟩))
        · rw [List.mem_singleton] at he; subst he; simp [sglOf] at q
      · subst e3
        rcases List.mem_append.mp he1 with k1 | k1 <;> rcases List.mem_append.mp he2 with k2 | k2
        · exact .inl (mem_stepsOf.mpr (.inr ⟨e1, e2, hi, l, k1, k2, q, q2, c, rfl⟩))
        · rw [List.mem_singleton] at k2; subst k2
          cases q2
          exact .inr (.inl ⟨⟨e1, hi.2, k1, q, c⟩, rfl, rfl⟩)
        · rw [List.mem_singleton] at k1; subst k1
          cases q
          exact .inr (.inr ⟨⟨e2, l.2, k2, q2, c⟩, rfl, rfl⟩)
        · rw [List.mem_singleton] at k1 k2; subst k1; subst k2
          cases q; cases q2
          exact absurd c (by show ¬ e < s; omega)
    · have : (⟨w, v, true, [e1.1, e2.1]⟩ : Step) ∈ stepsOf es := mem_stepsOf.mpr (.inr ⟨e1, e2, (w, t), (v, y), h1, h2, q1, q2, by show t < y; omega, rfl⟩)
      exact Rch.one this
end
end
end SG

/-! M5: the specification's analysis says what chains say -/
set_option linter.all false
namespace SG
open Stratigraphy

/-! ### sets as masks -/
theorem testBit_pow (n m : Nat) : (2 ^ n).testBit m = decide (n = m) := Nat.testBit_two_pow

def sglS (es : List (Nat × Fact)) : List Step := es.flatMap sglOf
def Rch0 (es : List (Nat × Fact)) (u : Nat) (b : Bool) (v : Nat) : Prop := ∃ L, Walk (sglS es) u b L v
theorem mem_sglS {es : List (Nat × Fact)} {st : Step} : st ∈ sglS es ↔ SglStep es st := by
  unfold sglS SglStep
  rw [List.mem_flatMap]
theorem sgl_steps {es : List (Nat × Fact)} {st : Step} (h : st ∈ sglS es) : st ∈ stepsOf es := mem_stepsOf.mpr (.inl (mem_sglS.mp h))
theorem Rch0.rch {es : List (Nat × Fact)} {u v : Nat} {b : Bool} (h : Rch0 es u b v) : Rch es u b v := let ⟨L, w⟩ := h; ⟨L, w.mono fun _ q => sgl_steps q⟩
theorem Rch0.nil {es : List (Nat × Fact)} (u : Nat) : Rch0 es u false u := ⟨[], .nil u⟩
theorem Rch0.trans {es : List (Nat × Fact)} {u v x : Nat} {b c : Bool} (h : Rch0 es u b v) (g : Rch0 es v c x) : Rch0 es u (b || c) x := let ⟨_, w⟩ := h; let ⟨_, w'⟩ := g; ⟨_, w.trans w'⟩
theorem Rch0.one {es : List (Nat × Fact)} {st : Step} (h : st ∈ sglS es) : Rch0 es st.source st.strict st.target := ⟨_, Walk.one h⟩
theorem rch0_ind {es : List (Nat × Fact)} {P : Nat → Bool → Nat → Prop} (h0 : ∀ u, P u false u) (h1 : ∀ st b v, st ∈ sglS es → Rch0 es st.target b v → P st.target b v → P st.source (st.strict || b) v) {u v : Nat} {b : Bool} (h : Rch0 es u b v) : P u b v := by
  obtain ⟨L, w⟩ := h
  induction w with
  | nil u => exact h0 u
  | @cons u st b L v h e w ih => rw [← e]; exact h1 st b v h ⟨_, w⟩ ih

/-! ### the closure -/
def extF (set : Nat) (fact : Fact) : Nat := match fact with
  | .above upper lower => if set.testBit lower = true then set ||| 2 ^ upper else set
  | .same a b => if set.testBit a = true ∨ set.testBit b = true then set ||| (2 ^ a ||| 2 ^ b) else set
  | _ => set
theorem extend_eq (fs : List Fact) (m : Nat) : extendClosure fs m = fs.foldl extF m := rfl
theorem extF_keep {m v : Nat} (f : Fact) (h : m.testBit v = true) : (extF m f).testBit v = true := by
  cases f with
  | above u l => simp only [extF]; split <;> simp [Nat.testBit_or, h]
  | same a b => simp only [extF]; split <;> simp [Nat.testBit_or, h]
  | find _ _ _ => exact h
  | date _ _ _ => exact h
theorem extF_hit {m : Nat} {e : Nat × Fact} {st : Step} (hst : st ∈ sglOf e) (h : m.testBit st.source = true) : (extF m e.2).testBit st.target = true := by
  rcases sgl_cases hst with ⟨u, l, ef, rfl⟩ | ⟨a, b, ef, rfl⟩
  · rw [ef]
    have h : m.testBit l = true := h
    simp [extF, h, Nat.testBit_or, testBit_pow]
  · have h : m.testBit a = true := h
    rcases ef with ef | ef <;> rw [ef] <;> simp [extF, h, Nat.testBit_or, testBit_pow]
theorem extF_sound {m : Nat} {e : Nat × Fact} {P : Nat → Prop} (hP : ∀ st ∈ sglOf e, P st.source → P st.target) (h : ∀ v, m.testBit v = true → P v) : ∀ v, (extF m e.2).testBit v = true → P v := by
  obtain ⟨i, f⟩ := e
  cases f with
  | above u l =>
    intro v hv
    simp only [extF] at hv
    by_cases c : m.testBit l = true
    · rw [if_pos c, Nat.testBit_or, testBit_pow, Bool.or_eq_true, decide_eq_true_eq] at hv
      rcases hv with hv | hv
      · exact h v hv
      · subst hv; exact hP ⟨l, u, true, [i]⟩ (by simp [sglOf]) (h l c)
    · rw [if_neg c] at hv; exact h v hv
  | same a b =>
    intro v hv
    simp only [extF] at hv
    by_cases c : m.testBit a = true ∨ m.testBit b = true
    · rw [if_pos c, Nat.testBit_or, Nat.testBit_or, testBit_pow, testBit_pow] at hv
      simp only [Bool.or_eq_true, decide_eq_true_eq] at hv
      have hab : P a ∧ P b := by
        rcases c with c | c
        · exact ⟨h a c, hP ⟨a, b, false, [i]⟩ (by simp [sglOf]) (h a c)⟩
        · exact ⟨hP ⟨b, a, false, [i]⟩ (by simp [sglOf]) (h b c), h b c⟩
      rcases hv with hv | hv | hv
      · exact h v hv
      · subst hv; exact hab.1
      · subst hv; exact hab.2
    · rw [if_neg c] at hv; exact h v hv
  | find _ _ _ => exact h
  | date _ _ _ => exact h
section
variable {es : List (Nat × Fact)}
theorem ext_keep {v : Nat} : ∀ (fs : List (Nat × Fact)) (m : Nat), m.testBit v = true → (extendClosure (fs.map (·.2)) m).testBit v = true
  | [], m, h => h
  | e :: fs, m, h => ext_keep fs (extF m e.2) (extF_keep e.2 h)
theorem ext_hit {st : Step} : ∀ (fs : List (Nat × Fact)) (m : Nat), (∃ e ∈ fs, st ∈ sglOf e) → m.testBit st.source = true → (extendClosure (fs.map (·.2)) m).testBit st.target = true
  | [], m, ⟨e, he, _⟩, _ => by cases he
  | e :: fs, m, ⟨e', he, hs⟩, h => by
    rcases List.mem_cons.mp he with q | he
    · subst q; exact ext_keep fs (extF m e'.2) (extF_hit hs h)
    · exact ext_hit fs (extF m e.2) ⟨e', he, hs⟩ (extF_keep e.2 h)
theorem ext_sound {P : Nat → Prop} : ∀ (fs : List (Nat × Fact)) (m : Nat), (∀ e ∈ fs, ∀ st ∈ sglOf e, P st.source → P st.target) → (∀ v, m.testBit v = true → P v) → ∀ v, (extendClosure (fs.map (·.2)) m).testBit v = true → P v
  | [], m, _, h => h
  | e :: fs, m, hP, h => ext_sound fs (extF m e.2) (fun e' he => hP e' (List.mem_cons_of_mem _ he)) (extF_sound (hP e List.mem_cons_self) h)
theorem iter_sound {P : Nat → Prop} : ∀ (k m : Nat), (∀ e ∈ es, ∀ st ∈ sglOf e, P st.source → P st.target) → (∀ v, m.testBit v = true → P v) → ∀ v, (iterateClosure (es.map (·.2)) k m).testBit v = true → P v
  | 0, m, _, h => h
  | k + 1, m, hP, h => iter_sound k _ hP (ext_sound es m hP h)
theorem iter_keep {v : Nat} : ∀ (k m : Nat), m.testBit v = true → (iterateClosure (es.map (·.2)) k m).testBit v = true
  | 0, m, h => h
  | k + 1, m, h => iter_keep k _ (ext_keep es m h)
def R1 (es : List (Nat × Fact)) (x : Nat) (l : List Nat) (y : Nat) : Prop := ∃ st, st ∈ sglS es ∧ st.source = x ∧ st.target = y ∧ l = st.facts
theorem iter_hit {A : List Nat} {x y : Nat} {L : List Nat} {n : Nat} (p : Path (R1 es) A x L y n) : ∀ (k m : Nat), n ≤ k → m.testBit x = true → (iterateClosure (es.map (·.2)) k m).testBit y = true := by
  induction p with
  | nil h => intro k m _ hm; exact iter_keep k m hm
  | cons h r p ih =>
    intro k m hk hm
    obtain ⟨st, h1, h2, h3, _⟩ := r
    cases k with
    | zero => omega
    | succ k =>
      refine ih k _ (by omega) ?_
      rw [← h3]
      exact ext_hit es m (mem_sglS.mp h1) (by rw [h2]; exact hm)
theorem Walk.path1 {n : Nat} (V : VEnt n es) {u v : Nat} {b : Bool} {L : List Nat} (w : Walk (sglS es) u b L v) : u < n → ∃ m, Path (R1 es) (List.range n) u L v m := by
  induction w with
  | nil u => intro hu; exact ⟨0, .nil (List.mem_range.mpr hu)⟩
  | @cons u st b L v h e w ih =>
    intro hu
    obtain ⟨m, p⟩ := ih (bd_stepsOf V st (sgl_steps h)).2.1
    exact ⟨m + 1, .cons (List.mem_range.mpr hu) ⟨st, h, e, rfl, rfl⟩ p⟩
theorem noEarlier_ok (V : VEnt 12 es) {u : Nat} (hu : u < 12) (v : Nat) : (noEarlierThan (es.map (·.2)) u).testBit v = true ↔ ∃ b, Rch0 es u b v := by
  unfold noEarlierThan
  constructor
  · refine iter_sound (P := fun v => ∃ b, Rch0 es u b v) _ _ ?_ ?_ v
    · rintro e he st hst ⟨b, h⟩
      exact ⟨_, h.trans (Rch0.one (mem_sglS.mpr ⟨e, he, hst⟩))⟩
    · intro w hw
      rw [testBit_pow, decide_eq_true_eq] at hw
      subst hw
      exact ⟨_, .nil u⟩
  · rintro ⟨b, L, w⟩
    obtain ⟨m, p⟩ := w.path1 V hu
    obtain ⟨L', m', p', hm, _⟩ := p.short
    rw [List.length_range] at hm
    exact iter_hit p' _ _ (show m' ≤ 12 by omega) (by rw [testBit_pow]; simp)
end

/-! ### bounds -/
/-- the greatest first year of the facts on units of P -/
def EarlyP (es : List (Nat × Fact)) (P : Nat → Prop) (y : Int) : Prop := -5000 ≤ y ∧ (∀ e lo, e ∈ es → lowerYearBound e.2 = some lo → P lo.1 → lo.2 ≤ y) ∧ (y = -5000 ∨ ∃ e lo, e ∈ es ∧ lowerYearBound e.2 = some lo ∧ P lo.1 ∧ y = lo.2)
def LateP (es : List (Nat × Fact)) (P : Nat → Prop) (y : Int) : Prop := y ≤ 2100 ∧ (∀ e hi, e ∈ es → upperYearBound e.2 = some hi → P hi.1 → y ≤ hi.2) ∧ (y = 2100 ∨ ∃ e hi, e ∈ es ∧ upperYearBound e.2 = some hi ∧ P hi.1 ∧ y = hi.2)
section
variable {es : List (Nat × Fact)}
theorem EarlyP.unique {P : Nat → Prop} {y z : Int} (h : EarlyP es P y) (g : EarlyP es P z) : y = z := by
  have le : ∀ {y z : Int}, EarlyP es P y → EarlyP es P z → y ≤ z := fun {y z} h g => by
    rcases h.2.2 with e | ⟨e, lo, h1, h2, h3, h4⟩
    · rw [e]; exact g.1
    · rw [h4]; exact g.2.1 e lo h1 h2 h3
  have := le h g; have := le g h; omega
theorem LateP.unique {P : Nat → Prop} {y z : Int} (h : LateP es P y) (g : LateP es P z) : y = z := by
  have le : ∀ {y z : Int}, LateP es P y → LateP es P z → z ≤ y := fun {y z} h g => by
    rcases h.2.2 with e | ⟨e, lo, h1, h2, h3, h4⟩
    · rw [e]; exact g.1
    · rw [h4]; exact g.2.1 e lo h1 h2 h3
  have := le h g; have := le g h; omega
theorem EarlyP.congr {P Q : Nat → Prop} {y : Int} (h : EarlyP es P y) (e : ∀ v, P v ↔ Q v) : EarlyP es Q y :=
  ⟨h.1, fun a lo h1 h2 h3 => h.2.1 a lo h1 h2 ((e _).mpr h3), h.2.2.imp id fun ⟨a, lo, h1, h2, h3, h4⟩ => ⟨a, lo, h1, h2, (e _).mp h3, h4⟩⟩
theorem LateP.congr {P Q : Nat → Prop} {y : Int} (h : LateP es P y) (e : ∀ v, P v ↔ Q v) : LateP es Q y :=
  ⟨h.1, fun a lo h1 h2 h3 => h.2.1 a lo h1 h2 ((e _).mpr h3), h.2.2.imp id fun ⟨a, lo, h1, h2, h3, h4⟩ => ⟨a, lo, h1, h2, (e _).mp h3, h4⟩⟩
theorem foldl_early (p : Nat → Bool) : ∀ (fs : List (Nat × Fact)) (y0 : Int), let y := (((fs.map (·.2)).filterMap lowerYearBound).foldl (fun (year : Int) (bound : Nat × Int) => if p bound.1 = true then max year bound.2 else year) y0)
    y0 ≤ y ∧ (∀ e lo, e ∈ fs → lowerYearBound e.2 = some lo → p lo.1 = true → lo.2 ≤ y) ∧ (y = y0 ∨ ∃ e lo, e ∈ fs ∧ lowerYearBound e.2 = some lo ∧ p lo.1 = true ∧ y = lo.2)
  | [], y0 => ⟨Int.le_refl _, fun _ _ h => (by cases h), .inl rfl⟩
  | e :: fs, y0 => by
    dsimp only
    cases q : lowerYearBound e.2 with
    | none =>
      have ih := foldl_early p fs y0
      dsimp only at ih
      rw [List.map_cons, List.filterMap_cons, q]
      dsimp only
      refine ⟨ih.1, fun a lo ha h1 h2 => ?_, ih.2.2.imp id fun ⟨a, lo, ha, h⟩ => ⟨a, lo, List.mem_cons_of_mem _ ha, h⟩⟩
      rcases List.mem_cons.mp ha with z | ha
      · subst z; rw [q] at h1; cases h1
      · exact ih.2.1 a lo ha h1 h2
    | some lo0 =>
      rw [List.map_cons, List.filterMap_cons, q]
      dsimp only
      rw [List.foldl_cons]
      have ih := foldl_early p fs (if p lo0.1 = true then max y0 lo0.2 else y0)
      dsimp only at ih
      obtain ⟨i1, i2, i3⟩ := ih
      by_cases c : p lo0.1 = true
      · rw [if_pos c] at i1 i2 i3 ⊢
        refine ⟨by omega, fun a lo ha h1 h2 => ?_, ?_⟩
        · rcases List.mem_cons.mp ha with z | ha
          · subst z; rw [q] at h1; cases h1; omega
          · exact i2 a lo ha h1 h2
        · rcases i3 with i3 | ⟨a, lo, ha, h⟩
          · by_cases d : y0 ≤ lo0.2
            · exact .inr ⟨e, lo0, List.mem_cons_self, q, c, by rw [i3]; omega⟩
            · exact .inl (by rw [i3]; omega)
          · exact .inr ⟨a, lo, List.mem_cons_of_mem _ ha, h⟩
      · rw [if_neg c] at i1 i2 i3 ⊢
        refine ⟨i1, fun a lo ha h1 h2 => ?_, i3.imp id fun ⟨a, lo, ha, h⟩ => ⟨a, lo, List.mem_cons_of_mem _ ha, h⟩⟩
        rcases List.mem_cons.mp ha with z | ha
        · subst z; rw [q] at h1; cases h1; exact absurd h2 c
        · exact i2 a lo ha h1 h2
theorem foldl_late (p : Nat → Bool) : ∀ (fs : List (Nat × Fact)) (y0 : Int), let y := (((fs.map (·.2)).filterMap upperYearBound).foldl (fun (year : Int) (bound : Nat × Int) => if p bound.1 = true then min year bound.2 else year) y0)
    y ≤ y0 ∧ (∀ e lo, e ∈ fs → upperYearBound e.2 = some lo → p lo.1 = true → y ≤ lo.2) ∧ (y = y0 ∨ ∃ e lo, e ∈ fs ∧ upperYearBound e.2 = some lo ∧ p lo.1 = true ∧ y = lo.2)
  | [], y0 => ⟨Int.le_refl _, fun _ _ h => (by cases h), .inl rfl⟩
  | e :: fs, y0 => by
    dsimp only
    cases q : upperYearBound e.2 with
    | none =>
      have ih := foldl_late p fs y0
      dsimp only at ih
      rw [List.map_cons, List.filterMap_cons, q]
      dsimp only
      refine ⟨ih.1, fun a lo ha h1 h2 => ?_, ih.2.2.imp id fun ⟨a, lo, ha, h⟩ => ⟨a, lo, List.mem_cons_of_mem _ ha, h⟩⟩
      rcases List.mem_cons.mp ha with z | ha
      · subst z; rw [q] at h1; cases h1
      · exact ih.2.1 a lo ha h1 h2
    | some lo0 =>
      rw [List.map_cons, List.filterMap_cons, q]
      dsimp only
      rw [List.foldl_cons]
      have ih := foldl_late p fs (if p lo0.1 = true then min y0 lo0.2 else y0)
      dsimp only at ih
      obtain ⟨i1, i2, i3⟩ := ih
      by_cases c : p lo0.1 = true
      · rw [if_pos c] at i1 i2 i3 ⊢
        refine ⟨by omega, fun a lo ha h1 h2 => ?_, ?_⟩
        · rcases List.mem_cons.mp ha with z | ha
          · subst z; rw [q] at h1; cases h1; omega
          · exact i2 a lo ha h1 h2
        · rcases i3 with i3 | ⟨a, lo, ha, h⟩
          · by_cases d : lo0.2 ≤ y0
            · exact .inr ⟨e, lo0, List.mem_cons_self, q, c, by rw [i3]; omega⟩
            · exact .inl (by rw [i3]; omega)
          · exact .inr ⟨a, lo, List.mem_cons_of_mem _ ha, h⟩
      · rw [if_neg c] at i1 i2 i3 ⊢
        refine ⟨i1, fun a lo ha h1 h2 => ?_, i3.imp id fun ⟨a, lo, ha, h⟩ => ⟨a, lo, List.mem_cons_of_mem _ ha, h⟩⟩
        rcases List.mem_cons.mp ha with z | ha
        · subst z; rw [q] at h1; cases h1; exact absurd h2 c
        · exact i2 a lo ha h1 h2
theorem getD_map_range {β : Type} (g : Nat → β) (d : β) {n u : Nat} (h : u < n) : ((List.range n).map g).getD u d = g u := by
  rw [List.getD_eq_getElem?_getD, List.getElem?_map, List.getElem?_range h]
  rfl
/-- the bits that a fold of ors sets -/
theorem testBit_foldl {α : Type} (c : α → Bool) (g : α → Nat) (v : Nat) : ∀ (l : List α) (m : Nat), (l.foldl (fun set x => if c x = true then set ||| g x else set) m).testBit v = true ↔ m.testBit v = true ∨ ∃ x, x ∈ l ∧ c x = true ∧ (g x).testBit v = true
  | [], m => by simp
  | x :: l, m => by
    rw [List.foldl_cons, testBit_foldl c g v l]
    by_cases h : c x = true
    · rw [if_pos h, Nat.testBit_or, Bool.or_eq_true]
      constructor
      · rintro ((q | q) | ⟨y, a, b⟩)
        · exact .inl q
        · exact .inr ⟨x, List.mem_cons_self, h, q⟩
        · exact .inr ⟨y, List.mem_cons_of_mem _ a, b⟩
      · rintro (q | ⟨y, a, b, d⟩)
        · exact .inl (.inl q)
        · rcases List.mem_cons.mp a with e | a
          · subst e; exact .inl (.inr d)
          · exact .inr ⟨y, a, b, d⟩
    · rw [if_neg h]
      constructor
      · rintro (q | ⟨y, a, b⟩)
        · exact .inl q
        · exact .inr ⟨y, List.mem_cons_of_mem _ a, b⟩
      · rintro (q | ⟨y, a, b, d⟩)
        · exact .inl q
        · rcases List.mem_cons.mp a with e | a
          · subst e; exact absurd b h
          · exact .inr ⟨y, a, b, d⟩
/-- what superposition says -/
def supF (ne : List Nat) (unit : Nat) (set : Nat) (fact : Fact) : Nat := match fact with
  | .above upper lower => if (ne.getD unit 0).testBit lower = true then set ||| ne.getD upper 0 else set
  | _ => set
theorem testBit_sup (ne : List Nat) (a v : Nat) : ∀ (fs : List (Nat × Fact)) (m : Nat), ((fs.map (·.2)).foldl (supF ne a) m).testBit v = true ↔ m.testBit v = true ∨ ∃ e u l, e ∈ fs ∧ e.2 = .above u l ∧ (ne.getD a 0).testBit l = true ∧ (ne.getD u 0).testBit v = true
  | [], m => by simp
  | e :: fs, m => by
    rw [List.map_cons, List.foldl_cons, testBit_sup ne a v fs]
    constructor
    · rintro (q | ⟨e', u, l, h1, h2⟩)
      · obtain ⟨i, f⟩ := e
        cases f with
        | above u l =>
          simp only [supF] at q
          by_cases c : (ne.getD a 0).testBit l = true
          · rw [if_pos c, Nat.testBit_or, Bool.or_eq_true] at q
            rcases q with q | q
            · exact .inl q
            · exact .inr ⟨_, u, l, List.mem_cons_self, rfl, c, q⟩
          · rw [if_neg c] at q; exact .inl q
        | same _ _ => exact .inl q
        | find _ _ _ => exact .inl q
        | date _ _ _ => exact .inl q
      · exact .inr ⟨e', u, l, List.mem_cons_of_mem _ h1, h2⟩
    · rintro (q | ⟨e', u, l, h1, h2, h3, h4⟩)
      · left
        obtain ⟨i, f⟩ := e
        cases f with
        | above u l => simp only [supF]; split <;> simp [Nat.testBit_or, q]
        | same _ _ => exact q
        | find _ _ _ => exact q
        | date _ _ _ => exact q
      · rcases List.mem_cons.mp h1 with z | h1
        · subst z
          left
          simp only [h2, supF]
          rw [if_pos h3, Nat.testBit_or, h4, Bool.or_true]
        · exact .inr ⟨e', u, l, h1, h2, h3, h4⟩
end

/-! ### the analysis -/
section
variable {es : List (Nat × Fact)} {n : Nat}
/-- the analysis of the entries -/
def anl (n : Nat) (es : List (Nat × Fact)) : Analysis := analyze n (es.map (·.2))
theorem anl_len : (anl n es).noEarlier.length = n := by simp [anl, analyze]
theorem anl_ne {u : Nat} (h : u < n) : (anl n es).noEarlier.getD u 0 = noEarlierThan (es.map (·.2)) u := by
  unfold anl analyze
  exact getD_map_range _ _ h
theorem anl_ne_iff (V : VEnt n es) (hn : n ≤ 12) {u : Nat} (h : u < n) (v : Nat) : ((anl n es).noEarlier.getD u 0).testBit v = true ↔ ∃ b, Rch0 es u b v := by
  rw [anl_ne h]
  exact noEarlier_ok (fun e he => (V e he).mono hn) (by omega) v
theorem anl_early0 (V : VEnt n es) (hn : n ≤ 12) {u : Nat} (h : u < n) : EarlyP es (fun v => ∃ b, Rch0 es v b u) ((anl n es).earliestYear.getD u 0) := by
  have e : (anl n es).earliestYear.getD u 0 = (((es.map (·.2)).filterMap lowerYearBound).foldl (fun (year : Int) (bound : Nat × Int) => if ((anl n es).noEarlier.getD bound.1 0).testBit u = true then max year bound.2 else year) (-5000)) := by
    unfold anl analyze
    exact getD_map_range _ _ h
  have f := foldl_early (fun w => ((anl n es).noEarlier.getD w 0).testBit u) es (-5000)
  dsimp only at f
  rw [e]
  refine ⟨f.1, fun a lo ha h1 h2 => f.2.1 a lo ha h1 ((anl_ne_iff V hn ((V a ha).lower h1).1 u).mpr h2), f.2.2.imp id fun ⟨a, lo, ha, h1, h2, h3⟩ => ⟨a, lo, ha, h1, (anl_ne_iff V hn ((V a ha).lower h1).1 u).mp h2, h3⟩⟩
theorem anl_late0 (V : VEnt n es) (hn : n ≤ 12) {u : Nat} (h : u < n) : LateP es (fun v => ∃ b, Rch0 es u b v) ((anl n es).latestYear.getD u 0) := by
  have e : (anl n es).latestYear.getD u 0 = (((es.map (·.2)).filterMap upperYearBound).foldl (fun (year : Int) (bound : Nat × Int) => if ((anl n es).noEarlier.getD u 0).testBit bound.1 = true then min year bound.2 else year) 2100) := by
    unfold anl analyze
    exact getD_map_range _ _ h
  have f := foldl_late (fun w => ((anl n es).noEarlier.getD u 0).testBit w) es 2100
  dsimp only at f
  rw [e]
  refine ⟨f.1, fun a lo ha h1 h2 => f.2.1 a lo ha h1 ((anl_ne_iff V hn h lo.1).mpr h2), f.2.2.imp id fun ⟨a, lo, ha, h1, h2, h3⟩ => ⟨a, lo, ha, h1, (anl_ne_iff V hn h lo.1).mp h2, h3⟩⟩
theorem anl_later (V : VEnt n es) (hn : n ≤ 12) {a b : Nat} (ha : a < n) (hb : b < n) :
    (anl n es).isEarlier a b = true ↔ Rch0 es a true b ∨ (anl n es).latestYear.getD a 0 < (anl n es).earliestYear.getD b 0 := by
  have e : (anl n es).later.getD a 0 = (List.range n).foldl (fun (set other : Nat) => if decide ((anl n es).latestYear.getD a 0 < (anl n es).earliestYear.getD other 0) = true then set ||| 2 ^ other else set) ((es.map (·.2)).foldl (supF (anl n es).noEarlier a) 0) := by
    simp only [decide_eq_true_eq]
    unfold anl analyze
    exact getD_map_range _ _ ha
  unfold Analysis.isEarlier
  rw [e, testBit_foldl (fun other => decide ((anl n es).latestYear.getD a 0 < (anl n es).earliestYear.getD other 0)) (fun other => 2 ^ other), testBit_sup]
  constructor
  · rintro ((q | ⟨e, u, l, h1, h2, h3, h4⟩) | ⟨x, h1, h2, h3⟩)
    · simp at q
    · left
      have ve := V e h1
      rw [h2] at ve
      obtain ⟨c, w1⟩ := (anl_ne_iff V hn ha l).mp h3
      obtain ⟨d, w2⟩ := (anl_ne_iff V hn ve.1 b).mp h4
      have hs : (⟨l, u, true, [e.1]⟩ : Step) ∈ sglS es := mem_sglS.mpr ⟨e, h1, by unfold sglOf; rw [h2]; simp⟩
      have := w1.trans ((Rch0.one hs).trans w2)
      simpa using this
    · right
      rw [testBit_pow, decide_eq_true_eq] at h3
      subst h3
      simpa using h2
  · rintro (q | q)
    · left; right
      have key : ∀ {u v : Nat} {c : Bool}, Rch0 es u c v → c = true → ∃ e up l, e ∈ es ∧ e.2 = .above up l ∧ (∃ d, Rch0 es u d l) ∧ ∃ d, Rch0 es up d v := by
        intro u v c h
        refine rch0_ind (es := es) (P := fun u c v => c = true → ∃ e up l, e ∈ es ∧ e.2 = .above up l ∧ (∃ d, Rch0 es u d l) ∧ ∃ d, Rch0 es up d v) (fun u z => by cases z) (fun st b v hst hr ih z => ?_) h
        obtain ⟨e, he, hs⟩ := mem_sglS.mp hst
        rcases sgl_cases hs with ⟨up, l, ef, rfl⟩ | ⟨x, y, ef, rfl⟩
        · exact ⟨e, up, l, he, ef, ⟨_, .nil _⟩, ⟨_, hr⟩⟩
        · obtain ⟨e', up, l, h1, h2, ⟨d, h3⟩, h4⟩ := ih (by simpa using z)
          exact ⟨e', up, l, h1, h2, ⟨_, (Rch0.one hst).trans h3⟩, h4⟩
      obtain ⟨e, u, l, h1, h2, h3, h4⟩ := key q rfl
      have ve := V e h1
      rw [h2] at ve
      exact ⟨e, u, l, h1, h2, (anl_ne_iff V hn ha l).mpr h3, (anl_ne_iff V hn ve.1 b).mpr h4⟩
    · right
      exact ⟨b, List.mem_range.mpr hb, by simpa using q, by rw [testBit_pow]; simp⟩

theorem Rch0.lt (V : VEnt n es) {u v : Nat} {b : Bool} (h : Rch0 es u b v) : u < n → v < n := h.rch.lt V
theorem Rch0.lt' (V : VEnt n es) {u v : Nat} {b : Bool} (h : Rch0 es u b v) : v < n → u < n := h.rch.lt' V
/-- with chains: no unit is bounded to nothing -/
theorem early_le_late (V : VEnt n es) (hn : n ≤ 12) (C : Cons es) {u : Nat} (h : u < n) : (anl n es).earliestYear.getD u 0 ≤ (anl n es).latestYear.getD u 0 := by
  have E := anl_early0 V hn h
  have F := anl_late0 V hn h
  rcases E.2.2 with e | ⟨a, lo, ha, h1, ⟨b, h2⟩, h3⟩
  · rcases F.2.2 with f | ⟨c, hi, hc, g1, g2, g3⟩
    · omega
    · have := ((V c hc).upper g1).2; omega
  · rcases F.2.2 with f | ⟨c, hi, hc, g1, ⟨d, g2⟩, g3⟩
    · have := ((V a ha).lower h1).2; omega
    · refine Int.not_lt.mp fun hlt => ?_
      have hs : (⟨hi.1, lo.1, true, [c.1, a.1]⟩ : Step) ∈ stepsOf es := mem_stepsOf.mpr (.inr ⟨c, a, hi, lo, hc, ha, g1, h1, by omega, rfl⟩)
      have := (h2.rch.trans g2.rch).trans (Rch.one hs)
      rw [Bool.or_true] at this
      exact C.rch this
/-- a chain: one by superposition, or the years tell it -/
theorem rch_split (V : VEnt n es) (hn : n ≤ 12) (C : Cons es) {u v : Nat} {b : Bool} (h : Rch es u b v) : u < n → Rch0 es u b v ∨ (b = true ∧ (anl n es).latestYear.getD u 0 < (anl n es).earliestYear.getD v 0) := by
  refine rch_ind (es := es) (P := fun u b v => u < n → Rch0 es u b v ∨ (b = true ∧ (anl n es).latestYear.getD u 0 < (anl n es).earliestYear.getD v 0)) (fun u _ => .inl (.nil u)) (fun st b v hst hr ih hu => ?_) h
  have ht := (bd_stepsOf V st hst).2.1
  have hv := hr.lt V ht
  rcases mem_stepsOf.mp hst with hs | ⟨e1, e2, hi, lo, he1, he2, q, q2, c, rfl⟩
  · have hs := mem_sglS.mpr hs
    rcases ih ht with ih | ⟨rfl, ih⟩
    · exact .inl ((Rch0.one hs).trans ih)
    · refine .inr ⟨by cases st.strict <;> rfl, ?_⟩
      have F := anl_late0 V hn hu
      have G := anl_late0 V hn ht
      have : (anl n es).latestYear.getD st.source 0 ≤ (anl n es).latestYear.getD st.target 0 := by
        rcases G.2.2 with g | ⟨a, hi, ha, g1, ⟨d, g2⟩, g3⟩
        · rw [g]; exact F.1
        · rw [g3]; exact F.2.1 a hi ha g1 ⟨_, (Rch0.one hs).trans g2⟩
      omega
  · refine .inr ⟨rfl, ?_⟩
    have F := anl_late0 V hn hu
    have f1 := F.2.1 e1 hi he1 q ⟨_, .nil _⟩
    have E := anl_early0 V hn ht
    have g1 := E.2.1 e2 lo he2 q2 ⟨_, .nil _⟩
    show (anl n es).latestYear.getD hi.1 0 < (anl n es).earliestYear.getD v 0
    have f1 : (anl n es).latestYear.getD hi.1 0 ≤ hi.2 := f1
    have g1 : lo.2 ≤ (anl n es).earliestYear.getD lo.1 0 := g1
    rcases ih ht with ih2 | ⟨_, ih2⟩
    · have E2 := anl_early0 V hn hv
      have ih3 : Rch0 es lo.1 b v := ih2
      have : lo.2 ≤ (anl n es).earliestYear.getD v 0 := E2.2.1 e2 lo he2 q2 ⟨_, ih3⟩
      omega
    · have := early_le_late V hn C ht
      have ih3 : (anl n es).latestYear.getD lo.1 0 < (anl n es).earliestYear.getD v 0 := ih2
      have this : (anl n es).earliestYear.getD lo.1 0 ≤ (anl n es).latestYear.getD lo.1 0 := this
      omega
/-- A1 -/
theorem earlier_iff (V : VEnt n es) (hn : n ≤ 12) (C : Cons es) {a b : Nat} (ha : a < n) (hb : b < n) : (anl n es).isEarlier a b = true ↔ Rch es a true b := by
  rw [anl_later V hn ha hb]
  constructor
  · rintro (h | h)
    · exact h.rch
    · have F := anl_late0 V hn ha
      have E := anl_early0 V hn hb
      rcases F.2.2 with f | ⟨c, hi, hc, g1, ⟨d, g2⟩, g3⟩
      · rcases E.2.2 with e | ⟨x, lo, hx, h1, h2, h3⟩
        · omega
        · have := ((V x hx).lower h1).2; omega
      · rcases E.2.2 with e | ⟨x, lo, hx, h1, ⟨d2, h2⟩, h3⟩
        · have := ((V c hc).upper g1).2; omega
        · have hs : (⟨hi.1, lo.1, true, [c.1, x.1]⟩ : Step) ∈ stepsOf es := mem_stepsOf.mpr (.inr ⟨c, x, hi, lo, hc, hx, g1, h1, by omega, rfl⟩)
          have := (g2.rch.trans (Rch.one hs)).trans h2.rch
          simpa using this
  · intro h
    rcases rch_split V hn C h ha with q | ⟨_, q⟩
    · exact .inl q
    · exact .inr q
/-- same steps go both ways -/
theorem Rch0.symm {u v : Nat} {b : Bool} (h : Rch0 es u b v) : b = false → Rch0 es v false u := by
  refine rch0_ind (es := es) (P := fun u b v => b = false → Rch0 es v false u) (fun u _ => .nil u) (fun st b v hst hr ih hb => ?_) h
  obtain ⟨e, he, hs⟩ := mem_sglS.mp hst
  rcases sgl_cases hs with ⟨up, l, ef, rfl⟩ | ⟨x, y, ef, rfl⟩
  · cases b <;> cases hb
  · have hb' : b = false := by simpa using hb
    have hs2 : (⟨y, x, false, [e.1]⟩ : Step) ∈ sglS es := by
      refine mem_sglS.mpr ⟨e, he, ?_⟩
      unfold sglOf
      rcases ef with ef | ef <;> rw [ef] <;> simp
    have := (ih hb').trans (Rch0.one hs2)
    simpa using this
theorem rch_false (V : VEnt n es) (hn : n ≤ 12) (C : Cons es) {u v : Nat} (hu : u < n) (h : Rch es u false v) : Rch0 es u false v := by
  rcases rch_split V hn C h hu with q | ⟨z, _⟩
  · exact q
  · cases z
theorem Rch.symm (V : VEnt n es) (hn : n ≤ 12) (C : Cons es) {u v : Nat} (hu : u < n) (h : Rch es u false v) : Rch es v false u := ((rch_false V hn C hu h).symm rfl).rch
/-- A2 -/
theorem same_iff (V : VEnt n es) (hn : n ≤ 12) (C : Cons es) {a b : Nat} (ha : a < n) (hb : b < n) : (anl n es).sameStratum a b = true ↔ Rch es a false b := by
  unfold Analysis.sameStratum
  rw [Bool.and_eq_true, anl_ne_iff V hn ha, anl_ne_iff V hn hb]
  constructor
  · rintro ⟨⟨c, h1⟩, ⟨d, h2⟩⟩
    cases c with
    | false => exact h1.rch
    | true => exact absurd (h1.rch.trans h2.rch) C.rch
  · intro h
    have h0 := rch_false V hn C ha h
    exact ⟨⟨_, h0⟩, ⟨_, h0.symm rfl⟩⟩
/-- A3 -/
theorem early_ok (V : VEnt n es) (hn : n ≤ 12) (C : Cons es) {u : Nat} (hu : u < n) : EarlyP es (fun v => ∃ b, Rch es v b u) ((anl n es).earliestYear.getD u 0) := by
  have E := anl_early0 V hn hu
  refine ⟨E.1, fun e lo he h1 ⟨b, h2⟩ => ?_, E.2.2.imp id fun ⟨e, lo, he, h1, ⟨b, h2⟩, h3⟩ => ⟨e, lo, he, h1, ⟨b, h2.rch⟩, h3⟩⟩
  have hlo := ((V e he).lower h1).1
  rcases rch_split V hn C h2 hlo with q | ⟨_, q⟩
  · exact E.2.1 e lo he h1 ⟨b, q⟩
  · have E2 := (anl_early0 V hn hlo).2.1 e lo he h1 ⟨_, .nil _⟩
    have := early_le_late V hn C hlo
    omega
/-- A4 -/
theorem late_ok (V : VEnt n es) (hn : n ≤ 12) (C : Cons es) {u : Nat} (hu : u < n) : LateP es (fun v => ∃ b, Rch es u b v) ((anl n es).latestYear.getD u 0) := by
  have E := anl_late0 V hn hu
  refine ⟨E.1, fun e lo he h1 ⟨b, h2⟩ => ?_, E.2.2.imp id fun ⟨e, lo, he, h1, ⟨b, h2⟩, h3⟩ => ⟨e, lo, he, h1, ⟨b, h2.rch⟩, h3⟩⟩
  have hlo := ((V e he).upper h1).1
  rcases rch_split V hn C h2 hu with q | ⟨_, q⟩
  · exact E.2.1 e lo he h1 ⟨b, q⟩
  · have E2 := (anl_late0 V hn hlo).2.1 e lo he h1 ⟨_, .nil _⟩
    have := early_le_late V hn C hlo
    omega
end
end SG

/-! M6: counting sequences: what the program pushes forward, the specification pulls -/
set_option linter.all false
namespace SG
open Stratigraphy

/-! ### bits -/
theorem testBit_add_pow : ∀ (p d j : Nat), d.testBit p = false → (d + 2 ^ p).testBit j = if j = p then true else d.testBit j
  | 0, d, j, h => by
    have h0 : d % 2 = 0 := by rw [Nat.testBit_zero] at h; simpa using h
    cases j with
    | zero => rw [Nat.testBit_zero, if_pos rfl]; simp; omega
    | succ j =>
      rw [if_neg (by omega), Nat.testBit_succ, Nat.testBit_succ]
      congr 1
      simp; omega
  | p + 1, d, j, h => by
    rw [Nat.testBit_succ] at h
    have e2 : (d + 2 ^ (p + 1)) / 2 = d / 2 + 2 ^ p := by rw [Nat.pow_succ]; omega
    cases j with
    | zero =>
      rw [if_neg (by omega), Nat.testBit_zero, Nat.testBit_zero]
      have : (d + 2 ^ (p + 1)) % 2 = d % 2 := by rw [Nat.pow_succ]; omega
      rw [this]
    | succ j =>
      rw [Nat.testBit_succ, e2, testBit_add_pow p (d / 2) j h, Nat.testBit_succ]
      by_cases c : j = p
      · rw [if_pos c, if_pos (by omega)]
      · rw [if_neg c, if_neg (by omega)]
theorem pow_le_of_testBit {t p : Nat} (h : t.testBit p = true) : 2 ^ p ≤ t := Nat.ge_two_pow_of_testBit h
theorem sub_pow {t p : Nat} (h : t.testBit p = true) : ∃ d, d.testBit p = false ∧ t = d + 2 ^ p := by
  refine ⟨t ^^^ 2 ^ p, by rw [Nat.testBit_xor, h, Nat.testBit_two_pow]; simp, ?_⟩
  refine Nat.eq_of_testBit_eq fun j => ?_
  rw [testBit_add_pow _ _ _ (by rw [Nat.testBit_xor, h, Nat.testBit_two_pow]; simp)]
  by_cases c : j = p
  · rw [if_pos c, c, h]
  · rw [if_neg c, Nat.testBit_xor, Nat.testBit_two_pow]
    simp [Ne.symm c]
theorem and_eq_iff {x m : Nat} : x &&& m = m ↔ ∀ j, m.testBit j = true → x.testBit j = true := by
  constructor
  · intro h j hj
    rw [← h, Nat.testBit_and, Bool.and_eq_true] at hj
    exact hj.1
  · intro h
    refine Nat.eq_of_testBit_eq fun j => ?_
    rw [Nat.testBit_and]
    cases q : m.testBit j with
    | false => simp
    | true => rw [h j q]; rfl
theorem lt_pow_of_bits {k t : Nat} (h : ∀ j, t.testBit j = true → j < k) : t < 2 ^ k := by
  refine Nat.lt_pow_two_of_testBit t fun j hj => ?_
  cases q : t.testBit j with
  | false => rfl
  | true => exact absurd (h j q) (by omega)
theorem bit_lt {k t j : Nat} (h : t < 2 ^ k) (q : t.testBit j = true) : j < k := by
  refine Nat.lt_of_not_le fun hk => ?_
  have h1 := pow_le_of_testBit q
  have h2 : 2 ^ k ≤ 2 ^ j := Nat.pow_le_pow_right (by decide) hk
  omega

/-! ### masks -/
def maskOf (bef : Nat → Nat → Bool) (strata : List Nat) (unit : Nat) : Nat := ((strata.zipIdx.filter fun p => bef p.1 unit).map fun p => 2 ^ p.2).sum
theorem mask_fold (c : Nat → Bool) : ∀ (l : List Nat) (k m : Nat), m < 2 ^ k →
    (l.zipIdx k).foldl (fun (set : Nat) (other : Nat × Nat) => if c other.1 = true then set ||| 2 ^ other.2 else set) m = m + (((l.zipIdx k).filter fun p => c p.1).map fun p => 2 ^ p.2).sum
  | [], _, _, _ => by simp
  | x :: l, k, m, h => by
    rw [List.zipIdx_cons, List.foldl_cons, List.filter_cons]
    dsimp only
    have hk : 2 ^ k < 2 ^ (k + 1) := by rw [Nat.pow_succ]; have := Nat.two_pow_pos k; omega
    by_cases q : c x = true
    · rw [if_pos q, if_pos q, List.map_cons, List.sum_cons]
      have e : m ||| 2 ^ k = m + 2 ^ k := by
        have := Nat.two_pow_add_eq_or_of_lt h 1
        rw [Nat.mul_one] at this
        rw [Nat.or_comm, ← this, Nat.add_comm]
      rw [e, mask_fold c l (k + 1) (m + 2 ^ k) (by rw [Nat.pow_succ]; omega), Nat.add_assoc]
    · rw [if_neg q, if_neg q]
      exact mask_fold c l (k + 1) m (by omega)
theorem mask_bit (c : Nat → Bool) (j : Nat) : ∀ (l : List Nat) (k m : Nat),
    ((l.zipIdx k).foldl (fun (set : Nat) (other : Nat × Nat) => if c other.1 = true then set ||| 2 ^ other.2 else set) m).testBit j = true → m.testBit j = true ∨ ∃ x, l[j - k]? = some x ∧ k ≤ j ∧ c x = true
  | [], _, _, h => .inl h
  | x :: l, k, m, h => by
    rw [List.zipIdx_cons, List.foldl_cons] at h
    rcases mask_bit c j l (k + 1) _ h with q | ⟨y, h1, h2, h3⟩
    · by_cases cx : c x = true
      · rw [if_pos cx, Nat.testBit_or, Nat.testBit_two_pow, Bool.or_eq_true, decide_eq_true_eq] at q
        rcases q with q | q
        · exact .inl q
        · subst q; exact .inr ⟨x, by simp, Nat.le_refl _, cx⟩
      · rw [if_neg cx] at q; exact .inl q
    · refine .inr ⟨y, ?_, by omega, h3⟩
      have : j - k = (j - (k + 1)) + 1 := by omega
      rw [this]
      simpa using h1

/-! ### the program's table -/
def spreadM (masks : List Nat) (ways : List Nat) (done : Nat) : List Nat :=
  masks.zipIdx.foldl (fun w p => if done.testBit p.2 = false ∧ p.1 &&& done = p.1 then w.set (done + 2 ^ p.2) (w.getD (done + 2 ^ p.2) 0 + w.getD done 0) else w) ways
def waysM (masks : List Nat) : List Nat := (List.range (2 ^ masks.length)).foldl (spreadM masks) ((List.replicate (2 ^ masks.length) 0).set 0 1)
def countM (masks : List Nat) : Nat := (waysM masks).getD (2 ^ masks.length - 1) 0
/-! ### the specification's table -/
def pullF (pre : List Nat) (table : Array Nat) (set : Nat) : Nat := if set = 0 then 1 else pre.zipIdx.foldl (fun (total : Nat) (last : Nat × Nat) => if set.testBit last.2 = true ∧ set &&& last.1 = last.1 then total + table.getD (set - 2 ^ last.2) 0 else total) 0
def pullT (pre : List Nat) (n : Nat) : Array Nat := (List.range n).foldl (fun (table : Array Nat) (set : Nat) => table.push (pullF pre table set)) #[]
theorem pullT_succ (pre : List Nat) (n : Nat) : pullT pre (n + 1) = (pullT pre n).push (pullF pre (pullT pre n) n) := by
  unfold pullT
  rw [List.range_succ, List.foldl_append]
  rfl
theorem pullT_size (pre : List Nat) : ∀ n, (pullT pre n).size = n
  | 0 => rfl
  | n + 1 => by rw [pullT_succ, Array.size_push, pullT_size pre n]
def pull (pre : List Nat) (t : Nat) : Nat := (pullT pre (t + 1)).getD t 0
theorem pullT_get (pre : List Nat) (t : Nat) : ∀ n, t < n → (pullT pre n).getD t 0 = pull pre t
  | 0, h => absurd h (Nat.not_lt_zero _)
  | n + 1, h => by
    by_cases e : t = n
    · subst e; rfl
    · have := pullT_get pre t n (by omega)
      rw [← this, pullT_succ, Array.getD_eq_getD_getElem?, Array.getD_eq_getD_getElem?, Array.getElem?_push, pullT_size, if_neg e]
theorem pull_eq (pre : List Nat) (t : Nat) : pull pre t = pullF pre (pullT pre t) t := by
  unfold pull
  rw [pullT_succ, Array.getD_eq_getD_getElem?, Array.getElem?_push, pullT_size, if_pos rfl]
  rfl
/-- the summand of a stratum that comes last -/
def term (pre : List Nat) (t : Nat) (p : Nat × Nat) : Nat := if t.testBit p.2 = true ∧ t &&& p.1 = p.1 then pull pre (t - 2 ^ p.2) else 0
theorem foldl_term (pre : List Nat) (t : Nat) : ∀ (l : List (Nat × Nat)) (a : Nat), l.foldl (fun (total : Nat) (last : Nat × Nat) => if t.testBit last.2 = true ∧ t &&& last.1 = last.1 then total + (pullT pre t).getD (t - 2 ^ last.2) 0 else total) a = a + (l.map (term pre t)).sum
  | [], a => by simp
  | p :: l, a => by
    rw [List.foldl_cons, foldl_term pre t l, List.map_cons, List.sum_cons]
    unfold term
    by_cases c : t.testBit p.2 = true ∧ t &&& p.1 = p.1
    · have h1 := pow_le_of_testBit c.1
      have h2 := Nat.two_pow_pos p.2
      rw [if_pos c, if_pos c, pullT_get pre _ t (by omega), Nat.add_assoc]
    · rw [if_neg c, if_neg c, Nat.zero_add]
theorem pull_sum (pre : List Nat) (t : Nat) : pull pre t = (if t = 0 then 1 else 0) + (pre.zipIdx.map (term pre t)).sum := by
  rw [pull_eq]
  unfold pullF
  by_cases h : t = 0
  · subst h
    rw [if_pos rfl, if_pos rfl]
    have : ∀ l : List (Nat × Nat), (l.map (term pre 0)).sum = 0 := by
      intro l
      induction l with
      | nil => rfl
      | cons p l ih => rw [List.map_cons, List.sum_cons, ih]; unfold term; rw [if_neg (by simp)]
    rw [this]
  · rw [if_neg h, if_neg h, foldl_term]

/-! ### pushing -/
/-- the summands from sets below d -/
def termB (pre : List Nat) (t d : Nat) (p : Nat × Nat) : Nat := if t.testBit p.2 = true ∧ t &&& p.1 = p.1 ∧ t - 2 ^ p.2 < d then pull pre (t - 2 ^ p.2) else 0
def termP (pre : List Nat) (t d : Nat) (p : Nat × Nat) : Nat := if d.testBit p.2 = false ∧ p.1 &&& d = p.1 ∧ d + 2 ^ p.2 = t then pull pre d else 0
theorem termB_all (pre : List Nat) {t d : Nat} (h : t ≤ d) (p : Nat × Nat) : termB pre t d p = term pre t p := by
  unfold termB term
  by_cases c : t.testBit p.2 = true ∧ t &&& p.1 = p.1
  · have h1 := pow_le_of_testBit c.1
    have h2 := Nat.two_pow_pos p.2
    rw [if_pos c, if_pos ⟨c.1, c.2, by omega⟩]
  · rw [if_neg c, if_neg fun z => c ⟨z.1, z.2.1⟩]
theorem termB_zero (pre : List Nat) (t : Nat) (p : Nat × Nat) : termB pre t 0 p = 0 := by
  unfold termB
  rw [if_neg fun z => Nat.not_lt_zero _ z.2.2]
theorem and_sub {d p m : Nat} (hd : d.testBit p = false) (hm : m.testBit p = false) : (d + 2 ^ p) &&& m = m ↔ m &&& d = m := by
  rw [Nat.and_comm m d, and_eq_iff, and_eq_iff]
  constructor
  · intro h j hj
    have := h j hj
    rw [testBit_add_pow p d j hd] at this
    by_cases c : j = p
    · subst c; rw [hm] at hj; cases hj
    · rwa [if_neg c] at this
  · intro h j hj
    rw [testBit_add_pow p d j hd]
    by_cases c : j = p
    · rw [if_pos c]
    · rw [if_neg c]; exact h j hj
theorem termB_succ (pre : List Nat) (t d : Nat) (p : Nat × Nat) (hm : p.1.testBit p.2 = false) : termB pre t (d + 1) p = termB pre t d p + termP pre t d p := by
  unfold termB termP
  by_cases ht : t.testBit p.2 = true
  · obtain ⟨d', hd', et⟩ := sub_pow ht
    have e : t - 2 ^ p.2 = d' := by omega
    rw [e]
    by_cases hp : t &&& p.1 = p.1
    · have hp' : p.1 &&& d' = p.1 := (and_sub hd' hm).mp (by rw [← et]; exact hp)
      by_cases c : d' = d
      · subst c
        rw [if_pos ⟨ht, hp, by omega⟩, if_neg fun z => absurd z.2.2 (Nat.lt_irrefl _), if_pos ⟨hd', hp', et.symm⟩, Nat.zero_add]
      · rw [if_neg (c := d.testBit p.2 = false ∧ _) fun z => c (by omega)]
        by_cases l : d' < d
        · rw [if_pos ⟨ht, hp, by omega⟩, if_pos ⟨ht, hp, l⟩]; rfl
        · rw [if_neg fun z => by omega, if_neg fun z => l z.2.2]
    · rw [if_neg fun z => hp z.2.1, if_neg fun z => hp z.2.1, if_neg fun z => hp ?_]
      rw [← z.2.2]
      exact (and_sub z.1 hm).mpr z.2.1
  · rw [if_neg fun z => ht z.1, if_neg fun z => ht z.1, if_neg fun z => ht ?_]
    rw [← z.2.2, testBit_add_pow _ _ _ z.1, if_pos rfl]
theorem getD_set (l : List Nat) (i j v : Nat) (hi : i < l.length) : (l.set i v).getD j 0 = if i = j then v else l.getD j 0 := by
  rw [List.getD_eq_getElem?_getD, List.getElem?_set, List.getD_eq_getElem?_getD]
  by_cases c : i = j
  · rw [if_pos c, if_pos c, if_pos hi]; rfl
  · rw [if_neg c, if_neg c]
theorem spread_fold {pre : List Nat} {d k : Nat} (hd : d < 2 ^ k) : ∀ (l : List (Nat × Nat)) (w : List Nat), (∀ p ∈ l, p.2 < k) → w.length = 2 ^ k → w.getD d 0 = pull pre d →
    let w' := l.foldl (fun w p => if d.testBit p.2 = false ∧ p.1 &&& d = p.1 then w.set (d + 2 ^ p.2) (w.getD (d + 2 ^ p.2) 0 + w.getD d 0) else w) w
    w'.length = 2 ^ k ∧ ∀ t, w'.getD t 0 = w.getD t 0 + (l.map (termP pre t d)).sum
  | [], w, _, hl, _ => ⟨hl, fun t => by simp⟩
  | p :: l, w, hp, hl, hw => by
    dsimp only
    rw [List.foldl_cons]
    by_cases c : d.testBit p.2 = false ∧ p.1 &&& d = p.1
    · rw [if_pos c]
      have hlt : d + 2 ^ p.2 < 2 ^ k := by
        refine lt_pow_of_bits fun j hj => ?_
        rw [testBit_add_pow _ _ _ c.1] at hj
        by_cases e : j = p.2
        · rw [e]; exact hp p List.mem_cons_self
        · rw [if_neg e] at hj; exact bit_lt hd hj
      have hpos := Nat.two_pow_pos p.2
      have ih := spread_fold hd l (w.set (d + 2 ^ p.2) (w.getD (d + 2 ^ p.2) 0 + w.getD d 0)) (fun q hq => hp q (List.mem_cons_of_mem _ hq)) (by rw [List.length_set]; exact hl) (by rw [getD_set _ _ _ _ (by omega), if_neg (by omega)]; exact hw)
      refine ⟨ih.1, fun t => ?_⟩
      rw [ih.2 t, getD_set _ _ _ _ (by omega), List.map_cons, List.sum_cons]
      unfold termP
      by_cases e : d + 2 ^ p.2 = t
      · rw [if_pos e, if_pos ⟨c.1, c.2, e⟩, e, hw, Nat.add_assoc]
      · rw [if_neg e, if_neg fun z => e z.2.2, Nat.zero_add]
    · rw [if_neg c]
      have ih := spread_fold hd l w (fun q hq => hp q (List.mem_cons_of_mem _ hq)) hl hw
      refine ⟨ih.1, fun t => ?_⟩
      rw [ih.2 t, List.map_cons, List.sum_cons]
      unfold termP
      rw [if_neg (c := d.testBit p.2 = false ∧ p.1 &&& d = p.1 ∧ d + 2 ^ p.2 = t) fun z => c ⟨z.1, z.2.1⟩, Nat.zero_add]
/-- no stratum is ahead of itself -/
def Irr (masks : List Nat) : Prop := ∀ p ∈ masks.zipIdx, p.1.testBit p.2 = false
theorem zipIdx_lt {l : List Nat} {p : Nat × Nat} (h : p ∈ l.zipIdx) : p.2 < l.length := (List.mem_zipIdx h).2.1 |> fun h => by simpa using h
theorem sum_add {α : Type} (f g h : α → Nat) : ∀ l : List α, (∀ p ∈ l, f p = g p + h p) → (l.map f).sum = (l.map g).sum + (l.map h).sum
  | [], _ => rfl
  | p :: l, e => by
    rw [List.map_cons, List.map_cons, List.map_cons, List.sum_cons, List.sum_cons, List.sum_cons, sum_add f g h l fun q hq => e q (List.mem_cons_of_mem _ hq), e p List.mem_cons_self]
    omega
theorem ways_inv {masks : List Nat} (hi : Irr masks) : ∀ d, d ≤ 2 ^ masks.length →
    let w := (List.range d).foldl (spreadM masks) ((List.replicate (2 ^ masks.length) 0).set 0 1)
    w.length = 2 ^ masks.length ∧ ∀ t, t < 2 ^ masks.length → w.getD t 0 = (if t = 0 then 1 else 0) + (masks.zipIdx.map (termB masks t d)).sum
  | 0, _ => by
    refine ⟨by simp, fun t ht => ?_⟩
    have z : (masks.zipIdx.map (termB masks t 0)).sum = 0 := by
      induction masks.zipIdx with
      | nil => rfl
      | cons p l ih => rw [List.map_cons, List.sum_cons, ih, termB_zero]
    rw [z]
    show ((List.replicate (2 ^ masks.length) 0).set 0 1).getD t 0 = _
    rw [getD_set _ _ _ _ (by rw [List.length_replicate]; exact Nat.two_pow_pos _)]
    by_cases c : t = 0
    · rw [if_pos c.symm, if_pos c]
    · rw [if_neg (Ne.symm c), if_neg c, List.getD_eq_getElem?_getD, List.getElem?_replicate, if_pos ht]; rfl
  | d + 1, hd => by
    have ih := ways_inv hi d (by omega)
    dsimp only at ih ⊢
    rw [List.range_succ, List.foldl_append]
    have hw : ((List.range d).foldl (spreadM masks) ((List.replicate (2 ^ masks.length) 0).set 0 1)).getD d 0 = pull masks d := by
      rw [ih.2 d (by omega), pull_sum]
      congr 1
      congr 1
      exact List.map_congr_left fun p _ => termB_all masks (Nat.le_refl d) p
    have s := spread_fold (pre := masks) (k := masks.length) (show d < 2 ^ masks.length by omega) masks.zipIdx _ (fun p hp => zipIdx_lt hp) ih.1 hw
    refine ⟨s.1, fun t ht => ?_⟩
    rw [show (List.foldl (spreadM masks) _ [d]).getD t 0 = _ from s.2 t, ih.2 t ht, Nat.add_assoc]
    congr 1
    exact (sum_add _ _ _ _ fun p hp => termB_succ masks t d p (hi p hp)).symm
theorem ways_get {masks : List Nat} (hi : Irr masks) {t : Nat} (ht : t < 2 ^ masks.length) : (waysM masks).getD t 0 = pull masks t := by
  have := (ways_inv hi (2 ^ masks.length) (Nat.le_refl _)).2 t ht
  unfold waysM
  rw [this, pull_sum]
  congr 1
  congr 1
  exact List.map_congr_left fun p _ => termB_all masks (Nat.le_of_lt ht) p
/-- what is counted is what the specification counts -/
theorem count_eq (an : Analysis) (hi : ∀ u ∈ an.strata, an.isEarlier u u = false) : countM (an.strata.map (maskOf an.isEarlier an.strata)) = countSequences an := by
  have em : an.strata.map (maskOf an.isEarlier an.strata) = an.strata.map fun (stratum : Nat) => an.strata.zipIdx.foldl (fun (set : Nat) (other : Nat × Nat) => if an.isEarlier other.1 stratum = true then set ||| 2 ^ other.2 else set) 0 :=
    List.map_congr_left fun u _ => by
      rw [mask_fold (fun o => an.isEarlier o u) an.strata 0 0 (by decide), Nat.zero_add]
      rfl
  have irr : Irr (an.strata.map (maskOf an.isEarlier an.strata)) := by
    rw [em]
    rintro ⟨m, j⟩ hp
    have h1 := List.mem_zipIdx' hp
    dsimp only at h1 ⊢
    obtain ⟨hj, he⟩ := h1
    cases q : m.testBit j with
    | false => rfl
    | true =>
      rw [List.length_map] at hj
      rw [List.getElem_map] at he
      rw [he] at q
      rcases mask_bit (fun o => an.isEarlier o an.strata[j]) j an.strata 0 0 q with z | ⟨x, h2, _, h3⟩
      · simp at z
      · rw [Nat.sub_zero, List.getElem?_eq_getElem hj] at h2
        cases h2
        rw [hi _ (List.getElem_mem hj)] at h3
        cases h3
  have hpos := Nat.two_pow_pos an.strata.length
  unfold countM
  rw [ways_get irr (by have := Nat.two_pow_pos (an.strata.map (maskOf an.isEarlier an.strata)).length; omega)]
  unfold countSequences
  dsimp only
  rw [← em, List.length_map]
  exact (pullT_get _ _ _ (by omega)).symm
end SG

/-! M7: strata, the first sequence, the best question, the years of two units -/
set_option linter.all false
namespace SG
open Stratigraphy SalvageBase

section
variable {es : List (Nat × Fact)} {n : Nat}
/-- what is asked of the recorded facts -/
structure Good (n : Nat) (es : List (Nat × Fact)) : Prop where
  n12 : n ≤ 12
  V : VEnt n es
  C : Cons es
theorem Good.V12 (G : Good n es) : VEnt 12 es := fun e he => (G.V e he).mono G.n12
theorem Good.before (G : Good n es) {a b : Nat} (ha : a < n) (hb : b < n) : (anl n es).isEarlier a b = true ↔ Rch es a true b := earlier_iff G.V G.n12 G.C ha hb
theorem Good.same (G : Good n es) {a b : Nat} (ha : a < n) (hb : b < n) : (anl n es).sameStratum a b = true ↔ Rch es a false b := same_iff G.V G.n12 G.C ha hb
theorem Good.same_refl (G : Good n es) {a : Nat} (ha : a < n) : (anl n es).sameStratum a a = true := (G.same ha ha).mpr (.nil a)
theorem same_symm (an : Analysis) (a b : Nat) : an.sameStratum a b = an.sameStratum b a := by unfold Analysis.sameStratum; rw [Bool.and_comm]
theorem Good.same_trans (G : Good n es) {a b c : Nat} (ha : a < n) (hb : b < n) (hc : c < n) (h1 : (anl n es).sameStratum a b = true) (h2 : (anl n es).sameStratum b c = true) : (anl n es).sameStratum a c = true :=
  (G.same ha hc).mpr (((G.same ha hb).mp h1).trans ((G.same hb hc).mp h2))
theorem Good.irr (G : Good n es) {a : Nat} (ha : a < n) : (anl n es).isEarlier a a = false := by
  cases q : (anl n es).isEarlier a a with
  | false => rfl
  | true => exact absurd ((G.before ha ha).mp q) G.C.rch
theorem Good.trans (G : Good n es) {a b c : Nat} (ha : a < n) (hb : b < n) (hc : c < n) (h1 : (anl n es).isEarlier a b = true) (h2 : (anl n es).isEarlier b c = true) : (anl n es).isEarlier a c = true :=
  (G.before ha hc).mpr (((G.before ha hb).mp h1).trans ((G.before hb hc).mp h2))
/-- not later -/
def notAfter (an : Analysis) (a b : Nat) : Bool := an.sameStratum a b || an.isEarlier a b
theorem Good.notAfter_iff (G : Good n es) {a b : Nat} (ha : a < n) (hb : b < n) : notAfter (anl n es) a b = true ↔ ∃ c, Rch es a c b := by
  unfold notAfter
  rw [Bool.or_eq_true, G.same ha hb, G.before ha hb]
  constructor
  · rintro (h | h)
    · exact ⟨_, h⟩
    · exact ⟨_, h⟩
  · rintro ⟨c, h⟩
    cases c
    · exact .inl h
    · exact .inr h

/-! ### strata -/
theorem Good.stratum_ok (G : Good n es) {u : Nat} (hu : u < n) : (anl n es).sameStratum u ((anl n es).stratumOf u) = true ∧ (anl n es).stratumOf u < n ∧ ∀ k, k < (anl n es).stratumOf u → (anl n es).sameStratum u k = false := by
  unfold Analysis.stratumOf
  rw [anl_len]
  cases q : (List.range n).find? ((anl n es).sameStratum u) with
  | none =>
    rw [List.find?_eq_none] at q
    exact absurd (G.same_refl hu) (q u (List.mem_range.mpr hu))
  | some m =>
    obtain ⟨h1, h2, h3⟩ := List.find?_range_eq_some.mp q
    exact ⟨h1, List.mem_range.mp h2, fun k hk => by simpa using h3 k hk⟩
theorem Good.stratum_min (G : Good n es) {u m : Nat} (hu : u < n) (h1 : (anl n es).sameStratum u m = true) (h2 : ∀ k, k < n → (anl n es).sameStratum u k = true → m ≤ k) : m = (anl n es).stratumOf u := by
  obtain ⟨a, b, c⟩ := G.stratum_ok hu
  have h3 := h2 _ b a
  refine Nat.le_antisymm h3 (Nat.not_lt.mp fun hlt => ?_)
  rw [c m hlt] at h1
  cases h1
theorem mem_strata {u : Nat} : u ∈ (anl n es).strata ↔ u < n ∧ (anl n es).stratumOf u = u := by
  unfold Analysis.strata
  rw [anl_len, List.mem_filter, List.mem_range, beq_iff_eq]
theorem strata_lt {u : Nat} (h : u ∈ (anl n es).strata) : u < n := (mem_strata.mp h).1
theorem strata_sorted : (anl n es).strata.Pairwise (· < ·) := List.pairwise_lt_range.filter _
theorem strata_nodup : (anl n es).strata.Nodup := strata_sorted.imp fun h => Nat.ne_of_lt h
theorem Good.stratum_mem (G : Good n es) {u : Nat} (hu : u < n) : (anl n es).stratumOf u ∈ (anl n es).strata := by
  obtain ⟨a, b, c⟩ := G.stratum_ok hu
  refine mem_strata.mpr ⟨b, (G.stratum_min b (G.same_refl b) fun k hk hs => ?_).symm⟩
  refine Nat.not_lt.mp fun hlt => ?_
  have := G.same_trans hu b hk a hs
  rw [c k hlt] at this
  cases this
theorem Good.strata_eq (G : Good n es) {u v : Nat} (hu : u ∈ (anl n es).strata) (hv : v ∈ (anl n es).strata) (h : (anl n es).sameStratum u v = true) : u = v := by
  obtain ⟨u1, u2⟩ := mem_strata.mp hu
  obtain ⟨v1, v2⟩ := mem_strata.mp hv
  have a := G.stratum_ok u1
  have b := G.stratum_ok v1
  rw [u2] at a
  rw [v2] at b
  refine Nat.le_antisymm (Nat.not_lt.mp fun hlt => ?_) (Nat.not_lt.mp fun hlt => ?_)
  · have := a.2.2 v hlt; rw [h] at this; cases this
  · have := b.2.2 u hlt; rw [same_symm, h] at this; cases this
/-- the place of a stratum: fewer are later than there are others -/
theorem Good.place_ok (G : Good n es) {u : Nat} (hu : u ∈ (anl n es).strata) : ((anl n es).strata.filter fun other => (anl n es).isEarlier u other).length + 1 ≤ (anl n es).strata.length := by
  have hn : ∀ (l : List Nat), u ∈ l → (l.filter fun other => (anl n es).isEarlier u other).length + 1 ≤ l.length := by
    intro l
    induction l with
    | nil => intro h; cases h
    | cons a l ih =>
      intro h
      rw [List.filter_cons]
      rcases List.mem_cons.mp h with e | h
      · subst e
        rw [G.irr (strata_lt hu), if_neg Bool.false_ne_true]
        have := List.length_filter_le (fun other => (anl n es).isEarlier u other) l
        simp only [List.length_cons]; omega
      · have := ih h
        split
        · simp only [List.length_cons]; omega
        · simp only [List.length_cons]; omega
  exact hn _ hu

/-! ### years -/
theorem year_cases (s : Bool) {la ha lb hb : Int} (h1 : la ≤ ha) (h2 : lb ≤ hb) :
    (if (s || (decide (la = ha) && (decide (ha = lb) && decide (lb = hb)))) = true then (1 : Int) else if max la lb ≤ min ha hb then 2 else 0) =
    threeValued (s || (la == ha && (lb == hb && la == lb))) (decide (ha < lb) || decide (hb < la)) := by
  unfold threeValued alwaysTrue alwaysFalse undetermined
  cases s with
  | true => simp
  | false =>
    simp only [Bool.false_or, Bool.and_eq_true, Bool.or_eq_true, decide_eq_true_eq, beq_iff_eq]
    by_cases c : la = ha ∧ ha = lb ∧ lb = hb
    · rw [if_pos c, if_pos (show la = ha ∧ lb = hb ∧ la = lb by omega)]
    · rw [if_neg c, if_neg (show ¬ (la = ha ∧ lb = hb ∧ la = lb) by omega)]
      by_cases d : max la lb ≤ min ha hb
      · rw [if_pos d, if_neg (show ¬ (ha < lb ∨ hb < la) by omega)]
      · rw [if_neg d, if_pos (show ha < lb ∨ hb < la by omega)]
theorem Good.sameYear_eq (G : Good n es) {a b : Nat} (ha : a < n) (hb : b < n) :
    (if ((anl n es).sameStratum a b || (decide ((anl n es).earliestYear.getD a 0 = (anl n es).latestYear.getD a 0) && (decide ((anl n es).latestYear.getD a 0 = (anl n es).earliestYear.getD b 0) && decide ((anl n es).earliestYear.getD b 0 = (anl n es).latestYear.getD b 0)))) = true then (1 : Int)
      else if max ((anl n es).earliestYear.getD a 0) ((anl n es).earliestYear.getD b 0) ≤ min ((anl n es).latestYear.getD a 0) ((anl n es).latestYear.getD b 0) then 2 else 0) = (anl n es).sameYear a b :=
  year_cases _ (early_le_late G.V G.n12 G.C ha) (early_le_late G.V G.n12 G.C hb)

/-! ### the first sequence -/
def missingOf (bef : Nat → Nat → Bool) (strata found : List Nat) (unit : Nat) : List Nat := (strata.filter fun other => bef other unit).filter fun other => !decide (other ∈ found)
def readyOf (bef : Nat → Nat → Bool) (strata found : List Nat) : List Nat := strata.filter fun unit => !decide (unit ∈ found) && (missingOf bef strata found unit).isEmpty
def firstSeqM (bef : Nat → Nat → Bool) (strata : List Nat) (k : Nat) : List Nat := (strata.take k).foldl (fun found _ => found ++ [(readyOf bef strata found).headD 0]) []
theorem minimal {bef : Nat → Nat → Bool} : ∀ (l : List Nat), l ≠ [] → (∀ a ∈ l, bef a a = false) → (∀ a ∈ l, ∀ b ∈ l, ∀ c ∈ l, bef a b = true → bef b c = true → bef a c = true) → ∃ m ∈ l, ∀ y ∈ l, bef y m = false
  | [], h, _, _ => absurd rfl h
  | a :: l, _, hi, ht => by
    by_cases hl : l = []
    · subst hl
      exact ⟨a, by simp, fun y hy => by simp at hy; subst hy; exact hi y (by simp)⟩
    · obtain ⟨m, hm, hmin⟩ := minimal l hl (fun x hx => hi x (List.mem_cons_of_mem _ hx)) (fun x hx y hy z hz => ht x (List.mem_cons_of_mem _ hx) y (List.mem_cons_of_mem _ hy) z (List.mem_cons_of_mem _ hz))
      cases q : bef a m with
      | false =>
        refine ⟨m, List.mem_cons_of_mem _ hm, fun y hy => ?_⟩
        rcases List.mem_cons.mp hy with e | hy
        · subst e; exact q
        · exact hmin y hy
      | true =>
        refine ⟨a, by simp, fun y hy => ?_⟩
        rcases List.mem_cons.mp hy with e | hy
        · subst e; exact hi y (by simp)
        · cases r : bef y a with
          | false => rfl
          | true =>
            have := ht y (List.mem_cons_of_mem _ hy) a (by simp) m (List.mem_cons_of_mem _ hm) r q
            rw [hmin y hy] at this
            cases this
theorem ready_filter (bef : Nat → Nat → Bool) (strata found : List Nat) :
    readyOf bef strata found = (strata.filter fun x => !decide (x ∈ found)).filter fun u => !((strata.filter fun x => !decide (x ∈ found)).any fun o => bef o u) := by
  unfold readyOf
  rw [List.filter_filter]
  refine List.filter_congr fun u hu => ?_
  rw [Bool.and_comm]
  congr 1
  unfold missingOf
  rw [Bool.eq_iff_iff, List.isEmpty_iff, Bool.not_eq_true', List.any_eq_false, List.filter_eq_nil_iff]
  simp only [List.mem_filter]
  constructor
  · rintro h x ⟨h1, h2⟩ h3
    exact h x ⟨h1, h3⟩ h2
  · rintro h x ⟨h1, h2⟩ h3
    exact h x ⟨h1, h3⟩ h2
theorem filter_ne_len {l : List Nat} {m : Nat} (hn : l.Nodup) (hm : m ∈ l) : (l.filter fun o => o != m).length + 1 = l.length := by
  induction l with
  | nil => cases hm
  | cons a l ih =>
    rw [List.nodup_cons] at hn
    rw [List.filter_cons]
    by_cases e : a = m
    · subst e
      rw [if_neg (by simp)]
      have : l.filter (fun o => o != a) = l := List.filter_eq_self.mpr fun x hx => by
        have : x ≠ a := fun q => hn.1 (q ▸ hx)
        simpa using this
      rw [this]; rfl
    · rw [if_pos (by simpa using e)]
      have := ih hn.2 ((List.mem_cons.mp hm).elim (fun q => absurd q.symm e) id)
      simp only [List.length_cons]; omega
section
variable {an : Analysis}
/-- from any state: as many turns as strata are left -/
theorem firstSeq_go (hi : ∀ a ∈ an.strata, an.isEarlier a a = false) (ht : ∀ a ∈ an.strata, ∀ b ∈ an.strata, ∀ c ∈ an.strata, an.isEarlier a b = true → an.isEarlier b c = true → an.isEarlier a c = true) (hn : an.strata.Nodup) :
    ∀ (t found : List Nat), (an.strata.filter fun x => !decide (x ∈ found)).length = t.length →
      t.foldl (fun found _ => found ++ [(readyOf an.isEarlier an.strata found).headD 0]) found = found ++ firstSequenceOf an t.length (an.strata.filter fun x => !decide (x ∈ found)) ∧
      (t ≠ [] → readyOf an.isEarlier an.strata found ≠ [])
  | [], found, _ => ⟨by simp [firstSequenceOf], fun h => absurd rfl h⟩
  | x :: t, found, hl => by
    have hne : (an.strata.filter fun x => !decide (x ∈ found)) ≠ [] := fun q => by rw [q] at hl; simp at hl
    have sub : ∀ y ∈ an.strata.filter (fun x => !decide (x ∈ found)), y ∈ an.strata := fun y hy => (List.mem_filter.mp hy).1
    obtain ⟨m0, hm0, hmin⟩ := minimal (bef := an.isEarlier) _ hne (fun a ha => hi a (sub a ha)) (fun a ha b hb c hc => ht a (sub a ha) b (sub b hb) c (sub c hc))
    have hr : readyOf an.isEarlier an.strata found ≠ [] := by
      rw [ready_filter]
      refine List.ne_nil_of_mem (a := m0) (List.mem_filter.mpr ⟨hm0, ?_⟩)
      rw [Bool.not_eq_true', List.any_eq_false]
      exact fun y hy => by rw [hmin y hy]; exact Bool.false_ne_true
    refine ⟨?_, fun _ => hr⟩
    have e1 : (readyOf an.isEarlier an.strata found).head? = (an.strata.filter fun x => !decide (x ∈ found)).find? fun u => !((an.strata.filter fun x => !decide (x ∈ found)).any fun o => an.isEarlier o u) := by
      rw [ready_filter, List.head?_filter]
    cases q : readyOf an.isEarlier an.strata found with
    | nil => exact absurd q hr
    | cons m r =>
      rw [q] at e1
      have hm : m ∈ an.strata.filter fun x => !decide (x ∈ found) := List.mem_of_find?_eq_some e1.symm
      rw [List.foldl_cons, q]
      show List.foldl _ (found ++ [m]) t = _
      have hf : (an.strata.filter fun x => !decide (x ∈ found ++ [m])) = (an.strata.filter fun x => !decide (x ∈ found)).filter fun o => o != m := by
        rw [List.filter_filter]
        refine List.filter_congr fun y hy => ?_
        by_cases c1 : y ∈ found <;> by_cases c2 : y = m <;> simp [c1, c2]
      have hl2 : (an.strata.filter fun x => !decide (x ∈ found ++ [m])).length = t.length := by
        rw [hf]
        have := filter_ne_len (hn.filter _) hm
        simp only [List.length_cons] at hl
        omega
      rw [(firstSeq_go hi ht hn t (found ++ [m]) hl2).1, hf, List.length_cons]
      show _ = found ++ (match (an.strata.filter fun x => !decide (x ∈ found)).find? fun u => !((an.strata.filter fun x => !decide (x ∈ found)).any fun o => an.isEarlier o u) with
        | some stratum => stratum :: firstSequenceOf an t.length ((an.strata.filter fun x => !decide (x ∈ found)).filter fun other => other != stratum)
        | none => [])
      rw [← e1]
      simp
end
theorem Good.firstSeq (G : Good n es) : firstSeqM (anl n es).isEarlier (anl n es).strata (anl n es).strata.length = firstSequenceOf (anl n es) (anl n es).strata.length (anl n es).strata := by
  have := (firstSeq_go (an := anl n es) (fun a ha => G.irr (strata_lt ha)) (fun a ha b hb c hc => G.trans (strata_lt ha) (strata_lt hb) (strata_lt hc)) strata_nodup (anl n es).strata [] (by simp)).1
  unfold firstSeqM
  rw [List.take_length, this, show ((anl n es).strata.filter fun x => !decide (x ∈ ([] : List Nat))) = (anl n es).strata from List.filter_eq_self.mpr (by simp)]
  rfl
theorem filter_found_len {l found : List Nat} (hl : l.Nodup) (hf : found.Nodup) (hs : ∀ x ∈ found, x ∈ l) : (l.filter fun x => !decide (x ∈ found)).length + found.length = l.length := by
  induction found with
  | nil => simp
  | cons a f ih =>
    rw [List.nodup_cons] at hf
    have ih := ih hf.2 fun x hx => hs x (List.mem_cons_of_mem _ hx)
    have ha : a ∈ l.filter fun x => !decide (x ∈ f) := List.mem_filter.mpr ⟨hs a (by simp), by simpa using hf.1⟩
    have e : (l.filter fun x => !decide (x ∈ a :: f)) = (l.filter fun x => !decide (x ∈ f)).filter fun o => o != a := by
      rw [List.filter_filter]
      refine List.filter_congr fun y hy => ?_
      by_cases c1 : y ∈ f <;> by_cases c2 : y = a <;> simp [c1, c2]
    rw [e]
    have := filter_ne_len (hl.filter _) ha
    simp only [List.length_cons]
    omega
/-- there is always a stratum that may come next -/
theorem Good.ready (G : Good n es) {k : Nat} (hk : k < (anl n es).strata.length) : readyOf (anl n es).isEarlier (anl n es).strata (firstSeqM (anl n es).isEarlier (anl n es).strata k) ≠ [] := by
  have step : ∀ (j : Nat), j ≤ (anl n es).strata.length → (firstSeqM (anl n es).isEarlier (anl n es).strata j).Nodup ∧ (∀ x ∈ firstSeqM (anl n es).isEarlier (anl n es).strata j, x ∈ (anl n es).strata) ∧ (firstSeqM (anl n es).isEarlier (anl n es).strata j).length = j ∧
      (j < (anl n es).strata.length → readyOf (anl n es).isEarlier (anl n es).strata (firstSeqM (anl n es).isEarlier (anl n es).strata j) ≠ []) := by
    intro j
    induction j with
    | zero =>
      intro _
      refine ⟨by simp [firstSeqM], by simp [firstSeqM], by simp [firstSeqM], fun h => ?_⟩
      refine (firstSeq_go (an := anl n es) (fun a ha => G.irr (strata_lt ha)) (fun a ha b hb c hc => G.trans (strata_lt ha) (strata_lt hb) (strata_lt hc)) strata_nodup (anl n es).strata [] (by simp)).2 ?_
      intro q; rw [q] at h; simp at h
    | succ j ih =>
      intro hj
      obtain ⟨h1, h2, h3, h4⟩ := ih (by omega)
      have h4 := h4 (by omega)
      have e : firstSeqM (anl n es).isEarlier (anl n es).strata (j + 1) = firstSeqM (anl n es).isEarlier (anl n es).strata j ++ [(readyOf (anl n es).isEarlier (anl n es).strata (firstSeqM (anl n es).isEarlier (anl n es).strata j)).headD 0] := by
        unfold firstSeqM
        rw [List.take_add_one, List.foldl_append, List.getElem?_eq_getElem (show j < (anl n es).strata.length by omega)]
        rfl
      have hmem : (readyOf (anl n es).isEarlier (anl n es).strata (firstSeqM (anl n es).isEarlier (anl n es).strata j)).headD 0 ∈ readyOf (anl n es).isEarlier (anl n es).strata (firstSeqM (anl n es).isEarlier (anl n es).strata j) := by
        cases q : readyOf (anl n es).isEarlier (anl n es).strata (firstSeqM (anl n es).isEarlier (anl n es).strata j) with
        | nil => exact absurd q h4
        | cons m r => simp
      obtain ⟨m1, m2⟩ := List.mem_filter.mp hmem
      have m3 : (readyOf (anl n es).isEarlier (anl n es).strata (firstSeqM (anl n es).isEarlier (anl n es).strata j)).headD 0 ∉ firstSeqM (anl n es).isEarlier (anl n es).strata j := by
        rw [Bool.and_eq_true] at m2
        simpa using m2.1
      have n1 : (firstSeqM (anl n es).isEarlier (anl n es).strata (j + 1)).Nodup := by
        rw [e, List.nodup_append]
        refine ⟨h1, by simp, fun a ha b hb => ?_⟩
        rw [List.mem_singleton] at hb
        subst hb
        rintro rfl
        exact m3 ha
      have n2 : ∀ x ∈ firstSeqM (anl n es).isEarlier (anl n es).strata (j + 1), x ∈ (anl n es).strata := by
        intro x hx
        rw [e] at hx
        rcases List.mem_append.mp hx with hx | hx
        · exact h2 x hx
        · rw [List.mem_singleton] at hx; subst hx; exact m1
      have n3 : (firstSeqM (anl n es).isEarlier (anl n es).strata (j + 1)).length = j + 1 := by rw [e, List.length_append, h3]; rfl
      refine ⟨n1, n2, n3, fun hlt => ?_⟩
      have hfl := filter_found_len strata_nodup n1 n2
      rw [n3] at hfl
      refine (firstSeq_go (an := anl n es) (fun a ha => G.irr (strata_lt ha)) (fun a ha b hb c hc => G.trans (strata_lt ha) (strata_lt hb) (strata_lt hc)) strata_nodup ((anl n es).strata.drop (j + 1)) _ ?_).2 ?_
      · rw [List.length_drop]; omega
      · intro q
        have := congrArg List.length q
        rw [List.length_drop] at this
        simp at this
        omega
  exact (step k (by omega)).2.2.2 hk

/-! ### the best question -/
def settled (an : Analysis) (p : Nat × Nat) (one other : Nat) : Bool := (notAfter an p.1 one && notAfter an other p.2) || (notAfter an p.2 one && notAfter an other p.1)
def leftOpen (an : Analysis) (one other : Nat) : Nat := (an.undeterminedPairs.filter fun p => !settled an p one other).length
theorem mem_und {an : Analysis} {p : Nat × Nat} : p ∈ an.undeterminedPairs ↔ p.1 ∈ an.strata ∧ p.2 ∈ an.strata ∧ p.1 < p.2 ∧ an.isEarlier p.1 p.2 = false ∧ an.isEarlier p.2 p.1 = false := by
  unfold Analysis.undeterminedPairs
  rw [List.mem_flatMap]
  constructor
  · rintro ⟨a, ha, h⟩
    obtain ⟨b, hb, rfl⟩ := List.mem_map.mp h
    obtain ⟨h1, h2⟩ := List.mem_filter.mp hb
    simp only [Bool.and_eq_true, decide_eq_true_eq, Bool.not_eq_true'] at h2
    exact ⟨ha, h1, h2.1, h2.2.1, h2.2.2⟩
  · rintro ⟨h1, h2, h3, h4, h5⟩
    exact ⟨p.1, h1, List.mem_map.mpr ⟨p.2, List.mem_filter.mpr ⟨h2, by simp [h3, h4, h5]⟩, rfl⟩⟩
theorem flatMap_congr {α β : Type} {f g : α → List β} : ∀ {l : List α}, (∀ x ∈ l, f x = g x) → l.flatMap f = l.flatMap g
  | [], _ => rfl
  | x :: l, h => by rw [List.flatMap_cons, List.flatMap_cons, h x List.mem_cons_self, flatMap_congr fun y hy => h y (List.mem_cons_of_mem _ hy)]
/-- once a is earlier than b, which are not certainly otherwise: what is left -/
theorem Good.left_open (G : Good n es) {i a b : Nat} (ha : a < n) (hb : b < n) (h : ∀ c, ¬ Rch es b c a) : leftOpen (anl n es) a b = (anl n (es ++ [(i, .above b a)])).undeterminedPairs.length := by
  have G' : Good n (es ++ [(i, .above b a)]) := ⟨G.n12, fun e he => (List.mem_append.mp he).elim (G.V e) fun z => by rw [List.mem_singleton] at z; subst z; exact ⟨hb, ha⟩, cons_above G.C h⟩
  have hsame : ∀ x y, x < n → y < n → (anl n (es ++ [(i, .above b a)])).sameStratum x y = (anl n es).sameStratum x y := fun x y hx hy => by
    rw [Bool.eq_iff_iff, G'.same hx hy, G.same hx hy]
    constructor
    · intro q
      rcases rch_above q with q | ⟨z, _⟩
      · exact q
      · cases z
    · exact fun q => q.more
  have hbef : ∀ x y, x < n → y < n → (anl n (es ++ [(i, .above b a)])).isEarlier x y = ((anl n es).isEarlier x y || (notAfter (anl n es) x a && notAfter (anl n es) b y)) := fun x y hx hy => by
    rw [Bool.eq_iff_iff, G'.before hx hy, Bool.or_eq_true, Bool.and_eq_true, G.before hx hy, G.notAfter_iff hx ha, G.notAfter_iff hb hy]
    constructor
    · intro q
      rcases rch_above q with q | ⟨_, q⟩
      · exact .inl q
      · exact .inr q
    · rintro (q | ⟨⟨c, q1⟩, ⟨d, q2⟩⟩)
      · exact q.more
      · exact rch_above_mk q1 q2
  have hstr : (anl n (es ++ [(i, .above b a)])).strata = (anl n es).strata := by
    unfold Analysis.strata
    rw [anl_len, anl_len]
    refine List.filter_congr fun u hu => ?_
    have hu := List.mem_range.mp hu
    have : (anl n (es ++ [(i, .above b a)])).stratumOf u = (anl n es).stratumOf u := by
      unfold Analysis.stratumOf
      rw [anl_len, anl_len]
      congr 1
      obtain ⟨p, hp⟩ : ∃ p : List Nat, p = List.range n := ⟨_, rfl⟩
      have hlt : ∀ x ∈ p, x < n := fun x hx => List.mem_range.mp (hp ▸ hx)
      rw [← hp]
      clear hp
      induction p with
      | nil => rfl
      | cons x p ih => rw [List.find?_cons, List.find?_cons, hsame u x hu (hlt x (by simp)), ih fun y hy => hlt y (List.mem_cons_of_mem _ hy)]
    rw [this]
  unfold leftOpen
  congr 1
  unfold Analysis.undeterminedPairs
  rw [hstr, List.filter_flatMap]
  refine flatMap_congr fun x hx => ?_
  rw [List.filter_map, List.filter_filter]
  congr 1
  refine List.filter_congr fun y hy => ?_
  have hx := strata_lt hx
  have hy := strata_lt hy
  rw [hbef x y hx hy, hbef y x hy hx]
  simp only [Function.comp_def, settled]
  cases decide (x < y) <;> cases (anl n es).isEarlier x y <;> cases (anl n es).isEarlier y x <;> cases notAfter (anl n es) x a <;> cases notAfter (anl n es) b y <;> cases notAfter (anl n es) y a <;> cases notAfter (anl n es) b x <;> rfl
def worstM (an : Analysis) (p : Nat × Nat) : Nat := max (leftOpen an p.1 p.2) (leftOpen an p.2 p.1)
theorem Good.worst (G : Good n es) {p : Nat × Nat} (hp : p ∈ (anl n es).undeterminedPairs) : worstM (anl n es) p = worstRemaining n (es.map (·.2)) p := by
  obtain ⟨h1, h2, h3, h4, h5⟩ := mem_und.mp hp
  have l1 := strata_lt h1
  have l2 := strata_lt h2
  have hs : (anl n es).sameStratum p.1 p.2 = false := by
    cases q : (anl n es).sameStratum p.1 p.2 with
    | false => rfl
    | true => have := G.strata_eq h1 h2 q; omega
  have no : ∀ x y, x < n → y < n → (anl n es).sameStratum x y = false → (anl n es).isEarlier x y = false → ∀ c, ¬ Rch es x c y := fun x y hx hy q1 q2 c r => by
    cases c with
    | false => rw [(G.same hx hy).mpr r] at q1; cases q1
    | true => rw [(G.before hx hy).mpr r] at q2; cases q2
  unfold worstM worstRemaining
  rw [G.left_open (i := 0) l1 l2 (no _ _ l2 l1 (by rw [same_symm]; exact hs) h5), G.left_open (i := 0) l2 l1 (no _ _ l1 l2 hs h4)]
  unfold anl
  rw [List.map_append, List.map_append]
  rfl
/-! Python's min over (worst, one, other) -/
def triLt (x y : Nat × Nat × Nat) : Bool := decide (x.1 < y.1) || (x.1 == y.1 && (decide (x.2.1 < y.2.1) || (x.2.1 == y.2.1 && decide (x.2.2 < y.2.2))))
def triMin : List (Nat × Nat × Nat) → Option (Nat × Nat × Nat)
  | [] => none
  | x :: xs => some (xs.foldl (fun a y => if triLt y a = true then y else a) x)
def bestM (an : Analysis) : Option (Nat × Nat × Nat) := triMin (an.undeterminedPairs.map fun p => (worstM an p, p.1, p.2))
theorem und_sorted : ((anl n es).undeterminedPairs).Pairwise fun p q => p.1 < q.1 ∨ (p.1 = q.1 ∧ p.2 < q.2) := by
  unfold Analysis.undeterminedPairs
  rw [List.pairwise_flatMap]
  constructor
  · intro a ha
    rw [List.pairwise_map]
    exact (strata_sorted.filter _).imp fun h => .inr ⟨rfl, h⟩
  · refine strata_sorted.imp fun {a b} h x hx y hy => ?_
    obtain ⟨_, _, rfl⟩ := List.mem_map.mp hx
    obtain ⟨_, _, rfl⟩ := List.mem_map.mp hy
    exact .inl h
theorem min_fold (f : Nat × Nat → Nat) : ∀ (l : List (Nat × Nat)) (x : Nat × Nat), (x :: l).Pairwise (fun p q => p.1 < q.1 ∨ (p.1 = q.1 ∧ p.2 < q.2)) →
    (l.map fun p => (p, f p)).foldl (fun (best : Option ((Nat × Nat) × Nat)) (entry : (Nat × Nat) × Nat) => match best with
      | none => some entry
      | some current => if entry.2 < current.2 then some entry else some current) (some (x, f x)) =
    some (let m := (l.map fun p => (f p, p.1, p.2)).foldl (fun a y => if triLt y a = true then y else a) (f x, x.1, x.2); ((m.2.1, m.2.2), m.1))
  | [], x, _ => rfl
  | y :: l, x, h => by
    rw [List.map_cons, List.map_cons, List.foldl_cons, List.foldl_cons]
    rw [List.pairwise_cons] at h
    have hy := h.1 y (by simp)
    dsimp only
    by_cases c : f y < f x
    · rw [if_pos c, if_pos (show triLt (f y, y.1, y.2) (f x, x.1, x.2) = true by simp [triLt, c])]
      exact min_fold f l y h.2
    · have t : triLt (f y, y.1, y.2) (f x, x.1, x.2) = false := by
        unfold triLt
        simp only [decide_eq_false c, Bool.false_or, Bool.and_eq_false_iff, Bool.or_eq_false_iff, decide_eq_false_iff_not, beq_eq_false_iff_ne]
        omega
      rw [if_neg c, t, if_neg Bool.false_ne_true]
      refine min_fold f l x ?_
      rw [List.pairwise_cons]
      exact ⟨fun z hz => h.1 z (List.mem_cons_of_mem _ hz), (List.pairwise_cons.mp h.2).2⟩
theorem Good.best (G : Good n es) : firstMinimum ((anl n es).undeterminedPairs.map fun (pair : Nat × Nat) => (pair, worstRemaining n (es.map (·.2)) pair)) = (bestM (anl n es)).map fun m => ((m.2.1, m.2.2), m.1) := by
  have e : ((anl n es).undeterminedPairs.map fun (pair : Nat × Nat) => (pair, worstRemaining n (es.map (·.2)) pair)) = (anl n es).undeterminedPairs.map fun p => (p, worstM (anl n es) p) :=
    List.map_congr_left fun p hp => by rw [G.worst hp]
  rw [e]
  unfold firstMinimum bestM
  have hs := und_sorted (n := n) (es := es)
  cases q : (anl n es).undeterminedPairs with
  | nil => rfl
  | cons x l =>
    rw [q] at hs
    rw [List.map_cons, List.foldl_cons]
    exact min_fold (worstM (anl n es)) l x hs
theorem Good.count (G : Good n es) : countM ((anl n es).strata.map (maskOf (anl n es).isEarlier (anl n es).strata)) = Stratigraphy.countSequences (anl n es) := count_eq _ fun u hu => G.irr (strata_lt hu)
end
end SG

/-! W1: dicts whose keys are flat tuples of whole numbers and truth values, over the layer -/
set_option Elab.async false
set_option linter.all false
set_option maxRecDepth 100000
set_option maxHeartbeats 2000000
namespace L2.SD
open PySem PySem.Spec PyProof.Rows

/-- the leaf of a key's item -/
def lfV : V → Leaf
  | .int i => .num i
  | .bl b => .num (if b = true then 1 else 0)
  | _ => .none
/-- a whole number or a truth value -/
def okV : V → Bool
  | .int _ => true
  | .bl _ => true
  | _ => false
theorem leaf_of {P : Program} {w : World} {v : V} {u : Value} (h : okV v = true) (r : RelV v u) : (leafKind P w).is (lfV v) u = true := by
  cases v with
  | int i => obtain ⟨t, rfl⟩ := r; exact decide_eq_true rfl
  | bl b => cases r; exact decide_eq_true rfl
  | _ => exact absurd h Bool.false_ne_true
theorem leaves_of {P : Program} {w : World} : ∀ {ks : List V} {us : List Value}, ks.all okV = true → Vals ks us → ItemsAre (leafKind P w) (ks.map lfV) us
  | [], _, _, r => by cases r; exact .nil
  | k :: ks, _, h, r => by
    rw [List.all_cons, Bool.and_eq_true] at h
    cases r with
    | cons r1 r2 => exact .cons (leaf_of h.1 r1) (leaves_of h.2 r2)

abbrev LK (P : Program) (w : World) : HeapKind P w (List Leaf) := tupleKind (leafKind P w)
/-- keys, their tuples' places, values -/
abbrev KVs := List (List V × Addr × V)
abbrev RKV : KVs → List (List Leaf × Addr × Value) → Prop := Paired fun p q => q.1 = p.1.map lfV ∧ q.2.1 = p.2.1 ∧ RelV p.2.2 q.2.2
/-- the object of a dict with these entries -/
def DOk (P : Program) (w : World) (d : Addr) (o : Obj) (kvs : KVs) : Prop := kvs.length ≤ sizeLine ∧ (d == sysModules) = false ∧ o.ExactDict ∧
  ∃ xs es ep, RKV kvs xs ∧ o.data = .dict es ep ∧ es.toList = xs.map (entryOfKey (LK P w)) ∧ (xs.map (·.1)).Nodup
def dE (P : Program) (w : World) (d : Addr) (o : Obj) (kvs : KVs) : HO := .ext fun h => h.get? d = some o ∧ DOk P w d o kvs
/-- a dict stands at d -/
structure DA (P : Program) (w : World) (H : Hp) (d : Addr) (kvs : KVs) : Prop where
  obj : ∃ o, H d = some (dE P w d o kvs)
  key : ∀ x ∈ kvs, H x.2.1 = some (.tup x.1) ∧ x.1.all okV = true
section
variable {P : Program} {w : World} {H : Hp} {h : Heap} {d t : Addr} {o : Obj} {kvs : KVs} {ks : List V}
theorem dE_ok (hd : h.get? d = some o) (k : DOk P w d o kvs) : ObjOk P w H h d (dE P w d o kvs) :=
  ⟨⟨hd, k⟩, ⟨o, hd⟩, fun _ _ a b => ⟨b _ a.1, a.2⟩⟩
theorem dE_get (ok : HOk P w H h) (e : H d = some (dE P w d o kvs)) : h.get? d = some o ∧ DOk P w d o kvs := (ok d _ e).1
theorem keyL (ok : HOk P w H h) (e : H t = some (.tup ks)) (hk : ks.all okV = true) : (LK P w).is h (ks.map lfV) t := by
  obtain ⟨_, its, r, o, h1, h2, n, h3⟩ := (show ObjOk P w H h t (.tup ks) from ok t _ e)
  exact ⟨o, its.toArray, n, h1, h2, h3, by simpa using leaves_of hk r⟩
/-- the dict of the heap -/
theorem DA.dict (D : DA P w H d kvs) (ok : HOk P w H h) : ∃ o xs, H d = some (dE P w d o kvs) ∧ RKV kvs xs ∧ h.DictOfH (LK P w) d xs ∧ (d == sysModules) = false ∧ kvs.length ≤ sizeLine := by
  obtain ⟨o, e⟩ := D.obj
  obtain ⟨hd, hl, hs, hx, xs, es, ep, r, h1, h2, h3⟩ := dE_get ok e
  refine ⟨o, xs, e, r, ⟨o, es, ep, hd, hx, h1, h2, ?_, h3⟩, hs, hl⟩
  have all : ∀ {l : KVs} {m : List (List Leaf × Addr × Value)}, RKV l m → (∀ x ∈ l, H x.2.1 = some (.tup x.1) ∧ x.1.all okV = true) → ∀ x ∈ m, (LK P w).is h x.1 x.2.1 := by
    intro l m q
    induction q with
    | nil => intro _ x hx; exact nomatch hx
    | @cons p q ps qs hq t ih =>
      intro hk x hx
      rcases List.mem_cons.mp hx with e | hx
      · subst e
        have hp := hk p List.mem_cons_self
        have := keyL ok hp.1 hp.2
        rw [hq.1, hq.2.1]
        exact this
      · exact ih (fun y hy => hk y (List.mem_cons_of_mem _ hy)) x hx
  exact all r D.key
end
/-! ### look-up and store -/
def valL (kvs : KVs) (ks : List V) : Option V := (kvs.find? fun x => decide (x.1.map lfV = ks.map lfV)).map (·.2.2)
def putL (kvs : KVs) (ks : List V) (t : Addr) (v : V) : KVs := if (valL kvs ks).isSome = true then kvs.map (fun x => if x.1.map lfV = ks.map lfV then (x.1, x.2.1, v) else x) else kvs ++ [(ks, t, v)]
theorem valL_cons (x : List V × Addr × V) (r : KVs) (ks : List V) : valL (x :: r) ks = if x.1.map lfV = ks.map lfV then some x.2.2 else valL r ks := by
  unfold valL
  rw [List.find?_cons]
  by_cases h : x.1.map lfV = ks.map lfV <;> simp [h]
theorem RKV.val {kvs : KVs} {xs : List (List Leaf × Addr × Value)} (r : RKV kvs xs) (ks : List V) : RelO (valL kvs ks) ((atKey xs (ks.map lfV)).map (·.2)) := by
  induction r with
  | nil => exact True.intro
  | @cons p q ps qs h t ih =>
    rw [valL_cons]
    by_cases e : p.1.map lfV = ks.map lfV
    · have b : atKey (q :: qs) (ks.map lfV) = some q.2 := by simp [atKey, List.find?_cons, h.1, e]
      rw [if_pos e, b]
      exact h.2.2
    · have b : atKey (q :: qs) (ks.map lfV) = atKey qs (ks.map lfV) := by simp [atKey, List.find?_cons, h.1, e]
      rw [if_neg e, b]
      exact ih
theorem RKV.put {kvs : KVs} {xs : List (List Leaf × Addr × Value)} (r : RKV kvs xs) (ks : List V) {t : Addr} {v : V} {u : Value} (rv : RelV v u) : RKV (putL kvs ks t v) (storedH xs (ks.map lfV) t u) := by
  have e : (valL kvs ks).isSome = (atKey xs (ks.map lfV)).isSome := by rw [(r.val ks).isSome_eq, Option.isSome_map]
  unfold putL storedH
  rw [e]
  by_cases c : (atKey xs (ks.map lfV)).isSome = true
  · rw [if_pos c, if_pos c]
    clear c e
    induction r with
    | nil => exact .nil
    | @cons p q ps qs h t ih =>
      rw [List.map_cons, List.map_cons]
      refine .cons ?_ ih
      unfold putAt
      by_cases z : p.1.map lfV = ks.map lfV
      · rw [if_pos z, if_pos (h.1.trans z)]; exact ⟨h.1, h.2.1, rv⟩
      · rw [if_neg z, if_neg fun y => z (h.1.symm.trans y)]; exact h
  · rw [if_neg c, if_neg c]
    exact Paired.snoc r ⟨rfl, rfl, rv⟩
theorem putL_length (kvs : KVs) (ks : List V) (t : Addr) (v : V) : (putL kvs ks t v).length ≤ kvs.length + 1 := by
  unfold putL
  split
  · rw [List.length_map]; omega
  · rw [List.length_append]; exact Nat.le_refl _
theorem putL_key {kvs : KVs} {ks : List V} {t : Addr} {v : V} {F : List V → Addr → Prop} (h : ∀ x ∈ kvs, F x.1 x.2.1) (h0 : F ks t) : ∀ x ∈ putL kvs ks t v, F x.1 x.2.1 := by
  intro x hx
  unfold putL at hx
  split at hx
  · obtain ⟨y, hy, e⟩ := List.mem_map.mp hx
    by_cases z : y.1.map lfV = ks.map lfV
    · rw [if_pos z] at e; rw [← e]; exact h y hy
    · rw [if_neg z] at e; rw [← e]; exact h y hy
  · rcases List.mem_append.mp hx with hx | hx
    · exact h x hx
    · rw [List.mem_singleton] at hx; subst hx; exact h0

/-- what the dict at a holds at y -/
def DGt (P : Program) (w : World) (H : Hp) (a : Addr) (y : V) (r : Option V) : Prop := ∃ kvs ks t, DA P w H a kvs ∧ y = .ref t ∧ H t = some (.tup ks) ∧ ks.all okV = true ∧ r = valL kvs ks
section
variable {X : Cx} {pins : List (Addr × Obj)} {σ : St} {H : Hp} {s : Shared} {a : Addr} {y v : V} {u r : Value} {o : Option V} {E : Value → Shared → Prop}
theorem g_item {Q : Value → Shared → Prop} (hu : X.A.units + 1 < cLine) (I : Inv X pins σ H s) (g : DGt X.prog X.w H a y (some v)) (ry : RelV y u) (h : ∀ w' s', Inv X pins σ H s' → RelV v w' → Q w' s') :
    wpAny (model X.prog X.w) X.A (getItem (.ref a) u) Q E s := by
  obtain ⟨kvs, ks, t, D, rfl, et, hk, l⟩ := g
  cases (show u = Value.ref t from ry)
  obtain ⟨o, xs, e, rk, dd, hs, hl⟩ := D.dict I.hok
  obtain ⟨w', hw, rw'⟩ := RelO.some_of (v := v) (o := (atKey xs (ks.map lfV)).map (·.2)) (by rw [l]; exact rk.val ks)
  obtain ⟨ent, at_, isW⟩ := Option.map_eq_some_iff.mp hw
  refine wpAny_getItem_heap (tupleKind_room_in1 hu) (keyL I.hok et hk) dd at_ ?_
  rw [isW]
  exact h w' _ (I.tok _) rw'
theorem g_in {Q : Value → Shared → Prop} (hu : X.A.units + 1 < cLine) (I : Inv X pins σ H s) (g : DGt X.prog X.w H a y o) (ry : RelV y u) (h : ∀ s', Inv X pins σ H s' → Q (.bool o.isSome) s') :
    wpAny (model X.prog X.w) X.A (compareOp .In u (.ref a)) Q E s := by
  obtain ⟨kvs, ks, t, D, rfl, et, hk, l⟩ := g
  cases (show u = Value.ref t from ry)
  obtain ⟨ob, xs, e, rk, dd, hs, hl⟩ := D.dict I.hok
  refine wpAny_in_heap (tupleKind_room_in1 hu) (keyL I.hok et hk) hs dd ?_
  have q := (rk.val ks).isSome_eq
  rw [Option.isSome_map] at q
  rw [← q, ← l]
  exact h _ (I.tok _)
theorem g_notIn {Q : Value → Shared → Prop} (hu : X.A.units + 1 < cLine) (I : Inv X pins σ H s) (g : DGt X.prog X.w H a y o) (ry : RelV y u) (h : ∀ s', Inv X pins σ H s' → Q (.bool (!o.isSome)) s') :
    wpAny (model X.prog X.w) X.A (compareOp .NotIn u (.ref a)) Q E s := by
  obtain ⟨kvs, ks, t, D, rfl, et, hk, l⟩ := g
  cases (show u = Value.ref t from ry)
  obtain ⟨ob, xs, e, rk, dd, hs, hl⟩ := D.dict I.hok
  refine wpAny_notIn_heap (tupleKind_room_in1 hu) (keyL I.hok et hk) hs dd ?_
  have q := (rk.val ks).isSome_eq
  rw [Option.isSome_map] at q
  rw [← q, ← l]
  exact h _ (I.tok _)
theorem g_get2 {d : V} {Q : Value → Shared → Prop} (hu : X.A.units + 1 < cLine) (I : Inv X pins σ H s) (g : DGt X.prog X.w H a y o) (ry : RelV y u) (rd : RelV d r) (h : ∀ w' s', Inv X pins σ H s' → RelV (o.getD d) w' → Q w' s') :
    wpAny (model X.prog X.w) X.A (call (.builtin "dict.get") [.ref a, u, r]) Q E s := by
  obtain ⟨kvs, ks, t, D, rfl, et, hk, l⟩ := g
  cases (show u = Value.ref t from ry)
  obtain ⟨ob, xs, e, rk, dd, hs, hl⟩ := D.dict I.hok
  refine call_meetsIn PySem.F.slot_dict_get dd.typeIs PySem.F.entry_dict_get (PySem.F.args_dict_get_3 _ _ _) (meetsH_dict_get_default (LK X.prog X.w) a t hs r) ⟨tupleKind_room_in1 hu, _, xs, keyL I.hok et hk, dd, h _ _ (I.tok _) ?_⟩
  rw [l]
  exact (rk.val ks).getD rd
/-- a[y] = v: the new object is not told -/
theorem g_set {kvs : KVs} {ks : List V} {t : Addr} {Q : Unit → Shared → Prop} (hu : X.A.units + 1 < cLine) (I : Inv X pins σ H s) (D : DA X.prog X.w H a kvs) (et : H t = some (.tup ks)) (hk : ks.all okV = true) (hz : kvs.length < sizeLine) (rv : RelV v r)
    (h : ∀ o s', Inv X pins σ (upd H a (dE X.prog X.w a o (putL kvs ks t v))) s' → Q () s') : wpAny (model X.prog X.w) X.A (setItem (.ref a) (.ref t) r) Q E s := by
  obtain ⟨ob, xs, e, rk, dd, hs, hl⟩ := D.dict I.hok
  have hx : xs.length ≤ sizeLine := by rw [← Paired.length rk]; exact hl
  refine wpAny_setItem_heap (hsz := hx) (tupleKind_room_in1 hu) (keyL I.hok et hk) dd fun h' dd' sb => ?_
  obtain ⟨ob', es, ep, got, n2, n3, n4, _, n5⟩ := dd'
  refine h ob' _ (d_write I (by rw [e]; exact True.intro) sb ⟨ob', got⟩ (dE_ok got ⟨?_, hs, n2, _, es, ep, rk.put ks rv, n3, n4, n5⟩))
  have := putL_length kvs ks t v
  omega
end

/-! ### readings and rules -/
def tGt (P : Program) (w : World) (td ty : TE) : TE := fun σ H Q => td σ H fun x H1 => ty σ H1 fun y H2 => ∃ a v, x = .ref a ∧ DGt P w H2 a y (some v) ∧ Q v H2
def tInE (P : Program) (w : World) (ty td : TE) : TE := fun σ H Q => ty σ H fun y H1 => td σ H1 fun x H2 => ∃ a o, x = .ref a ∧ DGt P w H2 a y o ∧ Q (.bl o.isSome) H2
def tNotInE (P : Program) (w : World) (ty td : TE) : TE := fun σ H Q => ty σ H fun y H1 => td σ H1 fun x H2 => ∃ a o, x = .ref a ∧ DGt P w H2 a y o ∧ Q (.bl (!o.isSome)) H2
def tGet2 (P : Program) (w : World) (td ty tx : TE) : TE := fun σ H Q => td σ H fun x H1 => ∃ a kvs, x = .ref a ∧ DA P w H1 a kvs ∧ ty σ H1 fun y H2 => tx σ H2 fun z H3 => ∃ o, DGt P w H3 a y o ∧ Q (o.getD z) H3
def sPutE (P : Program) (w : World) (td ty tv : TE) : TS := fun D σ H => tv σ H fun v H1 => td σ H1 fun x H2 => ty σ H2 fun y H3 => ∃ a kvs ks t, x = .ref a ∧ y = .ref t ∧ DA P w H3 a kvs ∧ H3 t = some (.tup ks) ∧ ks.all okV = true ∧ kvs.length < sizeLine ∧
  ∀ o, D.nx σ (upd H3 a (dE P w a o (putL kvs ks t v)))
def tNewE (P : Program) (w : World) : TE := fun _ H Q => ∀ p o, H p = none → Q (.ref p) (upd H p (dE P w p o []))
section
variable {X : Cx} {o i e f value : Expr} {pos pos' apos cpos : Pos} {td ty tv tx : TE}
theorem da_type {pins : List (Addr × Obj)} {σ : St} {H : Hp} {s : Shared} {a : Addr} {kvs : KVs} (I : Inv X pins σ H s) (D : DA X.prog X.w H a kvs) : s.TypeIs (.ref a) "dict" ∧ (∀ b, Value.ref a = .ref b → ∃ ob, s.heap.get? b = some ob ∧ ob.dict = none) := by
  obtain ⟨ob, xs, e, rk, dd, hs, hl⟩ := D.dict I.hok
  refine ⟨dd.typeIs, fun b q => ?_⟩
  cases q
  obtain ⟨oq, _, _, h1, h2, _⟩ := dd
  exact ⟨oq, h1, h2.2.1⟩
theorem dgt_type {pins : List (Addr × Obj)} {σ : St} {H : Hp} {s : Shared} {a : Addr} {y : V} {r : Option V} (I : Inv X pins σ H s) (g : DGt X.prog X.w H a y r) : s.TypeIs (.ref a) "dict" := by
  obtain ⟨kvs, ks, t, D, _⟩ := g
  exact (da_type I D).1
/-- two expressions, one after the other -/
theorem one_then_other {a b : Expr} {ta tb : TE} {pins : List (Addr × Obj)} {s : Shared} {σ : St} {H : Hp} {R : V → V → Hp → Prop} {Z : Value → Value → Shared → Prop} (ha : PE X a ta) (hb : PE X b tb) (I : Inv X pins σ H s)
    (told : ta σ H fun x H1 => tb σ H1 fun y H2 => R x y H2) (go : ∀ u v s' x y H', Inv X pins σ H' s' → RelV x u → RelV y v → R x y H' → Z u v s') :
    wpAny (model X.prog X.w) X.A (eval a X.env) (fun u s1 => wpAny (model X.prog X.w) X.A (eval b X.env) (fun v s2 => Z u v s2) X.xe s1) X.xe s :=
  thn (ha.run pins s σ H _ I told) fun u _ ⟨x, G, J, rx, rest⟩ => thn (hb.run pins _ σ G _ J rest) fun v s2 ⟨y, G2, J2, ry, r⟩ => go u v s2 x y G2 J2 rx ry r
theorem pe_gt (hu : X.A.units + 1 < cLine) (ho : PE X o td) (hi : PE X i ty) (hs : NoSl i) : PE X (.Subscript o i pos) (tGt X.prog X.w td ty) where
  run pins s σ H Q I told := subD_of PySem.F.slot_dict_getitem.lookup hs (one_then_other ho hi I told fun u iv s' x y H' J rx ry ⟨a, v, ex, g, q⟩ => by
    subst ex
    cases rx
    exact ⟨dgt_type J g, g_item hu J g ry fun w' s3 J3 rw' => ⟨v, H', J3, rw', q⟩⟩)
theorem pc_inE (hu : X.A.units + 1 < cLine) (hi : PE X i ty) (ho : PE X o td) : PC X .In i o (tInE X.prog X.w ty td) where
  run pins s σ H Q I told := one_then_other hi ho I told fun iv u s' y x H' J ry rx ⟨a, ov, ex, g, q⟩ => by
    subst ex
    cases rx
    exact g_in hu J g ry fun s3 J3 => ⟨.bl ov.isSome, H', J3, rfl, q⟩
theorem pc_notInE (hu : X.A.units + 1 < cLine) (hi : PE X i ty) (ho : PE X o td) : PC X .NotIn i o (tNotInE X.prog X.w ty td) where
  run pins s σ H Q I told := one_then_other hi ho I told fun iv u s' y x H' J ry rx ⟨a, ov, ex, g, q⟩ => by
    subst ex
    cases rx
    exact g_notIn hu J g ry fun s3 J3 => ⟨.bl (!ov.isSome), H', J3, rfl, q⟩
theorem pe_get2E (hu : X.A.units + 1 < cLine) (ho : PE X o td) (he : PE X e ty) (hf : PE X f tx) (m : M2 X o "get" apos e f cpos) : PE X (.Call (.Attribute o "get" apos) [e, f] [] cpos) (tGet2 X.prog X.w td ty tx) := by
  refine ⟨fun pins s σ H Q I h => ?_⟩
  refine wpAny_Call_method m.base m.few m.line PySem.F.plainAttrs_dict PySem.F.slot_dict_get PySem.F.type_dict_get (thn (ho.run pins s σ H _ I h) fun u s1 ⟨x, H1, I1, rx, a, kvs, ex, D, q1⟩ => ?_)
  subst ex
  obtain rfl : u = Value.ref a := rx
  obtain ⟨t1, t2⟩ := da_type I1 D
  refine ⟨t1, t2, ?_⟩
  rw [m.trees]
  refine Calls.callWith_builtin rfl (Calls.evalArgs_plain (Calls.spliced_cons (thn (he.run pins s1 σ H1 _ I1 q1) fun iv s2 ⟨y, H2, I2, ry, q2⟩ => Calls.spliced_cons (thn (hf.run pins s2 σ H2 _ I2 q2) fun dv s3 ⟨z, H3, I3, rz, ov, g, q3⟩ => Calls.spliced_nil ?_))))
  exact g_get2 hu I3 g ry rz fun w' s4 I4 rw' => ⟨_, H3, I4, rw', q3⟩
theorem ps_putE (hu : X.A.units + 1 < cLine) (ho : PE X o td) (hi : PE X i ty) (hv : PE X value tv) (hs : swapsWith value (some (.Subscript o i pos')) pos.line X.env = pure false := by rfl) :
    PS X (.Assign [.Subscript o i pos'] value pos) (sPutE X.prog X.w td ty tv) := by
  refine ⟨fun pins s σ H D I h => ?_⟩
  refine wpAny_Assign_Subscript (thn (hv.run pins s σ H _ I h) fun r s1 ⟨v, H1, I1, rv, q1⟩ => thn (ho.run pins s1 σ H1 _ I1 q1) fun u s2 ⟨x, H2, I2, rx, q2⟩ => thn (hi.run pins s2 σ H2 _ I2 q2) fun iv s3 ⟨y, H3, I3, ry, a, kvs, ks, t, ex, ey, DD, et, hk, hz, q3⟩ => ?_) hs
  subst ex ey
  obtain rfl : u = Value.ref a := rx
  obtain rfl : iv = Value.ref t := ry
  exact g_set hu I3 DD et hk hz rv fun ob s4 I4 => ⟨σ, _, I4, q3 ob⟩
theorem dok_empty {P : Program} {w : World} {h : Heap} (hb : sysModules < h.objs.size) : DOk P w h.objs.size { cls := .type "dict", data := .dict #[] } [] :=
  ⟨Nat.zero_le _, beq_eq_false_iff_ne.mpr (Ne.symm (Nat.ne_of_lt hb)), ⟨rfl, rfl, rfl⟩, [], #[], 0, .nil, rfl, rfl, List.nodup_nil⟩
theorem pe_newE : PE X (.Dict [] [] pos) (tNewE X.prog X.w) := ⟨fun pins s σ H Q I h =>
  wpAny_Dict_empty ⟨.ref s.heap.objs.size, _, I.laid (a := s.heap.objs.size) (t' := s.toks) (fun _ _ q => Heap.get?_push_of_some _ q) (Nat.le_refl _) (dE_ok (Heap.get?_push_size _ rfl) (dok_empty I.big)), rfl, h _ _ (I.hok.fresh (Nat.le_refl _))⟩⟩
end

/-! ### for k in d -/
def ItD3 (P : Program) (w : World) (d : Addr) (o : Obj) (kvs : KVs) : It :=
  ⟨fun i H => H d = some (dE P w d o kvs) ∧ i < kvs.length, fun i H x H' => H' = H ∧ ∃ k t v, kvs[i]? = some (k, t, v) ∧ x = .ref t, fun i H => H d = some (dE P w d o kvs) ∧ kvs.length ≤ i⟩
theorem turnE {P : Program} {w : World} {K : PySem.W.Frag} {tg : Expr} {d : Addr} {o : Obj} {es : Array DictEntry} {ep : Nat} {kvs : KVs} (it : Addr) (hod : o.data = .dict es ep) : Turn P w K tg (ItD3 P w d o kvs) [it] it (fun i h => h.IsKeyIter it d i kvs.length ep) where
  mem := List.mem_singleton.mpr rfl
  obj := fun i h st b hb => by
    cases List.mem_singleton.mp hb
    obtain ⟨oi, got, _, flds⟩ := st
    exact ⟨oi, got, fun v z => nomatch flds.symm.trans z⟩
  keep := fun i h h' st same => st.at fun oi got => same it (List.mem_singleton.mpr rfl) oi got
  item := by
    rintro X rfl rfl rfl hc i pins s σ H E I free st ⟨hd, hi⟩
    obtain ⟨z0, z1, _, z3, z4, z5⟩ := free it (List.mem_singleton.mpr rfl)
    obtain ⟨hgd, hl, hs, hx, xs, es', ep', rk, h1, h2, h3⟩ := dE_get I.hok hd
    obtain ⟨rfl, rfl⟩ := dict_ep hod h1
    have l1 : es'.size = xs.length := size_of_entries h2
    have l2 : kvs.length = xs.length := Paired.length rk
    obtain ⟨b, hb, g1, g2, _⟩ := paired_get rk (List.getElem?_eq_getElem hi)
    have qe := entry_at h2 i
    rw [hb] at qe
    refine next_key_item st hgd hod (by omega) qe fun h' next sb => ?_
    have J : Inv X pins σ H { s with heap := h' } := I.turned (t' := s.toks) (fun c oc ne was => (sb.2 c ne).trans was) z0 z1 z3 z4 z5
    obtain ⟨oi, got, cls, flds⟩ := id next
    exact ⟨_, rfl, go_of (s := { s with heap := h' }) got cls flds (by decide) ⟨.ref kvs[i].2.1, H, J, by show Value.ref b.2.1 = _; rw [g2], ⟨rfl, kvs[i].1, kvs[i].2.1, kvs[i].2.2, List.getElem?_eq_getElem hi, rfl⟩, next, fun c mc => (free c mc).1⟩⟩
  done := by
    rintro X rfl rfl rfl hc i pins s σ H E I free st ⟨hd, hi⟩
    obtain ⟨z0, z1, _, z3, z4, z5⟩ := free it (List.mem_singleton.mpr rfl)
    obtain ⟨hgd, hl, hs, hx, xs, es', ep', rk, h1, h2, h3⟩ := dE_get I.hok hd
    obtain ⟨rfl, rfl⟩ := dict_ep hod h1
    have l1 : es'.size = xs.length := size_of_entries h2
    have l2 : kvs.length = xs.length := Paired.length rk
    exact next_key_end (I.ok.hd hc) st hgd hod (by omega) hi fun h' same => ⟨rfl, I.turned (t' := s.toks) (fun c oc ne was => same c oc ne was) z0 z1 z3 z4 z5⟩
  self := fun _ _ _ _ _ st yes => wpAny_pyIter_keyiter st yes
def iE (P : Program) (w : World) (td : TE) : TI := fun σ H R => td σ H fun x H1 => ∃ d o kvs, x = .ref d ∧ H1 d = some (dE P w d o kvs) ∧ R (ItD3 P w d o kvs) H1
section
variable {X : Cx} {tg e : Expr} {td : TE}
theorem pi_E (he : PE X e td) : PI X tg e (iE X.prog X.w td) := by
  refine ⟨fun pins s σ H R I h => ?_⟩
  refine thn (he.run pins s σ H _ I h) fun u s1 ⟨x, H1, I1, rx, d, o, kvs, ex, hd, q⟩ => ?_
  subst ex
  obtain rfl : u = Value.ref d := rx
  obtain ⟨hgd, hl, hs, hx, xs, es, ep, rk, h1, h2, h3⟩ := dE_get I1.hok hd
  have l1 : es.size = xs.length := size_of_entries h2
  have l2 : kvs.length = xs.length := Paired.length rk
  refine iter_keys hs hgd hx h1 (pi_one (tk := s1.toks) I1 _ (turnE _ h1) ⟨_, Heap.get?_push_size _ rfl, rfl, ?_⟩ q)
  rw [show es.size = kvs.length by omega] <;> rfl
/-- the turns of a for over a dict that the body leaves as it is -/
theorem for_E {P : Program} {w : World} {d : Addr} {o : Obj} {kvs : KVs} {g : TG} {tb : TS} {D : Ends} {σ : St} {H : Hp} (Pv : Nat → St → Hp → Prop) (h0 : Pv 0 σ H) (hl : ∀ i σ H, i ≤ kvs.length → Pv i σ H → H d = some (dE P w d o kvs))
    (hs : ∀ i k t v σ H, kvs[i]? = some (k, t, v) → Pv i σ H → g (.ref t) σ H fun σ2 H2 => tb { D with nx := Pv (i + 1), ct := Pv (i + 1), bk := D.nx } σ2 H2) (hd : ∀ σ H, Pv kvs.length σ H → D.nx σ H) :
    ∃ W : Nat → Nat → St → Hp → Prop, (∃ m, W 0 m σ H) ∧ ∀ i m σ H, W i m σ H →
      ((ItD3 P w d o kvs).stop i H ∧ D.nx σ H) ∨ ((ItD3 P w d o kvs).go i H ∧ ∃ N : St → Hp → Prop, (∀ σ' H', N σ' H' → ∃ m', m' < m ∧ W (i + 1) m' σ' H') ∧ ∀ x H', (ItD3 P w d o kvs).yld i H x H' → g x σ H' fun σ2 H2 => tb { D with nx := N, ct := N, bk := D.nx } σ2 H2) := by
  refine ⟨fun i m σ H => m = kvs.length - i ∧ i ≤ kvs.length ∧ Pv i σ H, ⟨_, rfl, Nat.zero_le _, h0⟩, ?_⟩
  rintro i m σ H ⟨rfl, hi, p⟩
  have q := hl i σ H hi p
  by_cases hlt : i < kvs.length
  · refine .inr ⟨⟨q, hlt⟩, Pv (i + 1), fun σ' H' p' => ⟨kvs.length - (i + 1), by omega, rfl, hlt, p'⟩, fun x H' y => ?_⟩
    obtain ⟨e, k, t, v, e1, e2⟩ := y
    subst e e2
    exact hs i k t v σ _ e1 p
  · have e : i = kvs.length := by omega
    subst e
    exact .inl ⟨⟨q, Nat.le_refl _⟩, hd σ H p⟩
/-- list(d) -/
def rListE (P : Program) (w : World) : List V → Hp → VK → Prop := fun xs H Q => ∃ d kvs, xs = [.ref d] ∧ DA P w H d kvs ∧ ∀ p, H p = none → Q (.ref p) (upd H p (.lst (kvs.map fun x => .ref x.2.1)))
theorem call_listE (hc : X.calm = true) : CallR X (.type "list") (rListE X.prog X.w) := by
  intro pins s σ H xs us Q I r h
  obtain ⟨d, kvs, rfl, D, q⟩ := h
  obtain ⟨u, rfl, rx⟩ := r.one
  cases rx
  obtain ⟨o, hd⟩ := D.obj
  obtain ⟨hgd, hl, hs, hx, ks, es, ep, rk, h1, h2, h3⟩ := dE_get I.hok hd
  have l1 : es.size = ks.length := size_of_entries h2
  have l2 : kvs.length = ks.length := Paired.length rk
  refine PySem.W.kdl_call (kdl_raw hs hx h1) (I.ok.hd hc) hgd (by omega) fun h' tk acc' c' kp e it => ?_
  have rv : Vals (kvs.map fun x => V.ref x.2.1) acc'.toList := by
    refine vals_of_at (by have ea : acc'.toList.length = acc'.size := by simp
                          rw [List.length_map, ea, it.1]; omega) fun j x w' e1 e2 => ?_
    rw [List.getElem?_map] at e1
    obtain ⟨y, hy, rfl⟩ := Option.map_eq_some_iff.mp e1
    obtain ⟨en, hen, rfl⟩ := it.2 j w' (by rw [← Array.getElem?_toList]; exact e2)
    obtain ⟨b, hb, g1, g2, _⟩ := paired_get rk hy
    have qe := entry_at h2 j
    rw [hen, hb] at qe
    have e3 : en = entryOfKey (LK X.prog X.w) b := Option.some.inj qe
    subst e3
    show Value.ref b.2.1 = _
    rw [g2]
  refine ⟨.ref s.heap.objs.size, _, I.laid (t' := tk) (o := .lst (kvs.map fun x => .ref x.2.1)) kp (Nat.le_refl _) ?_, rfl, q _ (I.hok.fresh (Nat.le_refl _))⟩
  exact ⟨by rw [List.length_map]; exact hl, acc'.toList, c', rv, by rw [Array.toArray_toList]; exact e⟩
end
/-! ### {k: v}, one pair -/
def tOneE (P : Program) (w : World) (tk tv : TE) : TE := fun σ H Q => ∀ p o0, H p = none → tk σ (upd H p (dE P w p o0 [])) fun y H1 => tv σ H1 fun v H2 => ∃ t ks, y = .ref t ∧ H2 t = some (.tup ks) ∧ ks.all okV = true ∧ H2 p = some (dE P w p o0 []) ∧
  ∀ o, Q (.ref p) (upd H2 p (dE P w p o [(ks, t, v)]))
section
variable {X : Cx} {k v : Expr} {pos : Pos} {tk tv : TE}
theorem pe_oneE (hu : X.A.units + 1 < cLine) (hk : PE X k tk) (hv : PE X v tv) : PE X (.Dict [some k] [v] pos) (tOneE X.prog X.w tk tv) := by
  refine ⟨fun pins s σ H Q I h => ?_⟩
  have h0 := h s.heap.objs.size { cls := .type "dict", data := .dict #[] } (I.hok.fresh (Nat.le_refl _))
  have I0 : Inv X pins σ (upd H s.heap.objs.size (dE X.prog X.w s.heap.objs.size { cls := .type "dict", data := .dict #[] } [])) { s with heap := s.heap.push { cls := .type "dict", data := .dict #[] } } :=
    I.laid (a := s.heap.objs.size) (t' := s.toks) (fun _ _ q => Heap.get?_push_of_some _ q) (Nat.le_refl _) (dE_ok (Heap.get?_push_size _ rfl) (dok_empty I.big))
  have PP : PPs X pos [some k] [v] [(tk, tv)] := pps_cons hk hv pps_nil
  rw [arm_eval_Dict, zip_pairTrees [some k] [v] X.env pos rfl rfl, dictDisplay_pairs (pairTrees [some k] [v] X.env pos) (fun z => nomatch z) (by show 1 < 17; decide)]
  refine wpAny_bind (wpAny_standAt (wpAny_bind (wpAny_subDictH (knd := LK X.prog X.w) (Q := fun d s' => wpAny (model X.prog X.w) X.A (pure (Value.ref d)) (EP X pins σ Q) X.xe s') (show X.A.units < cLine by omega) (by show 1 ≤ 15; decide) ?_)))
  refine thn (PP.run pins _ σ _ (fun ps H3 => match ps with
    | [(y, z)] => ∃ t ks, y = .ref t ∧ H3 t = some (.tup ks) ∧ ks.all okV = true ∧ H3 s.heap.objs.size = some (dE X.prog X.w s.heap.objs.size { cls := .type "dict", data := .dict #[] } []) ∧ ∀ o, Q (.ref s.heap.objs.size) (upd H3 s.heap.objs.size (dE X.prog X.w s.heap.objs.size o [(ks, t, z)]))
    | _ => False) I0 h0) fun ws s2 ⟨ps, H3, I3, rel, q0⟩ => ?_
  match ps, q0 with
  | [(y, z)], ⟨t, ks, ey, et, hks, hp, q⟩ =>
    subst ey
    cases rel with
    | @cons _ b _ _ r1 r2 =>
      cases r2
      obtain ⟨b1, b2⟩ := b
      obtain ⟨ry, rz⟩ := r1
      obtain rfl : b1 = Value.ref t := ry
      have D : DA X.prog X.w H3 s.heap.objs.size [] := ⟨⟨_, hp⟩, fun x hx => nomatch hx⟩
      obtain ⟨ob, xs, e, rk, dd, hs, hl⟩ := D.dict I3.hok
      cases rk
      refine ⟨[(ks.map lfV, t, b2)], ⟨rfl, rfl, keyL I3.hok et hks, trivial⟩, dd, fun h' tk' dd' sb => wpAny_pure ?_⟩
      obtain ⟨oq, es, ep, hq, h2, h3, h4, _, h5⟩ := dd'
      exact ⟨.ref s.heap.objs.size, _, d_write I3 (by rw [hp]; exact True.intro) sb ⟨oq, hq⟩ (dE_ok hq ⟨by show 1 ≤ sizeLine; decide, hs, h2, _, es, ep, .cons ⟨rfl, rfl, rz⟩ .nil, h3, h4, h5⟩), rfl, q oq⟩
end
end L2.SD

/-! W2: further rules: chains of three comparisons, min of data, the first of two by min; calls of own defs in short -/
set_option Elab.async false
set_option linter.all false
set_option maxRecDepth 100000
set_option maxHeartbeats 2000000
namespace L2.SD
open PySem PySem.Spec PyProof.Rows Evl

/-! ### a op1 b op2 c op3 d -/
def tChain3 (r1 r2 r3 : R2) (ta tb tc td : TE) : TE := fun σ H Q => ta σ H fun x H1 => tb σ H1 fun y H2 => r1 x y H2 fun z H3 => ∃ k, z = .bl k ∧
  (if k = true then tc σ H3 fun y2 H4 => r2 y y2 H4 fun z2 H5 => ∃ k2, z2 = .bl k2 ∧ (if k2 = true then td σ H5 fun y3 H6 => r3 y2 y3 H6 Q else Q (.bl false) H5) else Q (.bl false) H3)
section
variable {X : Cx} {a b c d : Expr} {ta tb tc td : TE} {pos : Pos} {o1 o2 o3 : CmpOp} {r1 r2 r3 : R2}
theorem pe_chain3 (h1 : OpR X (compareOp o1) r1) (h2 : OpR X (compareOp o2) r2) (h3 : OpR X (compareOp o3) r3) (ha : PE X a ta) (hb : PE X b tb) (hc : PE X c tc) (hd : PE X d td)
    (hm : lastMarks [o1, o2, o3] [b, c, d] = false := by with_unfolding_all rfl) : PE X (.Compare a [o1, o2, o3] [b, c, d] pos) (tChain3 r1 r2 r3 ta tb tc td) := by
  refine ⟨fun pins s σ H Q I h => ?_⟩
  refine Compare_chain (thn (ha.run pins s σ H _ I h) fun v s1 ⟨x, H1, I1, e1, q1⟩ => chain_link (thn (hb.run pins s1 σ H1 _ I1 q1) fun u s2 ⟨y, H2, I2, e2, q2⟩ =>
    thn (h1 pins s2 σ H2 x y v u _ I2 e1 e2 q2) fun cc s3 ⟨z, H3, I3, e3, k, ek, q3⟩ => ?_)) hm
  subst ek
  cases e3
  refine wpAny_truthy_bool ?_
  cases k with
  | false => exact ite_ff ⟨V.bl false, H3, I3, rfl, q3⟩
  | true =>
    refine ite_tt (chain_link (thn (hc.run pins s3 σ H3 _ I3 q3) fun w' s4 ⟨y2, H4, I4, e4, q4⟩ => thn (h2 pins s4 σ H4 y y2 u w' _ I4 e2 e4 q4) fun c2 s5 ⟨z2, H5, I5, e5, k2, ek2, q5⟩ => ?_))
    subst ek2
    cases e5
    refine wpAny_truthy_bool ?_
    cases k2 with
    | false => exact ite_ff ⟨.bl false, H5, I5, rfl, q5⟩
    | true => exact ite_tt (chain_last (thn (hd.run pins s5 σ H5 _ I5 q5) fun w2 s6 ⟨y3, H6, I6, e6, q6⟩ => h3 pins s6 σ H6 y2 y3 w' w2 Q I6 e4 e6 q6))
theorem pt_chain3 (h1 : OpR X (compareOp o1) r1) (h2 : OpR X (compareOp o2) r2) (h3 : OpR X (compareOp o3) r3) (ha : PE X a ta) (hb : PE X b tb) (hc : PE X c tc) (hd : PE X d td)
    (hm : lastMarks [o1, o2, o3] [b, c, d] = false := by with_unfolding_all rfl) : PT X (.Compare a [o1, o2, o3] [b, c, d] pos) (tTest (tChain3 r1 r2 r3 ta tb tc td)) := by
  refine ⟨fun pins s σ H Q I h => ?_⟩
  refine isTrue_chain (thn (ha.run pins s σ H _ I h) fun v s1 ⟨x, H1, I1, e1, q1⟩ => test_link (thn (hb.run pins s1 σ H1 _ I1 q1) fun u s2 ⟨y, H2, I2, e2, q2⟩ =>
    thn (h1 pins s2 σ H2 x y v u _ I2 e1 e2 q2) fun cc s3 ⟨z, H3, I3, e3, k, ek, q3⟩ => ?_)) hm
  subst ek
  cases e3
  refine wpAny_truthy_bool ?_
  cases k with
  | false =>
    obtain ⟨k', e', q'⟩ := q3
    cases e'
    exact ite_ff ⟨H3, I3, q'⟩
  | true =>
    refine ite_tt (test_link (thn (hc.run pins s3 σ H3 _ I3 q3) fun w' s4 ⟨y2, H4, I4, e4, q4⟩ => thn (h2 pins s4 σ H4 y y2 u w' _ I4 e2 e4 q4) fun c2 s5 ⟨z2, H5, I5, e5, k2, ek2, q5⟩ => ?_))
    subst ek2
    cases e5
    refine wpAny_truthy_bool ?_
    cases k2 with
    | false =>
      obtain ⟨k', e', q'⟩ := q5
      cases e'
      exact ite_ff ⟨H5, I5, q'⟩
    | true =>
      refine ite_tt (test_last (thn (hd.run pins s5 σ H5 _ I5 q5) fun w2 s6 ⟨y3, H6, I6, e6, q6⟩ => thn (h3 pins s6 σ H6 y2 y3 w' w2 _ I6 e4 e6 q6) fun d3 s7 ⟨z3, H7, I7, e7, k3, ek3, q7⟩ => ?_))
      subst ek3
      cases e7
      exact wpAny_truthy_bool ⟨H7, I7, q7⟩
end

/-! ### min of a list of data, min of two data -/
theorem minD_mem : ∀ (ds : List PyData) (d : PyData), PySem.W.minD d ds = d ∨ PySem.W.minD d ds ∈ ds
  | [], d => .inl rfl
  | e :: ds, d => by
    have ih := minD_mem ds (if PySem.W.dataLt e d = true then e else d)
    unfold PySem.W.minD at ih ⊢
    rw [List.foldl_cons]
    rcases ih with ih | ih
    · rw [ih]
      split
      · exact .inr List.mem_cons_self
      · exact .inl rfl
    · exact .inr (List.mem_cons_of_mem _ ih)
def rMinL (K : PySem.W.Frag) : List V → Hp → VK → Prop := fun vs H Q => ∃ (l : Addr) (xs : List V) (d : PyData) (ds : List PyData), vs = [.ref l] ∧ SqL K H l xs ∧ DpAll K H xs (d :: ds) ∧ PySem.W.AlikeAll (d :: ds) ∧ PyData.depthAll (d :: ds) ≤ 60 ∧
  ∀ (i : Nat) (x : V), xs[i]? = some x → (d :: ds)[i]? = some (PySem.W.minD d ds) → Q x H
section
variable {X : Cx}
theorem cr_minL (hc : X.calm = true) (hu : X.A.units + 64 < cLine) : CallR X (.builtin "min") (rMinL X.K) := by
  intro pins s σ H vs us Q I r h
  obtain ⟨l, xs, d, ds, rfl, hl, hd, ha, hz, q⟩ := h
  rw [Vals.ref1 r]
  obtain ⟨its, rv, pl, hsz⟩ := I.list hl
  obtain ⟨as, hr⟩ := Dp.readsAll I (d :: ds) xs its hd rv
  refine PySem.W.min_list_data (I.ok.hd hc) pl.isList (by simpa using hr) ha (by omega) fun i v h' tk bs hi rd kp => ?_
  have hi' : its[i]? = some v := by simpa using hi
  obtain ⟨as1, r1, hlt, m1, _⟩ := PySem.W.readsAll_at hr i v hi'
  have hxi : ∃ x, xs[i]? = some x := by
    have h1 := rv.length
    have h2 := (List.getElem?_eq_some_iff.mp hi').1
    exact ⟨xs[i]'(by omega), List.getElem?_eq_getElem (by omega)⟩
  obtain ⟨x, hx⟩ := hxi
  obtain ⟨u, hu', ru⟩ := rv.get hx
  rw [hi'] at hu'
  cases hu'
  have mm : PySem.W.minD d ds ∈ d :: ds := (minD_mem ds d).elim (fun e => by rw [e]; exact List.mem_cons_self) fun e => List.mem_cons_of_mem _ e
  have e := PySem.W.alike_unique _ _ _ _ _ (ha.1 _ m1 _ mm) (PySem.W.reads_keeps kp r1) rd
  refine ⟨x, H, I.kept kp, ru, q i x hx ?_⟩
  rw [List.getD_eq_getElem?_getD, List.getElem?_eq_getElem hlt] at e
  rw [List.getElem?_eq_getElem hlt]
  exact congrArg some e
theorem call_min_twoH {prog : Program} {w : World} {A : Around} {E : Value → Shared → Prop} {s : Shared} {a b : Value} {da db : PyData} {as bs : List Addr} {Q : Value → Shared → Prop} (hh : A.handled = none) (ra : PySem.Reads s.heap a da as) (rb : PySem.Reads s.heap b db bs)
    (hal : PySem.W.AlikeAll [da, db]) (hu : A.units + 1 + PyData.depthAll [da, db] < cLine)
    (h : ∀ h' tk, (∀ c o, s.heap.get? c = some o → h'.get? c = some o) → Q (if PySem.W.dataLt db da = true then b else a) { s with heap := h', toks := tk }) : wpAny (model prog w) A (call (.builtin "min") [a, b]) Q E s := by
  let s1 : Shared := { s with heap := s.heap.push { cls := .type "tuple", data := .seq #[a, b] } }
  have old : ∀ c o, s.heap.get? c = some o → s1.heap.get? c = some o := fun _ _ was => Heap.get?_push_of_some _ was
  have pair : s1.heap.IsTuple s.heap.objs.size #[a, b] := ⟨{ cls := .type "tuple", data := .seq #[a, b] }, Heap.get?_push_size _ rfl, rfl, 0, rfl⟩
  have both : PySem.ReadsAll s1.heap (#[a, b] : Array Value).toList [da, db] (as ++ (bs ++ [])) := .cons (PySem.W.reads_keeps old ra) (.cons (PySem.W.reads_keeps old rb) .nil)
  refine call_function_tree F.kind_min F.plain_min F.entry_min (F.args_min2 a b) (wpAny_bind (m := Builtin.Builtins.bindParams "min" ["key", "default"] 0 ⟨[], []⟩) (wpAny_of_eq (a := [none, none]) rfl (wpAny_bind (m := newTuple [a, b]) (wpAny_newObj_type ?_))))
  refine wpAny_bind (PySem.W.iter_tupleW (s := s1) (A := A.in1) hh pair fun s2 e2 W st below apart more => wpAny_bind (wpAny_newObj_type ?_))
  rw [show (toString "min" ++ toString ".loop" : String) = "min.loop" from by decide]
  refine wpAny_pure ⟨plainId_quiet F.plain_min_loop _, codeAny_min_loop_firstH W s1.heap apart _ (PySem.W.cmpIn_lt (s := s1) (A := A.in1) both hal (show A.units + 1 + _ < _ from hu)) s2.heap.objs.size (fun m => absurd (below _ m) (Nat.lt_irrefl _)) (fresh_in more) _ (by simp)
    (fun c o was => Heap.get?_push_of_some _ (more c o was)) (W.frame 0 s2 _ s2.toks st (Nat.le_refl _) fun _ _ _ was => Heap.get?_push_of_some _ was) (Heap.get?_push_size _ rfl) fun v s3 best moved => ?_⟩
  obtain ⟨h', tk, rfl, stay⟩ := PySem.W.moved_old e2 rfl (Moved.drop_new (tk := s2.toks) moved (Nat.le_refl _))
  have which : v = if PySem.W.dataLt db da = true then b else a := by
    cases less : PySem.W.dataLt db da <;> simp [argBest, less] at best <;> simp [best]
  exact which ▸ h h' tk fun c o was => stay c o (old c o was)
def rMin2D (K : PySem.W.Frag) : List V → Hp → VK → Prop := fun vs H Q => ∃ (x y : V) (d e : PyData), vs = [x, y] ∧ Dp K H x d ∧ Dp K H y e ∧ PySem.W.AlikeAll [d, e] ∧ PyData.depthAll [d, e] ≤ 60 ∧ Q (if PySem.W.dataLt e d = true then y else x) H
theorem cr_min2D (hc : X.calm = true) (hu : X.A.units + 64 < cLine) : CallR X (.builtin "min") (rMin2D X.K) := by
  intro pins s σ H vs us Q I r h
  obtain ⟨x, y, d, e, rfl, hd, he, ha, hz, q⟩ := h
  obtain ⟨u, v, rfl, ru, rv⟩ := r.two
  obtain ⟨as, r1⟩ := Dp.reads I d x u hd ru
  obtain ⟨bs, r2⟩ := Dp.reads I e y v he rv
  refine call_min_twoH (I.ok.hd hc) r1 r2 ha (by omega) fun h' tk kp => ⟨_, H, I.kept kp, ?_, q⟩
  cases PySem.W.dataLt e d with
  | true => exact rv
  | false => exact ru
end
end L2.SD

/-! W3: promises in short, what values stand for, comprehensions -/
set_option Elab.async false
set_option linter.all false
set_option maxRecDepth 100000
set_option maxHeartbeats 2000000
namespace L2.SD
open PySem PySem.Spec PyProof.Rows Evl
open Stratigraphy (Fact)
open SG (SK Tab look put)

/-! ### own defs -/
/-- a promise: the arguments, what is asked of them, what is told of the answer; what is tracked stays -/
def spP {α : Type} (args : α → List V) (pre : α → Hp → Prop) (post : α → V → Hp → Prop) : Sp := fun vs H Q _ => ∃ a, vs = args a ∧ pre a H ∧ ∀ v H', Ex H H' → post a v H' → Q v H'
section
variable {P : Program} {w : World} {K : PySem.W.Frag} {mg : Str → Option Value} {base : Heap}
/-- a def by its global name -/
def Own (P : Program) (w : World) (K : PySem.W.Frag) (mg : Str → Option Value) (base : Heap) (x : Str) (k : Nat) (ps : List Str) (sp : Sp) : Prop :=
  ∃ f fd, mg x = some (.ref f) ∧ PySem.W.keepIn K (.ref f) = true ∧ Binds K fd ps [] ∧ FnOk P w K mg base CX0 k f fd ps sp
/-- a method -/
def OwnM (P : Program) (w : World) (K : PySem.W.Frag) (mg : Str → Option Value) (base : Heap) (C : Addr) (m : Str) (k : Nat) (ps : List Str) (sp : Sp) : Prop :=
  Cls K C ∧ ∃ f fd, Meth K C m f ∧ Binds K fd ps [] ∧ FnOk P w K mg base CX0 k f fd ps sp
/-- a class and its __init__ -/
def OwnC (P : Program) (w : World) (K : PySem.W.Frag) (mg : Str → Option Value) (base : Heap) (x : Str) (C : Addr) (k : Nat) (ps : List Str) (sp : Sp) : Prop :=
  mg x = some (.ref C) ∧ ∃ f fd, Mk K C f ∧ Binds K fd ps [] ∧ FnOk P w K mg base CX0 k f fd ps sp
end
section
variable {X : Cx} {x m : Str} {k : Nat} {C : Addr} {ps : List Str} {sp : Sp} {e o : Expr} {es : List Expr} {t : TA} {ta : TE} {p pos apos : Pos}
/-- a method's call as the model reads it: the object, the method found on it, the arguments -/
@[reducible] def OnObject (X : Cx) (o : Expr) (m : Str) (apos pos : Pos) (pl : Sem Bool) (args : List Expr) : Sem Value := do
  let it ← eval o X.env
  standAt apos.atName
  let (meth, self) ← holding [it] (getMethod it m pl)
  callWith pos meth self (backTo pos (starEach args X.env)) (backToKw pos (keywordEach [] X.env))
/-- e is the first of the arguments and none of them is starred -/
structure Unstarred (X : Cx) (e : Expr) (es : List Expr) (pos : Pos) : Prop where
  first : starEach (e :: es) X.env = (false, eval e X.env) :: starEach es X.env
  others : (backTo pos (starEach es X.env)).any (·.1) = false
theorem pe_own (D : Own X.prog X.w X.K X.mg X.base x k ps sp) (hr : Room k X.A) (hg : Gl X x) (ha : PA X (e :: es) t) (hdb : (x == ("__debug__" : Str)) = false := by decide)
    (hu : Unstarred X e es pos := by exact ⟨rfl, rfl⟩) : PE X (.Call (.Name x p) (e :: es) [] pos) (tCall sp [] E0 t) := by
  obtain ⟨f, fd, h1, h2, h3, h4⟩ := D
  exact pe_call h4 hr hg h1 h2 h3 .nil pass0 ha hdb hu.first hu.others
theorem pe_ownM {pl : Sem Bool} (D : OwnM X.prog X.w X.K X.mg X.base C m k ps sp) (hr : Room k X.A) (he : PE X o ta) (ha : PA X (e :: es) t)
    (hu : Unstarred X e es pos := by exact ⟨rfl, rfl⟩)
    (ht : eval (.Call (.Attribute o m apos) (e :: es) [] pos) X.env = OnObject X o m apos pos pl (e :: es) := by rfl) : PE X (.Call (.Attribute o m apos) (e :: es) [] pos) (tMeth C m sp [] E0 ta t) := by
  obtain ⟨c, f, fd, h1, h3, h4⟩ := D
  exact pe_meth (pl := pl) he c h1 h4 hr h3 .nil pass0 ha hu.first hu.others ht
theorem pe_ownM0 {pl : Sem Bool} (D : OwnM X.prog X.w X.K X.mg X.base C m k ps sp) (hr : Room k X.A) (he : PE X o ta)
    (ht : eval (.Call (.Attribute o m apos) [] [] pos) X.env = OnObject X o m apos pos pl [] := by rfl) : PE X (.Call (.Attribute o m apos) [] [] pos) (tMeth C m sp [] E0 ta tNil) := by
  obtain ⟨c, f, fd, h1, h3, h4⟩ := D
  exact pe_meth0 (pl := pl) he c h1 h4 hr h3 .nil pass0 ht
theorem pe_ownC (D : OwnC X.prog X.w X.K X.mg X.base x C k ps sp) (hr : Room (k + 1) X.A) (hg : Gl X x) (ha : PA X (e :: es) t) (hdb : (x == ("__debug__" : Str)) = false := by decide)
    (hu : Unstarred X e es pos := by exact ⟨rfl, rfl⟩) : PE X (.Call (.Name x p) (e :: es) [] pos) (tMake C sp [] E0 t) := by
  obtain ⟨hm, f, fd, h1, h3, h4⟩ := D
  exact pe_make h1 h4 hr hg hm h3 .nil pass0 ha hdb hu.first hu.others
theorem pe_ownC0 (D : OwnC X.prog X.w X.K X.mg X.base x C k ps sp) (hr : Room (k + 1) X.A) (hg : Gl X x) (hdb : (x == ("__debug__" : Str)) = false := by decide) : PE X (.Call (.Name x p) [] [] pos) (tMake C sp [] E0 tNil) := by
  obtain ⟨hm, f, fd, h1, h3, h4⟩ := D
  exact pe_make0 h1 h4 hr hg hm h3 .nil pass0 hdb
/-- a global whole number -/
def GInt (mg : Str → Option Value) (x : Str) (i : Int) : Prop := ∃ t, mg x = some (.int i t)
theorem pe_gint {i : Int} (h : GInt X.mg x i) (hg : Gl X x) (hd : (x == ("__debug__" : Str)) = false := by decide) : PE X (.Name x pos) (tC (.int i)) := by
  obtain ⟨t, h⟩ := h
  exact pe_glob hg h ⟨t, rfl⟩ hd
/-- a global tuple of whole numbers -/
def GTup (K : PySem.W.Frag) (mg : Str → Option Value) (x : Str) (a : Addr) (xs : List Int) : Prop := mg x = some (.ref a) ∧ ∀ H, SqT K H a (xs.map V.int)
theorem pe_gtup {a : Addr} {xs : List Int} (h : GTup X.K X.mg x a xs) (hg : Gl X x) (hd : (x == ("__debug__" : Str)) = false := by decide) : PE X (.Name x pos) (tC (.ref a)) := pe_glob hg h.1 rfl hd
end

/-! ### what stays -/
/-- what keep tells of stays -/
def KP (keep : HO → Bool) (H H' : Hp) : Prop := ∀ a o, H a = some o → keep o = true → H' a = some o
/-- tuples -/
def tupK : HO → Bool
  | .tup _ => true
  | _ => false
/-- all but lists -/
def nlK : HO → Bool
  | .lst _ => false
  | _ => true
theorem KP.ex {keep : HO → Bool} {H H' : Hp} (e : Ex H H') : KP keep H H' := fun a o h _ => e a o h
theorem KP.refl {keep : HO → Bool} (H : Hp) : KP keep H H := fun _ _ h _ => h
theorem KP.trans {keep : HO → Bool} {H H1 H2 : Hp} (a : KP keep H H1) (b : KP keep H1 H2) : KP keep H H2 := fun x o h k => b x o (a x o h k) k
/-- what stood at p was none of these -/
theorem KP.upd {keep : HO → Bool} {H : Hp} {p : Addr} {o u : HO} (h : H p = some u) (hk : keep u = false) : KP keep H (upd H p o) := fun a ob e k => by
  rw [upd_ne (fun z => by rw [z, h] at e; cases e; rw [hk] at k; cases k)]
  exact e
/-- R is told by objects that keep tells of -/
def Rob {β : Type} (keep : HO → Bool) (R : β → V → Hp → Prop) : Prop := ∀ b v H H', KP keep H H' → R b v H → R b v H'
theorem Rob.ex {β : Type} {keep : HO → Bool} {R : β → V → Hp → Prop} (r : Rob keep R) {b : β} {v : V} {H H' : Hp} (e : Ex H H') (h : R b v H) : R b v H' := r b v H H' (KP.ex e) h
theorem Rob.weak {β : Type} {R : β → V → Hp → Prop} (r : Rob tupK R) : Rob nlK R := fun b v H H' k h => r b v H H' (fun a o e q => k a o e (by cases o <;> first | rfl | cases q)) h
/-- rows of such -/
abbrev All {β : Type} (R : β → V → Hp → Prop) (H : Hp) (ws : List V) (bs : List β) : Prop := Paired (fun w b => R b w H) ws bs
theorem All.kp {β : Type} {keep : HO → Bool} {R : β → V → Hp → Prop} (r : Rob keep R) {H H' : Hp} (k : KP keep H H') {ws : List V} {bs : List β} (h : All R H ws bs) : All R H' ws bs := Paired.mapP h fun w b q => r b w H H' k q
theorem All.ex {β : Type} {keep : HO → Bool} {R : β → V → Hp → Prop} (r : Rob keep R) {H H' : Hp} (e : Ex H H') {ws : List V} {bs : List β} (h : All R H ws bs) : All R H' ws bs := h.kp r (KP.ex e)
theorem All.get {β : Type} {R : β → V → Hp → Prop} {H : Hp} {ws : List V} {bs : List β} (h : All R H ws bs) {i : Nat} {x : V} (e : ws[i]? = some x) : ∃ b, bs[i]? = some b ∧ R b x H := paired_get h e
theorem All.get' {β : Type} {R : β → V → Hp → Prop} {H : Hp} {ws : List V} {bs : List β} (h : All R H ws bs) {i : Nat} {b : β} (e : bs[i]? = some b) : ∃ x, ws[i]? = some x ∧ R b x H := by
  induction h generalizing i with
  | nil => simp at e
  | cons r t ih =>
    cases i with
    | zero => simp at e; subst e; exact ⟨_, rfl, r⟩
    | succ i => exact ih (by simpa using e)
theorem All.append {β : Type} {R : β → V → Hp → Prop} {H : Hp} {ws us : List V} {bs cs : List β} (h : All R H ws bs) (g : All R H us cs) : All R H (ws ++ us) (bs ++ cs) := by
  induction h with
  | nil => exact g
  | cons r t ih => exact .cons r ih
theorem All.snoc {β : Type} {R : β → V → Hp → Prop} {H : Hp} {ws : List V} {bs : List β} {w : V} {b : β} (h : All R H ws bs) (r : R b w H) : All R H (ws ++ [w]) (bs ++ [b]) := h.append (.cons r .nil)
theorem All.length {β : Type} {R : β → V → Hp → Prop} {H : Hp} {ws : List V} {bs : List β} (h : All R H ws bs) : ws.length = bs.length := Paired.length h
/-- a list of such -/
def LR {β : Type} (R : β → V → Hp → Prop) (bs : List β) : V → Hp → Prop := fun v H => ∃ p ws, v = .ref p ∧ H p = some (.lst ws) ∧ All R H ws bs
theorem LR.ex {β : Type} {keep : HO → Bool} {R : β → V → Hp → Prop} (r : Rob keep R) {H H' : Hp} (e : Ex H H') {v : V} {bs : List β} (h : LR R bs v H) : LR R bs v H' := by
  obtain ⟨p, ws, h1, h2, h3⟩ := h
  exact ⟨p, ws, h1, e _ _ h2, h3.ex r e⟩
/-- the list at p -/
def LA {β : Type} (R : β → V → Hp → Prop) (H : Hp) (p : Addr) (bs : List β) : Prop := ∃ ws, H p = some (.lst ws) ∧ All R H ws bs
theorem LA.ex {β : Type} {keep : HO → Bool} {R : β → V → Hp → Prop} (r : Rob keep R) {H H' : Hp} (e : Ex H H') {p : Addr} {bs : List β} (h : LA R H p bs) : LA R H' p bs := by
  obtain ⟨ws, h2, h3⟩ := h
  exact ⟨ws, e _ _ h2, h3.ex r e⟩
theorem LA.lr {β : Type} {R : β → V → Hp → Prop} {H : Hp} {p : Addr} {bs : List β} (h : LA R H p bs) : LR R bs (.ref p) H := let ⟨ws, a, b⟩ := h; ⟨p, ws, rfl, a, b⟩
/-- one more -/
theorem LA.app {β : Type} {R : β → V → Hp → Prop} (r : Rob nlK R) {H : Hp} {p : Addr} {ws : List V} {bs : List β} {w : V} {b : β} (h1 : H p = some (.lst ws)) (h : All R H ws bs) (hb : R b w H) : LA R (upd H p (.lst (ws ++ [w]))) p (bs ++ [b]) :=
  ⟨_, upd_same, (h.snoc hb).kp r (KP.upd h1 rfl)⟩

/-! ### evaluation -/
def EvR (te : TE) (σ : St) (H : Hp) (R : V → Hp → Prop) : Prop := ∀ H1, Ex H H1 → ∀ Q : VK, (∀ v H2, Ex H1 H2 → R v H2 → Q v H2) → te σ H1 Q
theorem er_ev {te : TE} {σ : St} {H : Hp} {v : V} (h : Ev te σ H v) : EvR te σ H (fun x _ => x = v) := fun H1 e Q q => h H1 e Q fun H2 e2 => q v H2 e2 rfl
/-- [elt for x in xs if test], xs a list that stands: f tells which turns give, and what -/
theorem er_lc {β : Type} {K : PySem.W.Frag} {tl : TE} {j : Nat} {vs : List Nat} {tt : TT} {te : TE} {σ : St} {H : Hp} {a : Addr} {xs : List V} {R : β → V → Hp → Prop} (r : Rob nlK R) (f : Nat → Option β)
    (hl : Ev tl σ H (.ref a)) (hx : SqL K H a xs) (hz : xs.length ≤ 100000) (hw : ∀ x, wipe ((wipe σ vs).set j (some x)) vs = wipe σ vs)
    (ht : ∀ i x H1, Ex H H1 → xs[i]? = some x → EvT tt ((wipe σ vs).set j (some x)) H1 (f i).isSome) (he : ∀ i x H1 b, Ex H H1 → xs[i]? = some x → f i = some b → EvR te ((wipe σ vs).set j (some x)) H1 (R b)) :
    EvR (tLc (iList K tl) (gName j) tt te vs) σ H (LR R ((List.range xs.length).filterMap f)) := fun H0 e0 Q q => hl H0 e0 _ fun H1 e1 => ⟨a, rfl, ⟨xs, ex_l (e0.trans e1) hx⟩, fun D hD =>
  lc_list (xs := xs) (fun i H' => Ex H1 H' ∧ ∃ ws, H' D = some (.lst ws) ∧ All R H' ws ((List.range i).filterMap f) ∧ ws.length ≤ i) ⟨Ex.new hD, [], upd_same, .nil, Nat.zero_le _⟩ (fun i H' _ p => ex_l ((e0.trans e1).trans p.1) hx) (fun i x H' hi p => by
    obtain ⟨p1, ws, p2, p3, p4⟩ := p
    refine ⟨hw x, ?_⟩
    have hlt : i < xs.length := (List.getElem?_eq_some_iff.mp hi).1
    refine ht i x H' ((e0.trans e1).trans p1) hi H' (Ex.refl _) _ fun H3 e3 => ?_
    have es : (List.range (i + 1)).filterMap f = (List.range i).filterMap f ++ (f i).toList := by
      rw [List.range_succ, List.filterMap_append]
      cases hf : f i <;> simp [hf]
    rw [es]
    cases hf : f i with
    | some b =>
      rw [if_pos (by rfl)]
      refine he i x H' b ((e0.trans e1).trans p1) hi hf H3 e3 _ fun y H4 e4 ry => ⟨ws, e4 _ _ (e3 _ _ p2), by rw [sizeLine_eq]; omega, ?_, ?_⟩
      · exact Ex.mut ((p1.trans e3).trans e4) hD
      · exact ⟨_, upd_same, ((p3.ex r (e3.trans e4)).snoc ry).kp r (KP.upd (e4 _ _ (e3 _ _ p2)) rfl), by simp; omega⟩
    | none =>
      rw [if_neg (by simp)]
      exact ⟨p1.trans e3, ws, e3 _ _ p2, by simpa using p3.ex r e3, by omega⟩) fun H' p => by
    obtain ⟨p1, ws, p2, p3, _⟩ := p
    exact q _ H' (e1.trans p1) ⟨D, ws, rfl, p2, p3⟩⟩
/-- .. over range(n) -/
theorem er_lcR {β : Type} {ta : TA} {j : Nat} {vs : List Nat} {tt : TT} {te : TE} {σ : St} {H : Hp} {n : Nat} {R : β → V → Hp → Prop} (r : Rob nlK R) (f : Nat → Option β)
    (hn : EvA ta σ H [.int n]) (hz : n ≤ 100000) (hw : ∀ x, wipe ((wipe σ vs).set j (some x)) vs = wipe σ vs)
    (ht : ∀ (i : Nat) H1, Ex H H1 → i < n → EvT tt ((wipe σ vs).set j (some (.int (i : Int)))) H1 (f i).isSome) (he : ∀ (i : Nat) H1 b, Ex H H1 → i < n → f i = some b → EvR te ((wipe σ vs).set j (some (.int (i : Int)))) H1 (R b)) :
    EvR (tLc (iRng1 ta) (gName j) tt te vs) σ H (LR R ((List.range n).filterMap f)) := fun H0 e0 Q q => hn H0 e0 _ fun H1 e1 => ⟨n, rfl, by omega, by omega, fun D hD =>
  lc_range (lo := 0) (n := ((n : Nat) : Int).toNat) (fun i H' => Ex H1 H' ∧ ∃ ws, H' D = some (.lst ws) ∧ All R H' ws ((List.range i).filterMap f) ∧ ws.length ≤ i) ⟨Ex.new hD, [], upd_same, .nil, Nat.zero_le _⟩ (fun i H' hi p => by
    have hi : i < n := by simpa using hi
    have ez : (0 : Int) + (i : Int) = (i : Int) := Int.zero_add _
    rw [ez]
    obtain ⟨p1, ws, p2, p3, p4⟩ := p
    refine ⟨hw _, ?_⟩
    refine ht i H' ((e0.trans e1).trans p1) hi H' (Ex.refl _) _ fun H3 e3 => ?_
    have es : (List.range (i + 1)).filterMap f = (List.range i).filterMap f ++ (f i).toList := by
      rw [List.range_succ, List.filterMap_append]
      cases hf : f i <;> simp [hf]
    rw [es]
    cases hf : f i with
    | some b =>
      rw [if_pos (by rfl)]
      refine he i H' b ((e0.trans e1).trans p1) hi hf H3 e3 _ fun y H4 e4 ry => ⟨ws, e4 _ _ (e3 _ _ p2), by rw [sizeLine_eq]; omega, ?_, ?_⟩
      · exact Ex.mut ((p1.trans e3).trans e4) hD
      · exact ⟨_, upd_same, ((p3.ex r (e3.trans e4)).snoc ry).kp r (KP.upd (e4 _ _ (e3 _ _ p2)) rfl), by simp; omega⟩
    | none =>
      rw [if_neg (by simp)]
      exact ⟨p1.trans e3, ws, e3 _ _ p2, by simpa using p3.ex r e3, by omega⟩) fun H' p => by
    obtain ⟨p1, ws, p2, p3, _⟩ := p
    have en : ((n : Nat) : Int).toNat = n := by simp
    rw [en] at p3
    exact q _ H' (e1.trans p1) ⟨D, ws, rfl, p2, p3⟩⟩

/-! ### what values stand for -/
def Rint : Int → V → Hp → Prop := fun i v _ => v = .int i
def Rnat : Nat → V → Hp → Prop := fun n v _ => v = .int n
def Rbl : Bool → V → Hp → Prop := fun b v _ => v = .bl b
theorem rob_int {keep : HO → Bool} : Rob keep Rint := fun _ _ _ _ _ h => h
theorem rob_nat {keep : HO → Bool} : Rob keep Rnat := fun _ _ _ _ _ h => h
theorem rob_bl {keep : HO → Bool} : Rob keep Rbl := fun _ _ _ _ _ h => h
theorem all_int {H : Hp} : ∀ {ws : List V} {is : List Int}, All Rint H ws is → ws = is.map V.int
  | _, _, .nil => rfl
  | _, _, .cons r t => by rw [show _ = _ from r, all_int t]; rfl
theorem all_nat {H : Hp} : ∀ {ws : List V} {is : List Nat}, All Rnat H ws is → ws = is.map fun (n : Nat) => V.int n
  | _, _, .nil => rfl
  | _, _, .cons r t => by rw [show _ = _ from r, all_nat t]; rfl
theorem all_bl {H : Hp} : ∀ {ws : List V} {is : List Bool}, All Rbl H ws is → ws = is.map V.bl
  | _, _, .nil => rfl
  | _, _, .cons r t => by rw [show _ = _ from r, all_bl t]; rfl
theorem all_nat_mk {H : Hp} : ∀ (is : List Nat), All Rnat H (is.map fun (n : Nat) => V.int n) is
  | [] => .nil
  | _ :: r => .cons rfl (all_nat_mk r)
/-- ids in a tuple -/
def idV (l : List Nat) : List V := l.map fun (n : Nat) => V.int n
def Rids : List Nat → V → Hp → Prop := fun l v H => ∃ t, v = .ref t ∧ H t = some (.tup (idV l))
theorem rob_ids : Rob tupK Rids := fun l v H H' k ⟨t, e, h⟩ => ⟨t, e, k t _ h rfl⟩
/-- a step -/
def Rstep : Stratigraphy.Step → V → Hp → Prop := fun st v H => ∃ t i, v = .ref t ∧ H t = some (.tup [.int st.source, .int st.target, .ref i, .bl st.strict]) ∧ H i = some (.tup (idV st.facts))
theorem rob_step : Rob tupK Rstep := fun l v H H' k ⟨t, i, e, h, g⟩ => ⟨t, i, e, k t _ h rfl, k i _ g rfl⟩
/-- a state of a chain -/
def skV (s : SK) : List V := [.int s.1, .bl s.2]
def Rsk : SK → V → Hp → Prop := fun s v H => ∃ t, v = .ref t ∧ H t = some (.tup (skV s))
theorem rob_sk : Rob tupK Rsk := fun l v H H' k ⟨t, e, h⟩ => ⟨t, e, k t _ h rfl⟩
/-- a pair of units -/
def Rpr : Nat × Nat → V → Hp → Prop := fun s v H => ∃ t, v = .ref t ∧ H t = some (.tup [.int s.1, .int s.2])
theorem rob_pr : Rob tupK Rpr := fun l v H H' k ⟨t, e, h⟩ => ⟨t, e, k t _ h rfl⟩
def Rtri : Nat × Nat × Nat → V → Hp → Prop := fun s v H => ∃ t, v = .ref t ∧ H t = some (.tup [.int s.1, .int s.2.1, .int s.2.2])
theorem rob_tri : Rob tupK Rtri := fun l v H H' k ⟨t, e, h⟩ => ⟨t, e, k t _ h rfl⟩
/-! a fact -/
def fK : Fact → Int
  | .above _ _ => 2
  | .same _ _ => 3
  | .find _ _ _ => 4
  | .date _ _ _ => 5
def f1 : Fact → Int
  | .above u _ => u
  | .same a _ => a
  | .find u _ _ => u
  | .date u _ _ => u
def f2 : Fact → Int
  | .above _ l => l
  | .same _ b => b
  | .find _ s _ => s
  | .date _ s _ => s
def f3 : Fact → Int
  | .above _ _ => 0
  | .same _ _ => 0
  | .find _ _ e => e
  | .date _ _ e => e
def facF (id : Nat) (f : Fact) (b : Bool) : List (Str × V) := [("own_id", .int id), ("kind", .int (fK f)), ("first", .int (f1 f)), ("second", .int (f2 f)), ("third", .int (f3 f)), ("is_active", .bl b)]
/-- the fact at r -/
def FactAt (C : Addr) (H : Hp) (r : Addr) (id : Nat) (f : Fact) (b : Bool) : Prop := ∃ dx, H r = some (.ins C dx (facF id f b))
def Rfact (C : Addr) : Nat × Fact → V → Hp → Prop := fun e v H => ∃ r, v = .ref r ∧ FactAt C H r e.1 e.2 true
theorem rob_fact (C : Addr) : Rob nlK (Rfact C) := fun e v H H' k ⟨r, h, dx, g⟩ => ⟨r, h, dx, k r _ g rfl⟩
theorem lkH {k : Str} {v : V} {r : List (Str × V)} : List.lookup k ((k, v) :: r) = some v := by
  simp [List.lookup]
theorem lkP {k g : Str} {v : V} {r : List (Str × V)} (h : (k == g) = false) : List.lookup k ((g, v) :: r) = List.lookup k r := by
  simp only [List.lookup, h]
section
variable (id : Nat) (f : Fact) (b : Bool)
theorem fac_id : (facF id f b).lookup ("own_id" : Str) = some (.int id) := lkH
theorem fac_kind : (facF id f b).lookup ("kind" : Str) = some (.int (fK f)) := (lkP (by decide +kernel)).trans lkH
theorem fac_1 : (facF id f b).lookup ("first" : Str) = some (.int (f1 f)) := (lkP (by decide +kernel)).trans ((lkP (by decide +kernel)).trans lkH)
theorem fac_2 : (facF id f b).lookup ("second" : Str) = some (.int (f2 f)) := (lkP (by decide +kernel)).trans ((lkP (by decide +kernel)).trans ((lkP (by decide +kernel)).trans lkH))
theorem fac_3 : (facF id f b).lookup ("third" : Str) = some (.int (f3 f)) := (lkP (by decide +kernel)).trans ((lkP (by decide +kernel)).trans ((lkP (by decide +kernel)).trans ((lkP (by decide +kernel)).trans lkH)))
theorem fac_act : (facF id f b).lookup ("is_active" : Str) = some (.bl b) := (lkP (by decide +kernel)).trans ((lkP (by decide +kernel)).trans ((lkP (by decide +kernel)).trans ((lkP (by decide +kernel)).trans ((lkP (by decide +kernel)).trans lkH))))
theorem fac_ret : (facF id f b).lookup ("retract" : Str) = none := (lkP (by decide +kernel)).trans ((lkP (by decide +kernel)).trans ((lkP (by decide +kernel)).trans ((lkP (by decide +kernel)).trans ((lkP (by decide +kernel)).trans ((lkP (by decide +kernel)).trans rfl)))))
end
end L2.SD

/-! W4: what evaluates to something told of; what the text's top has written -/
set_option Elab.async false
set_option linter.all false
set_option maxRecDepth 100000
set_option maxHeartbeats 2000000
namespace L2.SD
open PySem PySem.Spec PyProof.Rows Evl
open Stratigraphy (Fact)
open SG (SK Tab look put)

/-! ### evaluation, told by what is known of the value -/
def Stb (R : V → Hp → Prop) : Prop := ∀ v H H', Ex H H' → R v H → R v H'
def StbA (S : List V → Hp → Prop) : Prop := ∀ v H H', Ex H H' → S v H → S v H'
def EaR (ta : TA) (σ : St) (H : Hp) (S : List V → Hp → Prop) : Prop := ∀ H1, Ex H H1 → ∀ Q : List V → Hp → Prop, (∀ vs H2, Ex H1 H2 → S vs H2 → Q vs H2) → ta σ H1 Q
def Is (x : V) : V → Hp → Prop := fun v _ => v = x
theorem stb_is {x : V} : Stb (Is x) := fun _ _ _ _ h => h
theorem stb_rob {β : Type} {keep : HO → Bool} {R : β → V → Hp → Prop} (r : Rob keep R) (b : β) : Stb (R b) := fun _ _ _ e h => r.ex e h
theorem stb_lr {β : Type} {keep : HO → Bool} {R : β → V → Hp → Prop} (r : Rob keep R) (bs : List β) : Stb (LR R bs) := fun _ _ _ e h => h.ex r e
section
variable {K : PySem.W.Frag} {σ : St} {H H' : Hp} {te tb to : TE} {ta : TA} {t : TT} {R R' R1 Rb : V → Hp → Prop} {S : List V → Hp → Prop} {D : Ends} {tz tu : TS}
theorem EvR.mono (e : Ex H H') (h : EvR te σ H R) : EvR te σ H' R := fun H1 a Q q => h H1 (e.trans a) Q q
theorem EaR.mono (e : Ex H H') (h : EaR ta σ H S) : EaR ta σ H' S := fun H1 a Q q => h H1 (e.trans a) Q q
theorem EvR.weak (h : EvR te σ H R) (w : ∀ v H', Ex H H' → R v H' → R' v H') : EvR te σ H R' := fun H1 e Q q => h H1 e Q fun v H2 e2 r => q v H2 e2 (w v H2 (e.trans e2) r)
theorem er_is {v : V} (h : Ev te σ H v) : EvR te σ H (Is v) := er_ev h
theorem er_of {v : V} (h : Ev te σ H v) (r : ∀ H', Ex H H' → R v H') : EvR te σ H R := (er_ev h).weak fun x H' e q => by subst q; exact r H' e
theorem ev_of {v : V} (h : EvR te σ H (Is v)) : Ev te σ H v := fun H1 e Q q => h H1 e Q fun x H2 e2 r => by
  obtain rfl : x = v := r
  exact q H2 e2
theorem er_var {i : Nat} {v : V} (h : σ[i]? = some (some v)) (r : ∀ H', Ex H H' → R v H') : EvR (tVar i) σ H R := er_of (ev_var h) r
theorem ear_nil : EaR tNil σ H (fun vs _ => vs = []) := fun H1 _ _ q => q [] H1 (Ex.refl H1) rfl
theorem ear_cons (h : EvR te σ H R) (s : Stb R) (hr : EaR ta σ H S) : EaR (tCons te ta) σ H (fun vs H => ∃ v r, vs = v :: r ∧ R v H ∧ S r H) := fun H1 e _ q =>
  h H1 e _ fun v H2 e2 r => hr H2 (e.trans e2) _ fun vs H3 e3 rs => q _ H3 (e2.trans e3) ⟨v, vs, rfl, s v H2 H3 e3 r, rs⟩
theorem ear_is {vs : List V} (h : EvA ta σ H vs) : EaR ta σ H (fun us _ => us = vs) := fun H1 e Q q => h H1 e Q fun H2 e2 => q vs H2 e2 rfl
/-- one argument -/
theorem ear_1 (h : EvR te σ H R) : EaR (tCons te tNil) σ H (fun vs H => ∃ v, vs = [v] ∧ R v H) := fun H1 e _ q => h H1 e _ fun v H2 e2 r => q _ H2 e2 ⟨v, rfl, r⟩
theorem er_call {α : Type} {args : α → List V} {pre : α → Hp → Prop} {post : α → V → Hp → Prop} (ha : EaR ta σ H S)
    (hs : ∀ vs H1, Ex H H1 → S vs H1 → ∃ a, vs = args a ∧ pre a H1 ∧ ∀ v H2, Ex H1 H2 → post a v H2 → R v H2) : EvR (tCall (spP args pre post) [] E0 ta) σ H R := fun H1 e Q q =>
  ha H1 e _ fun vs H2 e2 s => by
    obtain ⟨a, h1, h2, h3⟩ := hs vs H2 (e.trans e2) s
    exact ⟨a, by rw [List.append_nil]; exact h1, h2, fun v H3 e3 p => q v H3 (e2.trans e3) (h3 v H3 e3 p)⟩
theorem er_meth {α : Type} {C : Addr} {m : Str} {args : α → List V} {pre : α → Hp → Prop} {post : α → V → Hp → Prop} (ho : EvR to σ H R1) (s1 : Stb R1) (hi : ∀ v H1, Ex H H1 → R1 v H1 → ∃ a dx fs, v = .ref a ∧ H1 a = some (.ins C dx fs) ∧ fs.lookup m = none)
    (ha : EaR ta σ H S) (hs : ∀ v vs H1, Ex H H1 → R1 v H1 → S vs H1 → ∃ a, v :: vs = args a ∧ pre a H1 ∧ ∀ u H2, Ex H1 H2 → post a u H2 → R u H2) : EvR (tMeth C m (spP args pre post) [] E0 to ta) σ H R := fun H1 e Q q =>
  ho H1 e _ fun v H2 e2 r => by
    obtain ⟨a, dx, fs, g1, g2, g3⟩ := hi v H2 (e.trans e2) r
    refine ⟨a, dx, fs, g1, g2, g3, ha H2 (e.trans e2) _ fun vs H3 e3 s => ?_⟩
    obtain ⟨b, h1, h2, h3⟩ := hs v vs H3 ((e.trans e2).trans e3) (s1 v H2 H3 e3 r) s
    exact ⟨b, by rw [List.append_nil]; exact h1, h2, fun u H4 e4 p => q u H4 ((e2.trans e3).trans e4) (h3 u H4 e4 p)⟩
theorem er_if {b : Bool} (h : EvT t σ H b) (h1 : b = true → EvR te σ H R) (h2 : b = false → EvR tb σ H R) : EvR (tIf t te tb) σ H R := fun H1 e Q q => h H1 e _ fun H2 e2 => by
  cases b with
  | true => exact h1 rfl H2 (e.trans e2) Q fun v H3 e3 => q v H3 (e2.trans e3)
  | false => exact h2 rfl H2 (e.trans e2) Q fun v H3 e3 => q v H3 (e2.trans e3)
theorem er_lst {β : Type} {A : β → V → Hp → Prop} {bs : List β} (r : Rob nlK A) (hz : bs.length ≤ 100000) (h : EaR ta σ H (fun vs H => All A H vs bs)) : EvR (tLst ta) σ H (LR A bs) := fun H1 e Q q =>
  h H1 e _ fun vs H2 e2 s => ⟨by rw [s.length]; exact sz_of hz, fun p hp => q _ _ (e2.trans (Ex.new hp)) ⟨p, vs, rfl, upd_same, s.ex r (Ex.new hp)⟩⟩
theorem er_tup (s : StbA S) (hz : ∀ vs H1, Ex H H1 → S vs H1 → vs.length ≤ 100000) (h : EaR ta σ H S) : EvR (tTup ta) σ H (fun v H => ∃ p vs, v = .ref p ∧ H p = some (.tup vs) ∧ S vs H) := fun H1 e Q q =>
  h H1 e _ fun vs H2 e2 r => ⟨sz_of (hz vs H2 (e.trans e2) r), fun p hp => q _ _ (e2.trans (Ex.new hp)) ⟨p, vs, rfl, upd_same, s vs _ _ (Ex.new hp) r⟩⟩
theorem er_cat {β : Type} {A : β → V → Hp → Prop} {bs cs : List β} (r : Rob nlK A) (hz : bs.length + cs.length ≤ 100000) (h1 : EvR te σ H (LR A bs)) (h2 : EvR tb σ H (LR A cs)) : EvR (tOp rCat te tb) σ H (LR A (bs ++ cs)) := fun H1 e Q q =>
  h1 H1 e _ fun v H2 e2 r1 => h2 H2 (e.trans e2) _ fun u H3 e3 r2 => by
    obtain ⟨p, ws, rfl, hp, ap⟩ := r1.ex r e3
    obtain ⟨p', us, rfl, hp', ap'⟩ := r2
    exact ⟨p, p', ws, us, rfl, rfl, hp, hp', by rw [ap.length, ap'.length]; exact sz_of hz, fun l hl => q _ _ ((e2.trans e3).trans (Ex.new hl)) ⟨l, _, rfl, upd_same, (ap.append ap').ex r (Ex.new hl)⟩⟩
theorem er_op {r : R2} (h1 : EvR te σ H R1) (s1 : Stb R1) (h2 : EvR tb σ H Rb) (hr : ∀ x y H1, Ex H H1 → R1 x H1 → Rb y H1 → ∀ Q : VK, (∀ v H2, Ex H1 H2 → R v H2 → Q v H2) → r x y H1 Q) : EvR (tOp r te tb) σ H R := fun H1 e Q q =>
  h1 H1 e _ fun x H2 e2 r1 => h2 H2 (e.trans e2) _ fun y H3 e3 r2 => hr x y H3 ((e.trans e2).trans e3) (s1 _ _ _ e3 r1) r2 Q fun v H4 e4 r3 => q v H4 ((e2.trans e3).trans e4) r3
theorem er_cb {r : List V → Hp → VK → Prop} (h : EaR ta σ H S) (hr : ∀ vs H1, Ex H H1 → S vs H1 → ∀ Q : VK, (∀ v H2, Ex H1 H2 → R v H2 → Q v H2) → r vs H1 Q) : EvR (tCB r ta) σ H R := fun H1 e Q q =>
  h H1 e _ fun vs H2 e2 s => hr vs H2 (e.trans e2) s Q fun v H3 e3 r3 => q v H3 (e2.trans e3) r3
/-! statements -/
theorem s_retR (h : EvR te σ H R) (k : ∀ v H1, Ex H H1 → R v H1 → D.rt v H1) : tRet te D σ H := h H (Ex.refl H) _ fun v H1 e r => k v H1 e r
theorem s_asgR {i : Nat} (h : EvR te σ H R) (k : ∀ v H1, Ex H H1 → R v H1 → D.nx (σ.set i (some v)) H1) : tAsg te (gName i) D σ H := h H (Ex.refl H) _ fun v H1 e r => k v H1 e r
theorem q_asgR {i : Nat} (h : EvR te σ H R) (k : ∀ v H1, Ex H H1 → R v H1 → tz D (σ.set i (some v)) H1) : tSeq (tAsg te (gName i)) tz D σ H := h H (Ex.refl H) _ fun v H1 e r => k v H1 e r
theorem q_retR (h : EvR te σ H R) (k : ∀ v H1, Ex H H1 → R v H1 → D.rt v H1) : tSeq (tRet te) tz D σ H := h H (Ex.refl H) _ fun v H1 e r => k v H1 e r
/-- if c: return e -/
theorem q_ifRetR {b : Bool} (h : EvT t σ H b) (h1 : b = true → EvR te σ H R) (k1 : b = true → ∀ v H1, Ex H H1 → R v H1 → D.rt v H1) (k2 : b = false → ∀ H1, Ex H H1 → tz D σ H1) : tSeq (tIfS t (tRet te) tNext) tz D σ H := h H (Ex.refl H) _ fun H1 e => by
  cases b with
  | true => exact h1 rfl H1 e _ fun v H2 e2 r => k1 rfl v H2 (e.trans e2) r
  | false => exact k2 rfl H1 e
/-- l.append(e) -/
theorem s_appR {β : Type} {A : β → V → Hp → Prop} {b : β} {l : Addr} {bs : List β} (r : Rob nlK A) (hl : LA A H l bs) (ha : Ev to σ H (.ref l)) (h : EvR te σ H (A b)) (hz : bs.length < 100000) (H0 : Hp) (e0 : Ex H0 H) (h0 : H0 l = none) (k : ∀ H1, Ex H0 H1 → LA A H1 l (bs ++ [b]) → D.nx σ H1) :
    tDrop (tBM K "list" rAppend to (tCons te tNil)) D σ H := ha H (Ex.refl H) _ fun H1 e1 => by
  obtain ⟨ws, h1, h2⟩ := hl
  refine ⟨Or.inl ⟨rfl, ws, sq_of (e1 _ _ h1)⟩, h H1 e1 _ fun v H2 e2 rv => ?_⟩
  have g := e2 _ _ (e1 _ _ h1)
  refine ⟨l, ws, v, rfl, rfl, g, by rw [h2.length]; exact sz_lt hz, ?_⟩
  exact k _ (((e0.trans e1).trans e2).mut h0) (LA.app r g (h2.ex r (e1.trans e2)) rv)
/-- l.extend(e) -/
theorem s_extR {β : Type} {A : β → V → Hp → Prop} {cs : List β} {l : Addr} {bs : List β} (r : Rob nlK A) (hl : LA A H l bs) (ha : Ev to σ H (.ref l)) (h : EvR te σ H (LR A cs)) (hz : bs.length + cs.length ≤ 100000) (H0 : Hp) (e0 : Ex H0 H) (h0 : H0 l = none) (k : ∀ H1, Ex H0 H1 → LA A H1 l (bs ++ cs) → D.nx σ H1) :
    tDrop (tBM K "list" rExtend to (tCons te tNil)) D σ H := ha H (Ex.refl H) _ fun H1 e1 => by
  obtain ⟨ws, h1, h2⟩ := hl
  refine ⟨Or.inl ⟨rfl, ws, sq_of (e1 _ _ h1)⟩, h H1 e1 _ fun v H2 e2 rv => ?_⟩
  have g := e2 _ _ (e1 _ _ h1)
  obtain ⟨q, us, rfl, hq, aq⟩ := rv
  refine ⟨l, q, ws, us, rfl, rfl, g, hq, by rw [h2.length, aq.length]; exact sz_of hz, ?_⟩
  exact k _ (((e0.trans e1).trans e2).mut h0) ⟨_, upd_same, ((h2.ex r (e1.trans e2)).append aq).kp r (KP.upd g rfl)⟩
end

/-! ### what the top has written -/
structure Txt (K : PySem.W.Frag) (mg : Str → Option Value) (CF CO CS aA aU : Addr) : Prop where
  cF : Cls K CF
  cO : Cls K CO
  cS : Cls K CS
  nFi : NoAttr K CF "own_id"
  nFk : NoAttr K CF "kind"
  nF1 : NoAttr K CF "first"
  nF2 : NoAttr K CF "second"
  nF3 : NoAttr K CF "third"
  nFa : NoAttr K CF "is_active"
  nOc : NoAttr K CO "count"
  nOf : NoAttr K CO "facts"
  nOs : NoAttr K CO "states"
  nSu : NoAttr K CS "units"
  nSf : NoAttr K CS "facts"
  g_ABOVE : GInt mg "ABOVE" 2
  g_SAME : GInt mg "SAME" 3
  g_FIND : GInt mg "FIND" 4
  g_DATE : GInt mg "DATE" 5
  g_FIRST_YEAR : GInt mg "FIRST_YEAR" (-5000)
  g_LAST_YEAR : GInt mg "LAST_YEAR" 2100
  g_LONGEST : GInt mg "LONGEST" 48
  g_NO : GInt mg "NO" 0
  g_YES : GInt mg "YES" 1
  g_OPEN : GInt mg "OPEN" 2
  g_OUT_OF_RANGE : GInt mg "OUT_OF_RANGE" (-1)
  g_NOT_THERE : GInt mg "NOT_THERE" (-3)
  g_CONTRADICTED : GInt mg "CONTRADICTED" (-4)
  g_RETRACTED : GInt mg "RETRACTED" (-8)
  g_TOO_MANY : GInt mg "TOO_MANY" (-9)
  g_MOST_UNITS : GInt mg "MOST_UNITS" 12
  g_MOST_FACTS : GInt mg "MOST_FACTS" 40
  g_ARGUMENTS : GTup K mg "ARGUMENTS" aA [0, 0, 2, 2, 3, 3, 1, 2, 1, 1, 1, 1, 0, 0, 0, 2, 2, 0, 0]
  g_UNITS : GTup K mg "UNITS" aU [0, 0, 2, 2, 1, 1, 0, 2, 1, 0, 1, 1, 0, 0, 0, 2, 2, 0, 0]
  len : mg "len" = none
  range : mg "range" = none
  min : mg "min" = none
  max : mg "max" = none
  sum : mg "sum" = none
  any : mg "any" = none
  all : mg "all" = none
  list : mg "list" = none
  enumerate : mg "enumerate" = none
/-- the i-th statement of the program -/
def topS (i : Nat) : Stmt := PySem.Challenge.pw_strataproofs_s01_answers.main.body.getD i (.Pass ⟨0, 0, 0, 0⟩)
end L2.SD

/-! W5: loops and comprehensions over lists that stand for something -/
set_option Elab.async false
set_option linter.all false
set_option maxRecDepth 100000
set_option maxHeartbeats 2000000
namespace L2.SD
open PySem PySem.Spec PyProof.Rows Evl
open Stratigraphy (Fact)
open SG (SK Tab look put)

/-- all but what stands at p stays -/
def ExB (p : Addr) (H H' : Hp) : Prop := ∀ a o, H a = some o → a ≠ p → H' a = some o
section
variable {p : Addr} {H H0 H1 H2 H' : Hp}
theorem ExB.ex (e : Ex H H') : ExB p H H' := fun a o h _ => e a o h
theorem ExB.refl : ExB p H H := fun _ _ h _ => h
theorem ExB.trans (a : ExB p H H1) (b : ExB p H1 H2) : ExB p H H2 := fun x o h k => b x o (a x o h k) k
theorem ExB.upd {o : HO} : ExB p H (upd H p o) := fun a u h k => by rw [upd_ne k]; exact h
theorem ExB.ex0 (e0 : Ex H0 H) (h0 : H0 p = none) (e : ExB p H H') : Ex H0 H' := fun a o h => e a o (e0 a o h) (ne_of_none h h0)
theorem ExB.kp {keep : HO → Bool} {u : HO} (h : H p = some u) (hk : keep u = false) (e : ExB p H H') : KP keep H H' := fun a o ha k => e a o ha fun z => by
  rw [z, h] at ha
  cases ha
  rw [hk] at k
  cases k
theorem kp_weak {A B : HO → Bool} (h : ∀ o, A o = true → B o = true) (k : KP B H H') : KP A H H' := fun a o ha q => k a o ha (h o q)
end
theorem LA.kp {β : Type} {R : β → V → Hp → Prop} {H : Hp} {p : Addr} {bs : List β} (h : LA R H p bs) {H' : Hp} (e : ExB p H H') : KP nlK H H' := let ⟨_, h1, _⟩ := h; ExB.kp h1 rfl e
section
variable {K : PySem.W.Frag} {σ : St} {H H' : Hp} {te tb to tl : TE} {ta : TA} {t tt : TT} {R : V → Hp → Prop} {S : List V → Hp → Prop} {D : Ends} {tz tu : TS}
theorem s_appB {β : Type} {A : β → V → Hp → Prop} {b : β} {l : Addr} {bs : List β} (r : Rob nlK A) (hl : LA A H l bs) (ha : Ev to σ H (.ref l)) (h : EvR te σ H (A b)) (hz : bs.length < 100000) (k : ∀ H1, ExB l H H1 → LA A H1 l (bs ++ [b]) → D.nx σ H1) :
    tDrop (tBM K "list" rAppend to (tCons te tNil)) D σ H := ha H (Ex.refl H) _ fun H1 e1 => by
  obtain ⟨ws, h1, h2⟩ := hl
  refine ⟨Or.inl ⟨rfl, ws, sq_of (e1 _ _ h1)⟩, h H1 e1 _ fun v H2 e2 rv => ?_⟩
  have g := e2 _ _ (e1 _ _ h1)
  refine ⟨l, ws, v, rfl, rfl, g, by rw [h2.length]; exact sz_lt hz, ?_⟩
  exact k _ ((ExB.ex (e1.trans e2)).trans .upd) (LA.app r g (h2.ex r (e1.trans e2)) rv)
theorem s_extB {β : Type} {A : β → V → Hp → Prop} {cs : List β} {l : Addr} {bs : List β} (r : Rob nlK A) (hl : LA A H l bs) (ha : Ev to σ H (.ref l)) (h : EvR te σ H (LR A cs)) (hz : bs.length + cs.length ≤ 100000) (k : ∀ H1, ExB l H H1 → LA A H1 l (bs ++ cs) → D.nx σ H1) :
    tDrop (tBM K "list" rExtend to (tCons te tNil)) D σ H := ha H (Ex.refl H) _ fun H1 e1 => by
  obtain ⟨ws, h1, h2⟩ := hl
  refine ⟨Or.inl ⟨rfl, ws, sq_of (e1 _ _ h1)⟩, h H1 e1 _ fun v H2 e2 rv => ?_⟩
  have g := e2 _ _ (e1 _ _ h1)
  obtain ⟨q, us, rfl, hq, aq⟩ := rv
  refine ⟨l, q, ws, us, rfl, rfl, g, hq, by rw [h2.length, aq.length]; exact sz_of hz, ?_⟩
  exact k _ ((ExB.ex (e1.trans e2)).trans .upd) ⟨_, upd_same, ((h2.ex r (e1.trans e2)).append aq).kp r (KP.upd g rfl)⟩
/-- for x in l: the list at p grows by g of each -/
theorem s_forAcc {γ β : Type} {A : γ → V → Hp → Prop} {B : β → V → Hp → Prop} {es : List γ} {bs : List β} {p : Addr} {gt : TG} (m : Nat) (g : γ → List β) (I : St → Prop) (rA : Rob nlK A) (rB : Rob nlK B) (hl : EvR tl σ H (fun v H => LR A es v H ∧ v ≠ .ref p)) (hI : I σ) (hp : LA B H p bs) (hg : ∀ c ∈ es, (g c).length ≤ m)
    (hd : ∀ σ' H', I σ' → ExB p H H' → LA B H' p (bs ++ es.flatMap g) → D.nx σ' H')
    (hb : ∀ i c x acc σ' H' (D' : Ends), es[i]? = some c → I σ' → ExB p H H' → A c x H' → LA B H' p acc → acc.length ≤ bs.length + i * m → (∀ σ3 H3, I σ3 → ExB p H' H3 → LA B H3 p (acc ++ g c) → D'.nx σ3 H3) → gt x σ' H' fun σ2 H2 => tu D' σ2 H2) :
    tFor (iList K tl) gt tu D σ H := hl H (Ex.refl H) _ fun v H1 e1 r => by
  obtain ⟨⟨a, ws, rfl, h1, h2⟩, ne⟩ := r
  have ap : a ≠ p := fun z => ne (by rw [z])
  have hp1 : LA B H1 p bs := hp.ex rB e1
  refine ⟨a, rfl, ⟨ws, sq_of h1⟩, for_list (xs := ws) (fun i σ' H' => I σ' ∧ ExB p H1 H' ∧ LA B H' p (bs ++ (es.take i).flatMap g)) ⟨hI, .refl, by simpa using hp1⟩ (fun i σ' H' _ q => sq_of (q.2.1 a _ h1 ap)) (fun i x σ' H' hi q => ?_) (fun σ' H' q => ?_)⟩
  · obtain ⟨q1, q2, q3⟩ := q
    obtain ⟨c, hc, rc⟩ := h2.get hi
    refine hb i c x _ σ' H' _ hc q1 ((ExB.ex e1).trans q2) (rA _ _ _ _ (hp1.kp q2) rc) q3 ?_ fun σ3 H3 i3 b3 l3 => ⟨i3, q2.trans b3, ?_⟩
    · have hi' : i ≤ es.length := by have := (List.getElem?_eq_some_iff.mp hc).1; omega
      have : ∀ (l : List γ), (∀ c ∈ l, (g c).length ≤ m) → (l.flatMap g).length ≤ l.length * m := by
        intro l
        induction l with
        | nil => simp
        | cons y l ih =>
          intro hh
          rw [List.flatMap_cons, List.length_append, List.length_cons, Nat.succ_mul]
          have := ih fun c hc => hh c (List.mem_cons_of_mem _ hc)
          have := hh y List.mem_cons_self
          omega
      have := this (es.take i) fun c hc => hg c (List.mem_of_mem_take hc)
      rw [List.length_append]
      rw [List.length_take, Nat.min_eq_left hi'] at this
      omega
    · rw [List.take_add_one, hc]
      simpa using l3
  · obtain ⟨q1, q2, q3⟩ := q
    rw [h2.length, List.take_length] at q3
    exact hd σ' H' q1 ((ExB.ex e1).trans q2) q3
theorem q_forAcc {γ β : Type} {A : γ → V → Hp → Prop} {B : β → V → Hp → Prop} {es : List γ} {bs : List β} {p : Addr} {gt : TG} (m : Nat) (g : γ → List β) (I : St → Prop) (rA : Rob nlK A) (rB : Rob nlK B) (hl : EvR tl σ H (fun v H => LR A es v H ∧ v ≠ .ref p)) (hI : I σ) (hp : LA B H p bs) (hg : ∀ c ∈ es, (g c).length ≤ m)
    (hd : ∀ σ' H', I σ' → ExB p H H' → LA B H' p (bs ++ es.flatMap g) → tz D σ' H')
    (hb : ∀ i c x acc σ' H' (D' : Ends), es[i]? = some c → I σ' → ExB p H H' → A c x H' → LA B H' p acc → acc.length ≤ bs.length + i * m → (∀ σ3 H3, I σ3 → ExB p H' H3 → LA B H3 p (acc ++ g c) → D'.nx σ3 H3) → gt x σ' H' fun σ2 H2 => tu D' σ2 H2) :
    tSeq (tFor (iList K tl) gt tu) tz D σ H := s_forAcc (D := { D with nx := tz D }) m g I rA rB hl hI hp hg hd hb
theorem q_appB {β : Type} {A : β → V → Hp → Prop} {b : β} {l : Addr} {bs : List β} (r : Rob nlK A) (hl : LA A H l bs) (ha : Ev to σ H (.ref l)) (h : EvR te σ H (A b)) (hz : bs.length < 100000) (k : ∀ H1, ExB l H H1 → LA A H1 l (bs ++ [b]) → tz D σ H1) :
    tSeq (tDrop (tBM K "list" rAppend to (tCons te tNil))) tz D σ H := s_appB (D := { D with nx := tz D }) r hl ha h hz k
/-- found = [] -/
theorem q_new {i : Nat} (k : ∀ p, H p = none → tz D (σ.set i (some (.ref p))) (upd H p (.lst []))) : tSeq (tAsg (tLst tNil) (gName i)) tz D σ H := ⟨Nat.zero_le _, fun p hp => k p hp⟩
theorem er_U {xs : List V} (h : EvU te σ H xs) : EvR te σ H (fun v H => ∃ p, v = .ref p ∧ H p = some (.tup xs)) := fun H1 e Q q => h H1 e Q fun p H2 _ e2 h2 => q _ H2 e2 ⟨p, rfl, h2⟩
theorem er_L {xs : List V} (h : EvL te σ H xs) : EvR te σ H (fun v H => ∃ p, v = .ref p ∧ H p = some (.lst xs)) := fun H1 e Q q => h H1 e Q fun p H2 _ e2 h2 => q _ H2 e2 ⟨p, rfl, h2⟩
theorem flatMap_toList {γ β : Type} (f : γ → Option β) : ∀ l : List γ, (l.flatMap fun c => (f c).toList) = l.filterMap f
  | [] => rfl
  | c :: l => by
    rw [List.flatMap_cons, flatMap_toList f l, List.filterMap_cons]
    cases f c <;> rfl
theorem EaR.weakA {S' : List V → Hp → Prop} (h : EaR ta σ H S) (w : ∀ v H', Ex H H' → S v H' → S' v H') : EaR ta σ H S' := fun H1 e Q q => h H1 e Q fun v H2 e2 r => q v H2 e2 (w v H2 (e.trans e2) r)
theorem s_fldR {K : PySem.W.Frag} {p C dx : Addr} {fs : List (Str × V)} {f : Str} (h : EvR te σ H R) (s : Stb R) (ha : Ev to σ H (.ref p)) (hp : H p = some (.ins C dx fs)) (c : Cls K C) (n : NoAttr K C f) (hz : fs.length < 1000) (k : ∀ v H1, Ex H H1 → R v H1 → D.nx σ (upd H1 p (.ins C dx (putF f v fs)))) : sFld K to te f D σ H :=
  h H (Ex.refl _) _ fun v H1 e1 r => ha H1 e1 _ fun H2 e2 => ⟨p, C, dx, fs, rfl, (e1.trans e2) _ _ hp, c, n, hz, k v H2 (e1.trans e2) (s _ _ _ e2 r)⟩
/-- [elt for x in l if test] -/
theorem er_lcL {γ β : Type} {A : γ → V → Hp → Prop} {B : β → V → Hp → Prop} {es : List γ} {j : Nat} {vs : List Nat} (rA : Rob nlK A) (rB : Rob nlK B) (f : γ → Option β)
    (hl : EvR tl σ H (LR A es)) (hz : es.length ≤ 100000) (hw : ∀ x, wipe ((wipe σ vs).set j (some x)) vs = wipe σ vs)
    (ht : ∀ c x H1, c ∈ es → Ex H H1 → A c x H1 → EvT tt ((wipe σ vs).set j (some x)) H1 (f c).isSome) (he : ∀ c x b H1, c ∈ es → Ex H H1 → A c x H1 → f c = some b → EvR te ((wipe σ vs).set j (some x)) H1 (B b)) :
    EvR (tLc (iList K tl) (gName j) tt te vs) σ H (LR B (es.filterMap f)) := fun H0 e0 Q q => hl H0 e0 _ fun v H1 e1 r => by
  obtain ⟨a, xs, rfl, hx, al⟩ := r
  refine ⟨a, rfl, ⟨xs, sq_of hx⟩, fun D hD => ?_⟩
  refine lc_list (xs := xs) (fun i H' => Ex H1 H' ∧ ∃ ws, H' D = some (.lst ws) ∧ All B H' ws ((es.take i).filterMap f) ∧ ws.length ≤ i) ⟨Ex.new hD, [], upd_same, .nil, Nat.zero_le _⟩ (fun i H' _ p => sq_of (p.1 _ _ hx)) (fun i x H' hi p => ?_) fun H' p => ?_
  · obtain ⟨p1, ws, p2, p3, p4⟩ := p
    refine ⟨hw x, ?_⟩
    obtain ⟨c, hc, rc⟩ := al.get hi
    have hm : c ∈ es := List.mem_of_getElem? hc
    have hlt : i < es.length := (List.getElem?_eq_some_iff.mp hc).1
    have rc' : A c x H' := rA.ex p1 rc
    refine ht c x H' hm ((e0.trans e1).trans p1) rc' H' (Ex.refl _) _ fun H3 e3 => ?_
    have es' : (es.take (i + 1)).filterMap f = (es.take i).filterMap f ++ (f c).toList := by
      rw [List.take_add_one, hc, List.filterMap_append]
      cases hf : f c <;> simp [hf]
    rw [es']
    cases hf : f c with
    | some b =>
      rw [if_pos (by rfl)]
      refine he c x b H' hm ((e0.trans e1).trans p1) rc' hf H3 e3 _ fun y H4 e4 ry => ⟨ws, e4 _ _ (e3 _ _ p2), by rw [sizeLine_eq]; omega, ?_, ?_⟩
      · exact Ex.mut ((p1.trans e3).trans e4) hD
      · exact ⟨_, upd_same, ((p3.ex rB (e3.trans e4)).snoc ry).kp rB (KP.upd (e4 _ _ (e3 _ _ p2)) rfl), by simp; omega⟩
    | none =>
      rw [if_neg (by simp)]
      exact ⟨p1.trans e3, ws, e3 _ _ p2, by simpa using p3.ex rB e3, by omega⟩
  · obtain ⟨p1, ws, p2, p3, _⟩ := p
    rw [al.length, List.take_length] at p3
    exact q _ H' (e1.trans p1) ⟨D, ws, rfl, p2, p3⟩
end
end L2.SD

/-! W6: tables in dicts, data that are compared, loops that fold -/
set_option Elab.async false
set_option linter.all false
set_option maxRecDepth 100000
set_option maxHeartbeats 2000000
namespace L2.SD
open PySem PySem.Spec PyProof.Rows Evl
open Stratigraphy (Fact)
open SG (SK Tab look put pyLt minT)

/-! ### data -/
def dIds (l : List Nat) : PyData := .tuple (l.map fun (n : Nat) => .int n)
def dPair (l : List Nat) : PyData := .tuple [.int l.length, dIds l]
def dTri (x : Nat × Nat × Nat) : PyData := .tuple [.int x.1, .int x.2.1, .int x.2.2]
theorem dp_ints {K : PySem.W.Frag} {H : Hp} : ∀ l : List Nat, DpAll K H (idV l) (l.map fun (n : Nat) => .int n)
  | [] => .nil
  | _ :: l => .cons (.int _) (dp_ints l)
theorem dp_ids {K : PySem.W.Frag} {H : Hp} {t : Addr} {l : List Nat} (h : H t = some (.tup (idV l))) : Dp K H (.ref t) (dIds l) := .tup (st_of h) (dp_ints l)
theorem alike_ints : ∀ a b : List Nat, PySem.W.alikeAll (a.map fun (n : Nat) => .int n) (b.map fun (n : Nat) => .int n) = true
  | [], _ => by simp [PySem.W.alikeAll]
  | x :: a, [] => by simp [PySem.W.alikeAll]
  | x :: a, y :: b => by
    have ih := alike_ints a b
    simp only [List.map_cons, PySem.W.alikeAll, PySem.W.alike, Bool.true_and]
    exact ih
theorem alike_ids (a b : List Nat) : PySem.W.alike (dIds a) (dIds b) = true := by
  unfold dIds
  simp only [PySem.W.alike]
  exact alike_ints a b
theorem alike_pair (a b : List Nat) : PySem.W.alike (dPair a) (dPair b) = true := by
  have := alike_ids a b
  simp [dPair, PySem.W.alike, PySem.W.alikeAll, this]
theorem alike_tri (a b : Nat × Nat × Nat) : PySem.W.alike (dTri a) (dTri b) = true := by simp [dTri, PySem.W.alike, PySem.W.alikeAll]
theorem lt_ints : ∀ a b : List Nat, PyProof.Rows.lexLt itemOrd (PySem.W.keyToksAll (a.map fun (n : Nat) => .int n)) (PySem.W.keyToksAll (b.map fun (n : Nat) => .int n)) = pyLt a b
  | [], [] => by simp [PySem.W.keyToksAll, pyLt]; decide
  | [], y :: b => by
    simp only [List.map_nil, List.map_cons, PySem.W.keyToksAll, pyLt]
    rw [lex_diff (O := itemOrd) (by simp)]
    decide
  | x :: a, [] => by
    simp only [List.map_nil, List.map_cons, PySem.W.keyToksAll, pyLt]
    rw [lex_diff (O := itemOrd) (by simp)]
    decide
  | x :: a, y :: b => by
    have al : PySem.W.alike (.int x) (.int y) = true := by simp [PySem.W.alike]
    simp only [List.map_cons, pyLt]
    by_cases e : x = y
    · subst e
      rw [if_pos rfl, PySem.W.dataLt_all_yes al (by simp [PyData.eqv])]
      exact lt_ints a b
    · rw [if_neg e, PySem.W.dataLt_all_no al (by simp [PyData.eqv]; omega), PySem.W.dataLt_int]
      by_cases q : x < y
      · simp [q]
      · simp [q]
theorem lt_ids (a b : List Nat) : PySem.W.dataLt (dIds a) (dIds b) = pyLt a b := by
  unfold dIds
  rw [PySem.W.dataLt_tuple]
  exact lt_ints a b
theorem lt_nil : PyProof.Rows.lexLt itemOrd (PySem.W.keyToksAll []) (PySem.W.keyToksAll []) = false := by simp [PySem.W.keyToksAll]; decide
theorem eqv_ids {a b : List Nat} (h : a = b) : PyData.eqv (dIds a) (dIds b) = true := by
  subst h
  exact PySem.W.eqv_refl_alike _ (alike_ids a a)
theorem pyLt_irr : ∀ a : List Nat, pyLt a a = false
  | [] => rfl
  | x :: a => by simp [pyLt, pyLt_irr a]
theorem lt_pair (a b : List Nat) : PySem.W.dataLt (dPair a) (dPair b) = Stratigraphy.preferred a b := by
  have al : PySem.W.alike (.int (a.length : Int)) (.int (b.length : Int)) = true := by simp [PySem.W.alike]
  unfold dPair Stratigraphy.preferred
  rw [PySem.W.dataLt_tuple]
  by_cases e : a.length = b.length
  · rw [PySem.W.dataLt_all_yes al (by simp [PyData.eqv, e])]
    have h1 : decide (a.length < b.length) = false := by simp [e]
    rw [h1, Bool.false_or, show (a.length == b.length) = true by simp [e], Bool.true_and, ← SG.pyLt_lex e]
    by_cases q : PyData.eqv (dIds a) (dIds b) = true
    · rw [PySem.W.dataLt_all_yes (alike_ids a b) q, lt_nil, ← lt_ids]
      unfold PySem.W.dataLt
      rw [(PySem.W.toks_eqv _ _ (alike_ids a b)).1 q]
      have := lt_ids b b
      unfold PySem.W.dataLt at this
      rw [this, pyLt_irr]
    · rw [PySem.W.dataLt_all_no (alike_ids a b) (by simpa using q), lt_ids]
  · rw [PySem.W.dataLt_all_no al (by simp [PyData.eqv]; omega), PySem.W.dataLt_int]
    have h1 : (a.length == b.length) = false := by simp [e]
    rw [h1, Bool.false_and, Bool.or_false]
    by_cases q : a.length < b.length
    · simp [q]
    · simp [q]
theorem lt_tri (a b : Nat × Nat × Nat) : PySem.W.dataLt (dTri a) (dTri b) = SG.triLt a b := by
  have al : ∀ x y : Nat, PySem.W.alike (.int (x : Int)) (.int (y : Int)) = true := fun x y => by simp [PySem.W.alike]
  have st : ∀ (x y : Nat) (r t : List PyData), PyProof.Rows.lexLt itemOrd (PySem.W.keyToksAll (.int (x : Int) :: r)) (PySem.W.keyToksAll (.int (y : Int) :: t)) = (decide (x < y) || (x == y && PyProof.Rows.lexLt itemOrd (PySem.W.keyToksAll r) (PySem.W.keyToksAll t))) := fun x y r t => by
    by_cases e : x = y
    · subst e
      rw [PySem.W.dataLt_all_yes (al x x) (by simp [PyData.eqv])]
      simp
    · rw [PySem.W.dataLt_all_no (al x y) (by simp [PyData.eqv]; omega), PySem.W.dataLt_int]
      have h1 : (x == y) = false := by simp [e]
      rw [h1, Bool.false_and, Bool.or_false]
      by_cases q : x < y
      · simp [q]
      · simp [q]
  unfold dTri SG.triLt
  rw [PySem.W.dataLt_tuple, st, st, st, lt_nil, Bool.and_false, Bool.or_false]
theorem depth_ints : ∀ l : List Nat, PyData.depthAll (l.map fun (n : Nat) => .int n) = 0
  | [] => rfl
  | _ :: l => by
    have := depth_ints l
    simp only [List.map_cons, PyData.depthAll, PyData.depth, this]
    rfl
theorem depth_ids (l : List Nat) : (dIds l).depth = 1 := by
  unfold dIds
  simp only [PyData.depth, depth_ints]
theorem depth_pair (l : List Nat) : (dPair l).depth = 2 := by
  unfold dPair
  simp only [PyData.depth, PyData.depthAll, depth_ids]
  rfl
theorem depth_tri (x : Nat × Nat × Nat) : (dTri x).depth = 1 := by
  unfold dTri
  simp only [PyData.depth, PyData.depthAll]
  rfl
theorem depth_all {α : Type} {f : α → PyData} {k : Nat} (h : ∀ x, (f x).depth ≤ k) : ∀ l : List α, PyData.depthAll (l.map f) ≤ k
  | [] => Nat.zero_le _
  | x :: l => by
    simp only [List.map_cons, PyData.depthAll]
    exact Nat.max_le.mpr ⟨h x, depth_all h l⟩
theorem minD_map {α : Type} {f : α → PyData} {lt : α → α → Bool} (h : ∀ a b, PySem.W.dataLt (f a) (f b) = lt a b) : ∀ (l : List α) (x : α), PySem.W.minD (f x) (l.map f) = f (l.foldl (fun a y => if lt y a = true then y else a) x)
  | [], x => rfl
  | y :: l, x => by
    have ih := minD_map h l (if lt y x = true then y else x)
    unfold PySem.W.minD at ih ⊢
    rw [List.map_cons, List.foldl_cons, List.foldl_cons, ← ih, h]
    split <;> rfl

/-! ### tables -/
theorem nodup_len {α : Type} [DecidableEq α] : ∀ {l m : List α}, l.Nodup → (∀ x ∈ l, x ∈ m) → l.length ≤ m.length
  | [], _, _, _ => Nat.zero_le _
  | x :: l, m, h, s => by
    rw [List.nodup_cons] at h
    have hm : x ∈ m := s x List.mem_cons_self
    have := nodup_len (l := l) (m := m.erase x) h.2 fun y hy => (List.mem_erase_of_ne fun e => h.1 (by rw [← e]; exact hy)).mpr (s y (List.mem_cons_of_mem _ hy))
    rw [List.length_erase_of_mem hm] at this
    have : 0 < m.length := List.length_pos_of_mem hm
    rw [List.length_cons]
    omega
structure TabA {κ β : Type} (kf : κ → List V) (RV : β → V → Hp → Prop) (P : Program) (w : World) (H : Hp) (d : Addr) (t : List (κ × β)) : Prop where
  ex : ∃ kvs, DA P w H d kvs ∧ Paired (fun (e : List V × Addr × V) (p : κ × β) => e.1 = kf p.1 ∧ RV p.2 e.2.2 H) kvs t
/-- keys that a dict can tell apart -/
structure KeyF {κ : Type} (kf : κ → List V) : Prop where
  ok : ∀ k, (kf k).all okV = true
  inj : ∀ k j, (kf k).map lfV = (kf j).map lfV → k = j
/-- what a dict's table stands on -/
def tblK (d : Addr) (H H' : Hp) : Prop := (∀ a xs, H a = some (.tup xs) → H' a = some (.tup xs)) ∧ ∀ P w o kvs, H d = some (dE P w d o kvs) → H' d = some (dE P w d o kvs)
section
variable {κ β : Type} [DecidableEq κ] {kf : κ → List V} {RV : β → V → Hp → Prop} {P : Program} {w : World} {H H' : Hp} {d : Addr} {t : List (κ × β)} {k : κ} {b : β}
theorem tup_keep (h : KP tupK H H') : ∀ a xs, H a = some (.tup xs) → H' a = some (.tup xs) := fun a xs e => h a _ e rfl
theorem TabA.kp (r : Rob tupK RV) (T : TabA kf RV P w H d t) (hk : KP tupK H H') (hd : ∀ o, H d = some o → H' d = some o) : TabA kf RV P w H' d t := by
  obtain ⟨kvs, D, al⟩ := T.ex
  obtain ⟨o, ho⟩ := D.obj
  exact ⟨⟨kvs, ⟨⟨o, hd _ ho⟩, fun x hx => ⟨hk _ _ (D.key x hx).1 rfl, (D.key x hx).2⟩⟩, Paired.mapP al fun e p q => ⟨q.1, r _ _ _ _ hk q.2⟩⟩⟩
theorem TabA.exx (r : Rob tupK RV) (T : TabA kf RV P w H d t) (e : Ex H H') : TabA kf RV P w H' d t := T.kp r (KP.ex e) fun o h => e _ _ h
/-- .. at another place something changed -/
theorem TabA.off (r : Rob tupK RV) (T : TabA kf RV P w H d t) {p : Addr} {u : HO} (hp : H p = some u) (hu : tupK u = false) (hne : d ≠ p) (e : ExB p H H') : TabA kf RV P w H' d t := T.kp r (e.kp hp hu) fun o h => e _ _ h hne
theorem TabA.new {o : Obj} : TabA kf RV P w (upd H d (dE P w d o [])) d [] := ⟨⟨[], ⟨⟨o, upd_same⟩, fun x hx => nomatch hx⟩, .nil⟩⟩
theorem look_val (F : KeyF kf) {kvs : KVs} {H : Hp} (al : Paired (fun (e : List V × Addr × V) (p : κ × β) => e.1 = kf p.1 ∧ RV p.2 e.2.2 H) kvs t) (k : κ) :
    (∀ b, look t k = some b → ∃ v, valL kvs (kf k) = some v ∧ RV b v H) ∧ (look t k = none → valL kvs (kf k) = none) := by
  induction al with
  | nil => exact ⟨fun b h => (nomatch h), fun _ => rfl⟩
  | @cons e p es ps q _ ih =>
    rw [valL_cons, SG.look_cons]
    by_cases z : p.1 = k
    · have h1 : e.1.map lfV = (kf k).map lfV := by rw [q.1, z]
      rw [if_pos z, if_pos h1]
      exact ⟨fun b h => ⟨_, rfl, by rw [← Option.some.inj h]; exact q.2⟩, fun h => nomatch h⟩
    · have h1 : ¬ e.1.map lfV = (kf k).map lfV := fun y => z (F.inj _ _ (by rw [q.1] at y; exact y))
      rw [if_neg z, if_neg h1]
      exact ih
theorem TabA.get (F : KeyF kf) (T : TabA kf RV P w H d t) {a : Addr} (ha : H a = some (.tup (kf k))) : ∃ o, DGt P w H d (.ref a) o ∧ (∀ b, look t k = some b → ∃ v, o = some v ∧ RV b v H) ∧ (look t k = none → o = none) := by
  obtain ⟨kvs, D, al⟩ := T.ex
  obtain ⟨h1, h2⟩ := look_val F al k
  exact ⟨valL kvs (kf k), ⟨kvs, kf k, a, D, rfl, ha, F.ok k, rfl⟩, h1, h2⟩
theorem TabA.put (F : KeyF kf) (r : Rob tupK RV) (T : TabA kf RV P w H d t) {kvs : KVs} (D : DA P w H d kvs) (al : Paired (fun (e : List V × Addr × V) (p : κ × β) => e.1 = kf p.1 ∧ RV p.2 e.2.2 H) kvs t) {a : Addr} (ha : H a = some (.tup (kf k))) {v : V} (hv : RV b v H) (o : Obj) :
    TabA kf RV P w (upd H d (dE P w d o (putL kvs (kf k) a v))) d (put t k b) := by
  obtain ⟨oo, ho⟩ := D.obj
  have kp : KP tupK H (upd H d (dE P w d o (putL kvs (kf k) a v))) := KP.upd ho rfl
  refine ⟨⟨putL kvs (kf k) a v, ⟨⟨o, upd_same⟩, putL_key (F := fun ks c => upd H d (dE P w d o (putL kvs (kf k) a v)) c = some (.tup ks) ∧ ks.all okV = true) (fun x hx => ⟨kp _ _ (D.key x hx).1 rfl, (D.key x hx).2⟩) ⟨kp _ _ ha rfl, F.ok k⟩⟩, ?_⟩⟩
  have hs : (valL kvs (kf k)).isSome = (look t k).isSome := by
    obtain ⟨h1, h2⟩ := look_val F al k
    cases e : look t k with
    | none => rw [h2 e]; rfl
    | some b => obtain ⟨v, q, _⟩ := h1 b e; rw [q]; rfl
  have al' : Paired (fun (e : List V × Addr × V) (p : κ × β) => e.1 = kf p.1 ∧ RV p.2 e.2.2 (upd H d (dE P w d o (putL kvs (kf k) a v)))) kvs t := Paired.mapP al fun e p q => ⟨q.1, r _ _ _ _ kp q.2⟩
  have hv' := r _ _ _ _ kp hv
  generalize upd H d (dE P w d o (putL kvs (kf k) a v)) = H2 at al' hv'
  unfold putL SG.put
  rw [hs]
  split
  · next hc =>
    clear hs hc al kp D T ho
    induction al' with
    | nil => exact .nil
    | @cons e p es ps q _ ih =>
      rw [List.map_cons, List.map_cons]
      refine .cons ?_ ih
      by_cases z : p.1 = k
      · have h1 : e.1.map lfV = (kf k).map lfV := by rw [q.1, z]
        rw [if_pos z, if_pos h1]
        exact ⟨q.1, hv'⟩
      · have h1 : ¬ e.1.map lfV = (kf k).map lfV := fun y => z (F.inj _ _ (by rw [q.1] at y; exact y))
        rw [if_neg z, if_neg h1]
        exact q
  · exact Paired.snoc al' ⟨rfl, hv'⟩
theorem TabA.length (T : TabA kf RV P w H d t) : ∃ kvs, DA P w H d kvs ∧ kvs.length = t.length := by
  obtain ⟨kvs, D, al⟩ := T.ex
  exact ⟨kvs, D, Paired.length al⟩
end
/-- the two sorts of keys -/
def eV (e : Nat × Nat × Bool) : List V := [.int e.1, .int e.2.1, .bl e.2.2]
theorem b_inj {a b : Bool} (h : (if a = true then (1 : Int) else 0) = if b = true then 1 else 0) : a = b := by cases a <;> cases b <;> first | rfl | exact absurd h (by decide)
theorem key_sk : KeyF skV := ⟨fun k => rfl, fun k j h => by
  simp only [skV, List.map_cons, List.map_nil, lfV, List.cons.injEq, Leaf.num.injEq] at h
  exact Prod.ext (by omega) (b_inj h.2.1)⟩
theorem key_e : KeyF eV := ⟨fun k => rfl, fun k j h => by
  simp only [eV, List.map_cons, List.map_nil, lfV, List.cons.injEq, Leaf.num.injEq] at h
  exact Prod.ext (by omega) (Prod.ext (by show k.2.1 = j.2.1; omega) (b_inj h.2.2.1))⟩
section
variable {κ β : Type} [DecidableEq κ] {kf : κ → List V} {RV : β → V → Hp → Prop} {P : Program} {w : World} {K : PySem.W.Frag} {H H' : Hp} {d : Addr} {t : List (κ × β)} {k : κ} {b : β} {σ : St} {td ty tv tx : TE} {D : Ends} {tz : TS}
/-- a key -/
def Rkey (kf : κ → List V) (k : κ) : V → Hp → Prop := fun v H => ∃ a, v = .ref a ∧ H a = some (.tup (kf k))
theorem stb_key : Stb (Rkey kf k) := fun v H H' e ⟨a, h, g⟩ => ⟨a, h, e _ _ g⟩
theorem er_gt (F : KeyF kf) (r : Rob tupK RV) (T : TabA kf RV P w H d t) (hd : Ev td σ H (.ref d)) (hy : EvR ty σ H (Rkey kf k)) (hb : look t k = some b) : EvR (tGt P w td ty) σ H (RV b) := fun H1 e1 Q q =>
  hd H1 e1 _ fun H2 e2 => hy H2 (e1.trans e2) _ fun y H3 e3 ry => by
    obtain ⟨a, rfl, ha⟩ := ry
    have T3 := T.exx r ((e1.trans e2).trans e3)
    obtain ⟨o, g, h1, _⟩ := T3.get F ha
    obtain ⟨v, rfl, rv⟩ := h1 b hb
    exact ⟨d, v, rfl, g, q v H3 (e2.trans e3) rv⟩
theorem et_in (F : KeyF kf) (r : Rob tupK RV) (T : TabA kf RV P w H d t) (hd : Ev td σ H (.ref d)) (hy : EvR ty σ H (Rkey kf k)) : Ev (tInE P w ty td) σ H (.bl (look t k).isSome) := fun H1 e1 Q q =>
  hy H1 e1 _ fun y H2 e2 ry => hd H2 (e1.trans e2) _ fun H3 e3 => by
    obtain ⟨a, rfl, ha⟩ := ry
    have T3 := T.exx r ((e1.trans e2).trans e3)
    obtain ⟨o, g, h1, h2⟩ := T3.get F (e3 _ _ ha)
    refine ⟨d, o, rfl, g, ?_⟩
    have : o.isSome = (look t k).isSome := by
      cases e : look t k with
      | none => rw [h2 e]; rfl
      | some b => obtain ⟨v, q, _⟩ := h1 b e; rw [q]; rfl
    rw [this]
    exact q H3 (e2.trans e3)
theorem et_notIn (F : KeyF kf) (r : Rob tupK RV) (T : TabA kf RV P w H d t) (hd : Ev td σ H (.ref d)) (hy : EvR ty σ H (Rkey kf k)) : Ev (tNotInE P w ty td) σ H (.bl (!(look t k).isSome)) := fun H1 e1 Q q =>
  hy H1 e1 _ fun y H2 e2 ry => hd H2 (e1.trans e2) _ fun H3 e3 => by
    obtain ⟨a, rfl, ha⟩ := ry
    have T3 := T.exx r ((e1.trans e2).trans e3)
    obtain ⟨o, g, h1, h2⟩ := T3.get F (e3 _ _ ha)
    refine ⟨d, o, rfl, g, ?_⟩
    have : o.isSome = (look t k).isSome := by
      cases e : look t k with
      | none => rw [h2 e]; rfl
      | some b => obtain ⟨v, q, _⟩ := h1 b e; rw [q]; rfl
    rw [this]
    exact q H3 (e2.trans e3)
theorem er_get2 (F : KeyF kf) (r : Rob tupK RV) (T : TabA kf RV P w H d t) (hd : Ev td σ H (.ref d)) (hy : EvR ty σ H (Rkey kf k)) (hx : EvR tx σ H (RV b)) : EvR (tGet2 P w td ty tx) σ H (RV ((look t k).getD b)) := fun H1 e1 Q q =>
  hd H1 e1 _ fun H2 e2 => by
    have T2 := T.exx r (e1.trans e2)
    obtain ⟨kvs, DD, _⟩ := T2.ex
    refine ⟨d, kvs, rfl, DD, hy H2 (e1.trans e2) _ fun y H3 e3 ry => hx H3 ((e1.trans e2).trans e3) _ fun z H4 e4 rz => ?_⟩
    obtain ⟨a, rfl, ha⟩ := ry
    have T4 := T.exx r (((e1.trans e2).trans e3).trans e4)
    obtain ⟨o, g, h1, h2⟩ := T4.get F (e4 _ _ ha)
    refine ⟨o, g, ?_⟩
    cases e : look t k with
    | none => rw [h2 e]; exact q _ H4 ((e2.trans e3).trans e4) (by rw [e]; exact rz)
    | some b' =>
      obtain ⟨v, qv, rv⟩ := h1 b' e
      rw [qv]
      exact q _ H4 ((e2.trans e3).trans e4) (by rw [e]; exact rv)
theorem s_putE (F : KeyF kf) (r : Rob tupK RV) (T : TabA kf RV P w H d t) (hd : Ev td σ H (.ref d)) (hy : EvR ty σ H (Rkey kf k)) (hv : EvR tv σ H (RV b)) (hz : t.length < 100000) (k' : ∀ H1, ExB d H H1 → TabA kf RV P w H1 d (put t k b) → D.nx σ H1) : sPutE P w td ty tv D σ H :=
  hv H (Ex.refl H) _ fun v H1 e1 rv => hd H1 e1 _ fun H2 e2 => hy H2 (e1.trans e2) _ fun y H3 e3 ry => by
    obtain ⟨a, rfl, ha⟩ := ry
    have T3 := T.exx r ((e1.trans e2).trans e3)
    obtain ⟨kvs, DD, al⟩ := T3.ex
    exact ⟨d, kvs, kf k, a, rfl, rfl, DD, ha, F.ok k, by rw [Paired.length al]; exact sz_lt hz, fun o => k' _ ((ExB.ex ((e1.trans e2).trans e3)).trans .upd) (T3.put F r DD al ha (r.ex (e2.trans e3) rv) o)⟩
theorem q_putE (F : KeyF kf) (r : Rob tupK RV) (T : TabA kf RV P w H d t) (hd : Ev td σ H (.ref d)) (hy : EvR ty σ H (Rkey kf k)) (hv : EvR tv σ H (RV b)) (hz : t.length < 100000) (k' : ∀ H1, ExB d H H1 → TabA kf RV P w H1 d (put t k b) → tz D σ H1) : tSeq (sPutE P w td ty tv) tz D σ H := s_putE (D := { D with nx := tz D }) F r T hd hy hv hz k'
/-- x = {} -/
theorem q_newE {i : Nat} (kk : ∀ p, H p = none → ∀ H1, Ex H H1 → H1 p ≠ none → TabA kf RV P w H1 p [] → tz D (σ.set i (some (.ref p))) H1) : tSeq (tAsg (tNewE P w) (gName i)) tz D σ H := fun p o hp => kk p hp _ (Ex.new hp) (by rw [upd_same]; simp) TabA.new
end
section
variable {K : PySem.W.Frag} {σ : St} {H H0 : Hp} {tl : TE} {D : Ends} {tz tu : TS}
/-- for x in l, what it does told by a fold -/
theorem s_forFold {γ β : Type} {A : γ → V → Hp → Prop} {es : List γ} {a : Addr} {ws : List V} {gt : TG} (f : β → γ → β) (b0 : β) (Pv : β → St → Hp → Prop) (rA : ∀ c, Stb (A c)) (ha : H0 a = some (.lst ws)) (al : All A H0 ws es) (hl : Ev tl σ H (.ref a))
    (hx : ∀ b σ' H', Pv b σ' H' → Ex H0 H') (h0 : ∀ H1, Ex H H1 → Pv b0 σ H1) (hd : ∀ σ' H', Pv (es.foldl f b0) σ' H' → D.nx σ' H')
    (hb : ∀ c x b σ' H' (D' : Ends), c ∈ es → A c x H' → Pv b σ' H' → (∀ σ3 H3, Pv (f b c) σ3 H3 → D'.nx σ3 H3) → gt x σ' H' fun σ2 H2 => tu D' σ2 H2) : tFor (iList K tl) gt tu D σ H := hl H (Ex.refl H) _ fun H1 e1 => by
  have p0 := h0 H1 e1
  refine ⟨a, rfl, ⟨ws, sq_of (hx _ _ _ p0 _ _ ha)⟩, for_list (xs := ws) (fun i σ' H' => Pv ((es.take i).foldl f b0) σ' H') (by simpa using p0) (fun i σ' H' _ q => sq_of (hx _ _ _ q _ _ ha)) (fun i x σ' H' hi q => ?_) (fun σ' H' q => ?_)⟩
  · obtain ⟨c, hc, rc⟩ := al.get hi
    refine hb c x _ σ' H' _ (List.mem_of_getElem? hc) (rA c _ _ _ (hx _ _ _ q) rc) q fun σ3 H3 i3 => ?_
    show Pv ((es.take (i + 1)).foldl f b0) σ3 H3
    rw [List.take_add_one, hc, List.foldl_append]
    exact i3
  · rw [al.length, List.take_length] at q
    exact hd σ' H' q
theorem q_forFold {γ β : Type} {A : γ → V → Hp → Prop} {es : List γ} {a : Addr} {ws : List V} {gt : TG} (f : β → γ → β) (b0 : β) (Pv : β → St → Hp → Prop) (rA : ∀ c, Stb (A c)) (ha : H0 a = some (.lst ws)) (al : All A H0 ws es) (hl : Ev tl σ H (.ref a))
    (hx : ∀ b σ' H', Pv b σ' H' → Ex H0 H') (h0 : ∀ H1, Ex H H1 → Pv b0 σ H1) (hd : ∀ σ' H', Pv (es.foldl f b0) σ' H' → tz D σ' H')
    (hb : ∀ c x b σ' H' (D' : Ends), c ∈ es → A c x H' → Pv b σ' H' → (∀ σ3 H3, Pv (f b c) σ3 H3 → D'.nx σ3 H3) → gt x σ' H' fun σ2 H2 => tu D' σ2 H2) : tSeq (tFor (iList K tl) gt tu) tz D σ H := s_forFold (D := { D with nx := tz D }) f b0 Pv rA ha al hl hx h0 hd hb
end

/-! ### promises that tell of what is new -/
def spN {α : Type} (args : α → List V) (pre : α → Hp → Prop) (post : α → Hp → V → Hp → Prop) : Sp := fun vs H Q _ => ∃ a, vs = args a ∧ pre a H ∧ ∀ v H', Ex H H' → post a H v H' → Q v H'
theorem er_callN {α : Type} {σ : St} {H : Hp} {ta : TA} {R : V → Hp → Prop} {S : List V → Hp → Prop} {args : α → List V} {pre : α → Hp → Prop} {post : α → Hp → V → Hp → Prop} (ha : EaR ta σ H S)
    (hs : ∀ vs H1, Ex H H1 → S vs H1 → ∃ a, vs = args a ∧ pre a H1 ∧ ∀ v H2, Ex H1 H2 → post a H1 v H2 → R v H2) : EvR (tCall (spN args pre post) [] E0 ta) σ H R := fun H1 e Q q =>
  ha H1 e _ fun vs H2 e2 s => by
    obtain ⟨a, h1, h2, h3⟩ := hs vs H2 (e.trans e2) s
    exact ⟨a, by rw [List.append_nil]; exact h1, h2, fun v H3 e3 p => q v H3 (e2.trans e3) (h3 v H3 e3 p)⟩
theorem er_lst1 {σ : St} {H : Hp} {te : TE} {R R' : V → Hp → Prop} (h : EvR te σ H R) (hs : ∀ v H2 p, Ex H H2 → R v H2 → H2 p = none → R' (.ref p) (upd H2 p (.lst [v]))) : EvR (tLst (tCons te tNil)) σ H R' := fun H1 e Q q =>
  h H1 e _ fun v H2 e2 r => ⟨sz_of (by decide : 1 ≤ 100000), fun p hp => q _ _ (e2.trans (Ex.new hp)) (hs v H2 p (e.trans e2) r hp)⟩
section
variable {κ β : Type} [DecidableEq κ]
theorem look_get : ∀ {t : List (κ × β)} {i : Nat} {k : κ} {v : β}, (t.map (·.1)).Nodup → t[i]? = some (k, v) → look t k = some v
  | [], i, k, v, _, h => by simp at h
  | p :: t, 0, k, v, _, h => by
    have e : p = (k, v) := by simpa using h
    subst e
    rw [SG.look_cons, if_pos rfl]
  | p :: t, i + 1, k, v, hn, h => by
    rw [List.map_cons, List.nodup_cons] at hn
    have h' : t[i]? = some (k, v) := by simpa using h
    have hk : k ∈ t.map (·.1) := List.mem_map.mpr ⟨(k, v), List.mem_of_getElem? h', rfl⟩
    have : ¬ p.1 = k := fun e => hn.1 (by rw [e]; exact hk)
    rw [SG.look_cons, if_neg this]
    exact look_get hn.2 h'
theorem put_len (t : List (κ × β)) (k : κ) (v : β) : (put t k v).length ≤ t.length + 1 := by
  unfold SG.put
  split
  · rw [List.length_map]; omega
  · rw [List.length_append]; exact Nat.le_refl _
end
section
variable {P : Program} {w : World} {d : Addr} {o : Obj} {kvs : KVs} {td : TE} {gt : TG} {tu tz : TS} {D : Ends} {σ : St} {H : Hp}
theorem s_forE (hd : Ev td σ H (.ref d)) (ho : H d = some (dE P w d o kvs)) (Pv : Nat → St → Hp → Prop) (h0 : ∀ H1, Ex H H1 → Pv 0 σ H1) (hl : ∀ i σ H, i ≤ kvs.length → Pv i σ H → H d = some (dE P w d o kvs))
    (hs : ∀ i k t v σ H, kvs[i]? = some (k, t, v) → Pv i σ H → gt (.ref t) σ H fun σ2 H2 => tu { D with nx := Pv (i + 1), ct := Pv (i + 1), bk := D.nx } σ2 H2) (hn : ∀ σ H, Pv kvs.length σ H → D.nx σ H) : tFor (iE P w td) gt tu D σ H :=
  hd H (Ex.refl H) _ fun H1 e1 => ⟨d, o, kvs, rfl, e1 _ _ ho, for_E Pv (h0 H1 e1) hl hs hn⟩
theorem q_forE (hd : Ev td σ H (.ref d)) (ho : H d = some (dE P w d o kvs)) (Pv : Nat → St → Hp → Prop) (h0 : ∀ H1, Ex H H1 → Pv 0 σ H1) (hl : ∀ i σ H, i ≤ kvs.length → Pv i σ H → H d = some (dE P w d o kvs))
    (hs : ∀ i k t v σ H, kvs[i]? = some (k, t, v) → Pv i σ H → gt (.ref t) σ H fun σ2 H2 => tu { D with nx := Pv (i + 1), ct := Pv (i + 1), bk := tz D } σ2 H2) (hn : ∀ σ H, Pv kvs.length σ H → tz D σ H) : tSeq (tFor (iE P w td) gt tu) tz D σ H := s_forE (D := { D with nx := tz D }) hd ho Pv h0 hl hs hn
end
end L2.SD

/-! W7: t[::-1] of a tuple of two -/
set_option Elab.async false
set_option linter.all false
set_option maxRecDepth 100000
set_option maxHeartbeats 3000000
namespace L2.SD
open PySem Spec PyProof.Rows HT
/-- a slice without bounds that goes backwards lies at c -/
def Backw (s : Shared) (c : Addr) : Prop := ∃ l u d, s.heap.IsSliceOf c l u d ∧ IsPart l none ∧ IsPart u none ∧ IsPart d (some (-1))
section
variable {prog : Program} {w : World} {A : Around} {E : Value → Shared → Prop} {s : Shared} {c : Addr}
/-- of two items it takes two, from place 1 down -/
theorem backw_two {R : Int × Int × Nat → Shared → Prop} (hc : Backw s c) (q : R (1, -1, 2) s) : wpAny (model prog w) A (Builtin.Slice.sliceApplied (.ref c) (pure (2 : Int))) R E s := by
  obtain ⟨l, u, d, ⟨ob, got, _, flds⟩, hl, hu, hd⟩ := hc
  have three : ∀ {T : Value × Value × Value → Shared → Prop}, T (l, u, d) s → wpAny (model prog w) A (Builtin.Slice.sliceFields (.ref c)) T E s := fun t =>
    wpAny_bind (wpAny_field got flds rfl (wpAny_bind (wpAny_field got flds rfl (wpAny_bind (wpAny_field got flds rfl (wpAny_pure t))))))
  refine wpAny_bind (three (wpAny_bind (slicePart_ hd ?_)))
  show wpAny _ _ (ite (((-1 : Int) == 0) = true) _ _) _ _ s
  rw [if_neg (by decide)]
  exact wpAny_bind (slicePart_ hl (wpAny_bind (slicePart_ hu (wpAny_bind (wpAny_pure (wpAny_pure q))))))
/-- what stands behind t[c]: the type's own reading, then what the cut takes -/
theorem two_back {t : Addr} {x y : Value} {R : Value → Shared → Prop} (ht : IsTup s.heap t #[x, y]) (hc : Backw s c) (q : R (.ref s.heap.objs.size) { s with heap := s.heap.push { cls := .type "tuple", data := .seq #[y, x] } }) :
    wpAny (model prog w) A (getItem (.ref t) (.ref c)) R E s := by
  have small : sizeOk (.seq #[y, x]) := show 2 ≤ sizeLine by decide
  have isSl : s.TypeIs (.ref c) "slice" := by
    obtain ⟨l, u, d, ⟨ob, got, k, _⟩, _⟩ := hc
    exact ⟨ob, got, k⟩
  unfold getItem
  refine wpAny_holding (wpAny_bind (wpAny_sequenceKey ht.typeIs rfl (wpAny_bind (wpAny_callSpecial?_slot ht.typeIs PyProof.Rows.slot_tuple_getitem (wpAny_call_entry PyProof.Rows.slot_tuple_getitem ht.typeIs entry_tuple_getitem ?_ (args_tuple_getitem _ _))))))
  refine wpAny_bind (m := Builtin.Tuple.tupleItemsOf (.ref t)) (tupleItemsOf_ ht (wpAny_bind (wpAny_typeOf isSl ?_)))
  rw [if_pos (by decide)]
  refine wpAny_bind (backw_two hc ?_)
  show wpAny _ _ (ite (((1 : Int) == 0 && (-1 : Int) == 1 && (2 : Nat) == 2) = true) _ _) _ _ s
  rw [if_neg (by decide), show ((List.range 2).filterMap fun (m : Nat) => (#[x, y] : Array Value)[((1 : Int) + (m : Int) * (-1)).toNat]?).toArray = #[y, x] from rfl]
  exact wpAny_bind (m := Builtin.Tuple.tupleExact #[y, x]) (wpAny_newObj_type (wpAny_pure ⟨_, rfl, wpAny_pure q⟩) small)
end
def tRevT (K : PySem.W.Frag) (te : TE) : TE := fun σ H Q => te σ H fun x H1 => ∃ a u v, x = .ref a ∧ SqT K H1 a [u, v] ∧ ∀ p, H1 p = none → Q (.ref p) (upd H1 p (.tup [v, u]))
section
variable {X : Cx} {pins : List (Addr × Obj)} {s : Shared} {σ : St} {H : Hp}
/-- a bound that is left out -/
theorem no_bound {R : Value → Shared → Prop} (I : Inv X pins σ H s) (q : ∀ u s', IsPart u none → Inv X pins σ H s' → R u s') : wpAny (model X.prog X.w) X.A (evalPart none X.env) R X.xe s :=
  thn (po_none.run pins s σ H (fun o G => o = none ∧ G = H) I ⟨rfl, rfl⟩) fun u s' ⟨o, G, J, part, eo, eG⟩ => by
    subst eo eG
    exact q u s' part J
/-- the step -1 -/
theorem back_step {k : Nat} {p1 p2 : Pos} {R : Value → Shared → Prop} (I : Inv X pins σ H s) (q : ∀ u s', IsPart u (some (-1)) → Inv X pins σ H s' → R u s') :
    wpAny (model X.prog X.w) X.A (evalPart (some (.UnaryOp .USub (.Constant (.int 1) k p1) p2)) X.env) R X.xe s :=
  thn ((po_some (pe_un un_neg pe_int)).run pins s σ H (fun o G => o = some (-1) ∧ G = H) I ⟨1, rfl, -1, rfl, rfl, rfl⟩) fun u s' ⟨o, G, J, part, eo, eG⟩ => by
    subst eo eG
    exact q u s' part J
/-- the slice of [::-1]: a new object that tells nothing of what we track -/
theorem back_slice {k : Nat} {p1 p2 p3 : Pos} {R : Value → Shared → Prop} (I : Inv X pins σ H s) (q : ∀ c s', Inv X pins σ H s' → Backw s' c → R (.ref c) s') :
    wpAny (model X.prog X.w) X.A (eval (.Slice none none (some (.UnaryOp .USub (.Constant (.int 1) k p1) p2)) p3) X.env) R X.xe s :=
  wpAny_Slice (no_bound I fun vl s2 pl J2 => no_bound J2 fun vu s3 pu J3 => back_step J3 fun vd s4 pd J4 =>
    q _ _ (J4.kept (t' := s4.toks) fun _ _ was => Heap.get?_push_of_some _ was) ⟨vl, vu, vd, Heap.IsSliceOf.new _ vl vu vd, pl, pu, pd⟩)
theorem pe_revT {e : Expr} {te : TE} {k : Nat} {p1 p2 p3 pos : Pos} (he : PE X e te) : PE X (.Subscript e (.Slice none none (some (.UnaryOp .USub (.Constant (.int 1) k p1) p2)) p3) pos) (tRevT X.K te) where
  run pins s σ H Q I told := Subscript_ (thn (he.run pins s σ H _ I told) fun v s1 ⟨x, H1, J1, rx, a, fst, snd, ex, two, q⟩ => back_slice J1 fun c s2 J2 bw => by
    subst ex
    cases rx
    obtain ⟨its, rs, ht, _⟩ := J2.tuple two
    obtain ⟨y, z, rfl, ry, rz⟩ := rs.two
    refine tail_any (ops := [.ref a, .ref c]) ht.typeIs PyProof.Rows.slot_tuple_getitem.lookup (two_back ht bw ?_) (by with_unfolding_all rfl)
    have new := J2.hok.fresh (Nat.le_refl s2.heap.objs.size)
    exact ⟨.ref s2.heap.objs.size, _, J2.laid (t' := s2.toks) (o := .tup [snd, fst]) (fun _ _ was => Heap.get?_push_of_some _ was) (Nat.le_refl _) ⟨show 2 ≤ sizeLine by decide, [z, y], .cons rz (.cons ry .nil), IsTup.new _ _⟩, rfl, q _ new⟩)
end
end L2.SD

/-! B1: facts.py -/
set_option Elab.async false
set_option linter.all false
set_option maxRecDepth 100000
set_option maxHeartbeats 2000000
namespace L2.SD
open PySem PySem.Spec PyProof.Rows Evl
open Stratigraphy (Fact lowerYearBound upperYearBound stepsOf)
open SG (SK Tab look put)

def hasB (f : Fact) : Bool := (lowerYearBound f).isSome
def isDate (f : Fact) : Bool := (upperYearBound f).isSome
theorem lower_some {f : Fact} {x : Nat × Int} (h : lowerYearBound f = some x) : x = (x.1, f2 f) ∧ f1 f = x.1 := by cases f <;> simp [lowerYearBound] at h <;> subst h <;> exact ⟨rfl, rfl⟩
theorem upper_some {f : Fact} {x : Nat × Int} (h : upperYearBound f = some x) : x = (x.1, f3 f) ∧ f1 f = x.1 := by cases f <;> simp [upperYearBound] at h <;> subst h <;> exact ⟨rfl, rfl⟩
section
variable {K : PySem.W.Frag} {mg : Str → Option Value} {CF CO CS aA aU : Addr} {σ : St} {H : Hp} {to : TE} {r : Addr} {id : Nat} {f : Fact} {b : Bool}
theorem FactAt.ex {C : Addr} {H H' : Hp} (e : Ex H H') (h : FactAt C H r id f b) : FactAt C H' r id f b := let ⟨dx, g⟩ := h; ⟨dx, e _ _ g⟩
theorem FactAt.kp {C : Addr} {H H' : Hp} (k : KP nlK H H') (h : FactAt C H r id f b) : FactAt C H' r id f b := let ⟨dx, g⟩ := h; ⟨dx, k _ _ g rfl⟩
theorem Txt.e_id (T : Txt K mg CF CO CS aA aU) (ho : Ev to σ H (.ref r)) (h : FactAt CF H r id f b) : Ev (tFld K to "own_id") σ H (.int id) := fun H1 e Q q => ho H1 e _ fun H2 e2 => by
  obtain ⟨dx, g⟩ := h
  exact ⟨r, CF, dx, _, _, rfl, e2 _ _ (e _ _ g), T.cF, T.nFi, fac_id id f b, q H2 e2⟩
theorem Txt.e_kind (T : Txt K mg CF CO CS aA aU) (ho : Ev to σ H (.ref r)) (h : FactAt CF H r id f b) : Ev (tFld K to "kind") σ H (.int (fK f)) := fun H1 e Q q => ho H1 e _ fun H2 e2 => by
  obtain ⟨dx, g⟩ := h
  exact ⟨r, CF, dx, _, _, rfl, e2 _ _ (e _ _ g), T.cF, T.nFk, fac_kind id f b, q H2 e2⟩
theorem Txt.e_1 (T : Txt K mg CF CO CS aA aU) (ho : Ev to σ H (.ref r)) (h : FactAt CF H r id f b) : Ev (tFld K to "first") σ H (.int (f1 f)) := fun H1 e Q q => ho H1 e _ fun H2 e2 => by
  obtain ⟨dx, g⟩ := h
  exact ⟨r, CF, dx, _, _, rfl, e2 _ _ (e _ _ g), T.cF, T.nF1, fac_1 id f b, q H2 e2⟩
theorem Txt.e_2 (T : Txt K mg CF CO CS aA aU) (ho : Ev to σ H (.ref r)) (h : FactAt CF H r id f b) : Ev (tFld K to "second") σ H (.int (f2 f)) := fun H1 e Q q => ho H1 e _ fun H2 e2 => by
  obtain ⟨dx, g⟩ := h
  exact ⟨r, CF, dx, _, _, rfl, e2 _ _ (e _ _ g), T.cF, T.nF2, fac_2 id f b, q H2 e2⟩
theorem Txt.e_3 (T : Txt K mg CF CO CS aA aU) (ho : Ev to σ H (.ref r)) (h : FactAt CF H r id f b) : Ev (tFld K to "third") σ H (.int (f3 f)) := fun H1 e Q q => ho H1 e _ fun H2 e2 => by
  obtain ⟨dx, g⟩ := h
  exact ⟨r, CF, dx, _, _, rfl, e2 _ _ (e _ _ g), T.cF, T.nF3, fac_3 id f b, q H2 e2⟩
theorem Txt.e_act (T : Txt K mg CF CO CS aA aU) (ho : Ev to σ H (.ref r)) (h : FactAt CF H r id f b) : Ev (tFld K to "is_active") σ H (.bl b) := fun H1 e Q q => ho H1 e _ fun H2 e2 => by
  obtain ⟨dx, g⟩ := h
  exact ⟨r, CF, dx, _, _, rfl, e2 _ _ (e _ _ g), T.cF, T.nFa, fac_act id f b, q H2 e2⟩
end
/-- a call whose answer is known -/
theorem ev_call {α : Type} {σ : St} {H : Hp} {ta : TA} {args : α → List V} {pre : α → Hp → Prop} {post : α → V → Hp → Prop} {z : V} (a : α) (ha : EvA ta σ H (args a)) (hp : ∀ H1, Ex H H1 → pre a H1) (hq : ∀ v H1, Ex H H1 → post a v H1 → v = z) : Ev (tCall (spP args pre post) [] E0 ta) σ H z := fun H1 e Q q =>
  ha H1 e _ fun H2 e2 => ⟨a, List.append_nil _, hp H2 (e.trans e2), fun v H3 e3 p => by
    rw [hq v H3 ((e.trans e2).trans e3) p]
    exact q H3 (e2.trans e3)⟩

theorem t_eqI {σ : St} {H : Hp} {t1 t2 : TE} {i j : Int} (h1 : Ev t1 σ H (.int i)) (h2 : Ev t2 σ H (.int j)) : EvT (tTest (tOp rEq t1 t2)) σ H (decide (i = j)) := et_is (et_test (ev_op h1 h2 (rv_eq rfl))) (by
  by_cases h : i = j
  · subst h; simp
  · simp [h])
theorem t_neI {σ : St} {H : Hp} {t1 t2 : TE} {i j : Int} (h1 : Ev t1 σ H (.int i)) (h2 : Ev t2 σ H (.int j)) : EvT (tTest (tOp rNe t1 t2)) σ H (!decide (i = j)) := et_is (et_test (ev_op h1 h2 (rv_ne rfl))) (by
  by_cases h : i = j
  · subst h; simp
  · simp [h])
theorem t_I0 {σ : St} {H : Hp} {t1 t2 : TE} {i j : Int} {g : Int → Int → Bool} (h1 : Ev t1 σ H (.int i)) (h2 : Ev t2 σ H (.int j)) : EvT (tTest (tOp (rI0 fun i j => .bl (g i j)) t1 t2)) σ H (g i j) := et_test (ev_op h1 h2 rv_I0)
/-! ### has_begin -/
def spHas (CF : Addr) : Sp := spP (α := Addr × Nat × Fact × Bool) (fun a => [.ref a.1]) (fun a H => FactAt CF H a.1 a.2.1 a.2.2.1 a.2.2.2) (fun a v _ => v = .bl (hasB a.2.2.1))
abbrev s_has_begin : Stmt := topS 8
theorem sc_has_begin : FnScope ["fact"] ["fact"] (defScope s_has_begin) := ⟨rfl, rfl, rfl, by decide +kernel, rfl, by decide +kernel, by decide +kernel⟩
section
variable {P : Program} {w : World} {K : PySem.W.Frag} {mg : Str → Option Value} {base : Heap} {CF CO CS aA aU f : Addr} {fd : FuncData}
theorem ok_has_begin (F : Fun K "has_begin" "has_begin" s_has_begin f fd) (T : Txt K mg CF CO CS aA aU) : FnOk P w K mg base CX0 1 f fd ["fact"] (spHas CF) := by
  refine F.ok sc_has_begin (fun vs H Q E h => ?_) (fun cdv A outer s H vs Q E hr h => ?_)
  · obtain ⟨a, rfl, _⟩ := h
    rfl
  · obtain ⟨⟨r, i, fc, b⟩, rfl, hp, k⟩ := h
    refine ⟨_, (pss_one (ps_ret (pe_cmpR op_in_seq (pe_fld (pv 0) rfl) (pe_tup (pa_cons (pe_gint T.g_FIND rfl) (pa_cons (pe_gint T.g_DATE rfl) pa_nil))) rfl))), ?_⟩
    refine s_retR (er_is (ev_inU (xs := [.int 4, .int 5]) (T.e_kind (ev_var rfl) hp) (eu_tup (ea_cons ev_c (ea_cons ev_c ea_nil)) (by decide)) rfl rfl)) fun v H1 e q => k v H1 e ?_
    rw [show v = _ from q]
    cases fc <;> rfl
end

/-! ### steps -/
theorem er_ids1 {σ : St} {H : Hp} {t1 : TE} {i : Nat} (h1 : Ev t1 σ H (.int i)) : EvR (tTup (tCons t1 tNil)) σ H (Rids [i]) := er_U (eu_tup (ea_cons h1 ea_nil) (by decide : 1 ≤ 100000))
theorem er_ids2 {σ : St} {H : Hp} {t1 t2 : TE} {i j : Nat} (h1 : Ev t1 σ H (.int i)) (h2 : Ev t2 σ H (.int j)) : EvR (tTup (tCons t1 (tCons t2 tNil))) σ H (Rids [i, j]) := er_U (eu_tup (ea_cons h1 (ea_cons h2 ea_nil)) (by decide : 2 ≤ 100000))
theorem er_step {σ : St} {H : Hp} {t1 t2 t3 t4 : TE} {st : Stratigraphy.Step} (h1 : Ev t1 σ H (.int st.source)) (h2 : Ev t2 σ H (.int st.target)) (h3 : EvR t3 σ H (Rids st.facts)) (h4 : Ev t4 σ H (.bl st.strict)) : EvR (tTup (tCons t1 (tCons t2 (tCons t3 (tCons t4 tNil))))) σ H (Rstep st) := fun H0 e0 Q q =>
  h1 H0 e0 _ fun H1 e1 => h2 H1 (e0.trans e1) _ fun H2 e2 => h3 H2 ((e0.trans e1).trans e2) _ fun v H3 e3 r => h4 H3 (((e0.trans e1).trans e2).trans e3) _ fun H4 e4 => by
    obtain ⟨i, rfl, hi⟩ := r
    exact ⟨sz_of (by decide : 4 ≤ 100000), fun p hp => q _ _ ((((e1.trans e2).trans e3).trans e4).trans (Ex.new hp)) ⟨p, i, rfl, upd_same, (Ex.new hp) _ _ (e4 _ _ hi)⟩⟩
/-- a promise about facts that stand -/
abbrev Facts (CF : Addr) (es : List (Nat × Fact)) : V → Hp → Prop := fun v H => LR (Rfact CF) es v H ∧ es.length ≤ 40
def spFS (CF : Addr) (g : List (Nat × Fact) → List Stratigraphy.Step) : Sp := spP (α := V × List (Nat × Fact)) (fun a => [a.1]) (fun a H => Facts CF a.2 a.1 H) (fun a v H => LR Rstep (g a.2) v H)
def dateOf (es : List (Nat × Fact)) (e : Nat × Fact) : List Stratigraphy.Step := match upperYearBound e.2 with
  | some high => es.filterMap fun (lower : Nat × Fact) => (lowerYearBound lower.2).bind fun (low : Nat × Int) => if high.2 < low.2 then some ⟨high.1, low.1, true, [e.1, lower.1]⟩ else none
  | none => []
theorem sgl_len (e : Nat × Fact) : (SG.sglOf e).length ≤ 2 := by
  unfold SG.sglOf
  split <;> simp
abbrev s_single_steps : Stmt := topS 10
theorem sc_single_steps : FnScope ["facts", "found", "fact"] ["facts"] (defScope s_single_steps) := ⟨rfl, rfl, rfl, by decide +kernel, rfl, by decide +kernel, by decide +kernel⟩
abbrev s_date_steps : Stmt := topS 9
theorem sc_date_steps : FnScope ["facts", "found", "date", "other"] ["facts"] (defScope s_date_steps) := ⟨rfl, rfl, rfl, by decide +kernel, rfl, by decide +kernel, by decide +kernel⟩
abbrev s_steps_of : Stmt := topS 11
theorem sc_steps_of : FnScope ["facts"] ["facts"] (defScope s_steps_of) := ⟨rfl, rfl, rfl, by decide +kernel, rfl, by decide +kernel, by decide +kernel⟩
section
variable {P : Program} {w : World} {K : PySem.W.Frag} {mg : Str → Option Value} {base : Heap} {CF CO CS aA aU f : Addr} {fd : FuncData}
theorem ok_single_steps (F : Fun K "single_steps" "single_steps" s_single_steps f fd) (T : Txt K mg CF CO CS aA aU) : FnOk P w K mg base CX0 1 f fd ["facts"] (spFS CF fun es => es.flatMap SG.sglOf) := by
  refine F.ok sc_single_steps (fun vs H Q E h => ?_) (fun cdv A outer s H vs Q E hr h => ?_)
  · obtain ⟨a, rfl, _⟩ := h
    rfl
  · obtain ⟨⟨v, es⟩, rfl, ⟨hl, hz⟩, k⟩ := h
    refine ⟨_, (pss_cons (ps_set (i := 1) sc_single_steps.nd rfl (.inl rfl) (pe_lst pa_nil))
      (pss_cons (ps_for PassesOwn.never rfl (pi_list (pv 0)) (pg_name (i := 2) sc_single_steps.nd rfl (.inl rfl)) (pss_cons (ps_if (pt_cmpR op_eq (pe_fld (pv 2) rfl) (pe_gint T.g_ABOVE rfl) (nomark _)) (pss_one (ps_expr (pe_bm PySem.F.plainAttrs_list PySem.F.slot_list_append PySem.F.type_list_append mt_append (pv 1) (pa_cons (pe_tup (pa_cons (pe_fld (pv 2) rfl) (pa_cons (pe_fld (pv 2) rfl) (pa_cons (pe_tup (pa_cons (pe_fld (pv 2) rfl) pa_nil)) (pa_cons pe_bl pa_nil))))) pa_nil)))) pss_nil)
      (pss_one (ps_if (pt_cmpR op_eq (pe_fld (pv 2) rfl) (pe_gint T.g_SAME rfl) (nomark _)) (pss_cons (ps_expr (pe_bm PySem.F.plainAttrs_list PySem.F.slot_list_append PySem.F.type_list_append mt_append (pv 1) (pa_cons (pe_tup (pa_cons (pe_fld (pv 2) rfl) (pa_cons (pe_fld (pv 2) rfl) (pa_cons (pe_tup (pa_cons (pe_fld (pv 2) rfl) pa_nil)) (pa_cons pe_bl pa_nil))))) pa_nil)))
      (pss_one (ps_expr (pe_bm PySem.F.plainAttrs_list PySem.F.slot_list_append PySem.F.type_list_append mt_append (pv 1) (pa_cons (pe_tup (pa_cons (pe_fld (pv 2) rfl) (pa_cons (pe_fld (pv 2) rfl) (pa_cons (pe_tup (pa_cons (pe_fld (pv 2) rfl) pa_nil)) (pa_cons pe_bl pa_nil))))) pa_nil))))) pss_nil))))
      (pss_one (ps_ret (pv 1))))), ?_⟩
    obtain ⟨a, ws, rfl, ha, al⟩ := hl
    refine q_new fun p hp => ?_
    have ap : (V.ref a) ≠ .ref p := fun z => by
      cases z
      rw [ha] at hp
      cases hp
    have e0 : Ex H (upd H p (.lst [])) := Ex.new hp
    refine q_forAcc (es := es) (bs := []) (p := p) 2 SG.sglOf (fun σ => ∃ v, σ = [some (.ref a), some (.ref p), v]) (rob_fact CF) rob_step.weak (er_var rfl fun H' e => ⟨⟨a, ws, rfl, (e0.trans e) _ _ ha, al.ex (rob_fact CF) (e0.trans e)⟩, ap⟩) ⟨none, rfl⟩ ⟨[], upd_same, .nil⟩ (fun c _ => sgl_len c) (fun σ' H' i1 b1 l1 => ?_) (fun i c x acc σ' H' D' hc i1 b1 rc l1 hz1 k1 => ?_)
    · obtain ⟨v, rfl⟩ := i1
      exact s_retR (er_is (ev_var rfl)) fun v H1 e q => by
        rw [show v = _ from q]
        exact k _ H1 ((ExB.ex0 e0 hp b1).trans e) (l1.ex rob_step.weak e).lr
    · obtain ⟨v, rfl⟩ := i1
      obtain ⟨r, rfl, rh⟩ := rc
      have hi : i < es.length := (List.getElem?_eq_some_iff.mp hc).1
      have hz : es.length ≤ 40 := hz
      have hz1 : acc.length ≤ 0 + i * 2 := hz1
      have hf1 : Ev (tFld K (tVar 2) "first") [some (V.ref a), some (.ref p), some (.ref r)] H' (.int (f1 c.2)) := T.e_1 (ev_var rfl) rh
      have hf2 : Ev (tFld K (tVar 2) "second") [some (V.ref a), some (.ref p), some (.ref r)] H' (.int (f2 c.2)) := T.e_2 (ev_var rfl) rh
      have hfi : Ev (tFld K (tVar 2) "own_id") [some (V.ref a), some (.ref p), some (.ref r)] H' (.int c.1) := T.e_id (ev_var rfl) rh
      have hk : ∀ n : Int, EvT (tTest (tOp rEq (tFld K (tVar 2) "kind") (tC (.int n)))) [some (V.ref a), some (.ref p), some (.ref r)] H' (decide (fK c.2 = n)) := fun n => t_eqI (T.e_kind (ev_var rfl) rh) ev_c
      obtain ⟨i, fc⟩ := c
      cases fc with
      | above u l =>
        refine q_when (hk 2) (fun _ H1 e1 => ?_) (fun z => nomatch z)
        refine s_appB rob_step.weak (l1.ex rob_step.weak e1) (ev_var rfl) (er_step (st := ⟨l, u, true, [i]⟩) (hf2.mono e1) (hf1.mono e1) (er_ids1 (hfi.mono e1)) ev_c) (by omega) fun H2 b2 l2 => ?_
        dsimp only
        refine s_when (b := false) ?_ (fun z => nomatch z) fun _ H3 e3 => ?_
        · exact t_eqI (i := 2) (j := 3) (T.e_kind (ev_var rfl) (rh.kp (kp_weak (fun _ z => z) ((l1.ex rob_step.weak e1).kp b2) |> (KP.ex e1).trans))) ev_c
        · exact k1 _ H3 ⟨_, rfl⟩ (((ExB.ex e1).trans b2).trans (.ex e3)) (l2.ex rob_step.weak e3)
      | same u l =>
        refine q_when (hk 2) (fun z => nomatch z) (fun _ H1 e1 => ?_)
        refine s_when ((hk 3).mono e1) (fun _ H2 e2 => ?_) (fun z => nomatch z)
        have e12 := e1.trans e2
        refine q_appB rob_step.weak (l1.ex rob_step.weak e12) (ev_var rfl) (er_step (st := ⟨u, l, false, [i]⟩) (hf1.mono e12) (hf2.mono e12) (er_ids1 (hfi.mono e12)) ev_c) (by omega) fun H3 b3 l3 => ?_
        have rh3 := rh.kp ((KP.ex e12).trans ((l1.ex rob_step.weak e12).kp b3))
        refine s_appB rob_step.weak l3 (ev_var rfl) (er_step (st := ⟨l, u, false, [i]⟩) (T.e_2 (ev_var rfl) rh3) (T.e_1 (ev_var rfl) rh3) (er_ids1 (T.e_id (ev_var rfl) rh3)) ev_c) (by simp; omega) fun H4 b4 l4 => ?_
        refine k1 _ H4 ⟨_, rfl⟩ (((ExB.ex e12).trans b3).trans b4) ?_
        rw [List.append_assoc] at l4
        exact l4
      | find u s t =>
        refine q_when (hk 2) (fun z => nomatch z) (fun _ H1 e1 => ?_)
        refine s_when ((hk 3).mono e1) (fun z => nomatch z) (fun _ H2 e2 => ?_)
        refine k1 _ H2 ⟨_, rfl⟩ (ExB.ex (e1.trans e2)) ?_
        have := l1.ex rob_step.weak (e1.trans e2)
        simpa [SG.sglOf] using this
      | date u s t =>
        refine q_when (hk 2) (fun z => nomatch z) (fun _ H1 e1 => ?_)
        refine s_when ((hk 3).mono e1) (fun z => nomatch z) (fun _ H2 e2 => ?_)
        refine k1 _ H2 ⟨_, rfl⟩ (ExB.ex (e1.trans e2)) ?_
        have := l1.ex rob_step.weak (e1.trans e2)
        simpa [SG.sglOf] using this
theorem lower_iff (f : Fact) : (lowerYearBound f).isSome = (decide (fK f = 4) || decide (fK f = 5)) := by cases f <;> rfl
theorem ok_date_steps (F : Fun K "date_steps" "date_steps" s_date_steps f fd) (T : Txt K mg CF CO CS aA aU) (o_has_begin : Own P w K mg base "has_begin" 1 ["fact"] (spHas CF)) : FnOk P w K mg base CX0 2 f fd ["facts"] (spFS CF fun es => es.flatMap (dateOf es)) := by
  refine F.ok sc_date_steps (fun vs H Q E h => ?_) (fun cdv A outer s H vs Q E hr h => ?_)
  · obtain ⟨a, rfl, _⟩ := h
    rfl
  · obtain ⟨⟨v, es⟩, rfl, ⟨hl, hz⟩, k⟩ := h
    refine ⟨_, (pss_cons (ps_set (i := 1) sc_date_steps.nd rfl (.inl rfl) (pe_lst pa_nil))
      (pss_cons (ps_for PassesOwn.never rfl (pi_list (pv 0)) (pg_name (i := 2) sc_date_steps.nd rfl (.inl rfl)) (pss_one (ps_if (pt_cmpR op_eq (pe_fld (pv 2) rfl) (pe_gint T.g_DATE rfl) (nomark _)) (pss_one (ps_for PassesOwn.never rfl (pi_list (pv 0)) (pg_name (i := 3) sc_date_steps.nd rfl (.inl rfl)) (pss_one (ps_if (PW.pt (pw_and (pt_val (pe_own o_has_begin (hr.mono (by decide)) rfl (pa_cons (pv 3) pa_nil))) (pw_and1 (pt_cmpR op_lt (pe_fld (pv 2) rfl) (pe_fld (pv 3) rfl) (nomark _))))) (pss_one (ps_expr (pe_bm PySem.F.plainAttrs_list PySem.F.slot_list_append PySem.F.type_list_append mt_append (pv 1) (pa_cons (pe_tup (pa_cons (pe_fld (pv 2) rfl) (pa_cons (pe_fld (pv 3) rfl) (pa_cons (pe_tup (pa_cons (pe_fld (pv 2) rfl) (pa_cons (pe_fld (pv 3) rfl) pa_nil))) (pa_cons pe_bl pa_nil))))) pa_nil)))) pss_nil)))) pss_nil)))
      (pss_one (ps_ret (pv 1))))), ?_⟩
    obtain ⟨a, ws, rfl, ha, al⟩ := hl
    have hz : es.length ≤ 40 := hz
    refine q_new fun p hp => ?_
    have ap : (V.ref a) ≠ .ref p := fun z => by
      cases z
      rw [ha] at hp
      cases hp
    have e0 : Ex H (upd H p (.lst [])) := Ex.new hp
    have hLen : ∀ c, (dateOf es c).length ≤ 40 := fun c => by
      unfold dateOf
      split
      · exact Nat.le_trans (List.length_filterMap_le _ _) hz
      · exact Nat.zero_le _
    refine q_forAcc (es := es) (bs := []) (p := p) 40 (dateOf es) (fun σ => ∃ v u, σ = [some (.ref a), some (.ref p), v, u]) (rob_fact CF) rob_step.weak (er_var rfl fun H' e => ⟨⟨a, ws, rfl, (e0.trans e) _ _ ha, al.ex (rob_fact CF) (e0.trans e)⟩, ap⟩) ⟨none, none, rfl⟩ ⟨[], upd_same, .nil⟩ (fun c _ => hLen c) (fun σ' H' i1 b1 l1 => ?_) (fun i c x acc σ' H' D' hc i1 b1 rc l1 hz1 k1 => ?_)
    · obtain ⟨v, u, rfl⟩ := i1
      exact s_retR (er_is (ev_var rfl)) fun v H1 e q => by
        rw [show v = _ from q]
        exact k _ H1 ((ExB.ex0 e0 hp b1).trans e) (l1.ex rob_step.weak e).lr
    · obtain ⟨v, u, rfl⟩ := i1
      obtain ⟨r, rfl, rh⟩ := rc
      have hi : i < es.length := (List.getElem?_eq_some_iff.mp hc).1
      have hz1 : acc.length ≤ 0 + i * 40 := hz1
      have eH : Ex H H' := ExB.ex0 e0 hp b1
      refine s_when (t_eqI (j := 5) (T.e_kind (ev_var rfl) rh) ev_c) (fun hd H1 e1 => ?_) (fun hd H1 e1 => ?_)
      · have hd := of_decide_eq_true hd
        obtain ⟨ic, fc⟩ := c
        cases fc with
        | date uu ss tt =>
          refine s_forAcc (es := es) (bs := acc) (p := p) 1 (fun lower : Nat × Fact => ((lowerYearBound lower.2).bind fun (low : Nat × Int) => if tt < low.2 then some (⟨uu, low.1, true, [ic, lower.1]⟩ : Stratigraphy.Step) else none).toList) (fun σ => ∃ u, σ = [some (.ref a), some (.ref p), some (.ref r), u]) (rob_fact CF) rob_step.weak (er_var rfl fun H' e => ⟨⟨a, ws, rfl, (eH.trans (e1.trans e)) _ _ ha, al.ex (rob_fact CF) (eH.trans (e1.trans e))⟩, ap⟩) ⟨_, rfl⟩ (l1.ex rob_step.weak e1) (fun c _ => ?_) (fun σ2 H2 i2 b2 l2 => ?_) (fun j c2 x2 acc2 σ2 H2 D2 hc2 i2 b2 rc2 l2 hz2 k2 => ?_)
          · cases (lowerYearBound c.2).bind fun (low : Nat × Int) => if tt < low.2 then some (⟨uu, low.1, true, [ic, c.1]⟩ : Stratigraphy.Step) else none <;> simp
          · obtain ⟨u, rfl⟩ := i2
            refine k1 _ H2 ⟨_, _, rfl⟩ ((ExB.ex e1).trans b2) ?_
            rw [flatMap_toList] at l2
            exact l2
          · obtain ⟨u, rfl⟩ := i2
            obtain ⟨r2, rfl, rh2⟩ := rc2
            have hj : j < es.length := (List.getElem?_eq_some_iff.mp hc2).1
            have rh' := rh.kp ((KP.ex e1).trans ((l1.ex rob_step.weak e1).kp b2))
            obtain ⟨i2, fc2⟩ := c2
            refine s_when (et_and (a := hasB fc2) (b := decide (tt < f2 fc2)) (et_test (ev_call (r2, i2, fc2, true) (ea_cons (ev_var rfl) ea_nil) (fun H1 e => rh2.ex e) fun _ _ _ h => h)) fun _ => t_I0 (T.e_3 (ev_var rfl) rh') (T.e_2 (ev_var rfl) rh2)) (fun hb H3 e3 => ?_) (fun hb H3 e3 => ?_)
            · rw [Bool.and_eq_true] at hb
              have hb1 : (lowerYearBound fc2).isSome = true := hb.1
              obtain ⟨lo, hlo⟩ := Option.isSome_iff_exists.mp hb1
              obtain ⟨q1, q2⟩ := lower_some hlo
              have hb2 := of_decide_eq_true hb.2
              refine s_appB rob_step.weak (l2.ex rob_step.weak e3) (ev_var rfl) (er_step (st := ⟨uu, lo.1, true, [ic, i2]⟩) (T.e_1 (ev_var rfl) (rh'.ex e3)) (ev_is (T.e_1 (ev_var rfl) (rh2.ex e3)) (by rw [q2])) (er_ids2 (T.e_id (ev_var rfl) (rh'.ex e3)) (T.e_id (ev_var rfl) (rh2.ex e3))) ev_c) (by omega) fun H4 b4 l4 => ?_
              refine k2 _ H4 ⟨_, rfl⟩ ((ExB.ex e3).trans b4) ?_
              have : tt < lo.2 := by rw [q1]; exact hb2
              simp only [hlo, Option.bind_some, if_pos this, Option.toList_some]
              exact l4
            · refine k2 _ H3 ⟨_, rfl⟩ (ExB.ex e3) ?_
              have : ((lowerYearBound fc2).bind fun (low : Nat × Int) => if tt < low.2 then some (⟨uu, low.1, true, [ic, i2]⟩ : Stratigraphy.Step) else none) = none := by
                cases hlo : lowerYearBound fc2 with
                | none => rfl
                | some lo =>
                  have h1 : hasB fc2 = true := by unfold hasB; rw [hlo]; rfl
                  rw [h1, Bool.true_and] at hb
                  have hb := of_decide_eq_false hb
                  have : ¬ tt < lo.2 := by rw [(lower_some hlo).1]; exact hb
                  simp [this]
              simp only [this, Option.toList_none, List.append_nil]
              exact l2.ex rob_step.weak e3
        | above _ _ => exact absurd (show (2 : Int) = 5 from hd) (by decide)
        | same _ _ => exact absurd (show (3 : Int) = 5 from hd) (by decide)
        | find _ _ _ => exact absurd (show (4 : Int) = 5 from hd) (by decide)
      · have hd := of_decide_eq_false hd
        refine k1 _ H1 ⟨_, _, rfl⟩ (ExB.ex e1) ?_
        have : dateOf es c = [] := by
          obtain ⟨ic, fc⟩ := c
          cases fc <;> first | rfl | exact absurd rfl hd
        rw [this, List.append_nil]
        exact l1.ex rob_step.weak e1
theorem ok_steps_of (F : Fun K "steps_of" "steps_of" s_steps_of f fd) (T : Txt K mg CF CO CS aA aU) (o_single_steps : Own P w K mg base "single_steps" 1 ["facts"] (spFS CF fun es => es.flatMap SG.sglOf))
    (o_date_steps : Own P w K mg base "date_steps" 2 ["facts"] (spFS CF fun es => es.flatMap (dateOf es))) : FnOk P w K mg base CX0 3 f fd ["facts"] (spFS CF stepsOf) := by
  refine F.ok sc_steps_of (fun vs H Q E h => ?_) (fun cdv A outer s H vs Q E hr h => ?_)
  · obtain ⟨a, rfl, _⟩ := h
    rfl
  · obtain ⟨⟨v, es⟩, rfl, ⟨hl, hz⟩, k⟩ := h
    have hz : es.length ≤ 40 := hz
    refine ⟨_, (pss_one (ps_ret (pe_op op_cat (pe_own o_single_steps (hr.mono (by decide)) rfl (pa_cons (pv 0) pa_nil)) (pe_own o_date_steps (hr.mono (by decide)) rfl (pa_cons (pv 0) pa_nil))))), ?_⟩
    have ar : ∀ H1, Ex H H1 → EaR (tCons (tVar 0) tNil) [some v] H1 (fun vs H => ∃ u, vs = [u] ∧ Facts CF es u H) := fun H1 e1 => ear_1 (er_var rfl fun H2 e2 => ⟨hl.ex (rob_fact CF) (e1.trans e2), hz⟩)
    refine s_retR (er_cat (bs := es.flatMap SG.sglOf) (cs := es.flatMap (dateOf es)) rob_step.weak ?_ (er_call (ar H (Ex.refl H)) ?_) (er_call (ar H (Ex.refl H)) ?_)) fun v H1 e r => k v H1 e r
    · have g : ∀ (m : Nat) (h : Nat × Fact → List Stratigraphy.Step), (∀ c, (h c).length ≤ m) → ∀ l : List (Nat × Fact), (l.flatMap h).length ≤ l.length * m := by
        intro m h hh l
        induction l with
        | nil => simp
        | cons y l ih =>
          rw [List.flatMap_cons, List.length_append, List.length_cons, Nat.succ_mul]
          have := hh y
          omega
      have g1 := g 2 SG.sglOf sgl_len es
      have g2 := g 40 (dateOf es) (fun c => by
        unfold dateOf
        split
        · exact Nat.le_trans (List.length_filterMap_le _ _) hz
        · exact Nat.zero_le _) es
      omega
    · rintro vs H1 e1 ⟨u, rfl, q⟩
      exact ⟨(u, es), rfl, q, fun v H2 e2 h => h⟩
    · rintro vs H1 e1 ⟨u, rfl, q⟩
      exact ⟨(u, es), rfl, q, fun v H2 e2 h => h⟩
end
/-! ### begin_of, end_of -/
def spYr (CF : Addr) (R : List (Nat × Fact) → Nat → Int → Prop) : Sp := spP (α := V × List (Nat × Fact) × Nat) (fun a => [a.1, .int a.2.2]) (fun a H => Facts CF a.2.1 a.1 H) (fun a v _ => ∃ y, v = .int y ∧ R a.2.1 a.2.2 y)
def begL (u : Nat) (e : Nat × Fact) : Option Int := if hasB e.2 = true ∧ f1 e.2 = u then some (f2 e.2) else none
def endL (u : Nat) (e : Nat × Fact) : Option Int := if fK e.2 = 5 ∧ f1 e.2 = u then some (f3 e.2) else none
theorem begL_iff {u : Nat} {e : Nat × Fact} {y : Int} : begL u e = some y ↔ lowerYearBound e.2 = some (u, y) := by
  obtain ⟨i, f⟩ := e
  cases f <;> simp [begL, hasB, lowerYearBound, f1, f2] <;> omega
theorem endL_iff {u : Nat} {e : Nat × Fact} {y : Int} : endL u e = some y ↔ upperYearBound e.2 = some (u, y) := by
  obtain ⟨i, f⟩ := e
  cases f <;> simp [endL, fK, upperYearBound, f1, f3] <;> omega
theorem call_max {σ : St} {H : Hp} {K : PySem.W.Frag} {te : TE} {l : List Int} (h : EvR te σ H (LR Rint l)) (hl : 0 < l.length) : EvR (tCB (rMax K) (tCons te tNil)) σ H (fun v _ => ∃ m, v = .int m ∧ m ∈ l ∧ ∀ y ∈ l, y ≤ m) := er_cb (ear_1 h) fun vs H1 e1 s Q q => by
  obtain ⟨v, rfl, p, ws, rfl, hp, al⟩ := s
  rw [all_int al] at hp
  exact ⟨p, l, rfl, sq_of hp, hl, fun m h1 h2 => q _ H1 (Ex.refl _) ⟨m, rfl, h1, h2⟩⟩
theorem call_min {σ : St} {H : Hp} {K : PySem.W.Frag} {te : TE} {l : List Int} (h : EvR te σ H (LR Rint l)) (hl : 0 < l.length) : EvR (tCB (rMin K) (tCons te tNil)) σ H (fun v _ => ∃ m, v = .int m ∧ m ∈ l ∧ ∀ y ∈ l, m ≤ y) := er_cb (ear_1 h) fun vs H1 e1 s Q q => by
  obtain ⟨v, rfl, p, ws, rfl, hp, al⟩ := s
  rw [all_int al] at hp
  exact ⟨p, l, rfl, sq_of hp, hl, fun m h1 h2 => q _ H1 (Ex.refl _) ⟨m, rfl, h1, h2⟩⟩
abbrev s_begin_of : Stmt := topS 12
theorem sc_begin_of : FnScope ["facts", "unit", "fact"] ["facts", "unit"] (defScope s_begin_of) := ⟨rfl, rfl, rfl, by decide +kernel, rfl, by decide +kernel, by decide +kernel⟩
abbrev s_end_of : Stmt := topS 13
theorem sc_end_of : FnScope ["facts", "unit", "fact"] ["facts", "unit"] (defScope s_end_of) := ⟨rfl, rfl, rfl, by decide +kernel, rfl, by decide +kernel, by decide +kernel⟩
section
variable {P : Program} {w : World} {K : PySem.W.Frag} {mg : Str → Option Value} {base : Heap} {CF CO CS aA aU f : Addr} {fd : FuncData}
theorem ok_begin_of (F : Fun K "begin_of" "begin_of" s_begin_of f fd) (T : Txt K mg CF CO CS aA aU) (o_has_begin : Own P w K mg base "has_begin" 1 ["fact"] (spHas CF)) : FnOk P w K mg base CX0 2 f fd ["facts", "unit"] (spYr CF fun es u y => SG.EarlyP es (fun x => x = u) y) := by
  refine F.ok sc_begin_of (fun vs H Q E h => ?_) (fun cdv A outer s H vs Q E hr h => ?_)
  · obtain ⟨a, rfl, _⟩ := h
    rfl
  · obtain ⟨⟨v, es, u⟩, rfl, ⟨hl, hz⟩, k⟩ := h
    have hz : es.length ≤ 40 := hz
    refine ⟨_, (pss_one (ps_ret (pe_callB (cr_max rfl) (by rfl) T.max (by decide +kernel) (pa_cons (pe_op op_cat (pe_lst (pa_cons (pe_gint T.g_FIRST_YEAR rfl) pa_nil)) (pe_lc (own := [("fact", 2)]) (g := gName 2) (tt := (tAnd (tB (tCall _ [] E0 (tCons (tVar 2) tNil))) (tTest (tOp _ (tFld K (tVar 2) "first") (tVar 1))))) (te := (tFld K (tVar 2) "second")) rfl sc_begin_of.nd (pi_list (pv 0)) (blkOk_by (own := [("fact", 2)]) (N := ["facts", "unit", "fact"]) (sc := defScope s_begin_of) (by decide +kernel)) (fun _ _ _ _ _ => (pg_name (i := 2) sc_begin_of.nd rfl (.inl rfl))) (fun _ _ _ _ _ => pts_one (PW.pt (pw_and (pt_val (pe_own o_has_begin (hr.mono (by decide)) rfl (pa_cons (pv 2) pa_nil))) (pw_and1 (pt_cmpR op_eq (pe_fld (pv 2) rfl) (pv 1) (nomark _)))))) (fun _ _ _ _ _ => (pe_fld (pv 2) rfl)))) pa_nil)))), ?_⟩
    refine s_retR (call_max (l := [-5000] ++ es.filterMap (begL u)) (er_cat rob_int (Nat.le_trans (Nat.add_le_add_left (List.length_filterMap_le _ _) _) (by show 1 + _ ≤ _; omega)) (er_lst rob_int (by decide) ((ear_is (ea_cons ev_c ea_nil)).weakA fun vs H1 e1 r => ?_)) (er_lcL (rob_fact CF) rob_int (begL u) (er_var rfl fun H1 e1 => hl.ex (rob_fact CF) e1) (by omega) (fun x => rfl) (fun c x H1 hc e1 rc => ?_) (fun c x b H1 hc e1 rc hb => ?_))) (by simp)) fun v H1 e r => k v H1 e ?_
    · subst r
      exact .cons rfl .nil
    · obtain ⟨r, rfl, rh⟩ := rc
      obtain ⟨i, fc⟩ := c
      refine et_is (et_and (a := hasB fc) (b := decide (f1 fc = u)) (et_test (ev_call (r, i, fc, true) (ea_cons (ev_var rfl) ea_nil) (fun H1 e => rh.ex e) fun _ _ _ h => h)) fun _ => t_eqI (T.e_1 (ev_var rfl) rh) (ev_var rfl)) ?_
      unfold begL
      by_cases q : hasB fc = true ∧ f1 fc = u
      · rw [if_pos q]; simp [q.1, q.2]
      · rw [if_neg q]
        by_cases z : hasB fc = true
        · have : ¬ f1 fc = u := fun y => q ⟨z, y⟩
          simp [z, this]
        · simp [z]
    · obtain ⟨r, rfl, rh⟩ := rc
      unfold begL at hb
      by_cases q : hasB c.2 = true ∧ f1 c.2 = u
      · rw [if_pos q] at hb
        exact er_of (T.e_2 (ev_var rfl) rh) fun H' e => by rw [Option.some.inj hb]; rfl
      · rw [if_neg q] at hb
        cases hb
    · obtain ⟨m, rfl, h1, h2⟩ := r
      refine ⟨m, rfl, h2 _ (by simp), fun e lo he hlo hP => ?_, ?_⟩
      · subst hP
        exact h2 _ (List.mem_append_right _ (List.mem_filterMap.mpr ⟨e, he, begL_iff.mpr hlo⟩))
      · rcases List.mem_append.mp h1 with q | q
        · exact .inl (by simpa using q)
        · obtain ⟨e, he, q⟩ := List.mem_filterMap.mp q
          exact .inr ⟨e, (u, m), he, begL_iff.mp q, rfl, rfl⟩
theorem ok_end_of (F : Fun K "end_of" "end_of" s_end_of f fd) (T : Txt K mg CF CO CS aA aU) : FnOk P w K mg base CX0 1 f fd ["facts", "unit"] (spYr CF fun es u y => SG.LateP es (fun x => x = u) y) := by
  refine F.ok sc_end_of (fun vs H Q E h => ?_) (fun cdv A outer s H vs Q E hr h => ?_)
  · obtain ⟨a, rfl, _⟩ := h
    rfl
  · obtain ⟨⟨v, es, u⟩, rfl, ⟨hl, hz⟩, k⟩ := h
    have hz : es.length ≤ 40 := hz
    refine ⟨_, (pss_one (ps_ret (pe_callB (cr_min rfl) (by rfl) T.min (by decide +kernel) (pa_cons (pe_op op_cat (pe_lst (pa_cons (pe_gint T.g_LAST_YEAR rfl) pa_nil)) (pe_lc (own := [("fact", 2)]) (g := gName 2) (tt := (tAnd (tTest (tOp _ (tFld K (tVar 2) "kind") (tC (.int 5)))) (tTest (tOp _ (tFld K (tVar 2) "first") (tVar 1))))) (te := (tFld K (tVar 2) "third")) rfl sc_end_of.nd (pi_list (pv 0)) (blkOk_by (own := [("fact", 2)]) (N := ["facts", "unit", "fact"]) (sc := defScope s_end_of) (by decide +kernel)) (fun _ _ _ _ _ => (pg_name (i := 2) sc_end_of.nd rfl (.inl rfl))) (fun _ _ _ _ _ => pts_one (PW.pt (pw_and (pt_cmpR op_eq (pe_fld (pv 2) rfl) (pe_gint T.g_DATE rfl) (nomark _)) (pw_and1 (pt_cmpR op_eq (pe_fld (pv 2) rfl) (pv 1) (nomark _)))))) (fun _ _ _ _ _ => (pe_fld (pv 2) rfl)))) pa_nil)))), ?_⟩
    refine s_retR (call_min (l := [2100] ++ es.filterMap (endL u)) (er_cat rob_int (Nat.le_trans (Nat.add_le_add_left (List.length_filterMap_le _ _) _) (by show 1 + _ ≤ _; omega)) (er_lst rob_int (by decide) ((ear_is (ea_cons ev_c ea_nil)).weakA fun vs H1 e1 r => ?_)) (er_lcL (rob_fact CF) rob_int (endL u) (er_var rfl fun H1 e1 => hl.ex (rob_fact CF) e1) (by omega) (fun x => rfl) (fun c x H1 hc e1 rc => ?_) (fun c x b H1 hc e1 rc hb => ?_))) (by simp)) fun v H1 e r => k v H1 e ?_
    · subst r
      exact .cons rfl .nil
    · obtain ⟨r, rfl, rh⟩ := rc
      obtain ⟨i, fc⟩ := c
      refine et_is (et_and (a := decide (fK fc = 5)) (b := decide (f1 fc = u)) (t_eqI (T.e_kind (ev_var rfl) rh) ev_c) fun _ => t_eqI (T.e_1 (ev_var rfl) rh) (ev_var rfl)) ?_
      unfold endL
      by_cases q : fK fc = 5 ∧ f1 fc = u
      · rw [if_pos q]; simp [q.1, q.2]
      · rw [if_neg q]
        by_cases z : fK fc = 5
        · have : ¬ f1 fc = u := fun y => q ⟨z, y⟩
          simp [z, this]
        · simp [z]
    · obtain ⟨r, rfl, rh⟩ := rc
      unfold endL at hb
      by_cases q : fK c.2 = 5 ∧ f1 c.2 = u
      · rw [if_pos q] at hb
        exact er_of (T.e_3 (ev_var rfl) rh) fun H' e => by rw [Option.some.inj hb]; rfl
      · rw [if_neg q] at hb
        cases hb
    · obtain ⟨m, rfl, h1, h2⟩ := r
      refine ⟨m, rfl, h2 _ (by simp), fun e lo he hlo hP => ?_, ?_⟩
      · subst hP
        exact h2 _ (List.mem_append_right _ (List.mem_filterMap.mpr ⟨e, he, endL_iff.mpr hlo⟩))
      · rcases List.mem_append.mp h1 with q | q
        · exact .inl (by simpa using q)
        · obtain ⟨e, he, q⟩ := List.mem_filterMap.mp q
          exact .inr ⟨e, (u, m), he, endL_iff.mp q, rfl, rfl⟩
end
end L2.SD

/-! B2: chains.py -/
set_option Elab.async false
set_option linter.all false
set_option maxRecDepth 100000
set_option maxHeartbeats 2000000
namespace L2.SD
open PySem PySem.Spec PyProof.Rows Evl
open Stratigraphy (Fact lowerYearBound upperYearBound stepsOf)
open SG (SK Tab look put pyLt minT Bd RInv FInv trySt tryStep nextStates sts)

theorem er_catT {K : PySem.W.Frag} {σ : St} {H : Hp} {ta tb : TE} {a b : List Nat} (h1 : EvR ta σ H (Rids a)) (h2 : EvR tb σ H (Rids b)) (hz : a.length + b.length ≤ 100000) : EvR (tOp (rCatA K) ta tb) σ H (Rids (a ++ b)) := fun H0 e0 Q q =>
  h1 H0 e0 _ fun v H1 e1 r1 => h2 H1 (e0.trans e1) _ fun u H2 e2 r2 => by
    obtain ⟨p, rfl, hp⟩ := rob_ids.ex e2 r1
    obtain ⟨p', rfl, hp'⟩ := r2
    have e12 := e1.trans e2
    refine ⟨p, p', _, _, rfl, rfl, st_of hp, st_of hp', by simp only [idV, List.length_map]; exact sz_of hz, fun h => ?_, fun _ h => ?_, fun _ _ l hl => ?_⟩
    · have : a = [] := by simpa [idV] using h
      subst this
      exact q _ H2 e12 ⟨p', rfl, hp'⟩
    · have : b = [] := by simpa [idV] using h
      subst this
      exact q _ H2 e12 ⟨p, rfl, by rw [List.append_nil]; exact hp⟩
    · exact q _ _ (e12.trans (Ex.new hl)) ⟨l, rfl, by rw [upd_same]; simp [idV]⟩
theorem ev_lenT {K : PySem.W.Frag} {σ : St} {H : Hp} {ta : TE} {p : Addr} {xs : List V} (ha : Ev ta σ H (.ref p)) (h : SqT K H p xs) : Ev (tCB (rLenS K) (tCons ta tNil)) σ H (.int (xs.length : Int)) := fun H1 e Q q =>
  ha H1 e _ fun H2 e2 => ⟨p, xs, rfl, Or.inr (ex_t (e.trans e2) h), q H2 e2⟩
theorem walk_lt {S : List Stratigraphy.Step} {n : Nat} (hS : Bd S n) {u v : Nat} {b : Bool} {L : List Nat} (w : SG.Walk S u b L v) : u < n → v < n := by
  induction w with
  | nil u => exact id
  | cons h e _ ih => exact fun _ => ih (hS _ h).2.1
theorem tab_len {S : List Stratigraphy.Step} {start : Nat} {t : Tab} (hS : Bd S 12) (hst : start < 12) (hn : (t.map (·.1)).Nodup) (h : ∀ k L, look t k = some L → SG.Walk S start k.2 L k.1) : t.length ≤ 24 := by
  have := nodup_len (l := t.map (·.1)) (m := sts 12) hn fun k hk => by
    obtain ⟨v, hv⟩ := (SG.mem_keys t k).mp hk
    exact SG.mem_sts.mpr (walk_lt hS (h k v hv) hst)
  rw [List.length_map] at this
  exact Nat.le_trans this (by decide)
abbrev RL : List SK → V → Hp → Prop := fun l v H => LR Rsk l v H
theorem stb_RL (l : List SK) : Stb (RL l) := fun v H H' e h => h.ex rob_sk e
theorem er_there {K : PySem.W.Frag} {σ : St} {H : Hp} {t1 t2 t3 : TE} {ts : Addr} {s : SK} {v : Nat} {b : Bool} (h1 : Ev t1 σ H (.int v)) (h2 : Ev t2 σ H (.ref ts)) (hs : H ts = some (.tup (skV s))) (h3 : Ev t3 σ H (.bl b)) :
    EvR (tTup (tCons t1 (tCons (tOrV (tOp (rIxT K) t2 (tC (.int 1))) t3) tNil))) σ H (Rkey skV (v, s.2 || b)) :=
  er_U (eu_tup (ea_cons h1 (ea_cons (ev_orV (a := s.2) (b := b) (ev_op h2 ev_c (rv_ixT (st_of hs) (atI_nat (j := 1) rfl))) fun _ => h3) ea_nil)) (by decide : 2 ≤ 100000))
structure NsA where
  vs : V
  vl : V
  vf : V
  S : List Stratigraphy.Step
  lay : List (List SK)
  t : Tab
  n : Nat
/-- layers that stand -/
def LaysA (H : Hp) (v : V) (lay : List (List SK)) : Prop := ∃ pl ws, v = .ref pl ∧ H pl = some (.lst ws) ∧ All RL H ws lay
def spNext (P : Program) (w : World) : Sp := spN (α := NsA) (fun a => [a.vs, a.vl, a.vf, .int a.n])
  (fun a H => LR Rstep a.S a.vs H ∧ LaysA H a.vl a.lay ∧ (∃ pf, a.vf = .ref pf ∧ TabA skV Rids P w H pf a.t) ∧ ∃ start l, RInv a.S start l (a.t, a.lay) ∧ a.n = l + 1 ∧ Bd a.S 12 ∧ start < 12 ∧ l < 48)
  (fun a H0 v H => ∃ p, v = .ref p ∧ H0 p = none ∧ TabA skV Rids P w H p (nextStates a.S a.lay a.t a.n))
abbrev s_next_states : Stmt := topS 16
theorem sc_next_states : FnScope ["steps", "layers", "found", "length", "fresh", "begin", "end", "ids", "is_strict", "state", "there", "chain"] ["steps", "layers", "found", "length"] (defScope s_next_states) := ⟨rfl, rfl, rfl, by decide +kernel, rfl, by decide +kernel, by decide +kernel⟩
section
variable {P : Program} {w : World} {K : PySem.W.Frag} {mg : Str → Option Value} {base : Heap} {CF CO CS aA aU f : Addr} {fd : FuncData}
theorem ok_next_states (F : Fun K "next_states" "next_states" s_next_states f fd) (T : Txt K mg CF CO CS aA aU) : FnOk P w K mg base CX0 1 f fd ["steps", "layers", "found", "length"] (spNext P w) := by
  refine F.ok sc_next_states (fun vs H Q E h => ?_) (fun cdv A outer s H vs Q E hr h => ?_)
  · obtain ⟨a, rfl, _⟩ := h
    rfl
  · obtain ⟨⟨vs, vl, vf, S, lay, t, n⟩, rfl, ⟨hS, hL, hF, start, l, R, en, hB, hst, hl48⟩, k⟩ := h
    obtain ⟨ps, ws, rfl, hps, als⟩ := hS
    obtain ⟨pl, wl, rfl, hpl, all⟩ := hL
    obtain ⟨pf, rfl, Tf⟩ := hF
    have en : n = l + 1 := en
    subst en
    refine ⟨_, (pss_cons (ps_set (i := 4) sc_next_states.nd rfl (.inl rfl) pe_newE)
      (pss_cons (ps_for PassesOwn.never rfl (pi_list (pv 0)) (pg_tup rfl (pgs_cons (pg_name (i := 5) sc_next_states.nd rfl (.inl rfl)) (pgs_cons (pg_name (i := 6) sc_next_states.nd rfl (.inl rfl)) (pgs_cons (pg_name (i := 7) sc_next_states.nd rfl (.inl rfl)) (pgs_cons (pg_name (i := 8) sc_next_states.nd rfl (.inl rfl)) pgs_nil))))) (pss_one (ps_if (pt_cmpR op_le (pe_callB call_len_seq (by rfl) T.len PySem.boot_len (pa_cons (pv 7) pa_nil)) (pv 3) (nomark _)) (pss_one (ps_for PassesOwn.never rfl (pi_list (pe_ix ix_list (pv 1) (pe_op op_sub (pv 3) (pe_callB call_len_seq (by rfl) T.len PySem.boot_len (pa_cons (pv 7) pa_nil))) (fun _ _ => rfl))) (pg_name (i := 9) sc_next_states.nd rfl (.inl rfl)) (pss_cons (ps_set (i := 10) sc_next_states.nd rfl (.inl rfl) (pe_tup (pa_cons (pv 6) (pa_cons (pe_or (pe_ix ix_tup (pv 9) pe_int (fun _ _ => rfl)) (pe_one (pv 8))) pa_nil))))
      (pss_one (ps_if (PW.pt (pw_and (pt_cmpR op_eq (pe_ix ix_tup (pv 9) pe_int (fun _ _ => rfl)) (pv 5) (nomark _)) (pw_and1 (pt_cmp (pc_notInE (hu_of hr) (pv 10) (pv 2)) rfl)))) (pss_cons (ps_set (i := 11) sc_next_states.nd rfl (.inl rfl) (pe_op op_catA (pe_gt (hu_of hr) (pv 2) (pv 9) (fun _ _ => rfl)) (pv 7)))
      (pss_one (ps_putE (hu_of hr) (pv 4) (pv 10) (pe_callB (cr_min2D rfl hr.units) (by rfl) T.min (by decide +kernel) (pa_cons (pv 11) (pa_cons (pe_get2E (hu_of hr) (pv 4) (pv 10) (pv 11) ⟨rfl, rfl, rfl, rfl⟩) pa_nil)))))) pss_nil))))) pss_nil)))
      (pss_one (ps_ret (pv 4))))), ?_⟩
    have R' : RInv S start l (t, lay) := R
    refine q_newE (kf := skV) (RV := Rids) fun p hp H1 e1 np T0 => ?_
    refine q_forFold (H0 := H) (A := Rstep) (es := S) (a := ps) (ws := ws) (tryStep lay t (l + 1)) [] (fun fr σ' H' => Ex H H' ∧ TabA skV Rids P w H' p fr ∧ FInv S start l t fr ∧ ∃ a5 a6 a7 a8 a9 a10 a11, σ' = [some (.ref ps), some (.ref pl), some (.ref pf), some (.int ((l + 1 : Nat) : Int)), some (.ref p), a5, a6, a7, a8, a9, a10, a11])
      (fun c => stb_rob rob_step c) hps als (ev_var rfl) (fun _ _ _ q => q.1) (fun H2 e2 => ⟨e1.trans e2, T0.exx rob_ids e2, ⟨by simp, fun k L e => by rw [SG.look_nil] at e; cases e⟩, _, _, _, _, _, _, _, rfl⟩) (fun σ' H' q => ?_) (fun st x fr σ' H' D' hst' rx q kk => ?_)
    · obtain ⟨q1, q2, q3, a5, a6, a7, a8, a9, a10, a11, rfl⟩ := q
      exact s_retR (er_is (ev_var rfl)) fun v H2 e2 r => by
        rw [show v = _ from r]
        exact k _ H2 (q1.trans e2) ⟨p, rfl, hp, q2.exx rob_ids e2⟩
    · obtain ⟨q1, q2, q3, a5, a6, a7, a8, a9, a10, a11, rfl⟩ := q
      obtain ⟨ta, ti, rfl, hta, hti⟩ := rx
      refine ⟨ta, _, rfl, st_of hta, rfl, _, _, rfl, _, _, rfl, _, _, rfl, _, _, rfl, rfl, ?_⟩
      have hf := (hB st hst').2.2
      refine s_when (b := decide (st.facts.length ≤ l + 1)) (et_is (t_I0 (ev_lenT (ev_var rfl) (st_of hti)) (ev_var rfl)) (decide_eq_decide.mpr (by simp only [idV, List.length_map]; omega))) (fun hle H2 e2 => ?_) (fun hle H2 e2 => ?_)
      · have hle := of_decide_eq_true hle
        have hpos : 0 < st.facts.length := List.length_pos_iff.mpr hf.2
        have eH2 : Ex H H2 := q1.trans e2
        have hlay : lay.length = l + 1 := R'.len
        have hlt : l + 1 - st.facts.length < lay.length := by omega
        obtain ⟨vq, hvq, rq⟩ := all.get' (List.getElem?_eq_getElem hlt)
        obtain ⟨pq, uq, rfl, hpq, alq⟩ := rq
        have hgd : lay.getD (l + 1 - st.facts.length) [] = lay[l + 1 - st.facts.length] := by simp [List.getD_eq_getElem?_getD, List.getElem?_eq_getElem hlt]
        have ex9 : tryStep lay t (l + 1) fr st = (lay[l + 1 - st.facts.length]).foldl (trySt t st) fr := by
          unfold tryStep
          rw [if_pos hle, hgd]
        refine s_forFold (H0 := H) (A := Rsk) (es := lay[l + 1 - st.facts.length]) (a := pq) (ws := uq) (trySt t st) fr (fun fr' σ' H' => Ex H H' ∧ H' ti = some (.tup (idV st.facts)) ∧ TabA skV Rids P w H' p fr' ∧ FInv S start l t fr' ∧ ∃ a9 a10 a11, σ' = [some (.ref ps), some (.ref pl), some (.ref pf), some (.int ((l + 1 : Nat) : Int)), some (.ref p), some (.int st.source), some (.int st.target), some (.ref ti), some (.bl st.strict), a9, a10, a11])
          (fun c => stb_rob rob_sk c) hpq alq (ev_op (ev_var rfl) (ev_op (ev_var rfl) (ev_lenT (ev_var rfl) (st_of (e2 _ _ hti))) rv_I0) (rv_ixL (sq_of (eH2 _ _ hpl)) ?_)) (fun _ _ _ q => q.1) (fun H3 e3 => ⟨eH2.trans e3, (e2.trans e3) _ _ hti, (q2.exx rob_ids e2).exx rob_ids e3, q3, _, _, _, rfl⟩) (fun σ3 H3 q => ?_) (fun sk x fr' σ3 H3 D3 hsk rsk q k3 => ?_)
        · have hi : ((l + 1 : Nat) : Int) - ((idV st.facts).length : Int) = ((l + 1 - st.facts.length : Nat) : Int) := by simp only [idV, List.length_map]; omega
          show atI wl (((l + 1 : Nat) : Int) - ((idV st.facts).length : Int)) = some (V.ref pq)
          rw [hi]
          exact atI_nat hvq
        · obtain ⟨g1, _, g2, g3, a9, a10, a11, rfl⟩ := q
          refine kk _ H3 ⟨g1, by rw [ex9]; exact g2, by rw [ex9]; exact g3, _, _, _, _, _, _, _, rfl⟩
        · obtain ⟨g1, gti, g2, g3, a9, a10, a11, rfl⟩ := q
          obtain ⟨tsk, rfl, htsk⟩ := rsk
          have hsk' : sk ∈ lay.getD (l + 1 - st.facts.length) [] := by rw [hgd]; exact hsk
          obtain ⟨L, hL, hLl⟩ := (R'.lay (l + 1 - st.facts.length) (by omega) sk).mp hsk'
          have F3 : FInv S start l t (trySt t st fr' sk) := SG.trySt_inv R' hst' hf.2 hle hsk' g3
          have Tf3 := Tf.exx rob_ids g1
          refine q_asgR (er_there (ev_var rfl) (ev_var rfl) htsk (ev_var rfl)) fun v4 H4 e4 r4 => ?_
          obtain ⟨t10, rfl, ht10⟩ := r4
          have Tf4 := Tf3.exx rob_ids e4
          have G4 := g2.exx rob_ids e4
          refine s_when (b := decide (sk.1 = st.source) && !(look t (st.target, sk.2 || st.strict)).isSome) (et_and (et_is (t_eqI (i := (sk.1 : Int)) (j := (st.source : Int)) (ev_op (ev_var rfl) ev_c (rv_ixT (st_of (e4 _ _ htsk)) (atI_nat (j := 0) rfl))) (ev_var rfl)) (by simp; omega)) fun _ => et_B (et_notIn key_sk rob_ids Tf4 (ev_var rfl) (er_var rfl fun H' e' => ⟨t10, rfl, e' _ _ ht10⟩))) (fun hb H5 e5 => ?_) (fun hb H5 e5 => ?_)
          · rw [Bool.and_eq_true] at hb
            have hb1 := of_decide_eq_true hb.1
            have hb2 : look t (st.target, sk.2 || st.strict) = none := by simpa using hb.2
            have Tf5 := Tf4.exx rob_ids e5
            refine q_asgR (er_catT (a := L) (b := st.facts) (er_gt key_sk rob_ids Tf5 (ev_var rfl) (er_var rfl fun H' e' => ⟨tsk, rfl, (e4.trans (e5.trans e')) _ _ htsk⟩) hL) (er_var rfl fun H' e' => ⟨ti, rfl, (e4.trans (e5.trans e')) _ _ gti⟩) (by omega)) fun v6 H6 e6 r6 => ?_
            obtain ⟨t11, rfl, ht11⟩ := r6
            have G6 := (G4.exx rob_ids e5).exx rob_ids e6
            have ht10' := (e5.trans e6) _ _ ht10
            have hlen : fr'.length ≤ 24 := tab_len hB hst g3.nd fun k L e => (g3.ok k L e).2.1
            refine s_putE key_sk rob_ids (b := minT (L ++ st.facts) ((look fr' (st.target, sk.2 || st.strict)).getD (L ++ st.facts))) G6 (ev_var rfl) (er_var rfl fun H' e' => ⟨t10, rfl, e' _ _ ht10'⟩) ?_ (by omega) fun H7 b7 T7 => ?_
            · have hx : EvR (tGet2 P w (tVar 4) (tVar 10) (tVar 11)) [some (.ref ps), some (.ref pl), some (.ref pf), some (.int ((l + 1 : Nat) : Int)), some (.ref p), some (.int st.source), some (.int st.target), some (.ref ti), some (.bl st.strict), some (.ref tsk), some (.ref t10), some (.ref t11)] H6 (Rids ((look fr' (st.target, sk.2 || st.strict)).getD (L ++ st.facts))) := er_get2 key_sk rob_ids G6 (ev_var rfl) (er_var rfl fun H' e' => ⟨t10, rfl, e' _ _ ht10'⟩) (er_var rfl fun H' e' => ⟨t11, rfl, e' _ _ ht11⟩)
              refine er_cb (ear_cons (er_is (ev_var rfl)) stb_is (ear_1 hx)) fun vs7 H7 e7 s7 Q7 q7 => ?_
              obtain ⟨v7, r7, rfl, z7, u7, rfl, ru7⟩ := s7
              obtain rfl : v7 = V.ref t11 := z7
              obtain ⟨t12, rfl, ht12⟩ := ru7
              refine ⟨.ref t11, .ref t12, dIds (L ++ st.facts), dIds ((look fr' (st.target, sk.2 || st.strict)).getD (L ++ st.facts)), rfl, dp_ids (e7 _ _ ht11), dp_ids ht12, ⟨fun x hx y hy => ?_, fun x hx => ?_⟩, ?_, ?_⟩
              · simp only [List.mem_cons, List.not_mem_nil, or_false] at hx hy
                rcases hx with rfl | rfl <;> rcases hy with rfl | rfl <;> exact alike_ids _ _
              · simp only [List.mem_cons, List.not_mem_nil, or_false] at hx
                rcases hx with rfl | rfl <;> (unfold dIds; simp)
              · simp only [PyData.depthAll, depth_ids]; decide
              · rw [lt_ids]
                by_cases c : pyLt ((look fr' (st.target, sk.2 || st.strict)).getD (L ++ st.facts)) (L ++ st.facts) = true
                · rw [if_pos c]
                  exact q7 _ H7 (Ex.refl _) (by unfold minT; rw [if_pos c]; exact ⟨t12, rfl, ht12⟩)
                · rw [if_neg c]
                  exact q7 _ H7 (Ex.refl _) (by unfold minT; rw [if_neg c]; exact ⟨t11, rfl, e7 _ _ ht11⟩)
            · have ex : trySt t st fr' sk = put fr' (st.target, sk.2 || st.strict) (minT (L ++ st.facts) ((look fr' (st.target, sk.2 || st.strict)).getD (L ++ st.facts))) := by
                unfold trySt
                rw [if_pos ⟨hb1, hb2⟩, hL]
                rfl
              refine k3 _ H7 ⟨ExB.ex0 ((g1.trans e4).trans (e5.trans e6)) hp b7, ?_, by rw [ex]; exact T7, F3, _, _, _, rfl⟩
              obtain ⟨kvs, DD, _⟩ := G6.ex
              obtain ⟨oo, hoo⟩ := DD.obj
              exact (b7.kp hoo (rfl : tupK _ = false)) _ _ ((e4.trans (e5.trans e6)) _ _ gti) rfl
          · have ex : trySt t st fr' sk = fr' := by
              unfold trySt
              rw [if_neg]
              rintro ⟨c1, c2⟩
              rw [c2] at hb
              simp [c1] at hb
            refine k3 _ H5 ⟨(g1.trans e4).trans e5, (e4.trans e5) _ _ gti, by rw [ex]; exact G4.exx rob_ids e5, F3, _, _, _, rfl⟩
      · have hle := of_decide_eq_false hle
        have ex : tryStep lay t (l + 1) fr st = fr := by
          unfold tryStep
          rw [if_neg hle]
        exact kk _ H2 ⟨q1.trans e2, by rw [ex]; exact q2.exx rob_ids e2, by rw [ex]; exact q3, _, _, _, _, _, _, _, rfl⟩
end
/-! ### chains_from -/
def RLq (pl : Addr) (l : List SK) : V → Hp → Prop := fun v H => ∃ q ws, v = .ref q ∧ q ≠ pl ∧ H q = some (.lst ws) ∧ All Rsk H ws l
theorem rlq_mono {pl : Addr} {H H' : Hp} (h1 : ∀ q ws, q ≠ pl → H q = some (.lst ws) → H' q = some (.lst ws)) (h2 : KP tupK H H') {ws : List V} {ls : List (List SK)} (h : All (RLq pl) H ws ls) : All (RLq pl) H' ws ls :=
  Paired.mapP h fun v l ⟨q, us, e, ne, hq, al⟩ => ⟨q, us, e, ne, h1 _ _ ne hq, al.kp rob_sk h2⟩
theorem rlq_ex {pl : Addr} {H H' : Hp} (e : Ex H H') {ws : List V} {ls : List (List SK)} (h : All (RLq pl) H ws ls) : All (RLq pl) H' ws ls := rlq_mono (fun _ _ _ h => e _ _ h) (KP.ex e) h
def spChains (P : Program) (w : World) : Sp := spP (α := V × List Stratigraphy.Step × Nat) (fun a => [a.1, .int a.2.2]) (fun a H => LR Rstep a.2.1 a.1 H ∧ Bd a.2.1 12 ∧ a.2.2 < 12) (fun a v H => ∃ p, v = .ref p ∧ TabA skV Rids P w H p (SG.chainsFrom a.2.1 a.2.2))
abbrev s_chains_from : Stmt := topS 17
theorem sc_chains_from : FnScope ["steps", "start", "found", "layers", "length", "fresh", "state"] ["steps", "start"] (defScope s_chains_from) := ⟨rfl, rfl, rfl, by decide +kernel, rfl, by decide +kernel, by decide +kernel⟩
section
variable {P : Program} {w : World} {K : PySem.W.Frag} {mg : Str → Option Value} {base : Heap} {CF CO CS aA aU f : Addr} {fd : FuncData}
theorem ok_chains_from (F : Fun K "chains_from" "chains_from" s_chains_from f fd) (T : Txt K mg CF CO CS aA aU) (o_next_states : Own P w K mg base "next_states" 1 ["steps", "layers", "found", "length"] (spNext P w)) : FnOk P w K mg base CX0 2 f fd ["steps", "start"] (spChains P w) := by
  refine F.ok sc_chains_from (fun vs H Q E h => ?_) (fun cdv A outer s H vs Q E hr h => ?_)
  · obtain ⟨a, rfl, _⟩ := h
    rfl
  · obtain ⟨⟨vs, S, start⟩, rfl, ⟨hS, hB, hst⟩, k⟩ := h
    have hB : Bd S 12 := hB
    have hst : start < 12 := hst
    have hS0 : ∀ st ∈ S, st.facts ≠ [] := fun st h => (hB st h).2.2.2
    refine ⟨_, (pss_cons (ps_set (i := 2) sc_chains_from.nd rfl (.inl rfl) (pe_oneE (hu_of hr) (pe_tup (pa_cons (pv 1) (pa_cons pe_bl pa_nil))) (pe_tup pa_nil)))
      (pss_cons (ps_set (i := 3) sc_chains_from.nd rfl (.inl rfl) (pe_lst (pa_cons (pe_lst (pa_cons (pe_tup (pa_cons (pv 1) (pa_cons pe_bl pa_nil))) pa_nil)) pa_nil)))
      (pss_cons (ps_for PassesOwn.never rfl (pi_range2 rfl T.range (pa_cons pe_int (pa_cons (pe_op op_add (pe_gint T.g_LONGEST rfl) pe_int) pa_nil))) (pg_name (i := 4) sc_chains_from.nd rfl (.inl rfl)) (pss_cons (ps_set (i := 5) sc_chains_from.nd rfl (.inl rfl) (pe_own o_next_states (hr.mono (by decide)) rfl (pa_cons (pv 0) (pa_cons (pv 3) (pa_cons (pv 2) (pa_cons (pv 4) pa_nil))))))
      (pss_cons (ps_for PassesOwn.never rfl (pi_E (pv 5)) (pg_name (i := 6) sc_chains_from.nd rfl (.inl rfl)) (pss_one (ps_putE (hu_of hr) (pv 2) (pv 6) (pe_gt (hu_of hr) (pv 5) (pv 6) (fun _ _ => rfl)))))
      (pss_one (ps_expr (pe_bm PySem.F.plainAttrs_list PySem.F.slot_list_append PySem.F.type_list_append mt_append (pv 3) (pa_cons (pe_callTy (call_listE rfl) (by rfl) T.list (by decide +kernel) (pa_cons (pv 5) pa_nil)) pa_nil)))))))
      (pss_one (ps_ret (pv 2)))))), ?_⟩
    -- found = {(start, False): ()}
    intro pf o0 hpf
    have e0 : Ex H (upd H pf (dE P w pf o0 [])) := Ex.new hpf
    refine (er_U (eu_tup (vs := skV (start, false)) (ea_cons (ev_var rfl) (ea_cons ev_c ea_nil)) (by decide : 2 ≤ 100000))) _ (Ex.refl _) _ fun y H1 e1 r1 => ?_
    refine (er_U (eu_tup (vs := []) ea_nil (by decide : 0 ≤ 100000))) _ (Ex.refl _) _ fun v H2 e2 r2 => ?_
    obtain ⟨ty, rfl, hty⟩ := r1
    obtain ⟨tv, rfl, htv⟩ := r2
    have hpf2 : H2 pf = some (dE P w pf o0 []) := (e1.trans e2) _ _ upd_same
    refine ⟨ty, _, rfl, e2 _ _ hty, rfl, hpf2, fun o1 => ?_⟩
    have b2 : ExB pf H2 (upd H2 pf (dE P w pf o1 [(skV (start, false), ty, .ref tv)])) := .upd
    have k2 : KP tupK H2 (upd H2 pf (dE P w pf o1 [(skV (start, false), ty, .ref tv)])) := b2.kp hpf2 rfl
    have T2 : TabA skV Rids P w (upd H2 pf (dE P w pf o1 [(skV (start, false), ty, .ref tv)])) pf (SG.rounds S start 0).1 := ⟨⟨_, ⟨⟨o1, upd_same⟩, fun x hx => by
      rw [List.mem_singleton] at hx
      subst hx
      exact ⟨k2 _ _ (e2 _ _ hty) rfl, rfl⟩⟩, .cons ⟨rfl, tv, rfl, k2 _ _ htv rfl⟩ .nil⟩⟩
    have eH3 : Ex H (upd H2 pf (dE P w pf o1 [(skV (start, false), ty, .ref tv)])) := ExB.ex0 (e0.trans (e1.trans e2)) hpf b2
    -- layers = [[(start, False)]]
    have hin : ∀ H3, EvR (tLst (tCons (tTup (tCons (tVar 1) (tCons (tC (.bl false)) tNil))) tNil)) ([some vs, some (.int start), none, none, none, none, none].set 2 (some (.ref pf))) H3 (LR Rsk [(start, false)]) := fun H3 => er_lst rob_sk.weak (by show 1 ≤ 100000; decide) ((ear_1 (er_U (eu_tup (vs := skV (start, false)) (ea_cons (ev_var rfl) (ea_cons ev_c ea_nil)) (by decide : 2 ≤ 100000)))).weakA fun us H' e' r => by
      obtain ⟨v, rfl, r⟩ := r
      exact .cons r .nil)
    dsimp only [gName]
    refine q_asgR (R := fun v H' => ∃ pl ws, v = .ref pl ∧ H pl = none ∧ H' pl = some (.lst ws) ∧ All (RLq pl) H' ws (SG.rounds S start 0).2) (er_lst1 (hin _) fun v H' p e' r hp => ?_) fun v H4 e4 r4 => ?_
    · obtain ⟨q, us, rfl, hq, al⟩ := r
      have ne : q ≠ p := fun z => by rw [z, hp] at hq; cases hq
      exact ⟨p, [.ref q], rfl, fresh_back (eH3.trans e') hp, upd_same, .cons ⟨q, us, rfl, ne, by rw [upd_ne ne]; exact hq, al.ex rob_sk (Ex.new hp)⟩ .nil⟩
    · obtain ⟨pl, wl0, rfl, hpl0, hpl, alL0⟩ := r4
      have T4 := T2.exx rob_ids e4
      have eH4 := eH3.trans e4
      refine q_forR2 (lo := 1) (n := 49) (ea_cons ev_c (ea_cons (ev_op ev_c ev_c rv_I0) ea_nil)) (by decide) (fun i σ' H' => Ex H H' ∧ TabA skV Rids P w H' pf (SG.rounds S start i).1 ∧ (∃ wl, H' pl = some (.lst wl) ∧ All (RLq pl) H' wl (SG.rounds S start i).2) ∧ ∃ a4 a5 a6, σ' = [some vs, some (.int start), some (.ref pf), some (.ref pl), a4, a5, a6])
        (fun H5 e5 => ⟨eH4.trans e5, T4.exx rob_ids e5, ⟨wl0, e5 _ _ hpl, rlq_ex e5 alL0⟩, _, _, _, rfl⟩) (fun i σ' H' hi q => ?_) (fun σ' H' q => ?_)
      · obtain ⟨q1, q2, ⟨wl, hwl, alL⟩, a4, a5, a6, rfl⟩ := q
        have hi : i < 48 := by omega
        have Ri := SG.rounds_inv hS0 (start := start) i
        have lt : (SG.rounds S start i).1.length ≤ 24 := tab_len hB hst Ri.nd fun k L e => (Ri.snd k L e).1
        have Fi := SG.next_inv Ri hS0
        have lfr : (nextStates S (SG.rounds S start i).2 (SG.rounds S start i).1 (i + 1)).length ≤ 24 := tab_len hB hst Fi.nd fun k L e => (Fi.ok k L e).2.1
        have esc : SG.rounds S start (i + 1) = SG.round S (SG.rounds S start i) (i + 1) := SG.rounds_succ S start i
        have ec : (1 : Int) + (i : Int) = ((i + 1 : Nat) : Int) := by omega
        rw [ec]
        have hp1 : H' pf ≠ none := by
          obtain ⟨_, D, _⟩ := q2.ex
          obtain ⟨o, ho⟩ := D.obj
          rw [ho]
          simp
        refine q_asgR (R := fun v H'' => ∃ p5, v = .ref p5 ∧ H' p5 = none ∧ TabA skV Rids P w H'' p5 (nextStates S (SG.rounds S start i).2 (SG.rounds S start i).1 (i + 1))) (er_callN (ear_is (ea_cons (ev_var rfl) (ea_cons (ev_var rfl) (ea_cons (ev_var rfl) (ea_cons (ev_var rfl) ea_nil))))) fun us H1 e1 eus => ?_) fun v5 H5 e5 r5 => ?_
        · exact ⟨⟨vs, .ref pl, .ref pf, S, (SG.rounds S start i).2, (SG.rounds S start i).1, i + 1⟩, eus, ⟨hS.ex rob_step (q1.trans e1), ⟨pl, wl, rfl, e1 _ _ hwl, Paired.mapP (rlq_ex e1 alL) fun v l ⟨q, us, a, _, b, c⟩ => ⟨q, us, a, b, c⟩⟩, ⟨pf, rfl, q2.exx rob_ids e1⟩, start, i, Ri, rfl, hB, hst, hi⟩, fun v H2 e2 ⟨p, a, b, c⟩ => ⟨p, a, fresh_back e1 b, c⟩⟩
        · obtain ⟨p5, rfl, np5, T5⟩ := r5
          generalize hfr : nextStates S (SG.rounds S start i).2 (SG.rounds S start i).1 (i + 1) = fr at *
          have ne5 : p5 ≠ pf := fun z => hp1 (by rw [← z]; exact np5)
          have ne5l : p5 ≠ pl := fun z => by rw [z, hwl] at np5; cases np5
          obtain ⟨kvs, D5, al5⟩ := T5.ex
          obtain ⟨o5, ho5⟩ := D5.obj
          have Tf5 := q2.exx rob_ids e5
          obtain ⟨uf, huf⟩ : ∃ uf, H5 pf = some uf ∧ tupK uf = false ∧ nlK uf = true := by
            obtain ⟨_, D, _⟩ := Tf5.ex
            obtain ⟨o, ho⟩ := D.obj
            exact ⟨_, ho, rfl, rfl⟩
          have nefl : pf ≠ pl := fun z => by
            have := huf.1
            rw [z, e5 _ _ hwl] at this
            cases this
            exact absurd huf.2.2 (by simp [nlK])
          refine q_forE (ev_var rfl) ho5 (fun j σ' H' => ExB pf H5 H' ∧ TabA skV Rids P w H' pf ((fr.take j).foldl (fun f p => put f p.1 p.2) (SG.rounds S start i).1) ∧ ((fr.take j).foldl (fun f p => put f p.1 p.2) (SG.rounds S start i).1).length ≤ (SG.rounds S start i).1.length + j ∧ ∃ a6, σ' = [some vs, some (.int start), some (.ref pf), some (.ref pl), some (.int ((i + 1 : Nat) : Int)), some (.ref p5), a6])
            (fun H6 e6 => ⟨ExB.ex e6, by simpa using Tf5.exx rob_ids e6, by simp, _, rfl⟩) (fun j σ' H' _ q => q.1 _ _ ho5 ne5) (fun j kk tt vv σ6 H6 hj q => ?_) (fun σ6 H6 q => ?_)
          · obtain ⟨g1, g2, g3, a6, rfl⟩ := q
            obtain ⟨kp, hkp, ek, rv⟩ := paired_get al5 hj
            obtain ⟨k', L⟩ := kp
            have hlk : look fr k' = some L := look_get Fi.nd hkp
            have ktup : KP tupK H5 H6 := g1.kp huf.1 huf.2.1
            have hjl : j < fr.length := (List.getElem?_eq_some_iff.mp hkp).1
            have hkey : H6 tt = some (.tup (skV k')) := by
              have := (D5.key _ (List.mem_of_getElem? hj)).1
              have := ktup _ _ this rfl
              rw [show kk = skV k' from ek] at this
              exact this
            have T56 := T5.off rob_ids huf.1 huf.2.1 ne5 g1
            refine s_putE key_sk rob_ids (b := L) g2 (ev_var rfl) (er_var rfl fun H' e' => ⟨tt, rfl, e' _ _ hkey⟩) (er_gt key_sk rob_ids T56 (ev_var rfl) (er_var rfl fun H' e' => ⟨tt, rfl, e' _ _ hkey⟩) hlk) (by omega) fun H7 b7 T7 => ?_
            have et : fr.take (j + 1) = fr.take j ++ [(k', L)] := by rw [List.take_add_one, hkp]; rfl
            refine ⟨g1.trans b7, ?_, ?_, _, rfl⟩
            · rw [et, List.foldl_append]
              exact T7
            · rw [et, List.foldl_append]
              have := put_len ((fr.take j).foldl (fun f p => put f p.1 p.2) (SG.rounds S start i).1) k' L
              show (put _ k' L).length ≤ _
              omega
          · obtain ⟨g1, g2, g3, a6, rfl⟩ := q
            have elen : kvs.length = fr.length := Paired.length al5
            rw [elen, List.take_length] at g2
            have ktup : KP tupK H5 H6 := g1.kp huf.1 huf.2.1
            have hwl6 : H6 pl = some (.lst wl) := g1 _ _ (e5 _ _ hwl) (Ne.symm nefl)
            have T56 := T5.off rob_ids huf.1 huf.2.1 ne5 g1
            obtain ⟨kvs6, D6, al6⟩ := T56.ex
            refine ⟨_, rfl, Or.inl ⟨rfl, wl, sq_of hwl6⟩, _, rfl, p5, kvs6, rfl, D6, fun q hq => ?_⟩
            have ll := alL.length
            have lr : (SG.rounds S start i).2.length = i + 1 := Ri.len
            have e7 : Ex H6 (upd H6 q (.lst (kvs6.map fun x => .ref x.2.1))) := Ex.new hq
            have nql : q ≠ pl := fun z => by rw [z, hwl6] at hq; cases hq
            refine ⟨pl, wl, .ref q, rfl, rfl, e7 _ _ hwl6, by rw [ll, lr]; exact sz_lt (by omega), ?_⟩
            have b8 : ExB pl (upd H6 q (.lst (kvs6.map fun x => .ref x.2.1))) (upd (upd H6 q (.lst (kvs6.map fun x => .ref x.2.1))) pl (.lst (wl ++ [.ref q]))) := .upd
            have k8 := b8.kp (keep := tupK) (e7 _ _ hwl6) rfl
            have alQ : ∀ (l : KVs) (m : Tab), Paired (fun (e : List V × Addr × V) (p : SK × List Nat) => e.1 = skV p.1 ∧ Rids p.2 e.2.2 H6) l m → (∀ x ∈ l, H6 x.2.1 = some (.tup x.1)) → All Rsk H6 (l.map fun x => .ref x.2.1) (m.map (·.1)) := by
              intro l m hp
              induction hp with
              | nil => exact fun _ => .nil
              | @cons e p es ps r _ ih =>
                intro hh
                exact .cons ⟨e.2.1, rfl, by rw [← r.1]; exact hh e List.mem_cons_self⟩ (ih fun x hx => hh x (List.mem_cons_of_mem _ hx))
            have aq := alQ kvs6 fr al6 fun x hx => (D6.key x hx).1
            refine ⟨ExB.ex0 ((ExB.ex0 (q1.trans e5) hpf g1).trans e7) hpl0 b8, ?_, ⟨_, upd_same, ?_⟩, _, _, _, rfl⟩
            · rw [esc]
              have := (g2.exx rob_ids e7).off rob_ids (e7 _ _ hwl6) rfl nefl b8
              unfold SG.round
              rw [hfr]
              exact this
            · rw [esc]
              unfold SG.round
              rw [hfr]
              refine All.append (rlq_mono (H := H5) (fun q us ne hq' => ?_) (ktup.trans ((KP.ex e7).trans k8)) (rlq_ex e5 alL)) (.cons ⟨q, _, rfl, nql, ?_, aq.kp rob_sk ((KP.ex e7).trans k8)⟩ .nil)
              · have n1 : q ≠ pf := fun z => by
                  have := huf.1
                  rw [← z, hq'] at this
                  cases this
                  exact absurd huf.2.2 (by simp [nlK])
                exact b8 _ _ (e7 _ _ (g1 _ _ hq' n1)) ne
              · exact b8 _ _ upd_same nql
      · obtain ⟨q1, q2, ⟨wl, hwl, alL⟩, a4, a5, a6, rfl⟩ := q
        exact s_retR (er_is (ev_var rfl)) fun v H5 e5 r => by
          rw [show v = _ from r]
          exact k _ H5 (q1.trans e5) ⟨pf, rfl, q2.exx rob_ids e5⟩
end
end L2.SD

/-! B3: chains.py, what is made of the tables -/
set_option Elab.async false
set_option linter.all false
set_option maxRecDepth 100000
set_option maxHeartbeats 2000000
namespace L2.SD
open PySem PySem.Spec PyProof.Rows Evl
open Stratigraphy (Fact lowerYearBound upperYearBound stepsOf)
open SG (SK Tab look put pyLt minT Bd RInv chainsFrom anyCh strictCh prefMin agBegin agEnd contrM VEnt VFact)

def Roc (o : Option (List Nat)) : V → Hp → Prop := fun v H => match o with
  | some L => Rids L v H
  | none => v = .non
theorem rob_oc : Rob tupK Roc := fun o v H H' k h => by
  cases o with
  | none => exact h
  | some L => exact rob_ids L v H H' k h
def Rpc (L : List Nat) : V → Hp → Prop := fun v H => ∃ t i, v = .ref t ∧ H t = some (.tup [.int L.length, .ref i]) ∧ H i = some (.tup (idV L))
theorem rob_pc : Rob tupK Rpc := fun L v H H' k ⟨t, i, e, h, g⟩ => ⟨t, i, e, k t _ h rfl, k i _ g rfl⟩
theorem dpall_ids {K : PySem.W.Frag} {H : Hp} : ∀ {ws : List V} {ls : List (List Nat)}, All Rids H ws ls → DpAll K H ws (ls.map dIds)
  | _, _, .nil => .nil
  | _, _, .cons r t => by
    obtain ⟨i, e, h⟩ := r
    subst e
    exact .cons (dp_ids h) (dpall_ids t)
theorem dpall_pc {K : PySem.W.Frag} {H : Hp} : ∀ {ws : List V} {ls : List (List Nat)}, All Rpc H ws ls → DpAll K H ws (ls.map dPair)
  | _, _, .nil => .nil
  | _, _, .cons r t => by
    obtain ⟨t1, i, e, h, g⟩ := r
    subst e
    exact .cons (.tup (st_of h) (.cons (.int _) (.cons (dp_ids g) .nil))) (dpall_pc t)
theorem lay_ints : ∀ l : List Nat, PyData.canLayAll0 (l.map fun (n : Nat) => .int n) = true
  | [] => rfl
  | _ :: l => by
    have := lay_ints l
    simp only [List.map_cons, PyData.canLayAll0, PyData.canLay0, this]
    rfl
theorem lay_ids : ∀ ls : List (List Nat), PyData.canLayAll0 (ls.map dIds) = true
  | [] => rfl
  | l :: ls => by
    have := lay_ids ls
    have h2 := lay_ints l
    simp only [List.map_cons, PyData.canLayAll0, dIds, PyData.canLay0, h2]
    exact this
theorem shaped_ids (ls : List (List Nat)) : SeqAt.shaped (.list (ls.map dIds)) = true := by
  unfold SeqAt.shaped
  rw [Bool.and_eq_true]
  refine ⟨by simp only [PyData.canLay0]; exact lay_ids ls, decide_eq_true ?_⟩
  have := depth_all (f := dIds) (k := 1) (fun l => Nat.le_of_eq (depth_ids l)) ls
  simp only [PyData.depth]
  omega
/-- l != [] -/
theorem ev_some {K : PySem.W.Frag} {σ : St} {H : Hp} {te : TE} {α : Type} {A : α → V → Hp → Prop} {d : α → PyData} {ls : List α} (r : Rob nlK A) (h : EvR te σ H (LR A ls)) (hd : ∀ H1 ws, All A H1 ws ls → DpAll K H1 ws (ls.map d)) (hs : SeqAt.shaped (.list (ls.map d)) = true) : EvT (tTest (tOp (rNeD K) te (tLst tNil))) σ H (!ls.isEmpty) := fun H1 e1 Q q =>
  h H1 e1 _ fun v H2 e2 r2 => ⟨Nat.zero_le _, fun p hp => by
    obtain ⟨l, ws, rfl, hl, al⟩ := r2.ex r (Ex.new (o := .lst []) hp)
    refine ⟨.list (ls.map d), .list [], .lst (sq_of hl) (hd _ _ al), .lst (sq_of upd_same) .nil, hs, by decide, _, rfl, ?_⟩
    have : PyData.eqv (.list (ls.map d)) (.list []) = ls.isEmpty := by
      cases ls with
      | nil => rfl
      | cons x l => simp [PyData.eqv, PyData.eqvAll]
    rw [this]
    exact q _ (e2.trans (Ex.new hp))⟩
/-- min of a list whose things stand for data -/
theorem er_minL {K : PySem.W.Frag} {σ : St} {H : Hp} {te : TE} {α : Type} {A : α → V → Hp → Prop} {d : α → PyData} {lt : α → α → Bool} {x : α} {ls : List α} (h : EvR te σ H (LR A (x :: ls))) (hd : ∀ H1 ws, All A H1 ws (x :: ls) → DpAll K H1 ws ((x :: ls).map d))
    (ha : ∀ a b, PySem.W.alike (d a) (d b) = true) (hn : ∀ a, d a ≠ .none) (hk : ∀ a, (d a).depth ≤ 60) (hlt : ∀ a b, PySem.W.dataLt (d a) (d b) = lt a b) (hi : ∀ a b, d a = d b → a = b) :
    EvR (tCB (rMinL K) (tCons te tNil)) σ H (A (ls.foldl (fun a y => if lt y a = true then y else a) x)) := er_cb (ear_1 h) fun vs H1 e1 s Q q => by
  obtain ⟨v, rfl, l, ws, rfl, hl, al⟩ := s
  refine ⟨l, ws, d x, ls.map d, rfl, sq_of hl, hd _ _ al, ⟨fun a ha' b hb' => ?_, fun a ha' => ?_⟩, depth_all hk (x :: ls), fun i y hy hm => ?_⟩
  · obtain ⟨a, _, rfl⟩ := List.mem_map.mp (show a ∈ (x :: ls).map d from ha')
    obtain ⟨b, _, rfl⟩ := List.mem_map.mp (show b ∈ (x :: ls).map d from hb')
    exact ha a b
  · obtain ⟨a, _, rfl⟩ := List.mem_map.mp (show a ∈ (x :: ls).map d from ha')
    exact hn a
  · obtain ⟨c, hc, rc⟩ := al.get hy
    rw [minD_map hlt] at hm
    have hm' : ((x :: ls).map d)[i]? = some (d (ls.foldl (fun a y => if lt y a = true then y else a) x)) := hm
    rw [List.getElem?_map, hc] at hm'
    have := hi _ _ (Option.some.inj hm')
    subst this
    exact q _ H1 (Ex.refl _) rc
theorem ints_inj : ∀ {a b : List Nat}, a.map (fun (n : Nat) => PyData.int n) = b.map (fun (n : Nat) => PyData.int n) → a = b
  | [], [], _ => rfl
  | [], y :: b, h => by simp at h
  | x :: a, [], h => by simp at h
  | x :: a, y :: b, h => by
    simp only [List.map_cons, List.cons.injEq, PyData.int.injEq] at h
    rw [ints_inj h.2, show x = y by omega]
theorem ids_inj {a b : List Nat} (h : dIds a = dIds b) : a = b := ints_inj (PyData.tuple.inj h)
theorem pair_inj {a b : List Nat} (h : dPair a = dPair b) : a = b := by
  unfold dPair at h
  have h := PyData.tuple.inj h
  simp only [List.cons.injEq] at h
  exact ids_inj h.2.1
def spPref : Sp := spP (α := V × List (List Nat)) (fun a => [a.1]) (fun a H => LR Rids a.2 a.1 H ∧ a.2.length ≤ 10000) (fun a v H => Roc (prefMin a.2) v H)
abbrev s_preferred : Stmt := topS 18
theorem sc_preferred : FnScope ["chains", "chain"] ["chains"] (defScope s_preferred) := ⟨rfl, rfl, rfl, by decide +kernel, rfl, by decide +kernel, by decide +kernel⟩
section
variable {P : Program} {w : World} {K : PySem.W.Frag} {mg : Str → Option Value} {base : Heap} {CF CO CS aA aU f : Addr} {fd : FuncData}
theorem ok_preferred (F : Fun K "preferred" "preferred" s_preferred f fd) (T : Txt K mg CF CO CS aA aU) : FnOk P w K mg base CX0 1 f fd ["chains"] spPref := by
  refine F.ok sc_preferred (fun vs H Q E h => ?_) (fun cdv A outer s H vs Q E hr h => ?_)
  · obtain ⟨a, rfl, _⟩ := h
    rfl
  · obtain ⟨⟨v, ls⟩, rfl, ⟨hl, hz⟩, k⟩ := h
    have hz : ls.length ≤ 10000 := hz
    have hl : LR Rids ls v H := hl
    refine ⟨_, (pss_one (ps_ret (pe_ifExp (pt_cmpR (op_neD hr.units) (pv 0) (pe_lst pa_nil) (nomark _)) (pe_ix ix_tup (pe_callB (cr_minL rfl hr.units) (by rfl) T.min (by decide +kernel) (pa_cons (pe_lc (own := [("chain", 1)]) (g := gName 1) (tt := tYes) (te := (tTup (tCons (tCB (rLenS K) (tCons (tVar 1) tNil)) (tCons (tVar 1) tNil)))) rfl sc_preferred.nd (pi_list (pv 0)) (blkOk_by (own := [("chain", 1)]) (N := ["chains", "chain"]) (sc := defScope s_preferred) (by decide +kernel)) (fun _ _ _ _ _ => (pg_name (i := 1) sc_preferred.nd rfl (.inl rfl))) (fun _ _ _ _ _ => pts_nil) (fun _ _ _ _ _ => (pe_tup (pa_cons (pe_callB call_len_seq (by rfl) T.len PySem.boot_len (pa_cons (pv 1) pa_nil)) (pa_cons (pv 1) pa_nil))))) pa_nil)) pe_int (fun _ _ => rfl)) pe_non))), ?_⟩
    refine s_retR (R := Roc (prefMin ls)) (er_if (b := !ls.isEmpty) (ev_some (d := dIds) rob_ids.weak (er_var rfl fun H' e => hl.ex rob_ids e) (fun _ _ h => dpall_ids h) (shaped_ids ls)) (fun hb => ?_) (fun hb => ?_)) fun v H1 e r => k v H1 e r
    · cases ls with
      | nil => cases hb
      | cons x ls =>
        have hlc : EvR (tLc (iList K (tVar 0)) (gName 1) tYes (tTup (tCons (tCB (rLenS K) (tCons (tVar 1) tNil)) (tCons (tVar 1) tNil))) [1]) [some v, none] H (LR Rpc ((x :: ls).filterMap some)) := er_lcL rob_ids.weak rob_pc.weak some (er_var rfl fun H' e => hl.ex rob_ids e) (by omega) (fun x => rfl) (fun c x H1 hc e1 rc => fun H2 e2 Q2 q2 => q2 H2 (Ex.refl _)) (fun c x b H1 hc e1 rc hb => ?_)
        · rw [List.filterMap_some] at hlc
          refine er_op (er_minL hlc (fun _ _ h => dpall_pc h) alike_pair (fun a => by unfold dPair; simp) (fun a => by rw [depth_pair]; decide) lt_pair (fun a b => pair_inj)) (stb_rob rob_pc _) (er_is ev_c) fun a b H1 e1 ra rb Q q => ?_
          obtain ⟨t, i, rfl, ht, hi⟩ := ra
          obtain rfl : b = .int 1 := rb
          exact ⟨t, _, 1, _, rfl, rfl, st_of ht, atI_nat (j := 1) rfl, q _ H1 (Ex.refl _) ⟨i, rfl, hi⟩⟩
        · obtain rfl : c = b := Option.some.inj hb
          obtain ⟨i, rfl, hi⟩ := rc
          refine (er_U (eu_tup (ea_cons (ev_lenT (ev_var rfl) (st_of hi)) (ea_cons (ev_var rfl) ea_nil)) (by decide : 2 ≤ 100000))).weak fun v H' e ⟨p, ev, hp⟩ => ⟨p, i, ev, ?_, e _ _ hi⟩
          rw [hp]
          simp [idV]
    · cases ls with
      | nil => exact er_of ev_c fun _ _ => rfl
      | cons x ls => cases hb
end
/-- [elt for x in t if test], t a tuple -/
theorem er_lcT {K : PySem.W.Frag} {σ : St} {H : Hp} {tl te : TE} {tt : TT} {γ β : Type} {A : γ → V → Hp → Prop} {B : β → V → Hp → Prop} {es : List γ} {j : Nat} {vs : List Nat} (rA : ∀ c, Stb (A c)) (rB : Rob nlK B) (f : γ → Option β)
    (hl : EvR tl σ H (fun v H => ∃ a xs, v = .ref a ∧ H a = some (.tup xs) ∧ All A H xs es)) (hz : es.length ≤ 100000) (hw : ∀ x, wipe ((wipe σ vs).set j (some x)) vs = wipe σ vs)
    (ht : ∀ c x H1, c ∈ es → Ex H H1 → A c x H1 → EvT tt ((wipe σ vs).set j (some x)) H1 (f c).isSome) (he : ∀ c x b H1, c ∈ es → Ex H H1 → A c x H1 → f c = some b → EvR te ((wipe σ vs).set j (some x)) H1 (B b)) :
    EvR (tLc (iTup K tl) (gName j) tt te vs) σ H (LR B (es.filterMap f)) := fun H0 e0 Q q => hl H0 e0 _ fun v H1 e1 r => by
  obtain ⟨a, xs, rfl, hx, al⟩ := r
  refine ⟨a, rfl, ⟨xs, st_of hx⟩, fun D hD => ?_⟩
  refine lc_tup (xs := xs) (fun i H' => Ex H1 H' ∧ ∃ ws, H' D = some (.lst ws) ∧ All B H' ws ((es.take i).filterMap f) ∧ ws.length ≤ i) ⟨Ex.new hD, [], upd_same, .nil, Nat.zero_le _⟩ (fun i H' _ p => st_of (p.1 _ _ hx)) (fun i x H' hi p => ?_) fun H' p => ?_
  · obtain ⟨p1, ws, p2, p3, p4⟩ := p
    refine ⟨hw x, ?_⟩
    obtain ⟨c, hc, rc⟩ := al.get hi
    have hm : c ∈ es := List.mem_of_getElem? hc
    have hlt : i < es.length := (List.getElem?_eq_some_iff.mp hc).1
    have rc' : A c x H' := rA c _ _ _ p1 rc
    refine ht c x H' hm ((e0.trans e1).trans p1) rc' H' (Ex.refl _) _ fun H3 e3 => ?_
    have es' : (es.take (i + 1)).filterMap f = (es.take i).filterMap f ++ (f c).toList := by
      rw [List.take_add_one, hc, List.filterMap_append]
      cases hf : f c <;> simp [hf]
    rw [es']
    cases hf : f c with
    | some b =>
      rw [if_pos (by rfl)]
      refine he c x b H' hm ((e0.trans e1).trans p1) rc' hf H3 e3 _ fun y H4 e4 ry => ⟨ws, e4 _ _ (e3 _ _ p2), by rw [sizeLine_eq]; omega, ?_, ?_⟩
      · exact Ex.mut ((p1.trans e3).trans e4) hD
      · exact ⟨_, upd_same, ((p3.ex rB (e3.trans e4)).snoc ry).kp rB (KP.upd (e4 _ _ (e3 _ _ p2)) rfl), by simp; omega⟩
    | none =>
      rw [if_neg (by simp)]
      exact ⟨p1.trans e3, ws, e3 _ _ p2, by simpa using p3.ex rB e3, by omega⟩
  · obtain ⟨p1, ws, p2, p3, _⟩ := p
    rw [al.length, List.take_length] at p3
    exact q _ H' (e1.trans p1) ⟨D, ws, rfl, p2, p3⟩
/-- a tuple of two things told of -/
theorem er_two {σ : St} {H : Hp} {t1 t2 : TE} {γ : Type} {A : γ → V → Hp → Prop} {a b : γ} (rA : ∀ c, Stb (A c)) (h1 : EvR t1 σ H (A a)) (h2 : EvR t2 σ H (A b)) : EvR (tTup (tCons t1 (tCons t2 tNil))) σ H (fun v H => ∃ p xs, v = .ref p ∧ H p = some (.tup xs) ∧ All A H xs [a, b]) := fun H0 e0 Q q =>
  h1 H0 e0 _ fun x H1 e1 r1 => h2 H1 (e0.trans e1) _ fun y H2 e2 r2 => ⟨sz_of (by decide : 2 ≤ 100000), fun p hp => q _ _ ((e1.trans e2).trans (Ex.new hp)) ⟨p, _, rfl, upd_same, .cons (rA a _ _ _ (e2.trans (Ex.new hp)) r1) (.cons (rA b _ _ _ (Ex.new hp) r2) .nil)⟩⟩
theorem er_sk {σ : St} {H : Hp} {t1 : TE} {v : Nat} {b : Bool} (h1 : Ev t1 σ H (.int v)) : EvR (tTup (tCons t1 (tCons (tC (.bl b)) tNil))) σ H (Rkey skV (v, b)) := er_U (eu_tup (ea_cons h1 (ea_cons ev_c ea_nil)) (by decide : 2 ≤ 100000))
def spOn (P : Program) (w : World) (g : Tab → Nat → List (List Nat)) : Sp := spP (α := V × Tab × Nat) (fun a => [a.1, .int a.2.2]) (fun a H => ∃ p, a.1 = .ref p ∧ TabA skV Rids P w H p a.2.1) (fun a v H => LR Rids (g a.2.1 a.2.2) v H)
abbrev s_any_chains : Stmt := topS 19
theorem sc_any_chains : FnScope ["found", "unit", "state"] ["found", "unit"] (defScope s_any_chains) := ⟨rfl, rfl, rfl, by decide +kernel, rfl, by decide +kernel, by decide +kernel⟩
abbrev s_strict_chains : Stmt := topS 20
theorem sc_strict_chains : FnScope ["found", "unit"] ["found", "unit"] (defScope s_strict_chains) := ⟨rfl, rfl, rfl, by decide +kernel, rfl, by decide +kernel, by decide +kernel⟩
section
variable {P : Program} {w : World} {K : PySem.W.Frag} {mg : Str → Option Value} {base : Heap} {CF CO CS aA aU f : Addr} {fd : FuncData}
theorem ok_any_chains (F : Fun K "any_chains" "any_chains" s_any_chains f fd) (T : Txt K mg CF CO CS aA aU) : FnOk P w K mg base CX0 1 f fd ["found", "unit"] (spOn P w anyCh) := by
  refine F.ok sc_any_chains (fun vs H Q E h => ?_) (fun cdv A outer s H vs Q E hr h => ?_)
  · obtain ⟨a, rfl, _⟩ := h
    rfl
  · obtain ⟨⟨v, t, u⟩, rfl, ⟨p, rfl, Tt⟩, k⟩ := h
    refine ⟨_, (pss_one (ps_ret (pe_lc (own := [("state", 2)]) (g := gName 2) (tt := (tTest (tInE P w (tVar 2) (tVar 0)))) (te := (tGt P w (tVar 0) (tVar 2))) rfl sc_any_chains.nd (pi_tup (pe_tup (pa_cons (pe_tup (pa_cons (pv 1) (pa_cons pe_bl pa_nil))) (pa_cons (pe_tup (pa_cons (pv 1) (pa_cons pe_bl pa_nil))) pa_nil)))) (blkOk_by (own := [("state", 2)]) (N := ["found", "unit", "state"]) (sc := defScope s_any_chains) (by decide +kernel)) (fun _ _ _ _ _ => (pg_name (i := 2) sc_any_chains.nd rfl (.inl rfl))) (fun _ _ _ _ _ => pts_one (pt_cmp (pc_inE (hu_of hr) (pv 2) (pv 0)) rfl)) (fun _ _ _ _ _ => (pe_gt (hu_of hr) (pv 0) (pv 2) (fun _ _ => rfl)))))), ?_⟩
    have Tt : TabA skV Rids P w H p t := Tt
    refine s_retR (er_lcT (A := Rkey skV) (es := [(u, false), (u, true)]) (fun c => stb_key) rob_ids.weak (look t) (er_two (fun c => stb_key) (er_sk (ev_var rfl)) (er_sk (ev_var rfl))) (by show 2 ≤ 100000; decide) (fun x => rfl) (fun c x H1 hc e1 rc => ?_) (fun c x b H1 hc e1 rc hb => ?_)) fun v H1 e r => k v H1 e r
    · exact et_B (et_in key_sk rob_ids (Tt.exx rob_ids e1) (ev_var rfl) (er_var rfl fun H' e => stb_key _ _ _ e rc))
    · exact er_gt key_sk rob_ids (Tt.exx rob_ids e1) (ev_var rfl) (er_var rfl fun H' e => stb_key _ _ _ e rc) hb
theorem ok_strict_chains (F : Fun K "strict_chains" "strict_chains" s_strict_chains f fd) (T : Txt K mg CF CO CS aA aU) : FnOk P w K mg base CX0 1 f fd ["found", "unit"] (spOn P w strictCh) := by
  refine F.ok sc_strict_chains (fun vs H Q E h => ?_) (fun cdv A outer s H vs Q E hr h => ?_)
  · obtain ⟨a, rfl, _⟩ := h
    rfl
  · obtain ⟨⟨v, t, u⟩, rfl, ⟨p, rfl, Tt⟩, k⟩ := h
    refine ⟨_, (pss_one (ps_ret (pe_ifExp (pt_cmp (pc_inE (hu_of hr) (pe_tup (pa_cons (pv 1) (pa_cons pe_bl pa_nil))) (pv 0)) rfl) (pe_lst (pa_cons (pe_gt (hu_of hr) (pv 0) (pe_tup (pa_cons (pv 1) (pa_cons pe_bl pa_nil))) (fun _ _ => rfl)) pa_nil)) (pe_lst pa_nil)))), ?_⟩
    have Tt : TabA skV Rids P w H p t := Tt
    refine s_retR (R := LR Rids (strictCh t u)) (er_if (b := (look t (u, true)).isSome) (et_B (et_in key_sk rob_ids Tt (ev_var rfl) (er_sk (ev_var rfl)))) (fun hb => ?_) (fun hb => ?_)) fun v H1 e r => k v H1 e r
    · obtain ⟨L, hL⟩ := Option.isSome_iff_exists.mp hb
      unfold SG.strictCh
      rw [hL]
      exact er_lst rob_ids.weak (by show 1 ≤ 100000; decide) ((ear_1 (er_gt key_sk rob_ids Tt (ev_var rfl) (er_sk (ev_var rfl)) hL)).weakA fun us H' e' r => by
        obtain ⟨v, rfl, r⟩ := r
        exact .cons r .nil)
    · have : look t (u, true) = none := by simpa using hb
      unfold SG.strictCh
      rw [this]
      exact er_lst rob_ids.weak (by show 0 ≤ 100000; decide) (ear_nil.weakA fun us H' e' r => by
        subst r
        exact .nil)
end
/-! ### explanations -/
theorem fm_some {α β : Type} (g : α → β) (l : List α) : (l.filterMap fun x => some (g x)) = l.map g := List.filterMap_eq_map ▸ rfl
theorem chains_len {S : List Stratigraphy.Step} {start : Nat} (hB : Bd S 12) {k : SK} {L : List Nat} (h : look (chainsFrom S start) k = some L) : L.length ≤ 48 := ((SG.rounds_inv (fun st h => (hB st h).2.2.2) (start := start) 48).snd k L h).2
theorem anyCh_len (t : Tab) (v : Nat) : (anyCh t v).length ≤ 2 := List.length_filterMap_le _ _
theorem strictCh_len (t : Tab) (v : Nat) : (strictCh t v).length ≤ 1 := by
  unfold SG.strictCh
  cases look t (v, true) <;> simp
theorem anyCh_mem_len {S : List Stratigraphy.Step} {start : Nat} (hB : Bd S 12) {v : Nat} {L : List Nat} (h : L ∈ anyCh (chainsFrom S start) v) : L.length ≤ 48 := (SG.mem_anyCh.mp h).elim (chains_len hB) (chains_len hB)
theorem flatMap_len {α β : Type} (m : Nat) (g : α → List β) (h : ∀ c, (g c).length ≤ m) : ∀ l : List α, (l.flatMap g).length ≤ l.length * m
  | [] => by simp
  | y :: l => by
    rw [List.flatMap_cons, List.length_append, List.length_cons, Nat.succ_mul]
    have := flatMap_len m g h l
    have := h y
    omega
theorem agBegin_len (es : List (Nat × Fact)) (t : Tab) (year : Int) : (agBegin es t year).length ≤ es.length * 2 := flatMap_len 2 _ (fun e => by
  split
  · split
    · rw [List.length_map]; exact anyCh_len _ _
    · simp
  · simp) es
theorem agEnd_len (es : List (Nat × Fact)) (u : Nat) (year : Int) : (agEnd es u year).length ≤ es.length * 2 := flatMap_len 2 _ (fun e => by
  split
  · split
    · rw [List.length_map]; exact anyCh_len _ _
    · simp
  · simp) es
/-- a call of a def whose promise speaks of a dict and a unit -/
theorem er_on {σ : St} {H : Hp} {t1 t2 : TE} {P : Program} {w : World} {g : Tab → Nat → List (List Nat)} {t : Tab} {u : Nat} (h1 : EvR t1 σ H (fun v H => ∃ p, v = .ref p ∧ TabA skV Rids P w H p t)) (h2 : Ev t2 σ H (.int u)) : EvR (tCall (spOn P w g) [] E0 (tCons t1 (tCons t2 tNil))) σ H (LR Rids (g t u)) :=
  er_call (ear_cons h1 (fun v H H' e ⟨p, a, b⟩ => ⟨p, a, b.exx rob_ids e⟩) (ear_is (ea_cons h2 ea_nil))) fun vs H1 e1 s => by
    obtain ⟨v, r, rfl, r1, rfl⟩ := s
    exact ⟨(v, t, u), rfl, r1, fun v H2 e2 h => h⟩
theorem er_chains {σ : St} {H : Hp} {t1 t2 : TE} {P : Program} {w : World} {S : List Stratigraphy.Step} {u : Nat} (h1 : EvR t1 σ H (LR Rstep S)) (h2 : Ev t2 σ H (.int u)) (hB : Bd S 12) (hu : u < 12) : EvR (tCall (spChains P w) [] E0 (tCons t1 (tCons t2 tNil))) σ H (fun v H => ∃ p, v = .ref p ∧ TabA skV Rids P w H p (chainsFrom S u)) :=
  er_call (ear_cons h1 (stb_lr rob_step S) (ear_is (ea_cons h2 ea_nil))) fun vs H1 e1 s => by
    obtain ⟨v, r, rfl, r1, rfl⟩ := s
    exact ⟨(v, S, u), rfl, ⟨r1, hB, hu⟩, fun v H2 e2 h => h⟩
theorem er_pref {σ : St} {H : Hp} {t1 : TE} {ls : List (List Nat)} (h1 : EvR t1 σ H (LR Rids ls)) (hz : ls.length ≤ 10000) : EvR (tCall spPref [] E0 (tCons t1 tNil)) σ H (Roc (prefMin ls)) :=
  er_call (ear_1 h1) fun vs H1 e1 s => by
    obtain ⟨v, rfl, r1⟩ := s
    exact ⟨(v, ls), rfl, ⟨r1, hz⟩, fun v H2 e2 h => h⟩
theorem er_steps {σ : St} {H : Hp} {t1 : TE} {CF : Addr} {es : List (Nat × Fact)} {g : List (Nat × Fact) → List Stratigraphy.Step} (h1 : EvR t1 σ H (LR (Rfact CF) es)) (hz : es.length ≤ 40) : EvR (tCall (spFS CF g) [] E0 (tCons t1 tNil)) σ H (LR Rstep (g es)) :=
  er_call (ear_1 h1) fun vs H1 e1 s => by
    obtain ⟨v, rfl, r1⟩ := s
    exact ⟨(v, es), rfl, ⟨r1, hz⟩, fun v H2 e2 h => h⟩
def spStrict (CF : Addr) : Sp := spP (α := V × List (Nat × Fact) × Nat × Nat) (fun a => [a.1, .int a.2.2.1, .int a.2.2.2]) (fun a H => Facts CF a.2.1 a.1 H ∧ VEnt 12 a.2.1 ∧ a.2.2.1 < 12 ∧ a.2.2.2 < 12)
  (fun a v H => Roc (Stratigraphy.strictChain (stepsOf a.2.1) a.2.2.1 a.2.2.2) v H)
def spAg (g : List Stratigraphy.Step → Nat → Nat → List (List Nat)) : Sp := spP (α := V × List Stratigraphy.Step × Nat × Nat) (fun a => [a.1, .int a.2.2.1, .int a.2.2.2]) (fun a H => LR Rstep a.2.1 a.1 H ∧ Bd a.2.1 12 ∧ a.2.2.1 < 12 ∧ a.2.2.2 < 12)
  (fun a v H => LR Rids (g a.2.1 a.2.2.1 a.2.2.2) v H)
def spAgB (CF : Addr) : Sp := spP (α := V × List (Nat × Fact) × V × List Stratigraphy.Step × Nat × Int) (fun a => [a.1, a.2.2.1, .int a.2.2.2.2.1, .int a.2.2.2.2.2]) (fun a H => Facts CF a.2.1 a.1 H ∧ VEnt 12 a.2.1 ∧ LR Rstep a.2.2.2.1 a.2.2.1 H ∧ Bd a.2.2.2.1 12 ∧ a.2.2.2.2.1 < 12)
  (fun a v H => LR Rids (agBegin a.2.1 (chainsFrom a.2.2.2.1 a.2.2.2.2.1) a.2.2.2.2.2) v H)
def spAgE (CF : Addr) : Sp := spP (α := V × List (Nat × Fact) × V × Nat × Int) (fun a => [a.1, a.2.2.1, .int a.2.2.2.1, .int a.2.2.2.2]) (fun a H => Facts CF a.2.1 a.1 H ∧ VEnt 12 a.2.1 ∧ LR Rstep (stepsOf a.2.1) a.2.2.1 H ∧ a.2.2.2.1 < 12)
  (fun a v H => LR Rids (agEnd a.2.1 a.2.2.2.1 a.2.2.2.2) v H)
def spCon (CF : Addr) : Sp := spP (α := V × List (Nat × Fact) × Fact) (fun a => [a.1, .int (fK a.2.2), .int (f1 a.2.2), .int (f2 a.2.2), .int (f3 a.2.2)]) (fun a H => Facts CF a.2.1 a.1 H ∧ VEnt 12 a.2.1 ∧ VFact 12 a.2.2)
  (fun a v H => Roc (contrM a.2.1 a.2.2) v H)
abbrev s_strict_chain : Stmt := topS 21
theorem sc_strict_chain : FnScope ["facts", "one", "other"] ["facts", "one", "other"] (defScope s_strict_chain) := ⟨rfl, rfl, rfl, by decide +kernel, rfl, by decide +kernel, by decide +kernel⟩
abbrev s_against_above : Stmt := topS 22
theorem sc_against_above : FnScope ["steps", "upper", "lower"] ["steps", "upper", "lower"] (defScope s_against_above) := ⟨rfl, rfl, rfl, by decide +kernel, rfl, by decide +kernel, by decide +kernel⟩
abbrev s_against_same : Stmt := topS 23
theorem sc_against_same : FnScope ["steps", "one", "other"] ["steps", "one", "other"] (defScope s_against_same) := ⟨rfl, rfl, rfl, by decide +kernel, rfl, by decide +kernel, by decide +kernel⟩
abbrev s_against_begin : Stmt := topS 24
theorem sc_against_begin : FnScope ["facts", "steps", "unit", "year", "found", "from_unit", "fact", "chain"] ["facts", "steps", "unit", "year"] (defScope s_against_begin) := ⟨rfl, rfl, rfl, by decide +kernel, rfl, by decide +kernel, by decide +kernel⟩
abbrev s_against_end : Stmt := topS 25
theorem sc_against_end : FnScope ["facts", "steps", "unit", "year", "found", "fact", "chains", "chain"] ["facts", "steps", "unit", "year"] (defScope s_against_end) := ⟨rfl, rfl, rfl, by decide +kernel, rfl, by decide +kernel, by decide +kernel⟩
abbrev s_contradiction : Stmt := topS 26
theorem sc_contradiction : FnScope ["facts", "kind", "first", "second", "third", "steps"] ["facts", "kind", "first", "second", "third"] (defScope s_contradiction) := ⟨rfl, rfl, rfl, by decide +kernel, rfl, by decide +kernel, by decide +kernel⟩
section
variable {P : Program} {w : World} {K : PySem.W.Frag} {mg : Str → Option Value} {base : Heap} {CF CO CS aA aU f : Addr} {fd : FuncData}
theorem ok_strict_chain (F : Fun K "strict_chain" "strict_chain" s_strict_chain f fd) (T : Txt K mg CF CO CS aA aU) (o_preferred : Own P w K mg base "preferred" 1 ["chains"] spPref) (o_strict_chains : Own P w K mg base "strict_chains" 1 ["found", "unit"] (spOn P w strictCh))
    (o_chains_from : Own P w K mg base "chains_from" 2 ["steps", "start"] (spChains P w)) (o_steps_of : Own P w K mg base "steps_of" 3 ["facts"] (spFS CF stepsOf)) : FnOk P w K mg base CX0 4 f fd ["facts", "one", "other"] (spStrict CF) := by
  refine F.ok sc_strict_chain (fun vs H Q E h => ?_) (fun cdv A outer s H vs Q E hr h => ?_)
  · obtain ⟨a, rfl, _⟩ := h
    rfl
  · obtain ⟨⟨v, es, a, b⟩, rfl, ⟨⟨hl, hz⟩, hV, ha, hb⟩, k⟩ := h
    refine ⟨_, (pss_one (ps_ret (pe_own o_preferred (hr.mono (by decide)) rfl (pa_cons (pe_own o_strict_chains (hr.mono (by decide)) rfl (pa_cons (pe_own o_chains_from (hr.mono (by decide)) rfl (pa_cons (pe_own o_steps_of (hr.mono (by decide)) rfl (pa_cons (pv 0) pa_nil)) (pa_cons (pv 1) pa_nil))) (pa_cons (pv 2) pa_nil))) pa_nil)))), ?_⟩
    have hB := SG.bd_stepsOf hV
    refine s_retR (er_pref (er_on (er_chains (er_steps (er_var rfl fun H' e => hl.ex (rob_fact CF) e) hz) (ev_var rfl) hB ha) (ev_var rfl)) (Nat.le_trans (strictCh_len _ _) (by decide))) fun v H1 e r => k v H1 e ?_
    rw [SG.strict_eq hV ha hb] at r
    exact r
theorem ok_against_above (F : Fun K "against_above" "against_above" s_against_above f fd) (T : Txt K mg CF CO CS aA aU) (o_any_chains : Own P w K mg base "any_chains" 1 ["found", "unit"] (spOn P w anyCh)) (o_chains_from : Own P w K mg base "chains_from" 2 ["steps", "start"] (spChains P w)) :
    FnOk P w K mg base CX0 3 f fd ["steps", "upper", "lower"] (spAg fun S a b => anyCh (chainsFrom S a) b) := by
  refine F.ok sc_against_above (fun vs H Q E h => ?_) (fun cdv A outer s H vs Q E hr h => ?_)
  · obtain ⟨a, rfl, _⟩ := h
    rfl
  · obtain ⟨⟨v, S, a, b⟩, rfl, ⟨hS, hB, ha, hb⟩, k⟩ := h
    refine ⟨_, (pss_one (ps_ret (pe_own o_any_chains (hr.mono (by decide)) rfl (pa_cons (pe_own o_chains_from (hr.mono (by decide)) rfl (pa_cons (pv 0) (pa_cons (pv 1) pa_nil))) (pa_cons (pv 2) pa_nil))))), ?_⟩
    exact s_retR (er_on (er_chains (er_var rfl fun H' e => hS.ex rob_step e) (ev_var rfl) hB ha) (ev_var rfl)) fun v H1 e r => k v H1 e r
theorem ok_against_same (F : Fun K "against_same" "against_same" s_against_same f fd) (T : Txt K mg CF CO CS aA aU) (o_strict_chains : Own P w K mg base "strict_chains" 1 ["found", "unit"] (spOn P w strictCh)) (o_chains_from : Own P w K mg base "chains_from" 2 ["steps", "start"] (spChains P w)) :
    FnOk P w K mg base CX0 3 f fd ["steps", "one", "other"] (spAg fun S a b => strictCh (chainsFrom S a) b ++ strictCh (chainsFrom S b) a) := by
  refine F.ok sc_against_same (fun vs H Q E h => ?_) (fun cdv A outer s H vs Q E hr h => ?_)
  · obtain ⟨a, rfl, _⟩ := h
    rfl
  · obtain ⟨⟨v, S, a, b⟩, rfl, ⟨hS, hB, ha, hb⟩, k⟩ := h
    refine ⟨_, (pss_one (ps_ret (pe_op op_cat (pe_own o_strict_chains (hr.mono (by decide)) rfl (pa_cons (pe_own o_chains_from (hr.mono (by decide)) rfl (pa_cons (pv 0) (pa_cons (pv 1) pa_nil))) (pa_cons (pv 2) pa_nil))) (pe_own o_strict_chains (hr.mono (by decide)) rfl (pa_cons (pe_own o_chains_from (hr.mono (by decide)) rfl (pa_cons (pv 0) (pa_cons (pv 2) pa_nil))) (pa_cons (pv 1) pa_nil)))))), ?_⟩
    refine s_retR (er_cat rob_ids.weak ?_ (er_on (er_chains (er_var rfl fun H' e => hS.ex rob_step e) (ev_var rfl) hB ha) (ev_var rfl)) (er_on (er_chains (er_var rfl fun H' e => hS.ex rob_step e) (ev_var rfl) hB hb) (ev_var rfl))) fun v H1 e r => k v H1 e r
    have := strictCh_len (chainsFrom S a) b
    have := strictCh_len (chainsFrom S b) a
    show (strictCh (chainsFrom S a) b).length + (strictCh (chainsFrom S b) a).length ≤ 100000
    omega
theorem TabA.ne {H : Hp} {d p : Addr} {t : Tab} {xs : List V} (Tt : TabA skV Rids P w H d t) (hp : H p = some (.lst xs)) : d ≠ p := fun z => by
  obtain ⟨_, D, _⟩ := Tt.ex
  obtain ⟨o, ho⟩ := D.obj
  rw [z, hp] at ho
  exact nomatch (Option.some.inj ho)
def begG (t : Tab) (year : Int) (e : Nat × Fact) : List (List Nat) := match upperYearBound e.2 with
  | some hi => if hi.2 < year then (anyCh t hi.1).map (· ++ [e.1]) else []
  | none => []
theorem begG_len (t : Tab) (year : Int) (e : Nat × Fact) : (begG t year e).length ≤ 2 := by
  unfold begG
  split
  · split
    · rw [List.length_map]; exact anyCh_len _ _
    · simp
  · simp
theorem ok_against_begin (F : Fun K "against_begin" "against_begin" s_against_begin f fd) (T : Txt K mg CF CO CS aA aU) (o_any_chains : Own P w K mg base "any_chains" 1 ["found", "unit"] (spOn P w anyCh)) (o_chains_from : Own P w K mg base "chains_from" 2 ["steps", "start"] (spChains P w)) :
    FnOk P w K mg base CX0 3 f fd ["facts", "steps", "unit", "year"] (spAgB CF) := by
  refine F.ok sc_against_begin (fun vs H Q E h => ?_) (fun cdv A outer s H vs Q E hr h => ?_)
  · obtain ⟨a, rfl, _⟩ := h
    rfl
  · obtain ⟨⟨vf, es, vs, S, u, year⟩, rfl, ⟨⟨hl, hz⟩, hV, hS, hB, hu⟩, k⟩ := h
    have hz : es.length ≤ 40 := hz
    have hB : Bd S 12 := hB
    refine ⟨_, (pss_cons (ps_par (i := 4) (j := 5) rfl sc_against_begin.nd rfl rfl (by decide) rfl rfl (pa_cons (pe_lst pa_nil) (pa_cons (pe_own o_chains_from (hr.mono (by decide)) rfl (pa_cons (pv 1) (pa_cons (pv 2) pa_nil))) pa_nil)) (by rfl))
      (pss_cons (ps_for PassesOwn.never rfl (pi_list (pv 0)) (pg_name (i := 6) sc_against_begin.nd rfl (.inr rfl)) (pss_one (ps_if (PW.pt (pw_and (pt_cmpR op_eq (pe_fld (pv 6) rfl) (pe_gint T.g_DATE rfl) (nomark _)) (pw_and1 (pt_cmpR op_lt (pe_fld (pv 6) rfl) (pv 3) (nomark _))))) (pss_one (ps_expr (pe_bm PySem.F.plainAttrs_list PySem.F.slot_list_extend PySem.F.type_list_extend mt_extend (pv 4) (pa_cons (pe_lc (own := [("chain", 7)]) (g := gName 7) (tt := tYes) (te := (tOp (rCatA K) (tVar 7) (tTup (tCons (tFld K (tVar 6) "own_id") tNil)))) rfl sc_against_begin.nd (pi_list (pe_own o_any_chains (hr.mono (by decide)) rfl (pa_cons (pv 5) (pa_cons (pe_fld (pv 6) rfl) pa_nil)))) (blkOk_by (own := [("chain", 7)]) (N := ["facts", "steps", "unit", "year", "found", "from_unit", "fact", "chain"]) (sc := defScope s_against_begin) (by decide +kernel)) (fun _ _ _ _ _ => (pg_name (i := 7) sc_against_begin.nd rfl (.inl rfl))) (fun _ _ _ _ _ => pts_nil) (fun _ _ _ _ _ => (pe_op op_catA (pv 7) (pe_tup (pa_cons (pe_fld (pv 6) rfl) pa_nil))))) pa_nil)))) pss_nil)))
      (pss_one (ps_ret (pv 4))))), ?_⟩
    obtain ⟨a, ws, rfl, ha, al⟩ := hl
    refine ⟨Nat.zero_le _, fun p hp => ?_⟩
    have ap : (V.ref a) ≠ .ref p := fun z => by
      cases z
      rw [ha] at hp
      cases hp
    have e0 : Ex H (upd H p (.lst [])) := Ex.new hp
    refine (er_chains (er_var rfl fun H' e => hS.ex rob_step (e0.trans e)) (ev_var rfl) hB hu) _ (Ex.refl _) _ fun v H1 e1 r1 => ?_
    obtain ⟨pt, rfl, Tt⟩ := r1
    refine ⟨_, _, rfl, ?_⟩
    have eH1 : Ex H H1 := e0.trans e1
    have hp1 : H1 p = some (.lst []) := e1 _ _ upd_same
    refine q_forAcc (es := es) (bs := []) (p := p) (A := Rfact CF) (B := Rids) 2 (begG (chainsFrom S u) year) (fun σ => ∃ x c, σ = [some (.ref a), some vs, some (.int u), some (.int year), some (.ref p), some (.ref pt), x, c]) (rob_fact CF) rob_ids.weak (er_var rfl fun H' e => ⟨⟨a, ws, rfl, (eH1.trans e) _ _ ha, al.ex (rob_fact CF) (eH1.trans e)⟩, ap⟩) ⟨none, none, rfl⟩ ⟨[], hp1, .nil⟩ (fun c _ => begG_len _ _ c) (fun σ' H' i1 b1 l1 => ?_) (fun i c x acc σ' H' D' hc i1 b1 rc l1 hz1 k1 => ?_)
    · obtain ⟨x, c, rfl⟩ := i1
      exact s_retR (er_is (ev_var rfl)) fun v H2 e r => by
        rw [show v = _ from r]
        exact k _ H2 ((ExB.ex0 eH1 hp b1).trans e) (l1.ex rob_ids.weak e).lr
    · obtain ⟨x2, c2, rfl⟩ := i1
      obtain ⟨r, rfl, rh⟩ := rc
      have hi : i < es.length := (List.getElem?_eq_some_iff.mp hc).1
      have hz1 : acc.length ≤ 0 + i * 2 := hz1
      have Tt' : TabA skV Rids P w H' pt (chainsFrom S u) := Tt.off rob_ids hp1 rfl (Tt.ne hp1) b1
      obtain ⟨ic, fc⟩ := c
      refine s_when (et_and (a := decide (fK fc = 5)) (b := decide (f3 fc < year)) (t_eqI (T.e_kind (ev_var rfl) rh) ev_c) fun _ => t_I0 (T.e_3 (ev_var rfl) rh) (ev_var rfl)) (fun hd H2 e2 => ?_) (fun hd H2 e2 => ?_)
      · rw [Bool.and_eq_true] at hd
        have hd1 := of_decide_eq_true hd.1
        have hd2 := of_decide_eq_true hd.2
        cases fc with
        | date uu ss tt =>
          have eg : begG (chainsFrom S u) year (ic, .date uu ss tt) = (anyCh (chainsFrom S u) uu).map (· ++ [ic]) := by
            unfold begG
            simp only [upperYearBound]
            exact if_pos hd2
          refine s_extB (A := Rids) rob_ids.weak (l1.ex rob_ids.weak e2) (ev_var rfl) (cs := (anyCh (chainsFrom S u) uu).filterMap fun L => some (L ++ [ic])) (er_lcL rob_ids.weak rob_ids.weak (fun L => some (L ++ [ic])) (er_on (er_var rfl fun H' e => ⟨pt, rfl, Tt'.exx rob_ids (e2.trans e)⟩) (T.e_1 (ev_var rfl) (rh.ex e2))) (Nat.le_trans (anyCh_len _ _) (by decide)) (fun x => rfl) (fun c x H1 hc e1 rc => fun H2 e2 Q2 q2 => q2 H2 (Ex.refl _)) (fun L x b H3 hL e3 rc hb => ?_)) ?_ fun H3 b3 l3 => ?_
          · obtain rfl : L ++ [ic] = b := Option.some.inj hb
            have := anyCh_mem_len hB hL
            exact er_catT (er_var rfl fun H' e => rob_ids.ex e rc) (er_ids1 (T.e_id (ev_var rfl) (rh.ex (e2.trans e3)))) (by simp; omega)
          · rw [fm_some, List.length_map]
            have := anyCh_len (chainsFrom S u) uu
            omega
          · refine k1 _ H3 ⟨_, _, rfl⟩ ((ExB.ex e2).trans b3) ?_
            rw [eg]
            rw [fm_some] at l3
            exact l3
        | above _ _ => exact absurd (show (2 : Int) = 5 from hd1) (by decide)
        | same _ _ => exact absurd (show (3 : Int) = 5 from hd1) (by decide)
        | find _ _ _ => exact absurd (show (4 : Int) = 5 from hd1) (by decide)
      · refine k1 _ H2 ⟨_, _, rfl⟩ (ExB.ex e2) ?_
        have : begG (chainsFrom S u) year (ic, fc) = [] := by
          cases fc <;> first | rfl | skip
          rename_i uu ss tt
          unfold begG
          simp only [upperYearBound]
          refine if_neg fun q => ?_
          rw [show decide (fK (.date uu ss tt) = 5) = true from rfl, Bool.true_and] at hd
          exact of_decide_eq_false hd q
        rw [this, List.append_nil]
        exact l1.ex rob_ids.weak e2
def endG (es : List (Nat × Fact)) (u : Nat) (year : Int) (e : Nat × Fact) : List (List Nat) := match lowerYearBound e.2 with
  | some lo => if year < lo.2 then (anyCh (chainsFrom (stepsOf es) lo.1) u).map ([e.1] ++ ·) else []
  | none => []
theorem endG_len (es : List (Nat × Fact)) (u : Nat) (year : Int) (e : Nat × Fact) : (endG es u year e).length ≤ 2 := by
  unfold endG
  split
  · split
    · rw [List.length_map]; exact anyCh_len _ _
    · simp
  · simp
theorem ok_against_end (F : Fun K "against_end" "against_end" s_against_end f fd) (T : Txt K mg CF CO CS aA aU) (o_any_chains : Own P w K mg base "any_chains" 1 ["found", "unit"] (spOn P w anyCh)) (o_chains_from : Own P w K mg base "chains_from" 2 ["steps", "start"] (spChains P w))
    (o_has_begin : Own P w K mg base "has_begin" 1 ["fact"] (spHas CF)) : FnOk P w K mg base CX0 3 f fd ["facts", "steps", "unit", "year"] (spAgE CF) := by
  refine F.ok sc_against_end (fun vs H Q E h => ?_) (fun cdv A outer s H vs Q E hr h => ?_)
  · obtain ⟨a, rfl, _⟩ := h
    rfl
  · obtain ⟨⟨vf, es, vs, u, year⟩, rfl, ⟨⟨hl, hz⟩, hV, hS, hu⟩, k⟩ := h
    have hz : es.length ≤ 40 := hz
    have hV : VEnt 12 es := hV
    have hB : Bd (stepsOf es) 12 := SG.bd_stepsOf hV
    refine ⟨_, (pss_cons (ps_set (i := 4) sc_against_end.nd rfl (.inl rfl) (pe_lst pa_nil))
      (pss_cons (ps_for PassesOwn.never rfl (pi_list (pv 0)) (pg_name (i := 5) sc_against_end.nd rfl (.inr rfl)) (pss_one (ps_if (PW.pt (pw_and (pt_val (pe_own o_has_begin (hr.mono (by decide)) rfl (pa_cons (pv 5) pa_nil))) (pw_and1 (pt_cmpR op_gt (pe_fld (pv 5) rfl) (pv 3) (nomark _))))) (pss_cons (ps_set (i := 6) sc_against_end.nd rfl (.inl rfl) (pe_own o_any_chains (hr.mono (by decide)) rfl (pa_cons (pe_own o_chains_from (hr.mono (by decide)) rfl (pa_cons (pv 1) (pa_cons (pe_fld (pv 5) rfl) pa_nil))) (pa_cons (pv 2) pa_nil))))
      (pss_one (ps_expr (pe_bm PySem.F.plainAttrs_list PySem.F.slot_list_extend PySem.F.type_list_extend mt_extend (pv 4) (pa_cons (pe_lc (own := [("chain", 7)]) (g := gName 7) (tt := tYes) (te := (tOp (rCatA K) (tTup (tCons (tFld K (tVar 5) "own_id") tNil)) (tVar 7))) rfl sc_against_end.nd (pi_list (pv 6)) (blkOk_by (own := [("chain", 7)]) (N := ["facts", "steps", "unit", "year", "found", "fact", "chains", "chain"]) (sc := defScope s_against_end) (by decide +kernel)) (fun _ _ _ _ _ => (pg_name (i := 7) sc_against_end.nd rfl (.inl rfl))) (fun _ _ _ _ _ => pts_nil) (fun _ _ _ _ _ => (pe_op op_catA (pe_tup (pa_cons (pe_fld (pv 5) rfl) pa_nil)) (pv 7)))) pa_nil))))) pss_nil)))
      (pss_one (ps_ret (pv 4))))), ?_⟩
    obtain ⟨a, ws, rfl, ha, al⟩ := hl
    refine q_new fun p hp => ?_
    have ap : (V.ref a) ≠ .ref p := fun z => by
      cases z
      rw [ha] at hp
      cases hp
    have e0 : Ex H (upd H p (.lst [])) := Ex.new hp
    refine q_forAcc (es := es) (bs := []) (p := p) (A := Rfact CF) (B := Rids) 2 (endG es u year) (fun σ => ∃ x c d, σ = [some (.ref a), some vs, some (.int u), some (.int year), some (.ref p), x, c, d]) (rob_fact CF) rob_ids.weak (er_var rfl fun H' e => ⟨⟨a, ws, rfl, (e0.trans e) _ _ ha, al.ex (rob_fact CF) (e0.trans e)⟩, ap⟩) ⟨none, none, none, rfl⟩ ⟨[], upd_same, .nil⟩ (fun c _ => endG_len _ _ _ c) (fun σ' H' i1 b1 l1 => ?_) (fun i c x acc σ' H' D' hc i1 b1 rc l1 hz1 k1 => ?_)
    · obtain ⟨x, c, d, rfl⟩ := i1
      exact s_retR (er_is (ev_var rfl)) fun v H2 e r => by
        rw [show v = _ from r]
        exact k _ H2 ((ExB.ex0 e0 hp b1).trans e) (l1.ex rob_ids.weak e).lr
    · obtain ⟨x2, c2, d2, rfl⟩ := i1
      obtain ⟨r, rfl, rh⟩ := rc
      have hi : i < es.length := (List.getElem?_eq_some_iff.mp hc).1
      have hz1 : acc.length ≤ 0 + i * 2 := hz1
      have eH : Ex H H' := ExB.ex0 e0 hp b1
      have hfv := hV c (List.mem_of_getElem? hc)
      obtain ⟨ic, fc⟩ := c
      refine s_when (et_and (a := hasB fc) (b := decide (year < f2 fc)) (et_test (ev_call (r, ic, fc, true) (ea_cons (ev_var rfl) ea_nil) (fun H1 e => rh.ex e) fun _ _ _ h => h)) fun _ => t_I0 (T.e_2 (ev_var rfl) rh) (ev_var rfl)) (fun hd H2 e2 => ?_) (fun hd H2 e2 => ?_)
      · rw [Bool.and_eq_true] at hd
        have hd1 : (lowerYearBound fc).isSome = true := hd.1
        have hd2 := of_decide_eq_true hd.2
        obtain ⟨lo, hlo⟩ := Option.isSome_iff_exists.mp hd1
        obtain ⟨q1, q2⟩ := lower_some hlo
        have hlt : lo.1 < 12 := (SG.VFact.lower hfv hlo).1
        have eg : endG es u year (ic, fc) = (anyCh (chainsFrom (stepsOf es) lo.1) u).map ([ic] ++ ·) := by
          unfold endG
          simp only [hlo]
          refine if_pos ?_
          rw [q1]
          exact hd2
        refine q_asgR (er_on (er_chains (er_var rfl fun H' e => hS.ex rob_step (eH.trans (e2.trans e))) (ev_is (T.e_1 (ev_var rfl) (rh.ex e2)) (by rw [q2])) hB hlt) (ev_var rfl)) fun v H3 e3 r3 => ?_
        refine s_extB (A := Rids) rob_ids.weak (l1.ex rob_ids.weak (e2.trans e3)) (ev_var rfl) (cs := (anyCh (chainsFrom (stepsOf es) lo.1) u).filterMap fun L => some ([ic] ++ L)) (er_lcL rob_ids.weak rob_ids.weak (fun L => some ([ic] ++ L)) (er_var rfl fun H' e => r3.ex rob_ids e) (Nat.le_trans (anyCh_len _ _) (by decide)) (fun x => rfl) (fun c x H1 hc e1 rc => fun H2 e2 Q2 q2 => q2 H2 (Ex.refl _)) (fun L x b H4 hL e4 rc hb => ?_)) ?_ fun H4 b4 l4 => ?_
        · obtain rfl : [ic] ++ L = b := Option.some.inj hb
          have := anyCh_mem_len hB hL
          exact er_catT (er_ids1 (T.e_id (ev_var rfl) (rh.ex (e2.trans (e3.trans e4))))) (er_var rfl fun H' e => rob_ids.ex e rc) (by simp; omega)
        · rw [fm_some, List.length_map]
          have := anyCh_len (chainsFrom (stepsOf es) lo.1) u
          omega
        · refine k1 _ H4 ⟨_, _, _, rfl⟩ ((ExB.ex (e2.trans e3)).trans b4) ?_
          rw [eg]
          rw [fm_some] at l4
          exact l4
      · refine k1 _ H2 ⟨_, _, _, rfl⟩ (ExB.ex e2) ?_
        have : endG es u year (ic, fc) = [] := by
          unfold endG
          cases hlo : lowerYearBound fc with
          | none => simp only [hlo]
          | some lo =>
            simp only [hlo]
            refine if_neg fun q => ?_
            have h1 : hasB fc = true := by unfold hasB; rw [hlo]; rfl
            rw [h1, Bool.true_and] at hd
            refine of_decide_eq_false hd ?_
            have := (lower_some hlo).1
            rw [this] at q
            exact q
        rw [this, List.append_nil]
        exact l1.ex rob_ids.weak e2
theorem ok_contradiction (F : Fun K "contradiction" "contradiction" s_contradiction f fd) (T : Txt K mg CF CO CS aA aU) (o_preferred : Own P w K mg base "preferred" 1 ["chains"] spPref) (o_steps_of : Own P w K mg base "steps_of" 3 ["facts"] (spFS CF stepsOf))
    (o_against_above : Own P w K mg base "against_above" 3 ["steps", "upper", "lower"] (spAg fun S a b => anyCh (chainsFrom S a) b)) (o_against_same : Own P w K mg base "against_same" 3 ["steps", "one", "other"] (spAg fun S a b => strictCh (chainsFrom S a) b ++ strictCh (chainsFrom S b) a))
    (o_against_begin : Own P w K mg base "against_begin" 3 ["facts", "steps", "unit", "year"] (spAgB CF)) (o_against_end : Own P w K mg base "against_end" 3 ["facts", "steps", "unit", "year"] (spAgE CF)) :
    FnOk P w K mg base CX0 4 f fd ["facts", "kind", "first", "second", "third"] (spCon CF) := by
  refine F.ok sc_contradiction (fun vs H Q E h => ?_) (fun cdv A outer s H vs Q E hr h => ?_)
  · obtain ⟨a, rfl, _⟩ := h
    rfl
  · obtain ⟨⟨v, es, fc⟩, rfl, ⟨⟨hl, hz⟩, hV, hf⟩, k⟩ := h
    have hz : es.length ≤ 40 := hz
    have hV : VEnt 12 es := hV
    have hB : Bd (stepsOf es) 12 := SG.bd_stepsOf hV
    refine ⟨_, (pss_cons (ps_set (i := 5) sc_contradiction.nd rfl (.inl rfl) (pe_own o_steps_of (hr.mono (by decide)) rfl (pa_cons (pv 0) pa_nil)))
      (pss_cons (ps_if (pt_cmpR op_eq (pv 1) (pe_gint T.g_ABOVE rfl) (nomark _)) (pss_one (ps_ret (pe_own o_preferred (hr.mono (by decide)) rfl (pa_cons (pe_own o_against_above (hr.mono (by decide)) rfl (pa_cons (pv 5) (pa_cons (pv 2) (pa_cons (pv 3) pa_nil)))) pa_nil)))) pss_nil)
      (pss_cons (ps_if (pt_cmpR op_eq (pv 1) (pe_gint T.g_SAME rfl) (nomark _)) (pss_one (ps_ret (pe_own o_preferred (hr.mono (by decide)) rfl (pa_cons (pe_own o_against_same (hr.mono (by decide)) rfl (pa_cons (pv 5) (pa_cons (pv 2) (pa_cons (pv 3) pa_nil)))) pa_nil)))) pss_nil)
      (pss_cons (ps_if (pt_cmpR op_eq (pv 1) (pe_gint T.g_FIND rfl) (nomark _)) (pss_one (ps_ret (pe_own o_preferred (hr.mono (by decide)) rfl (pa_cons (pe_own o_against_begin (hr.mono (by decide)) rfl (pa_cons (pv 0) (pa_cons (pv 5) (pa_cons (pv 2) (pa_cons (pv 3) pa_nil))))) pa_nil)))) pss_nil)
      (pss_one (ps_ret (pe_own o_preferred (hr.mono (by decide)) rfl (pa_cons (pe_op op_cat (pe_own o_against_begin (hr.mono (by decide)) rfl (pa_cons (pv 0) (pa_cons (pv 5) (pa_cons (pv 2) (pa_cons (pv 3) pa_nil))))) (pe_own o_against_end (hr.mono (by decide)) rfl (pa_cons (pv 0) (pa_cons (pv 5) (pa_cons (pv 2) (pa_cons (pv 4) pa_nil)))))) pa_nil)))))))), ?_⟩
    refine q_asgR (er_steps (er_var rfl fun H' e => hl.ex (rob_fact CF) e) hz) fun v5 H1 e1 r1 => ?_
    have hl1 : LR (Rfact CF) es v H1 := hl.ex (rob_fact CF) e1
    have hfx : VFact 12 fc := hf
    have ck : ∀ (n : Int) (H2 : Hp), EvT (tTest (tOp rEq (tVar 1) (tC (.int n)))) [some v, some (.int (fK fc)), some (.int (f1 fc)), some (.int (f2 fc)), some (.int (f3 fc)), some v5] H2 (decide (fK fc = n)) := fun n H2 => t_eqI (ev_var rfl) ev_c
    have hag : ∀ (g : List Stratigraphy.Step → Nat → Nat → List (List Nat)) (a b : Nat) (H2 : Hp), Ex H1 H2 → f1 fc = a → f2 fc = b → a < 12 → b < 12 → EvR (tCall (spAg g) [] E0 (tCons (tVar 5) (tCons (tVar 2) (tCons (tVar 3) tNil)))) [some v, some (.int (fK fc)), some (.int (f1 fc)), some (.int (f2 fc)), some (.int (f3 fc)), some v5] H2 (LR Rids (g (stepsOf es) a b)) := fun g a b H2 e2 h1 h2 ha hb =>
      er_call (ear_is (ea_cons (ev_var rfl) (ea_cons (ev_var rfl) (ea_cons (ev_var rfl) ea_nil)))) fun us H3 e3 s => ⟨(v5, stepsOf es, a, b), by rw [s, h1, h2], ⟨r1.ex rob_step (e2.trans e3), hB, ha, hb⟩, fun v H2 e2 h => h⟩
    have hbg : ∀ (u : Nat) (H2 : Hp), Ex H1 H2 → f1 fc = u → u < 12 → EvR (tCall (spAgB CF) [] E0 (tCons (tVar 0) (tCons (tVar 5) (tCons (tVar 2) (tCons (tVar 3) tNil))))) [some v, some (.int (fK fc)), some (.int (f1 fc)), some (.int (f2 fc)), some (.int (f3 fc)), some v5] H2 (LR Rids (agBegin es (chainsFrom (stepsOf es) u) (f2 fc))) := fun u H2 e2 h1 hu =>
      er_call (ear_is (ea_cons (ev_var rfl) (ea_cons (ev_var rfl) (ea_cons (ev_var rfl) (ea_cons (ev_var rfl) ea_nil))))) fun us H3 e3 s => ⟨(v, es, v5, stepsOf es, u, f2 fc), by rw [s, h1], ⟨⟨hl1.ex (rob_fact CF) (e2.trans e3), hz⟩, hV, r1.ex rob_step (e2.trans e3), hB, hu⟩, fun v H2 e2 h => h⟩
    have hed : ∀ (u : Nat) (H2 : Hp), Ex H1 H2 → f1 fc = u → u < 12 → EvR (tCall (spAgE CF) [] E0 (tCons (tVar 0) (tCons (tVar 5) (tCons (tVar 2) (tCons (tVar 4) tNil))))) [some v, some (.int (fK fc)), some (.int (f1 fc)), some (.int (f2 fc)), some (.int (f3 fc)), some v5] H2 (LR Rids (agEnd es u (f3 fc))) := fun u H2 e2 h1 hu =>
      er_call (ear_is (ea_cons (ev_var rfl) (ea_cons (ev_var rfl) (ea_cons (ev_var rfl) (ea_cons (ev_var rfl) ea_nil))))) fun us H3 e3 s => ⟨(v, es, v5, u, f3 fc), by rw [s, h1], ⟨⟨hl1.ex (rob_fact CF) (e2.trans e3), hz⟩, hV, r1.ex rob_step (e2.trans e3), hu⟩, fun v H2 e2 h => h⟩
    cases fc with
    | above u l =>
      have hf : u < 12 ∧ l < 12 := ⟨hfx.1, hfx.2⟩
      refine q_ifRetR (R := Roc (contrM es (.above u l))) (ck 2 _) (fun _ => ?_) (fun _ v H2 e2 r => k v H2 (e1.trans e2) r) (fun z => nomatch z)
      exact er_pref (hag (fun S a b => anyCh (chainsFrom S a) b) u l _ (Ex.refl _) rfl rfl hf.1 hf.2) (Nat.le_trans (anyCh_len _ _) (by decide))
    | same a b =>
      have hf : a < 12 ∧ b < 12 := ⟨hfx.1, hfx.2⟩
      refine q_ifRetR (R := fun _ _ => False) (ck 2 _) (fun z => nomatch z) (fun z => nomatch z) (fun _ H2 e2 => ?_)
      refine q_ifRetR (R := Roc (contrM es (.same a b))) (ck 3 _) (fun _ => ?_) (fun _ v H3 e3 r => k v H3 (e1.trans (e2.trans e3)) r) (fun z => nomatch z)
      refine er_pref (hag (fun S a b => strictCh (chainsFrom S a) b ++ strictCh (chainsFrom S b) a) a b _ e2 rfl rfl hf.1 hf.2) ?_
      have := strictCh_len (chainsFrom (stepsOf es) a) b
      have := strictCh_len (chainsFrom (stepsOf es) b) a
      rw [List.length_append]
      omega
    | find u s t =>
      refine q_ifRetR (R := fun _ _ => False) (ck 2 _) (fun z => nomatch z) (fun z => nomatch z) (fun _ H2 e2 => ?_)
      refine q_ifRetR (R := fun _ _ => False) (ck 3 _) (fun z => nomatch z) (fun z => nomatch z) (fun _ H3 e3 => ?_)
      refine q_ifRetR (R := Roc (contrM es (.find u s t))) (ck 4 _) (fun _ => ?_) (fun _ v H4 e4 r => k v H4 (e1.trans (e2.trans (e3.trans e4))) r) (fun z => nomatch z)
      refine er_pref (hbg u _ (e2.trans e3) rfl hfx.1) ?_
      have := agBegin_len es (chainsFrom (stepsOf es) u) s
      exact Nat.le_trans this (by omega)
    | date u s t =>
      refine q_ifRetR (R := fun _ _ => False) (ck 2 _) (fun z => nomatch z) (fun z => nomatch z) (fun _ H2 e2 => ?_)
      refine q_ifRetR (R := fun _ _ => False) (ck 3 _) (fun z => nomatch z) (fun z => nomatch z) (fun _ H3 e3 => ?_)
      refine q_ifRetR (R := fun _ _ => False) (ck 4 _) (fun z => nomatch z) (fun z => nomatch z) (fun _ H4 e4 => ?_)
      have e24 := e2.trans (e3.trans e4)
      have b1 := agBegin_len es (chainsFrom (stepsOf es) u) s
      have b2 := agEnd_len es u t
      refine s_retR (R := Roc (contrM es (.date u s t))) (er_pref (ls := agBegin es (chainsFrom (stepsOf es) u) s ++ agEnd es u t) (er_cat rob_ids.weak (by show (agBegin es (chainsFrom (stepsOf es) u) s).length + (agEnd es u t).length ≤ 100000; omega) (hbg u _ e24 rfl hfx.1) (hed u _ e24 rfl hfx.1)) (by rw [List.length_append]; omega)) fun v H5 e5 r => k v H5 (e1.trans (e24.trans e5)) r
end
end L2.SD

/-! B4: orders.py, the states that can be reached -/
set_option Elab.async false
set_option linter.all false
set_option maxRecDepth 100000
set_option maxHeartbeats 2000000
namespace L2.SD
open PySem PySem.Spec PyProof.Rows Evl
open Stratigraphy (Fact lowerYearBound upperYearBound stepsOf)
open SG (SK Tab look put Bd VEnt VFact Rch)

def RU : Unit → V → Hp → Prop := fun _ v _ => v = .bl true
theorem rob_u {keep : HO → Bool} : Rob keep RU := fun _ _ _ _ _ h => h
abbrev EK := Nat × Nat × Bool
def stKey (st : Stratigraphy.Step) : EK := (st.source, st.target, st.strict)
/-- a table of the edges of these steps -/
structure EdgeT (S : List Stratigraphy.Step) (t : List (EK × Unit)) : Prop where
  nd : (t.map (·.1)).Nodup
  mem : ∀ e, (look t e).isSome = true ↔ ∃ st ∈ S, stKey st = e
  len : t.length ≤ S.length
/-- a table of the states reached from start -/
def ReachT (S : List Stratigraphy.Step) (start : Nat) (t : List (SK × Unit)) : Prop := ∀ k, (look t k).isSome = true ↔ ∃ L, SG.Walk S start k.2 L k.1
theorem look_put_some {κ β : Type} [DecidableEq κ] (t : List (κ × β)) (k j : κ) (v : β) : (look (put t k v) j).isSome = true ↔ j = k ∨ (look t j).isSome = true := by
  rw [SG.look_put]
  by_cases e : j = k
  · rw [if_pos e]; simp [e]
  · rw [if_neg e]; simp [e]
theorem keys_look {κ β : Type} [DecidableEq κ] (t : List (κ × β)) (k : κ) : k ∈ t.map (·.1) ↔ (look t k).isSome = true := by
  rw [SG.mem_keys, Option.isSome_iff_exists]
theorem steps_len {es : List (Nat × Fact)} (h : es.length ≤ 40) : (stepsOf es).length ≤ 1680 := by
  show (es.flatMap SG.sglOf ++ es.flatMap (dateOf es)).length ≤ 1680
  have g1 := flatMap_len 2 SG.sglOf sgl_len es
  have g2 := flatMap_len 40 (dateOf es) (fun c => by
    unfold dateOf
    split
    · exact Nat.le_trans (List.length_filterMap_le _ _) h
    · exact Nat.zero_le _) es
  rw [List.length_append]
  omega
def spEdges (CF : Addr) (P : Program) (w : World) : Sp := spP (α := V × List (Nat × Fact)) (fun a => [a.1]) (fun a H => Facts CF a.2 a.1 H) (fun a v H => ∃ p t, v = .ref p ∧ TabA eV RU P w H p t ∧ EdgeT (stepsOf a.2) t)
def spStates (P : Program) (w : World) : Sp := spP (α := Addr × List Stratigraphy.Step × List (EK × Unit) × Nat) (fun a => [.ref a.1, .int a.2.2.2]) (fun a H => TabA eV RU P w H a.1 a.2.2.1 ∧ EdgeT a.2.1 a.2.2.1 ∧ Bd a.2.1 12 ∧ a.2.1.length ≤ 1680 ∧ a.2.2.2 < 12)
  (fun a v H => ∃ p t, v = .ref p ∧ TabA skV RU P w H p t ∧ ReachT a.2.1 a.2.2.2 t)
abbrev s_edges_of : Stmt := topS 31
theorem sc_edges_of : FnScope ["facts", "found", "begin", "end", "ids", "is_strict"] ["facts"] (defScope s_edges_of) := ⟨rfl, rfl, rfl, by decide +kernel, rfl, by decide +kernel, by decide +kernel⟩
abbrev s_states_from : Stmt := topS 32
theorem sc_states_from : FnScope ["edges", "start", "found", "waiting", "state", "begin", "end", "is_strict"] ["edges", "start"] (defScope s_states_from) := ⟨rfl, rfl, rfl, by decide +kernel, rfl, by decide +kernel, by decide +kernel⟩
section
variable {P : Program} {w : World} {K : PySem.W.Frag} {mg : Str → Option Value} {base : Heap} {CF CO CS aA aU f : Addr} {fd : FuncData}
theorem ok_edges_of (F : Fun K "edges_of" "edges_of" s_edges_of f fd) (T : Txt K mg CF CO CS aA aU) (o_steps_of : Own P w K mg base "steps_of" 3 ["facts"] (spFS CF stepsOf)) : FnOk P w K mg base CX0 4 f fd ["facts"] (spEdges CF P w) := by
  refine F.ok sc_edges_of (fun vs H Q E h => ?_) (fun cdv A outer s H vs Q E hr h => ?_)
  · obtain ⟨a, rfl, _⟩ := h
    rfl
  · obtain ⟨⟨v, es⟩, rfl, ⟨hl, hz⟩, k⟩ := h
    have hz : es.length ≤ 40 := hz
    have hsl := steps_len hz
    refine ⟨_, (pss_cons (ps_set (i := 1) sc_edges_of.nd rfl (.inl rfl) pe_newE)
      (pss_cons (ps_for PassesOwn.never rfl (pi_list (pe_own o_steps_of (hr.mono (by decide)) rfl (pa_cons (pv 0) pa_nil))) (pg_tup rfl (pgs_cons (pg_name (i := 2) sc_edges_of.nd rfl (.inl rfl)) (pgs_cons (pg_name (i := 3) sc_edges_of.nd rfl (.inl rfl)) (pgs_cons (pg_name (i := 4) sc_edges_of.nd rfl (.inl rfl)) (pgs_cons (pg_name (i := 5) sc_edges_of.nd rfl (.inl rfl)) pgs_nil))))) (pss_one (ps_putE (hu_of hr) (pv 1) (pe_tup (pa_cons (pv 2) (pa_cons (pv 3) (pa_cons (pv 5) pa_nil)))) pe_bl)))
      (pss_one (ps_ret (pv 1))))), ?_⟩
    refine q_newE (kf := eV) (RV := RU) fun p hp H1 e1 np T0 => ?_
    -- the steps are made ahead of the turns
    refine (er_steps (er_var rfl fun H' e => hl.ex (rob_fact CF) (e1.trans e)) hz) H1 (Ex.refl _) _ fun v2 H2 e2 r2 => ?_
    obtain ⟨a, ws, rfl, ha, al⟩ := r2
    have T2 := T0.exx rob_u e2
    have al : All Rstep H2 ws (stepsOf es) := al
    obtain ⟨up, hup⟩ : ∃ u, H2 p = some u ∧ tupK u = false ∧ nlK u = true := by
      obtain ⟨_, D, _⟩ := T2.ex
      obtain ⟨o, ho⟩ := D.obj
      exact ⟨_, ho, rfl, rfl⟩
    have ap : a ≠ p := fun z => by
      have := hup.1
      rw [← z, ha] at this
      cases this
      exact absurd hup.2.2 (by simp [nlK])
    let st1 : List Stratigraphy.Step → List (EK × Unit) := fun l => l.foldl (fun t st => put t (stKey st) ()) []
    refine ⟨a, rfl, ⟨ws, sq_of ha⟩, for_list (xs := ws) (fun i σ' H' => ExB p H2 H' ∧ TabA eV RU P w H' p (st1 ((stepsOf es).take i)) ∧ EdgeT ((stepsOf es).take i) (st1 ((stepsOf es).take i)) ∧ ∃ b c d g, σ' = [some v, some (.ref p), b, c, d, g]) ⟨.refl, T2, ⟨by simp [st1], fun e => by simp [st1, SG.look_nil], by simp [st1]⟩, _, _, _, _, rfl⟩ (fun i σ' H' _ q => sq_of (q.1 a _ ha ap)) (fun i x σ' H' hi q => ?_) (fun σ' H' q => ?_)⟩
    · obtain ⟨q1, q2, q3, b, c, d, g, rfl⟩ := q
      obtain ⟨st, hst, rx⟩ := al.get hi
      obtain ⟨ta, ti, rfl, hta, hti⟩ := rob_step _ _ _ _ (q1.kp hup.1 hup.2.1) rx
      refine ⟨ta, _, rfl, st_of hta, rfl, _, _, rfl, _, _, rfl, _, _, rfl, _, _, rfl, rfl, ?_⟩
      have hlt : i < (stepsOf es).length := (List.getElem?_eq_some_iff.mp hst).1
      have hlen := q3.len
      rw [List.length_take] at hlen
      have et : (stepsOf es).take (i + 1) = (stepsOf es).take i ++ [st] := by rw [List.take_add_one, hst]; rfl
      have es1 : st1 ((stepsOf es).take (i + 1)) = put (st1 ((stepsOf es).take i)) (stKey st) () := by
        show ((stepsOf es).take (i + 1)).foldl _ _ = _
        rw [et, List.foldl_append]
        rfl
      refine s_putE key_e rob_u (k := stKey st) (b := ()) q2 (ev_var rfl) (er_U (eu_tup (ea_cons (ev_var rfl) (ea_cons (ev_var rfl) (ea_cons (ev_var rfl) ea_nil))) (by decide : 3 ≤ 100000))) (er_of ev_c fun _ _ => rfl) (by omega) fun H3 b3 T3 => ⟨q1.trans b3, by rw [es1]; exact T3, ⟨?_, fun e => ?_, ?_⟩, _, _, _, _, rfl⟩
      · rw [es1]; exact SG.nodup_put _ _ q3.nd
      · rw [es1, look_put_some, q3.mem e, et]
        constructor
        · rintro (h | ⟨st', h1, h2⟩)
          · exact ⟨st, by simp, h.symm⟩
          · exact ⟨st', by simp [h1], h2⟩
        · rintro ⟨st', h1, h2⟩
          rw [List.mem_append, List.mem_singleton] at h1
          rcases h1 with h1 | h1
          · exact .inr ⟨st', h1, h2⟩
          · subst h1; exact .inl h2.symm
      · rw [es1, et, List.length_append]
        have := put_len (st1 ((stepsOf es).take i)) (stKey st) ()
        have := q3.len
        simp only [List.length_singleton]
        omega
    · obtain ⟨q1, q2, q3, b, c, d, g, rfl⟩ := q
      rw [al.length, List.take_length] at q2 q3
      exact s_retR (er_is (ev_var rfl)) fun v H4 e4 r => by
        rw [show v = _ from r]
        exact k _ H4 ((ExB.ex0 (e1.trans e2) hp q1).trans e4) ⟨p, _, rfl, q2.exx rob_u e4, q3⟩
/-! ### states_from -/
theorem All.unsnoc {β : Type} {R : β → V → Hp → Prop} {H : Hp} {b : β} : ∀ {bs : List β} {ws : List V}, All R H ws (bs ++ [b]) → ∃ ws' x, ws = ws' ++ [x] ∧ All R H ws' bs ∧ R b x H
  | [], _, .cons r .nil => ⟨[], _, rfl, .nil, r⟩
  | c :: bs, _, .cons r t => by
    obtain ⟨ws', x, e, al, rx⟩ := All.unsnoc t
    subst e
    exact ⟨_ :: ws', x, rfl, .cons r al, rx⟩
def dSk (k : SK) : PyData := .tuple [.int k.1, .bool k.2]
theorem dpall_sk {K : PySem.W.Frag} {H : Hp} : ∀ {ws : List V} {ls : List SK}, All Rsk H ws ls → DpAll K H ws (ls.map dSk)
  | _, _, .nil => .nil
  | _, _, .cons r t => by
    obtain ⟨i, e, h⟩ := r
    subst e
    exact .cons (.tup (st_of h) (.cons (.int _) (.cons (.bl _) .nil))) (dpall_sk t)
theorem shaped_sk (ls : List SK) : SeqAt.shaped (.list (ls.map dSk)) = true := by
  have h1 : ∀ ls : List SK, PyData.canLayAll0 (ls.map dSk) = true := by
    intro ls
    induction ls with
    | nil => rfl
    | cons x l ih =>
      simp only [List.map_cons, PyData.canLayAll0, dSk, PyData.canLay0, Bool.true_and]
      exact ih
  have h2 : ∀ x : SK, (dSk x).depth ≤ 1 := fun x => by
    simp only [dSk, PyData.depth, PyData.depthAll]
    decide
  unfold SeqAt.shaped
  rw [Bool.and_eq_true]
  refine ⟨by simp only [PyData.canLay0]; exact h1 ls, decide_eq_true ?_⟩
  have := depth_all (f := dSk) (k := 1) h2 ls
  simp only [PyData.depth]
  omega
/-- the walk's word: what is found, what waits -/
structure StI (S : List Stratigraphy.Step) (start : Nat) (n : Nat) (t : List (SK × Unit)) (wl : List SK) : Prop where
  nd : (t.map (·.1)).Nodup
  ok : ∀ k, (look t k).isSome = true ∨ k ∈ wl → ∃ L, SG.Walk S start k.2 L k.1
  st : (look t (start, false)).isSome = true ∨ (start, false) ∈ wl
  cl : ∀ k st, (look t k).isSome = true → st ∈ S → st.source = k.1 → (look t (st.target, k.2 || st.strict)).isSome = true ∨ (st.target, k.2 || st.strict) ∈ wl
  sz : wl.length ≤ 1 + t.length * n
theorem StI.len {S : List Stratigraphy.Step} {start n : Nat} {t : List (SK × Unit)} {wl : List SK} (I : StI S start n t wl) (hB : Bd S 12) (hs : start < 12) : t.length ≤ 24 := by
  have := nodup_len (l := t.map (·.1)) (m := SG.sts 12) I.nd fun k hk => by
    obtain ⟨L, w⟩ := I.ok k (.inl ((keys_look t k).mp hk))
    exact SG.mem_sts.mpr (walk_lt hB w hs)
  rw [List.length_map] at this
  exact Nat.le_trans this (by decide)
theorem StI.done {S : List Stratigraphy.Step} {start n : Nat} {t : List (SK × Unit)} (I : StI S start n t []) : ReachT S start t := fun k => by
  refine ⟨fun h => I.ok k (.inl h), fun ⟨L, w⟩ => ?_⟩
  have go : ∀ {u : Nat} {b : Bool} {L : List Nat} {v : Nat}, SG.Walk S u b L v → ∀ c, (look t (u, c)).isSome = true → (look t (v, c || b)).isSome = true := by
    intro u b L v w
    induction w with
    | nil u => intro c h; simpa using h
    | cons h e _ ih =>
      intro c hc
      subst e
      have := (I.cl _ _ hc h rfl).resolve_right (by simp)
      have := ih _ this
      rw [Bool.or_assoc] at this
      exact this
  have h0 := I.st.resolve_right (by simp)
  have := go w false h0
  simpa using this
def grow (t : List (EK × Unit)) (k : SK) : List SK := t.filterMap fun p => if p.1.1 = k.1 then some (p.1.2.1, k.2 || p.1.2.2) else none
theorem StI.skip {S : List Stratigraphy.Step} {start n : Nat} {t : List (SK × Unit)} {wl : List SK} {k : SK} (I : StI S start n t (wl ++ [k])) (h : (look t k).isSome = true) : StI S start n t wl := by
  have mm : ∀ j, j ∈ wl ++ [k] → (look t j).isSome = true ∨ j ∈ wl := fun j hj => by
    rw [List.mem_append, List.mem_singleton] at hj
    rcases hj with hj | hj
    · exact .inr hj
    · subst hj; exact .inl h
  refine ⟨I.nd, fun j hj => I.ok j (hj.imp id fun q => List.mem_append_left _ q), I.st.elim .inl (mm _), fun j st h1 h2 h3 => (I.cl j st h1 h2 h3).elim .inl (mm _), ?_⟩
  have := I.sz
  rw [List.length_append] at this
  omega
theorem StI.take {S : List Stratigraphy.Step} {start : Nat} {t : List (SK × Unit)} {wl : List SK} {k : SK} {tE : List (EK × Unit)} (hE : EdgeT S tE) (I : StI S start tE.length t (wl ++ [k])) (h : look t k = none) : StI S start tE.length (put t k ()) (wl ++ grow tE k) := by
  have hk := I.ok k (.inr (by simp))
  refine ⟨SG.nodup_put _ _ I.nd, fun j hj => ?_, ?_, fun j st h1 h2 h3 => ?_, ?_⟩
  · rw [look_put_some, List.mem_append] at hj
    rcases hj with (hj | hj) | hj | hj
    · subst hj; exact hk
    · exact I.ok j (.inl hj)
    · exact I.ok j (.inr (List.mem_append_left _ hj))
    · obtain ⟨p, hp, e⟩ := List.mem_filterMap.mp hj
      have hin : (look tE p.1).isSome = true := (keys_look tE p.1).mp (List.mem_map.mpr ⟨p, hp, rfl⟩)
      obtain ⟨st, hst, es⟩ := (hE.mem p.1).mp hin
      split at e
      · next hc =>
        cases e
        obtain ⟨L, w⟩ := hk
        have e1 : st.source = k.1 := by rw [← hc, ← es]; rfl
        have w2 := SG.Walk.one hst
        rw [e1] at w2
        have := w.trans w2
        rw [← es]
        exact ⟨_, this⟩
      · cases e
  · rw [look_put_some, List.mem_append]
    rcases I.st with q | q
    · exact .inl (.inr q)
    · rw [List.mem_append, List.mem_singleton] at q
      rcases q with q | q
      · exact .inr (.inl q)
      · exact .inl (.inl q)
  · rw [look_put_some] at h1
    rw [look_put_some, List.mem_append]
    rcases h1 with h1 | h1
    · subst h1
      refine .inr (.inr (List.mem_filterMap.mpr ?_))
      have hin := (hE.mem (stKey st)).mpr ⟨st, h2, rfl⟩
      obtain ⟨p, hp, ep⟩ := List.mem_map.mp ((keys_look tE _).mpr hin)
      refine ⟨p, hp, ?_⟩
      rw [ep]
      exact if_pos h3
    · rcases I.cl j st h1 h2 h3 with q | q
      · exact .inl (.inr q)
      · rw [List.mem_append, List.mem_singleton] at q
        rcases q with q | q
        · exact .inr (.inl q)
        · exact .inl (.inl q)
  · have h1 := I.sz
    have h2 : (grow tE k).length ≤ tE.length := List.length_filterMap_le _ _
    have h3 : (put t k ()).length = t.length + 1 := by
      unfold SG.put
      rw [if_neg (by rw [h]; simp), List.length_append]
      rfl
    rw [h3, List.length_append, Nat.succ_mul]
    rw [List.length_append] at h1
    simp only [List.length_singleton] at h1
    omega
theorem ok_states_from (F : Fun K "states_from" "states_from" s_states_from f fd) (T : Txt K mg CF CO CS aA aU) : FnOk P w K mg base CX0 1 f fd ["edges", "start"] (spStates P w) := by
  refine F.ok sc_states_from (fun vs H Q E h => ?_) (fun cdv A outer s H vs Q E hr h => ?_)
  · obtain ⟨a, rfl, _⟩ := h
    rfl
  · obtain ⟨⟨pe, S, tE, start⟩, rfl, ⟨Te, hE, hB, hS, hst⟩, k⟩ := h
    have Te : TabA eV RU P w H pe tE := Te
    have hE : EdgeT S tE := hE
    have hB : Bd S 12 := hB
    have hS : S.length ≤ 1680 := hS
    have hst : start < 12 := hst
    have hEl := hE.len
    obtain ⟨kvs, De, alE⟩ := Te.ex
    obtain ⟨oe, hoe⟩ := De.obj
    have elE : kvs.length = tE.length := Paired.length alE
    refine ⟨_, (pss_cons (ps_par (i := 2) (j := 3) rfl sc_states_from.nd rfl rfl (by decide) rfl rfl (pa_cons pe_newE (pa_cons (pe_lst (pa_cons (pe_tup (pa_cons (pv 1) (pa_cons pe_bl pa_nil))) pa_nil)) pa_nil)) (by rfl))
      (pss_cons (ps_while PassesOwn.never (pt_cmpR (op_neD hr.units) (pv 3) (pe_lst pa_nil) (nomark _)) (pss_cons (ps_set (i := 4) sc_states_from.nd rfl (.inl rfl) (pe_bm0 PySem.F.plainAttrs_list PySem.F.slot_list_pop PySem.F.type_list_pop mt_pop (pv 3)))
      (pss_one (ps_if (pt_cmp (pc_notInE (hu_of hr) (pv 4) (pv 2)) rfl) (pss_cons (ps_putE (hu_of hr) (pv 2) (pv 4) pe_bl)
      (pss_one (ps_for PassesOwn.never rfl (pi_E (pv 0)) (pg_tup rfl (pgs_cons (pg_name (i := 5) sc_states_from.nd rfl (.inl rfl)) (pgs_cons (pg_name (i := 6) sc_states_from.nd rfl (.inl rfl)) (pgs_cons (pg_name (i := 7) sc_states_from.nd rfl (.inl rfl)) pgs_nil)))) (pss_one (ps_if (pt_cmpR op_eq (pv 5) (pe_ix ix_tup (pv 4) pe_int (fun _ _ => rfl)) (nomark _)) (pss_one (ps_expr (pe_bm PySem.F.plainAttrs_list PySem.F.slot_list_append PySem.F.type_list_append mt_append (pv 3) (pa_cons (pe_tup (pa_cons (pv 6) (pa_cons (pe_or (pe_ix ix_tup (pv 4) pe_int (fun _ _ => rfl)) (pe_one (pv 7))) pa_nil))) pa_nil)))) pss_nil))))) pss_nil))))
      (pss_one (ps_ret (pv 2))))), ?_⟩
    -- found, waiting = ({}, [(start, False)])
    intro pf o0 hpf
    have e0 : Ex H (upd H pf (dE P w pf o0 [])) := Ex.new hpf
    have hin : EvR (tLst (tCons (tTup (tCons (tVar 1) (tCons (tC (.bl false)) tNil))) tNil)) [some (.ref pe), some (.int start), none, none, none, none, none, none] (upd H pf (dE P w pf o0 [])) (fun v H' => ∃ pw ws, v = .ref pw ∧ H pw = none ∧ H' pw = some (.lst ws) ∧ All Rsk H' ws [(start, false)]) := er_lst1 (er_sk (b := false) (ev_var rfl)) fun v H' p e' r hp => by
      exact ⟨p, [v], rfl, fresh_back (e0.trans e') hp, upd_same, .cons (stb_key _ _ _ (Ex.new hp) r) .nil⟩
    refine hin _ (Ex.refl _) _ fun v H1 e1 r1 => ?_
    obtain ⟨pw, ws0, rfl, npw, hpw, alw⟩ := r1
    refine ⟨_, _, rfl, ?_⟩
    have hpf1 : H1 pf = some (dE P w pf o0 []) := e1 _ _ upd_same
    have Tf1 : TabA skV RU P w H1 pf [] := ⟨⟨[], ⟨⟨o0, hpf1⟩, fun x hx => nomatch hx⟩, .nil⟩⟩
    have eH1 := e0.trans e1
    have nfw : pf ≠ pw := fun z => by
      rw [z, hpw] at hpf1
      exact nomatch (Option.some.inj hpf1)
    have nep : pe ≠ pw := fun z => by
      rw [z, npw] at hoe
      cases hoe
    have nef : pe ≠ pf := fun z => by
      rw [z, hpf] at hoe
      cases hoe
    let W : Nat → St → Hp → Prop := fun m σ' H' => Ex H H' ∧ ∃ t wl ws, TabA skV RU P w H' pf t ∧ H' pw = some (.lst ws) ∧ All Rsk H' ws wl ∧ StI S start tE.length t wl ∧ m = (24 - t.length) * (tE.length + 1) + wl.length ∧ ∃ a4 a5 a6 a7, σ' = [some (.ref pe), some (.int start), some (.ref pf), some (.ref pw), a4, a5, a6, a7]
    refine q_while W _ (⟨eH1, [], [(start, false)], ws0, Tf1, hpw, alw, ⟨by simp, fun k hk => ?_, .inr (by simp), fun k st h => by simp [SG.look_nil] at h, by simp⟩, rfl, _, _, _, _, rfl⟩) fun m σ' H' hw => ?_
    · rcases hk with hk | hk
      · simp [SG.look_nil] at hk
      · rw [List.mem_singleton] at hk
        subst hk
        exact ⟨[], .nil _⟩
    · obtain ⟨w1, t, wl, ws, Tf, hpwl, al, I, rfl, a4, a5, a6, a7, rfl⟩ := hw
      refine ⟨!wl.isEmpty, ev_some (A := Rsk) (d := dSk) rob_sk.weak (er_var rfl fun H' e => ⟨pw, ws, rfl, e _ _ hpwl, al.ex rob_sk e⟩) (fun _ _ h => dpall_sk h) (shaped_sk wl), fun hb H2 e2 => ?_, fun hb H2 e2 => ?_⟩
      · refine ⟨fun σ2 H2 => ∃ m', m' < (24 - t.length) * (tE.length + 1) + wl.length ∧ W m' σ2 H2, fun _ _ h => h, ?_⟩
        obtain ⟨wl', kx, rfl⟩ : ∃ wl' kx, wl = wl' ++ [kx] := by
          have hne : wl ≠ [] := fun z => by rw [z] at hb; cases hb
          exact ⟨wl.dropLast, wl.getLast hne, (List.dropLast_concat_getLast hne).symm⟩
        obtain ⟨ws', x, rfl, al', rx⟩ := All.unsnoc al
        have rx2 := rob_sk.ex e2 rx
        obtain ⟨ts, rfl, hts⟩ := rx2
        have hpw2 := e2 _ _ hpwl
        refine ⟨_, rfl, Or.inl ⟨rfl, _, sq_of hpw2⟩, pw, ws' ++ [.ref ts], .ref ts, rfl, rfl, hpw2, by simp, ?_⟩
        rw [show (ws' ++ [V.ref ts]).dropLast = ws' by simp]
        have b3 : ExB pw H2 (upd H2 pw (.lst ws')) := .upd
        have k3 : KP nlK H2 (upd H2 pw (.lst ws')) := b3.kp hpw2 rfl
        have hts3 : upd H2 pw (.lst ws') ts = some (.tup (skV kx)) := k3 _ _ hts rfl
        have Tf3 : TabA skV RU P w (upd H2 pw (.lst ws')) pf t := (Tf.exx rob_u e2).off rob_u hpw2 rfl nfw b3
        have al3 : All Rsk (upd H2 pw (.lst ws')) ws' wl' := (al'.ex rob_sk e2).kp rob_sk.weak k3
        have eH3 : Ex H (upd H2 pw (.lst ws')) := ExB.ex0 (w1.trans e2) npw b3
        have hpw3 : upd H2 pw (.lst ws') pw = some (.lst ws') := upd_same
        generalize upd H2 pw (.lst ws') = H3 at *
        have hlt := I.len hB hst
        have hsz := I.sz
        have hmul : t.length * tE.length ≤ 24 * 1680 := Nat.mul_le_mul hlt (by omega)
        rw [List.length_append] at hsz
        simp only [List.length_singleton] at hsz
        refine s_when (et_B (et_notIn key_sk rob_u Tf3 (ev_var rfl) (er_var rfl fun H' e' => ⟨ts, rfl, e' _ _ hts3⟩))) (fun hn H4 e4 => ?_) (fun hn H4 e4 => ?_)
        · have hn : look t kx = none := by simpa using hn
          have I' := I.take hE hn
          refine q_putE key_sk rob_u (k := kx) (b := ()) (Tf3.exx rob_u e4) (ev_var rfl) (er_var rfl fun H' e' => ⟨ts, rfl, (e4.trans e') _ _ hts3⟩) (er_of ev_c fun _ _ => rfl) (by omega) fun H5 b5 T5 => ?_
          have Tf4 := Tf3.exx rob_u e4
          obtain ⟨uf, huf⟩ : ∃ u, H4 pf = some u ∧ tupK u = false ∧ nlK u = true := by
            obtain ⟨_, D, _⟩ := Tf4.ex
            obtain ⟨o, ho⟩ := D.obj
            exact ⟨_, ho, rfl, rfl⟩
          have kt5 : KP tupK H3 H5 := (KP.ex e4).trans (b5.kp huf.1 huf.2.1)
          have hts5 := kt5 _ _ hts3 rfl
          have hpw5 : H5 pw = some (.lst ws') := b5 _ _ (e4 _ _ hpw3) (Ne.symm nfw)
          have eH5 : Ex H H5 := ExB.ex0 (eH3.trans e4) hpf b5
          have al5 := al3.kp rob_sk kt5
          refine s_forE (ev_var rfl) (eH5 _ _ hoe) (fun j σ' H' => ExB pw H5 H' ∧ LA Rsk H' pw (wl' ++ grow (tE.take j) kx) ∧ ∃ a5 a6 a7, σ' = [some (.ref pe), some (.int start), some (.ref pf), some (.ref pw), some (.ref ts), a5, a6, a7])
            (fun H6 e6 => ⟨ExB.ex e6, ⟨ws', e6 _ _ hpw5, by simpa [grow] using al5.ex rob_sk e6⟩, _, _, _, rfl⟩) (fun j σ' H' _ q => q.1 _ _ (eH5 _ _ hoe) nep) (fun j kk tt vv σ6 H6 hj q => ?_) (fun σ6 H6 q => ?_)
          · obtain ⟨g1, g2, b5', b6', b7', rfl⟩ := q
            obtain ⟨kp, hkp, ek, rv⟩ := paired_get alE hj
            obtain ⟨e, uu⟩ := kp
            have kn6 : KP nlK H5 H6 := g1.kp hpw5 rfl
            have hkey : H6 tt = some (.tup (eV e)) := by
              have := (De.key _ (List.mem_of_getElem? hj)).1
              have := kn6 _ _ (eH5 _ _ this) rfl
              rw [show kk = eV e from ek] at this
              exact this
            have hts6 := kn6 _ _ hts5 rfl
            refine ⟨tt, _, rfl, st_of hkey, rfl, _, _, rfl, _, _, rfl, _, _, rfl, rfl, ?_⟩
            have et : grow (tE.take (j + 1)) kx = grow (tE.take j) kx ++ (if e.1 = kx.1 then [(e.2.1, kx.2 || e.2.2)] else []) := by
              unfold grow
              rw [List.take_add_one, hkp, List.filterMap_append]
              by_cases c : e.1 = kx.1 <;> simp [c]
            have gl : (grow (tE.take j) kx).length ≤ 1680 := Nat.le_trans (List.length_filterMap_le _ _) (by rw [List.length_take]; omega)
            refine s_when (b := decide (e.1 = kx.1)) (et_is (t_eqI (i := (e.1 : Int)) (j := (kx.1 : Int)) (ev_var rfl) (ev_op (ev_var rfl) ev_c (rv_ixT (st_of hts6) (atI_nat (j := 0) rfl)))) (decide_eq_decide.mpr (by omega))) (fun hc H7 e7 => ?_) (fun hc H7 e7 => ?_)
            · have hc := of_decide_eq_true hc
              refine s_appB (A := Rsk) rob_sk.weak (g2.ex rob_sk.weak e7) (ev_var rfl) (b := (e.2.1, kx.2 || e.2.2)) (er_there (ev_var rfl) (ev_var rfl) (e7 _ _ hts6) (ev_var rfl)) (by rw [List.length_append]; omega) fun H8 b8 l8 => ⟨(g1.trans (ExB.ex e7)).trans b8, ?_, _, _, _, rfl⟩
              rw [et, if_pos hc, ← List.append_assoc]
              exact l8
            · have hc := of_decide_eq_false hc
              refine ⟨g1.trans (ExB.ex e7), ?_, _, _, _, rfl⟩
              rw [et, if_neg hc, List.append_nil]
              exact g2.ex rob_sk.weak e7
          · obtain ⟨g1, g2, b5', b6', b7', rfl⟩ := q
            rw [elE, List.take_length] at g2
            obtain ⟨wsf, hwsf, alf⟩ := g2
            have h3 : (put t kx ()).length = t.length + 1 := by
              unfold SG.put
              rw [if_neg (by rw [hn]; simp), List.length_append]
              rfl
            have hlt' := I'.len hB hst
            have hgr : (grow tE kx).length ≤ tE.length := List.length_filterMap_le _ _
            refine ⟨_, ?_, ExB.ex0 eH5 npw g1, put t kx (), wl' ++ grow tE kx, wsf, T5.off rob_u hpw5 rfl nfw g1, hwsf, alf, I', rfl, _, _, _, _, rfl⟩
            rw [h3, List.length_append, List.length_append]
            simp only [List.length_singleton]
            have : 24 - t.length = (24 - (t.length + 1)) + 1 := by omega
            rw [this, Nat.succ_mul]
            omega
        · have hn : (look t kx).isSome = true := by simpa using hn
          refine ⟨_, ?_, eH3.trans e4, t, wl', ws', Tf3.exx rob_u e4, e4 _ _ hpw3, al3.ex rob_sk e4, I.skip hn, rfl, _, _, _, _, rfl⟩
          rw [List.length_append]
          simp
      · have : wl = [] := by simpa using hb
        subst this
        exact s_retR (er_is (ev_var rfl)) fun v H4 e4 r => by
          rw [show v = _ from r]
          exact k _ H4 (w1.trans (e2.trans e4)) ⟨pf, t, rfl, Tf.exx rob_u (e2.trans e4), I.done⟩
end
end L2.SD

/-! B5: orders.py, Order -/
set_option Elab.async false
set_option linter.all false
set_option maxRecDepth 100000
set_option maxHeartbeats 2000000
namespace L2.SD
open PySem PySem.Spec PyProof.Rows Evl
open Stratigraphy (Fact lowerYearBound upperYearBound stepsOf)
open SG (SK Tab look put Bd VEnt VFact Rch Good anl notAfter)

/-- the states reached from u -/
def RS (P : Program) (w : World) (S : List Stratigraphy.Step) : Nat → V → Hp → Prop := fun u v H => ∃ p t, v = .ref p ∧ TabA skV RU P w H p t ∧ ReachT S u t
theorem tab_kpN {κ β : Type} [DecidableEq κ] {kf : κ → List V} {RV : β → V → Hp → Prop} {P : Program} {w : World} {H H' : Hp} {d : Addr} {t : List (κ × β)} (r : Rob tupK RV) (T : TabA kf RV P w H d t) (k : KP nlK H H') : TabA kf RV P w H' d t := by
  obtain ⟨kvs, D, al⟩ := T.ex
  obtain ⟨o, ho⟩ := D.obj
  have kt : KP tupK H H' := kp_weak (fun o h => by cases o <;> first | rfl | cases h) k
  exact ⟨⟨kvs, ⟨⟨o, k _ _ ho rfl⟩, fun x hx => ⟨kt _ _ (D.key x hx).1 rfl, (D.key x hx).2⟩⟩, Paired.mapP al fun e p q => ⟨q.1, r _ _ _ _ kt q.2⟩⟩⟩
theorem rob_rs {P : Program} {w : World} {S : List Stratigraphy.Step} : Rob nlK (RS P w S) := fun u v H H' k ⟨p, t, e, T, R⟩ => ⟨p, t, e, tab_kpN rob_u T k, R⟩
def ordF (n : Nat) (vf vs : V) : List (Str × V) := [("count", .int n), ("facts", vf), ("states", vs)]
/-- an order of n units and these facts -/
def OrdAt (CF CO : Addr) (P : Program) (w : World) (H : Hp) (r : Addr) (n : Nat) (es : List (Nat × Fact)) : Prop := ∃ dx vf vs, H r = some (.ins CO dx (ordF n vf vs)) ∧ Facts CF es vf H ∧ LR (RS P w (stepsOf es)) (List.range n) vs H
theorem OrdAt.ex {CF CO : Addr} {P : Program} {w : World} {H H' : Hp} {r : Addr} {n : Nat} {es : List (Nat × Fact)} (e : Ex H H') (O : OrdAt CF CO P w H r n es) : OrdAt CF CO P w H' r n es := by
  obtain ⟨dx, vf, vs, h1, h2, h3⟩ := O
  exact ⟨dx, vf, vs, e _ _ h1, ⟨h2.1.ex (rob_fact CF) e, h2.2⟩, h3.ex rob_rs e⟩
section
variable {n : Nat} {vf vs : V}
theorem ord_c : (ordF n vf vs).lookup ("count" : Str) = some (.int n) := lkH
theorem ord_f : (ordF n vf vs).lookup ("facts" : Str) = some vf := (lkP (by decide +kernel)).trans lkH
theorem ord_s : (ordF n vf vs).lookup ("states" : Str) = some vs := (lkP (by decide +kernel)).trans ((lkP (by decide +kernel)).trans lkH)
end
theorem putP {f g : Str} {v x : V} {r : List (Str × V)} (h : ¬ g = f) : putF f v ((g, x) :: r) = (g, x) :: putF f v r := if_neg h
theorem putH {f : Str} {v x : V} {r : List (Str × V)} : putF f v ((f, x) :: r) = (f, v) :: r := if_pos rfl
theorem ord_put (n : Nat) (v v4 : V) : putF "states" v4 (putF "facts" v (putF "count" (.int n) [])) = ordF n v v4 := by
  have e1 : putF "facts" v (putF "count" (.int n) []) = ([("count", .int n), ("facts", v)] : List (Str × V)) := putP (g := "count") (f := "facts") (by decide +kernel)
  rw [e1]
  exact (putP (g := "count") (f := "states") (by decide +kernel)).trans (congrArg _ (putP (g := "facts") (f := "states") (by decide +kernel)))
/-- none of these names is a field -/
theorem ord_no {n : Nat} {vf vs : V} {m : Str} (h1 : (m == ("count" : Str)) = false) (h2 : (m == ("facts" : Str)) = false) (h3 : (m == ("states" : Str)) = false) : (ordF n vf vs).lookup m = none := (lkP h1).trans ((lkP h2).trans ((lkP h3).trans rfl))
/-- what stands off a new instance -/
theorem facts_off {C CF : Addr} {H H' : Hp} {p dx : Addr} {fs : List (Str × V)} {es : List (Nat × Fact)} {v : V} (hp : H p = some (.ins C dx fs)) (hf : ∀ i f b, fs ≠ facF i f b) (e : ExB p H H') (h : LR (Rfact CF) es v H) : LR (Rfact CF) es v H' := by
  obtain ⟨q, ws, rfl, hq, al⟩ := h
  refine ⟨q, ws, rfl, e _ _ hq fun z => ?_, Paired.mapP al fun x c ⟨r, e1, d, h1⟩ => ⟨r, e1, d, e _ _ h1 fun z => ?_⟩⟩
  · rw [z, hp] at hq
    exact nomatch (Option.some.inj hq)
  · rw [z, hp] at h1
    have := Option.some.inj h1
    injection this with a b c
    exact hf _ _ _ c
theorem rs_off {P : Program} {w : World} {S : List Stratigraphy.Step} {C : Addr} {H H' : Hp} {p dx : Addr} {fs : List (Str × V)} {us : List Nat} {v : V} (hp : H p = some (.ins C dx fs)) (e : ExB p H H') (h : LR (RS P w S) us v H) : LR (RS P w S) us v H' := by
  obtain ⟨q, ws, rfl, hq, al⟩ := h
  refine ⟨q, ws, rfl, e _ _ hq fun z => ?_, Paired.mapP al fun x c ⟨d, t, e1, T, R⟩ => ⟨d, t, e1, T.off rob_u hp rfl (fun z => ?_) e, R⟩⟩
  · rw [z, hp] at hq
    exact nomatch (Option.some.inj hq)
  · obtain ⟨_, D, _⟩ := T.ex
    obtain ⟨o, ho⟩ := D.obj
    rw [z, hp] at ho
    exact nomatch (Option.some.inj ho)
def spOInit (CF CO : Addr) (P : Program) (w : World) : Sp := fun vs H Q _ => ∃ (p dx : Addr) (n : Nat) (v : V) (es : List (Nat × Fact)), vs = [.ref p, .int n, v] ∧ H p = some (.ins CO dx []) ∧ Facts CF es v H ∧ Good n es ∧ ∀ H', ExB p H H' → OrdAt CF CO P w H' p n es → Q .non H'
abbrev s_Order_init : Stmt := inClass (topS 33) 0
theorem sc_Order_init : FnScope ["self", "count", "facts", "edges", "unit"] ["self", "count", "facts"] (defScope s_Order_init) := ⟨rfl, rfl, rfl, by decide +kernel, rfl, by decide +kernel, by decide +kernel⟩
section
variable {P : Program} {w : World} {K : PySem.W.Frag} {mg : Str → Option Value} {base : Heap} {CF CO CS aA aU f : Addr} {fd : FuncData}
theorem ok_Order_init (F : Fun K "__init__" "Order.__init__" s_Order_init f fd) (T : Txt K mg CF CO CS aA aU) (o_edges_of : Own P w K mg base "edges_of" 4 ["facts"] (spEdges CF P w)) (o_states_from : Own P w K mg base "states_from" 1 ["edges", "start"] (spStates P w)) :
    FnOk P w K mg base CX0 5 f fd ["self", "count", "facts"] (spOInit CF CO P w) := by
  refine F.ok sc_Order_init (fun vs H Q E h => ?_) (fun cdv A outer s H vs Q E hr h => ?_)
  · obtain ⟨p, dx, n, v, es, rfl, _⟩ := h
    rfl
  · obtain ⟨p, dx, n, v, es, rfl, hp, ⟨hl, hz⟩, G, k⟩ := h
    refine ⟨_, (pss_cons (ps_set (i := 3) sc_Order_init.nd rfl (.inr rfl) (pe_own o_edges_of (hr.mono (by decide)) rfl (pa_cons (pv 2) pa_nil)))
      (pss_cons (ps_fld (pv 0) (pv 1) rfl)
      (pss_cons (ps_fld (pv 0) (pv 2) rfl)
      (pss_one (ps_fld (pv 0) (pe_lc (own := [("unit", 4)]) (g := gName 4) (tt := tYes) (te := (tCall _ [] E0 (tCons (tVar 3) (tCons (tVar 4) tNil)))) rfl sc_Order_init.nd (pi_range1 rfl T.range (pa_cons (pv 1) pa_nil)) (blkOk_by (own := [("unit", 4)]) (N := ["self", "count", "facts", "edges", "unit"]) (sc := defScope s_Order_init) (by decide +kernel)) (fun _ _ _ _ _ => (pg_name (i := 4) sc_Order_init.nd rfl (.inl rfl))) (fun _ _ _ _ _ => pts_nil) (fun _ _ _ _ _ => (pe_own o_states_from (hr.mono (by decide)) rfl (pa_cons (pv 3) (pa_cons (pv 4) pa_nil))))) rfl))))), ?_⟩
    have hB : Bd (stepsOf es) 12 := SG.bd_stepsOf G.V12
    refine q_asgR (er_call (post := fun (a : V × List (Nat × Fact)) v H => ∃ p t, v = .ref p ∧ TabA eV RU P w H p t ∧ EdgeT (stepsOf a.2) t) (R := fun v H => ∃ p t, v = .ref p ∧ TabA eV RU P w H p t ∧ EdgeT (stepsOf es) t) (ear_1 (er_var (R := LR (Rfact CF) es) rfl fun H' e => hl.ex (rob_fact CF) e)) fun us H1 e1 s1 => ?_) fun v3 H1 e1 r1 => ?_
    · obtain ⟨u, rfl, hu⟩ := s1
      exact ⟨(u, es), rfl, ⟨hu, hz⟩, fun v H2 e2 h => h⟩
    obtain ⟨pe, tE, rfl, Te, hE⟩ := r1
    have hp1 := e1 _ _ hp
    have nep : pe ≠ p := fun z => by
      obtain ⟨_, D, _⟩ := Te.ex
      obtain ⟨o, ho⟩ := D.obj
      rw [z, hp1] at ho
      exact nomatch (Option.some.inj ho)
    refine ⟨_, rfl, _, rfl, p, CO, dx, [], rfl, hp1, T.cO, T.nOc, (by show 0 < 1000; decide), ?_⟩
    refine ⟨_, rfl, _, rfl, p, CO, dx, _, rfl, upd_same, T.cO, T.nOf, (by show 1 < 1000; decide), ?_⟩
    have b2 : ExB p H1 (upd (upd H1 p (.ins CO dx (putF "count" (.int n) []))) p (.ins CO dx (putF "facts" v (putF "count" (.int n) [])))) := ExB.trans .upd .upd
    have hp2 : upd (upd H1 p (.ins CO dx (putF "count" (.int n) []))) p (.ins CO dx (putF "facts" v (putF "count" (.int n) []))) p = some (.ins CO dx (putF "facts" v (putF "count" (.int n) []))) := upd_same
    have Te2 := Te.off rob_u hp1 rfl nep b2
    have hn : n ≤ 12 := G.n12
    have hlc : EvR (tLc (iRng1 (tCons (tVar 1) tNil)) (gName 4) tYes (tCall (spStates P w) [] E0 (tCons (tVar 3) (tCons (tVar 4) tNil))) [4]) [some (.ref p), some (.int n), some v, some (.ref pe), none] (upd (upd H1 p (.ins CO dx (putF "count" (.int n) []))) p (.ins CO dx (putF "facts" v (putF "count" (.int n) [])))) (LR (RS P w (stepsOf es)) ((List.range n).filterMap some)) := by
      refine er_lcR rob_rs some (ea_cons (ev_var rfl) ea_nil) (by omega) (fun x => rfl) (fun i H2 e2 hi => fun H3 e3 Q3 q3 => q3 H3 (Ex.refl _)) (fun i H2 b e2 hi hb => ?_)
      obtain rfl : i = b := Option.some.inj hb
      exact er_call (ear_is (ea_cons (ev_var rfl) (ea_cons (ev_var rfl) ea_nil))) fun us H3 e3 s3 => ⟨(pe, stepsOf es, tE, i), s3, ⟨Te2.exx rob_u (e2.trans e3), hE, hB, steps_len hz, by show i < 12; omega⟩, fun v H4 e4 ⟨p, t, a, b, c⟩ => ⟨p, t, a, b, c⟩⟩
    rw [List.filterMap_some] at hlc
    dsimp only
    refine s_fldR hlc (stb_lr rob_rs _) (ev_var rfl) hp2 T.cO T.nOs (by show 2 < 1000; decide) fun v4 H4 e4 r4 => ?_
    have b5 : ExB p H1 (upd H4 p (.ins CO dx (putF "states" v4 (putF "facts" v (putF "count" (.int n) []))))) := (b2.trans (ExB.ex e4)).trans .upd
    refine k _ ((ExB.ex e1).trans b5) ⟨dx, v, v4, ?_, ⟨facts_off hp1 (fun i f b => by unfold facF; simp) b5 (hl.ex (rob_fact CF) e1), hz⟩, rs_off (e4 _ _ hp2) .upd r4⟩
    exact Eq.trans upd_same (congrArg (fun q => some (HO.ins CO dx q)) (ord_put n v v4))
end
/-! ### methods -/
structure OA where
  r : Addr
  n : Nat
  es : List (Nat × Fact)
  one : Nat
  other : Nat
def spO2 (CF CO : Addr) (P : Program) (w : World) (post : Nat → List (Nat × Fact) → Nat → Nat → V → Hp → Prop) : Sp := spP (α := OA) (fun a => [.ref a.r, .int a.one, .int a.other]) (fun a H => OrdAt CF CO P w H a.r a.n a.es ∧ Good a.n a.es ∧ a.one < a.n ∧ a.other < a.n) (fun a v H => post a.n a.es a.one a.other v H)
def spO1 (CF CO : Addr) (P : Program) (w : World) (post : Nat → List (Nat × Fact) → Nat → V → Hp → Prop) : Sp := spP (α := OA) (fun a => [.ref a.r, .int a.one]) (fun a H => OrdAt CF CO P w H a.r a.n a.es ∧ Good a.n a.es ∧ a.one < a.n) (fun a v H => post a.n a.es a.one v H)
def spO0 (CF CO : Addr) (P : Program) (w : World) (post : Nat → List (Nat × Fact) → V → Hp → Prop) : Sp := spP (α := OA) (fun a => [.ref a.r]) (fun a H => OrdAt CF CO P w H a.r a.n a.es ∧ Good a.n a.es) (fun a v H => post a.n a.es v H)
abbrev PB (g : Stratigraphy.Analysis → Nat → Nat → Bool) : Nat → List (Nat × Fact) → Nat → Nat → V → Hp → Prop := fun n es a b v _ => v = .bl (g (anl n es) a b)
abbrev PI2 (g : Stratigraphy.Analysis → Nat → Nat → Int) : Nat → List (Nat × Fact) → Nat → Nat → V → Hp → Prop := fun n es a b v _ => v = .int (g (anl n es) a b)
abbrev PI1 (g : Stratigraphy.Analysis → Nat → Int) : Nat → List (Nat × Fact) → Nat → V → Hp → Prop := fun n es a v _ => v = .int (g (anl n es) a)
def Rord (CF CO : Addr) (P : Program) (w : World) (n : Nat) (es : List (Nat × Fact)) : V → Hp → Prop := fun v H => ∃ r, v = .ref r ∧ OrdAt CF CO P w H r n es
theorem stb_ord {CF CO : Addr} {P : Program} {w : World} {n : Nat} {es : List (Nat × Fact)} : Stb (Rord CF CO P w n es) := fun v H H' e ⟨r, h, O⟩ => ⟨r, h, O.ex e⟩
/-- a method's name is no field -/
def NoF (m : Str) : Prop := (m == ("count" : Str)) = false ∧ (m == ("facts" : Str)) = false ∧ (m == ("states" : Str)) = false
section
variable {CF CO : Addr} {P : Program} {w : World} {σ : St} {H : Hp} {to t1 t2 : TE} {n : Nat} {es : List (Nat × Fact)} {a b : Nat} {m : Str}
theorem er_o2 {post : Nat → List (Nat × Fact) → Nat → Nat → V → Hp → Prop} (G : Good n es) (hm : NoF m) (ho : EvR to σ H (Rord CF CO P w n es)) (h1 : Ev t1 σ H (.int a)) (h2 : Ev t2 σ H (.int b)) (ha : a < n) (hb : b < n) :
    EvR (tMeth CO m (spO2 CF CO P w post) [] E0 to (tCons t1 (tCons t2 tNil))) σ H (post n es a b) :=
  er_meth ho stb_ord (fun v H1 e1 ⟨r, e, dx, vf, vs, h, _⟩ => ⟨r, dx, _, e, h, ord_no hm.1 hm.2.1 hm.2.2⟩) (ear_is (ea_cons h1 (ea_cons h2 ea_nil))) fun v us H1 e1 ⟨r, e, O⟩ s => ⟨⟨r, n, es, a, b⟩, by rw [e, s], ⟨O, G, ha, hb⟩, fun u H2 e2 h => h⟩
theorem er_o1 {post : Nat → List (Nat × Fact) → Nat → V → Hp → Prop} (G : Good n es) (hm : NoF m) (ho : EvR to σ H (Rord CF CO P w n es)) (h1 : Ev t1 σ H (.int a)) (ha : a < n) :
    EvR (tMeth CO m (spO1 CF CO P w post) [] E0 to (tCons t1 tNil)) σ H (post n es a) :=
  er_meth ho stb_ord (fun v H1 e1 ⟨r, e, dx, vf, vs, h, _⟩ => ⟨r, dx, _, e, h, ord_no hm.1 hm.2.1 hm.2.2⟩) (ear_is (ea_cons h1 ea_nil)) fun v us H1 e1 ⟨r, e, O⟩ s => ⟨⟨r, n, es, a, 0⟩, by rw [e, s], ⟨O, G, ha⟩, fun u H2 e2 h => h⟩
theorem er_o0 {post : Nat → List (Nat × Fact) → V → Hp → Prop} (G : Good n es) (hm : NoF m) (ho : EvR to σ H (Rord CF CO P w n es)) :
    EvR (tMeth CO m (spO0 CF CO P w post) [] E0 to tNil) σ H (post n es) :=
  er_meth ho stb_ord (fun v H1 e1 ⟨r, e, dx, vf, vs, h, _⟩ => ⟨r, dx, _, e, h, ord_no hm.1 hm.2.1 hm.2.2⟩) (ear_is ea_nil) fun v us H1 e1 ⟨r, e, O⟩ s => ⟨⟨r, n, es, 0, 0⟩, by rw [e, s], ⟨O, G⟩, fun u H2 e2 h => h⟩
/-- one table of the states -/
theorem ev_reach {K : PySem.W.Frag} {mg : Str → Option Value} {CS aA aU : Addr} (T : Txt K mg CF CO CS aA aU) {r : Addr} {c : Bool} (O : OrdAt CF CO P w H r n es) (ho : Ev to σ H (.ref r)) (h1 : Ev t1 σ H (.int a)) (h2 : Ev t2 σ H (.int b)) (ha : a < n) :
    ∃ x : Bool, (x = true ↔ Rch es a c b) ∧ Ev (tInE P w (tTup (tCons t2 (tCons (tC (.bl c)) tNil))) (tOp (rIxL K) (tFld K to "states") t1)) σ H (.bl x) := by
  obtain ⟨dx, vf, vs, hr, _, ps, ws, rfl, hps, al⟩ := O
  obtain ⟨x, hx, pd, t, rfl, Tt, R⟩ := al.get' (i := a) (b := a) (by simp [ha])
  refine ⟨(look t (b, c)).isSome, R (b, c), et_in key_sk rob_u Tt (ev_op (x := .ref ps) (fun H1 e Q q => ho H1 e _ fun H2 e2 => ?_) h1 (rv_ixL (sq_of hps) (atI_nat hx))) (er_sk h2)⟩
  exact ⟨r, CO, dx, _, _, rfl, e2 _ _ (e _ _ hr), T.cO, T.nOs, ord_s, q H2 e2⟩
theorem ev_cnt {K : PySem.W.Frag} {mg : Str → Option Value} {CS aA aU : Addr} (T : Txt K mg CF CO CS aA aU) {r : Addr} (O : OrdAt CF CO P w H r n es) (ho : Ev to σ H (.ref r)) : Ev (tFld K to "count") σ H (.int n) := fun H1 e Q q => ho H1 e _ fun H2 e2 => by
  obtain ⟨dx, vf, vs, hr, _⟩ := O
  exact ⟨r, CO, dx, _, _, rfl, e2 _ _ (e _ _ hr), T.cO, T.nOc, ord_c, q H2 e2⟩
theorem er_fcts {K : PySem.W.Frag} {mg : Str → Option Value} {CS aA aU : Addr} (T : Txt K mg CF CO CS aA aU) {r : Addr} (O : OrdAt CF CO P w H r n es) (ho : Ev to σ H (.ref r)) : EvR (tFld K to "facts") σ H (fun v H => LR (Rfact CF) es v H ∧ es.length ≤ 40) := fun H1 e Q q => ho H1 e _ fun H2 e2 => by
  obtain ⟨dx, vf, vs, hr, hf, _⟩ := O
  exact ⟨r, CO, dx, _, _, rfl, e2 _ _ (e _ _ hr), T.cO, T.nOf, ord_f, q _ H2 e2 ⟨hf.1.ex (rob_fact CF) (e.trans e2), hf.2⟩⟩
end
abbrev s_Order_is_before : Stmt := inClass (topS 33) 1
theorem sc_Order_is_before : FnScope ["self", "one", "other"] ["self", "one", "other"] (defScope s_Order_is_before) := ⟨rfl, rfl, rfl, by decide +kernel, rfl, by decide +kernel, by decide +kernel⟩
abbrev s_Order_is_same : Stmt := inClass (topS 33) 2
theorem sc_Order_is_same : FnScope ["self", "one", "other"] ["self", "one", "other"] (defScope s_Order_is_same) := ⟨rfl, rfl, rfl, by decide +kernel, rfl, by decide +kernel, by decide +kernel⟩
abbrev s_Order_is_not_after : Stmt := inClass (topS 33) 3
theorem sc_Order_is_not_after : FnScope ["self", "one", "other"] ["self", "one", "other"] (defScope s_Order_is_not_after) := ⟨rfl, rfl, rfl, by decide +kernel, rfl, by decide +kernel, by decide +kernel⟩
abbrev s_Order_stratum : Stmt := inClass (topS 33) 4
theorem sc_Order_stratum : FnScope ["self", "unit", "other"] ["self", "unit"] (defScope s_Order_stratum) := ⟨rfl, rfl, rfl, by decide +kernel, rfl, by decide +kernel, by decide +kernel⟩
abbrev s_Order_strata : Stmt := inClass (topS 33) 5
theorem sc_Order_strata : FnScope ["self", "unit"] ["self"] (defScope s_Order_strata) := ⟨rfl, rfl, rfl, by decide +kernel, rfl, by decide +kernel, by decide +kernel⟩
section
variable {P : Program} {w : World} {K : PySem.W.Frag} {mg : Str → Option Value} {base : Heap} {CF CO CS aA aU f : Addr} {fd : FuncData}
theorem ok_is_before (F : Fun K "is_before" "Order.is_before" s_Order_is_before f fd) (T : Txt K mg CF CO CS aA aU) : FnOk P w K mg base CX0 1 f fd ["self", "one", "other"] (spO2 CF CO P w (PB fun an => an.isEarlier)) := by
  refine F.ok sc_Order_is_before (fun vs H Q E h => ?_) (fun cdv A outer s H vs Q E hr h => ?_)
  · obtain ⟨a, rfl, _⟩ := h
    rfl
  · obtain ⟨⟨r, n, es, a, b⟩, rfl, ⟨O, G, ha, hb⟩, k⟩ := h
    refine ⟨_, (pss_one (ps_ret (pe_cmp (pc_inE (hu_of hr) (pe_tup (pa_cons (pv 2) (pa_cons pe_bl pa_nil))) (pe_ix ix_list (pe_fld (pv 0) rfl) (pv 1) (fun _ _ => rfl))) rfl))), ?_⟩
    obtain ⟨x, hx, ev⟩ := ev_reach (c := true) T O (to := tVar 0) (t1 := tVar 1) (t2 := tVar 2) (a := a) (b := b) (σ := [some (.ref r), some (.int a), some (.int b)]) (ev_var rfl) (ev_var rfl) (ev_var rfl) ha
    refine s_retR (er_is ev) fun v H1 e q => k v H1 e ?_
    rw [show v = _ from q]
    have : x = (anl n es).isEarlier a b := Bool.eq_iff_iff.mpr (hx.trans (G.before ha hb).symm)
    rw [this]
theorem ok_is_same (F : Fun K "is_same" "Order.is_same" s_Order_is_same f fd) (T : Txt K mg CF CO CS aA aU) : FnOk P w K mg base CX0 1 f fd ["self", "one", "other"] (spO2 CF CO P w (PB fun an => an.sameStratum)) := by
  refine F.ok sc_Order_is_same (fun vs H Q E h => ?_) (fun cdv A outer s H vs Q E hr h => ?_)
  · obtain ⟨a, rfl, _⟩ := h
    rfl
  · obtain ⟨⟨r, n, es, a, b⟩, rfl, ⟨O, G, ha, hb⟩, k⟩ := h
    refine ⟨_, (pss_one (ps_ret (pe_cmp (pc_inE (hu_of hr) (pe_tup (pa_cons (pv 2) (pa_cons pe_bl pa_nil))) (pe_ix ix_list (pe_fld (pv 0) rfl) (pv 1) (fun _ _ => rfl))) rfl))), ?_⟩
    obtain ⟨x, hx, ev⟩ := ev_reach (c := false) T O (to := tVar 0) (t1 := tVar 1) (t2 := tVar 2) (a := a) (b := b) (σ := [some (.ref r), some (.int a), some (.int b)]) (ev_var rfl) (ev_var rfl) (ev_var rfl) ha
    refine s_retR (er_is ev) fun v H1 e q => k v H1 e ?_
    rw [show v = _ from q]
    have : x = (anl n es).sameStratum a b := Bool.eq_iff_iff.mpr (hx.trans (G.same ha hb).symm)
    rw [this]
theorem ok_is_not_after (F : Fun K "is_not_after" "Order.is_not_after" s_Order_is_not_after f fd) (T : Txt K mg CF CO CS aA aU) (o_Order_is_before : OwnM P w K mg base CO "is_before" 1 ["self", "one", "other"] (spO2 CF CO P w (PB fun an => an.isEarlier)))
    (o_Order_is_same : OwnM P w K mg base CO "is_same" 1 ["self", "one", "other"] (spO2 CF CO P w (PB fun an => an.sameStratum))) : FnOk P w K mg base CX0 2 f fd ["self", "one", "other"] (spO2 CF CO P w (PB notAfter)) := by
  refine F.ok sc_Order_is_not_after (fun vs H Q E h => ?_) (fun cdv A outer s H vs Q E hr h => ?_)
  · obtain ⟨a, rfl, _⟩ := h
    rfl
  · obtain ⟨⟨r, n, es, a, b⟩, rfl, ⟨O, G, ha, hb⟩, k⟩ := h
    refine ⟨_, (pss_one (ps_ret (pe_or (pe_ownM o_Order_is_same (hr.mono (by decide)) (pv 0) (pa_cons (pv 1) (pa_cons (pv 2) pa_nil))) (pe_one (pe_ownM o_Order_is_before (hr.mono (by decide)) (pv 0) (pa_cons (pv 1) (pa_cons (pv 2) pa_nil))))))), ?_⟩
    refine s_retR (er_is (ev_orV (a := (anl n es).sameStratum a b) (b := (anl n es).isEarlier a b) (ev_of (er_o2 G ⟨by decide +kernel, by decide +kernel, by decide +kernel⟩ (er_var rfl fun H' e => ⟨r, rfl, O.ex e⟩) (ev_var rfl) (ev_var rfl) ha hb)) fun _ => ev_of (er_o2 G ⟨by decide +kernel, by decide +kernel, by decide +kernel⟩ (er_var rfl fun H' e => ⟨r, rfl, O.ex e⟩) (ev_var rfl) (ev_var rfl) ha hb))) fun v H1 e q => k v H1 e ?_
    exact q
end
theorem some_if {c : Bool} {i : Nat} : c = (if c = true then some i else none).isSome := by cases c <;> rfl
theorem lr_nat_int {l : List Nat} {v : V} {H : Hp} (h : LR Rnat l v H) : LR Rint (l.map fun (n : Nat) => (n : Int)) v H := by
  obtain ⟨p, ws, e, hp, al⟩ := h
  refine ⟨p, ws, e, hp, ?_⟩
  clear hp
  induction al with
  | nil => exact .nil
  | cons r _ ih => exact .cons r ih
theorem fm_filter {α : Type} (p : α → Bool) : ∀ l : List α, (l.filterMap fun i => if p i = true then some i else none) = l.filter p
  | [] => rfl
  | x :: l => by
    have ih := fm_filter p l
    by_cases h : p x = true
    · rw [List.filter_cons_of_pos h, ← ih]; simp [h]
    · rw [List.filter_cons_of_neg h, ← ih]; simp [h]
theorem anl_len {n : Nat} {es : List (Nat × Fact)} : (anl n es).noEarlier.length = n := by
  show ((List.range n).map _).length = n
  simp
section
variable {P : Program} {w : World} {K : PySem.W.Frag} {mg : Str → Option Value} {base : Heap} {CF CO CS aA aU f : Addr} {fd : FuncData}
theorem ok_stratum (F : Fun K "stratum" "Order.stratum" s_Order_stratum f fd) (T : Txt K mg CF CO CS aA aU) (o_Order_is_same : OwnM P w K mg base CO "is_same" 1 ["self", "one", "other"] (spO2 CF CO P w (PB fun an => an.sameStratum))) :
    FnOk P w K mg base CX0 2 f fd ["self", "unit"] (spO1 CF CO P w (PI1 fun an u => (an.stratumOf u : Nat))) := by
  refine F.ok sc_Order_stratum (fun vs H Q E h => ?_) (fun cdv A outer s H vs Q E hr h => ?_)
  · obtain ⟨a, rfl, _⟩ := h
    rfl
  · obtain ⟨⟨r, n, es, u, _⟩, rfl, ⟨O, G, hu⟩, k⟩ := h
    have G : Good n es := G
    have hu : u < n := hu
    refine ⟨_, (pss_one (ps_ret (pe_callB (cr_min rfl) (by rfl) T.min (by decide +kernel) (pa_cons (pe_lc (own := [("other", 2)]) (g := gName 2) (tt := (tB (tMeth _ "is_same" _ [] E0 (tVar 0) (tCons (tVar 1) (tCons (tVar 2) tNil))))) (te := (tVar 2)) rfl sc_Order_stratum.nd (pi_range1 rfl T.range (pa_cons (pe_fld (pv 0) rfl) pa_nil)) (blkOk_by (own := [("other", 2)]) (N := ["self", "unit", "other"]) (sc := defScope s_Order_stratum) (by decide +kernel)) (fun _ _ _ _ _ => (pg_name (i := 2) sc_Order_stratum.nd rfl (.inl rfl))) (fun _ _ _ _ _ => pts_one (pt_val (pe_ownM o_Order_is_same (hr.mono (by decide)) (pv 0) (pa_cons (pv 1) (pa_cons (pv 2) pa_nil))))) (fun _ _ _ _ _ => (pv 2))) pa_nil)))), ?_⟩
    have hlc : EvR (tLc (iRng1 (tCons (tFld K (tVar 0) "count") tNil)) (gName 2) (tB (tMeth CO "is_same" (spO2 CF CO P w (PB fun an => an.sameStratum)) [] E0 (tVar 0) (tCons (tVar 1) (tCons (tVar 2) tNil)))) (tVar 2) [2]) [some (.ref r), some (.int u), none] H (LR Rnat ((List.range n).filterMap fun i => if (anl n es).sameStratum u i = true then some i else none)) :=
      er_lcR rob_nat _ (ea_cons (ev_cnt T O (ev_var rfl)) ea_nil) (by have := G.n12; omega) (fun x => rfl) (fun i H1 e1 hi => et_is (et_B (ev_of (er_o2 G ⟨by decide +kernel, by decide +kernel, by decide +kernel⟩ (er_var rfl fun H' e => ⟨r, rfl, O.ex (e1.trans e)⟩) (ev_var rfl) (ev_var rfl) hu hi))) some_if) (fun i H1 b e1 hi hb => ?_)
    · rw [fm_filter] at hlc
      have hne : u ∈ (List.range n).filter fun i => (anl n es).sameStratum u i := by
        rw [List.mem_filter]
        exact ⟨List.mem_range.mpr hu, G.same_refl hu⟩
      refine s_retR (call_min (hlc.weak fun v H' e q => lr_nat_int q) (by rw [List.length_map]; exact List.length_pos_of_mem hne)) fun v H1 e r => k v H1 e ?_
      obtain ⟨m, rfl, h1, h2⟩ := r
      obtain ⟨m', h3, rfl⟩ := List.mem_map.mp h1
      rw [List.mem_filter] at h3
      have := G.stratum_min hu h3.2 fun j hj hs => by
        have := h2 (j : Int) (List.mem_map.mpr ⟨j, List.mem_filter.mpr ⟨List.mem_range.mpr hj, hs⟩, rfl⟩)
        omega
      rw [this]
    · by_cases c : (anl n es).sameStratum u i = true
      · rw [if_pos c] at hb
        cases hb
        exact er_of (ev_var rfl) fun _ _ => rfl
      · rw [if_neg c] at hb
        cases hb
theorem ok_strata (F : Fun K "strata" "Order.strata" s_Order_strata f fd) (T : Txt K mg CF CO CS aA aU) (o_Order_stratum : OwnM P w K mg base CO "stratum" 2 ["self", "unit"] (spO1 CF CO P w (PI1 fun an u => (an.stratumOf u : Nat)))) :
    FnOk P w K mg base CX0 3 f fd ["self"] (spO0 CF CO P w fun n es v H => LR Rnat (anl n es).strata v H) := by
  refine F.ok sc_Order_strata (fun vs H Q E h => ?_) (fun cdv A outer s H vs Q E hr h => ?_)
  · obtain ⟨a, rfl, _⟩ := h
    rfl
  · obtain ⟨⟨r, n, es, _, _⟩, rfl, ⟨O, G⟩, k⟩ := h
    have G : Good n es := G
    refine ⟨_, (pss_one (ps_ret (pe_lc (own := [("unit", 1)]) (g := gName 1) (tt := (tTest (tOp _ (tMeth _ "stratum" _ [] E0 (tVar 0) (tCons (tVar 1) tNil)) (tVar 1)))) (te := (tVar 1)) rfl sc_Order_strata.nd (pi_range1 rfl T.range (pa_cons (pe_fld (pv 0) rfl) pa_nil)) (blkOk_by (own := [("unit", 1)]) (N := ["self", "unit"]) (sc := defScope s_Order_strata) (by decide +kernel)) (fun _ _ _ _ _ => (pg_name (i := 1) sc_Order_strata.nd rfl (.inl rfl))) (fun _ _ _ _ _ => pts_one (pt_cmpR op_eq (pe_ownM o_Order_stratum (hr.mono (by decide)) (pv 0) (pa_cons (pv 1) pa_nil)) (pv 1) (nomark _))) (fun _ _ _ _ _ => (pv 1))))), ?_⟩
    have hlc : EvR (tLc (iRng1 (tCons (tFld K (tVar 0) "count") tNil)) (gName 1) (tTest (tOp rEq (tMeth CO "stratum" (spO1 CF CO P w (PI1 fun an u => (an.stratumOf u : Nat))) [] E0 (tVar 0) (tCons (tVar 1) tNil)) (tVar 1))) (tVar 1) [1]) [some (.ref r), none] H (LR Rnat ((List.range n).filterMap fun i => if ((anl n es).stratumOf i == i) = true then some i else none)) :=
      er_lcR rob_nat _ (ea_cons (ev_cnt T O (ev_var rfl)) ea_nil) (by have := G.n12; omega) (fun x => rfl) (fun i H1 e1 hi => et_is (t_eqI (i := ((anl n es).stratumOf i : Nat)) (j := (i : Int)) (ev_of (er_o1 G ⟨by decide +kernel, by decide +kernel, by decide +kernel⟩ (er_var rfl fun H' e => ⟨r, rfl, O.ex (e1.trans e)⟩) (ev_var rfl) hi)) (ev_var rfl)) (by
        by_cases c : (anl n es).stratumOf i = i
        · rw [c]; simp
        · rw [if_neg (by simpa using c)]; simp; omega)) (fun i H1 b e1 hi hb => ?_)
    · rw [fm_filter] at hlc
      refine s_retR hlc fun v H1 e r => k v H1 e ?_
      show LR Rnat ((List.range (anl n es).noEarlier.length).filter _) v H1
      rw [anl_len]
      exact r
    · by_cases c : ((anl n es).stratumOf i == i) = true
      · rw [if_pos c] at hb
        cases hb
        exact er_of (ev_var rfl) fun _ _ => rfl
      · rw [if_neg c] at hb
        cases hb
end
/-! ### years -/
def Ry (Pr : Nat → Int → Prop) : Nat → V → Hp → Prop := fun o v _ => ∃ y, v = .int y ∧ Pr o y
theorem rob_ry {keep : HO → Bool} {Pr : Nat → Int → Prop} : Rob keep (Ry Pr) := fun _ _ _ _ _ h => h
theorem ry_ints {Pr : Nat → Int → Prop} {H : Hp} : ∀ {ws : List V} {L : List Nat}, All (Ry Pr) H ws L → ∃ ns : List Int, ws = ns.map V.int ∧ Paired (fun y o => Pr o y) ns L
  | _, _, .nil => ⟨[], rfl, .nil⟩
  | _, _, .cons ⟨y, e, p⟩ t => by
    obtain ⟨ns, e2, al⟩ := ry_ints t
    exact ⟨y :: ns, by rw [e, e2]; rfl, .cons p al⟩
theorem paired_mem {α β : Type} {R : α → β → Prop} : ∀ {l : List α} {m : List β}, Paired R l m → (∀ x ∈ l, ∃ y ∈ m, R x y) ∧ ∀ y ∈ m, ∃ x ∈ l, R x y
  | _, _, .nil => ⟨fun x h => (nomatch h), fun x h => (nomatch h)⟩
  | _, _, .cons r t => by
    obtain ⟨h1, h2⟩ := paired_mem t
    refine ⟨fun x hx => ?_, fun y hy => ?_⟩
    · rcases List.mem_cons.mp hx with e | hx
      · subst e; exact ⟨_, List.mem_cons_self, r⟩
      · obtain ⟨y, hy, q⟩ := h1 x hx; exact ⟨y, List.mem_cons_of_mem _ hy, q⟩
    · rcases List.mem_cons.mp hy with e | hy
      · subst e; exact ⟨_, List.mem_cons_self, r⟩
      · obtain ⟨x, hx, q⟩ := h2 y hy; exact ⟨x, List.mem_cons_of_mem _ hx, q⟩
theorem call_maxY {σ : St} {H : Hp} {K : PySem.W.Frag} {te : TE} {Pr : Nat → Int → Prop} {L : List Nat} (h : EvR te σ H (LR (Ry Pr) L)) (hl : 0 < L.length) : EvR (tCB (rMax K) (tCons te tNil)) σ H (fun v _ => ∃ m, v = .int m ∧ (∃ o ∈ L, Pr o m) ∧ ∀ o ∈ L, ∃ y, Pr o y ∧ y ≤ m) := er_cb (ear_1 h) fun vs H1 e1 s Q q => by
  obtain ⟨v, rfl, p, ws, rfl, hp, al⟩ := s
  obtain ⟨ns, rfl, pl⟩ := ry_ints al
  obtain ⟨g1, g2⟩ := paired_mem pl
  refine ⟨p, ns, rfl, sq_of hp, by rw [pl.length]; exact hl, fun m h1 h2 => q _ H1 (Ex.refl _) ⟨m, rfl, g1 m h1, fun o ho => ?_⟩⟩
  obtain ⟨y, hy, r⟩ := g2 o ho
  exact ⟨y, r, h2 y hy⟩
theorem call_minY {σ : St} {H : Hp} {K : PySem.W.Frag} {te : TE} {Pr : Nat → Int → Prop} {L : List Nat} (h : EvR te σ H (LR (Ry Pr) L)) (hl : 0 < L.length) : EvR (tCB (rMin K) (tCons te tNil)) σ H (fun v _ => ∃ m, v = .int m ∧ (∃ o ∈ L, Pr o m) ∧ ∀ o ∈ L, ∃ y, Pr o y ∧ m ≤ y) := er_cb (ear_1 h) fun vs H1 e1 s Q q => by
  obtain ⟨v, rfl, p, ws, rfl, hp, al⟩ := s
  obtain ⟨ns, rfl, pl⟩ := ry_ints al
  obtain ⟨g1, g2⟩ := paired_mem pl
  refine ⟨p, ns, rfl, sq_of hp, by rw [pl.length]; exact hl, fun m h1 h2 => q _ H1 (Ex.refl _) ⟨m, rfl, g1 m h1, fun o ho => ?_⟩⟩
  obtain ⟨y, hy, r⟩ := g2 o ho
  exact ⟨y, r, h2 y hy⟩
abbrev earlyOf (an : Stratigraphy.Analysis) (u : Nat) : Int := an.earliestYear.getD u 0
abbrev lateOf (an : Stratigraphy.Analysis) (u : Nat) : Int := an.latestYear.getD u 0
abbrev s_Order_earliest : Stmt := inClass (topS 33) 6
theorem sc_Order_earliest : FnScope ["self", "unit", "other"] ["self", "unit"] (defScope s_Order_earliest) := ⟨rfl, rfl, rfl, by decide +kernel, rfl, by decide +kernel, by decide +kernel⟩
abbrev s_Order_latest : Stmt := inClass (topS 33) 7
theorem sc_Order_latest : FnScope ["self", "unit", "other"] ["self", "unit"] (defScope s_Order_latest) := ⟨rfl, rfl, rfl, by decide +kernel, rfl, by decide +kernel, by decide +kernel⟩
abbrev s_Order_earlier_answer : Stmt := inClass (topS 33) 8
theorem sc_Order_earlier_answer : FnScope ["self", "one", "other"] ["self", "one", "other"] (defScope s_Order_earlier_answer) := ⟨rfl, rfl, rfl, by decide +kernel, rfl, by decide +kernel, by decide +kernel⟩
abbrev s_Order_same_year_answer : Stmt := inClass (topS 33) 9
theorem sc_Order_same_year_answer : FnScope ["self", "one", "other", "first", "last", "begin", "end"] ["self", "one", "other"] (defScope s_Order_same_year_answer) := ⟨rfl, rfl, rfl, by decide +kernel, rfl, by decide +kernel, by decide +kernel⟩
section
variable {P : Program} {w : World} {K : PySem.W.Frag} {mg : Str → Option Value} {base : Heap} {CF CO CS aA aU f : Addr} {fd : FuncData}
theorem ok_earliest (F : Fun K "earliest" "Order.earliest" s_Order_earliest f fd) (T : Txt K mg CF CO CS aA aU) (o_Order_is_not_after : OwnM P w K mg base CO "is_not_after" 2 ["self", "one", "other"] (spO2 CF CO P w (PB notAfter)))
    (o_begin_of : Own P w K mg base "begin_of" 2 ["facts", "unit"] (spYr CF fun es u y => SG.EarlyP es (fun x => x = u) y)) : FnOk P w K mg base CX0 3 f fd ["self", "unit"] (spO1 CF CO P w (PI1 earlyOf)) := by
  refine F.ok sc_Order_earliest (fun vs H Q E h => ?_) (fun cdv A outer s H vs Q E hr h => ?_)
  · obtain ⟨a, rfl, _⟩ := h
    rfl
  · obtain ⟨⟨r, n, es, u, _⟩, rfl, ⟨O, G, hu⟩, k⟩ := h
    have G : Good n es := G
    have hu : u < n := hu
    refine ⟨_, (pss_one (ps_ret (pe_callB (cr_max rfl) (by rfl) T.max (by decide +kernel) (pa_cons (pe_lc (own := [("other", 2)]) (g := gName 2) (tt := (tB (tMeth _ "is_not_after" _ [] E0 (tVar 0) (tCons (tVar 2) (tCons (tVar 1) tNil))))) (te := (tCall _ [] E0 (tCons (tFld K (tVar 0) "facts") (tCons (tVar 2) tNil)))) rfl sc_Order_earliest.nd (pi_range1 rfl T.range (pa_cons (pe_fld (pv 0) rfl) pa_nil)) (blkOk_by (own := [("other", 2)]) (N := ["self", "unit", "other"]) (sc := defScope s_Order_earliest) (by decide +kernel)) (fun _ _ _ _ _ => (pg_name (i := 2) sc_Order_earliest.nd rfl (.inl rfl))) (fun _ _ _ _ _ => pts_one (pt_val (pe_ownM o_Order_is_not_after (hr.mono (by decide)) (pv 0) (pa_cons (pv 2) (pa_cons (pv 1) pa_nil))))) (fun _ _ _ _ _ => (pe_own o_begin_of (hr.mono (by decide)) rfl (pa_cons (pe_fld (pv 0) rfl) (pa_cons (pv 2) pa_nil))))) pa_nil)))), ?_⟩
    have hlc : EvR (tLc (iRng1 (tCons (tFld K (tVar 0) "count") tNil)) (gName 2) (tB (tMeth CO "is_not_after" (spO2 CF CO P w (PB notAfter)) [] E0 (tVar 0) (tCons (tVar 2) (tCons (tVar 1) tNil)))) (tCall (spYr CF fun es u y => SG.EarlyP es (fun x => x = u) y) [] E0 (tCons (tFld K (tVar 0) "facts") (tCons (tVar 2) tNil))) [2]) [some (.ref r), some (.int u), none] H (LR (Ry fun o y => SG.EarlyP es (fun x => x = o) y) ((List.range n).filterMap fun i => if notAfter (anl n es) i u = true then some i else none)) :=
      er_lcR rob_ry _ (ea_cons (ev_cnt T O (ev_var rfl)) ea_nil) (by have := G.n12; omega) (fun x => rfl) (fun i H1 e1 hi => et_is (et_B (ev_of (er_o2 G ⟨by decide +kernel, by decide +kernel, by decide +kernel⟩ (er_var rfl fun H' e => ⟨r, rfl, O.ex (e1.trans e)⟩) (ev_var rfl) (ev_var rfl) hi hu))) some_if) (fun i H1 b e1 hi hb => ?_)
    · rw [fm_filter] at hlc
      have hne : u ∈ (List.range n).filter fun i => notAfter (anl n es) i u := by
        rw [List.mem_filter]
        exact ⟨List.mem_range.mpr hu, (G.notAfter_iff hu hu).mpr ⟨false, .nil u⟩⟩
      refine s_retR (call_maxY hlc (List.length_pos_of_mem hne)) fun v H1 e r => k v H1 e ?_
      obtain ⟨m, rfl, ⟨o, ho, po⟩, h2⟩ := r
      rw [List.mem_filter, List.mem_range] at ho
      have hE : SG.EarlyP es (fun v => ∃ b, Rch es v b u) m := by
        refine ⟨po.1, fun e lo he hlo hP => ?_, ?_⟩
        · obtain ⟨b, hb⟩ := hP
          have hlt : lo.1 < n := (SG.VFact.lower (G.V e he) hlo).1
          obtain ⟨y, hy, le⟩ := h2 lo.1 (List.mem_filter.mpr ⟨List.mem_range.mpr hlt, (G.notAfter_iff hlt hu).mpr ⟨b, hb⟩⟩)
          exact Int.le_trans (hy.2.1 e lo he hlo rfl) le
        · rcases po.2.2 with q | ⟨e, lo, he, hlo, hP, q⟩
          · exact .inl q
          · exact .inr ⟨e, lo, he, hlo, by rw [hP]; exact (G.notAfter_iff ho.1 hu).mp ho.2, q⟩
      have := hE.unique (SG.early_ok G.V G.n12 G.C hu)
      rw [this]
    · by_cases c : notAfter (anl n es) i u = true
      · rw [if_pos c] at hb
        cases hb
        refine er_call (ear_cons (er_fcts T (O.ex e1) (ev_var rfl)) (fun v H H' e q => ⟨q.1.ex (rob_fact CF) e, q.2⟩) (ear_is (ea_cons (ev_var rfl) ea_nil))) fun us H2 e2 s2 => ?_
        obtain ⟨v, r', rfl, hv, rfl⟩ := s2
        exact ⟨(v, es, i), rfl, hv, fun v H3 e3 h => h⟩
      · rw [if_neg c] at hb
        cases hb
theorem ok_latest (F : Fun K "latest" "Order.latest" s_Order_latest f fd) (T : Txt K mg CF CO CS aA aU) (o_Order_is_not_after : OwnM P w K mg base CO "is_not_after" 2 ["self", "one", "other"] (spO2 CF CO P w (PB notAfter)))
    (o_end_of : Own P w K mg base "end_of" 1 ["facts", "unit"] (spYr CF fun es u y => SG.LateP es (fun x => x = u) y)) : FnOk P w K mg base CX0 3 f fd ["self", "unit"] (spO1 CF CO P w (PI1 lateOf)) := by
  refine F.ok sc_Order_latest (fun vs H Q E h => ?_) (fun cdv A outer s H vs Q E hr h => ?_)
  · obtain ⟨a, rfl, _⟩ := h
    rfl
  · obtain ⟨⟨r, n, es, u, _⟩, rfl, ⟨O, G, hu⟩, k⟩ := h
    have G : Good n es := G
    have hu : u < n := hu
    refine ⟨_, (pss_one (ps_ret (pe_callB (cr_min rfl) (by rfl) T.min (by decide +kernel) (pa_cons (pe_lc (own := [("other", 2)]) (g := gName 2) (tt := (tB (tMeth _ "is_not_after" _ [] E0 (tVar 0) (tCons (tVar 1) (tCons (tVar 2) tNil))))) (te := (tCall _ [] E0 (tCons (tFld K (tVar 0) "facts") (tCons (tVar 2) tNil)))) rfl sc_Order_latest.nd (pi_range1 rfl T.range (pa_cons (pe_fld (pv 0) rfl) pa_nil)) (blkOk_by (own := [("other", 2)]) (N := ["self", "unit", "other"]) (sc := defScope s_Order_latest) (by decide +kernel)) (fun _ _ _ _ _ => (pg_name (i := 2) sc_Order_latest.nd rfl (.inl rfl))) (fun _ _ _ _ _ => pts_one (pt_val (pe_ownM o_Order_is_not_after (hr.mono (by decide)) (pv 0) (pa_cons (pv 1) (pa_cons (pv 2) pa_nil))))) (fun _ _ _ _ _ => (pe_own o_end_of (hr.mono (by decide)) rfl (pa_cons (pe_fld (pv 0) rfl) (pa_cons (pv 2) pa_nil))))) pa_nil)))), ?_⟩
    have hlc : EvR (tLc (iRng1 (tCons (tFld K (tVar 0) "count") tNil)) (gName 2) (tB (tMeth CO "is_not_after" (spO2 CF CO P w (PB notAfter)) [] E0 (tVar 0) (tCons (tVar 1) (tCons (tVar 2) tNil)))) (tCall (spYr CF fun es u y => SG.LateP es (fun x => x = u) y) [] E0 (tCons (tFld K (tVar 0) "facts") (tCons (tVar 2) tNil))) [2]) [some (.ref r), some (.int u), none] H (LR (Ry fun o y => SG.LateP es (fun x => x = o) y) ((List.range n).filterMap fun i => if notAfter (anl n es) u i = true then some i else none)) :=
      er_lcR rob_ry _ (ea_cons (ev_cnt T O (ev_var rfl)) ea_nil) (by have := G.n12; omega) (fun x => rfl) (fun i H1 e1 hi => et_is (et_B (ev_of (er_o2 G ⟨by decide +kernel, by decide +kernel, by decide +kernel⟩ (er_var rfl fun H' e => ⟨r, rfl, O.ex (e1.trans e)⟩) (ev_var rfl) (ev_var rfl) hu hi))) some_if) (fun i H1 b e1 hi hb => ?_)
    · rw [fm_filter] at hlc
      have hne : u ∈ (List.range n).filter fun i => notAfter (anl n es) u i := by
        rw [List.mem_filter]
        exact ⟨List.mem_range.mpr hu, (G.notAfter_iff hu hu).mpr ⟨false, .nil u⟩⟩
      refine s_retR (call_minY hlc (List.length_pos_of_mem hne)) fun v H1 e r => k v H1 e ?_
      obtain ⟨m, rfl, ⟨o, ho, po⟩, h2⟩ := r
      rw [List.mem_filter, List.mem_range] at ho
      have hE : SG.LateP es (fun v => ∃ b, Rch es u b v) m := by
        refine ⟨po.1, fun e lo he hlo hP => ?_, ?_⟩
        · obtain ⟨b, hb⟩ := hP
          have hlt : lo.1 < n := (SG.VFact.upper (G.V e he) hlo).1
          obtain ⟨y, hy, le⟩ := h2 lo.1 (List.mem_filter.mpr ⟨List.mem_range.mpr hlt, (G.notAfter_iff hu hlt).mpr ⟨b, hb⟩⟩)
          exact Int.le_trans le (hy.2.1 e lo he hlo rfl)
        · rcases po.2.2 with q | ⟨e, lo, he, hlo, hP, q⟩
          · exact .inl q
          · exact .inr ⟨e, lo, he, hlo, by rw [hP]; exact (G.notAfter_iff hu ho.1).mp ho.2, q⟩
      have := hE.unique (SG.late_ok G.V G.n12 G.C hu)
      rw [this]
    · by_cases c : notAfter (anl n es) u i = true
      · rw [if_pos c] at hb
        cases hb
        refine er_call (ear_cons (er_fcts T (O.ex e1) (ev_var rfl)) (fun v H H' e q => ⟨q.1.ex (rob_fact CF) e, q.2⟩) (ear_is (ea_cons (ev_var rfl) ea_nil))) fun us H2 e2 s2 => ?_
        obtain ⟨v, r', rfl, hv, rfl⟩ := s2
        exact ⟨(v, es, i), rfl, hv, fun v H3 e3 h => h⟩
      · rw [if_neg c] at hb
        cases hb
end
theorem rv_eqI {H : Hp} {i j : Int} : RV rEq (.int i) (.int j) H (.bl (decide (i = j))) := by
  have h : (decide (V.int i = V.int j)) = decide (i = j) := by
    by_cases h : i = j
    · subst h; simp
    · simp [h]
  rw [← h]
  exact rv_eq rfl
section
variable {σ : St} {H : Hp} {ta tb tc td : TE} {x y y2 y3 : V} {r1 r2 r3 : R2} {b1 b2 b3 : Bool}
theorem ev_chain (ha : Ev ta σ H x) (hb : Ev tb σ H y) (hc : Ev tc σ H y2) (h1 : RV r1 x y H (.bl b1)) (h2 : RV r2 y y2 H (.bl b2)) : Ev (tChain r1 r2 ta tb tc) σ H (.bl (b1 && b2)) := fun H0 e0 Q q =>
  ha H0 e0 _ fun H1 e1 => hb H1 (e0.trans e1) _ fun H2 e2 => h1 H2 ((e0.trans e1).trans e2) _ fun H3 e3 => ⟨b1, rfl, by
    have e03 := ((e0.trans e1).trans e2).trans e3
    have e13 := (e1.trans e2).trans e3
    cases b1 with
    | false => exact q H3 e13
    | true => exact hc H3 e03 _ fun H4 e4 => h2 H4 (e03.trans e4) _ fun H5 e5 => q H5 ((e13.trans e4).trans e5)⟩
theorem ev_chain3 (ha : Ev ta σ H x) (hb : Ev tb σ H y) (hc : Ev tc σ H y2) (hd : Ev td σ H y3) (h1 : RV r1 x y H (.bl b1)) (h2 : RV r2 y y2 H (.bl b2)) (h3 : RV r3 y2 y3 H (.bl b3)) : Ev (tChain3 r1 r2 r3 ta tb tc td) σ H (.bl (b1 && (b2 && b3))) := fun H0 e0 Q q =>
  ha H0 e0 _ fun H1 e1 => hb H1 (e0.trans e1) _ fun H2 e2 => h1 H2 ((e0.trans e1).trans e2) _ fun H3 e3 => ⟨b1, rfl, by
    have e03 := ((e0.trans e1).trans e2).trans e3
    have e13 := (e1.trans e2).trans e3
    cases b1 with
    | false => exact q H3 e13
    | true =>
      refine hc H3 e03 _ fun H4 e4 => h2 H4 (e03.trans e4) _ fun H5 e5 => ⟨b2, rfl, ?_⟩
      have e35 := e4.trans e5
      cases b2 with
      | false => exact q H5 (e13.trans e35)
      | true => exact hd H5 (e03.trans e35) _ fun H6 e6 => h3 H6 ((e03.trans e35).trans e6) _ fun H7 e7 => q H7 (((e13.trans e35).trans e6).trans e7)⟩
end
theorem q_par {σ : St} {H : Hp} {ta : TA} {D : Ends} {tz : TS} {i j : Nat} {x y : V} (h : EvA ta σ H [x, y]) (k : ∀ H1, Ex H H1 → tz D ((σ.set i (some x)).set j (some y)) H1) : tSeq (tPar i j ta) tz D σ H := h H (Ex.refl H) _ fun H1 e1 => ⟨_, _, rfl, k H1 e1⟩
theorem max_py (i j : Int) : (if j > i then j else i) = max i j := by omega
theorem min_py (i j : Int) : (if j < i then j else i) = min i j := by omega
def rMn2 : List V → Hp → VK → Prop := fun xs H Q => ∃ i j, xs = [.int i, .int j] ∧ Q (.int (if j < i then j else i)) H
theorem ev_mx {σ : St} {H : Hp} {ta tb : TE} {i j : Int} (ha : Ev ta σ H (.int i)) (hb : Ev tb σ H (.int j)) : Ev (tCB rMax2 (tCons ta (tCons tb tNil))) σ H (.int (max i j)) := by
  rw [← max_py]
  exact ev_max2 ha hb
theorem ev_mn {σ : St} {H : Hp} {ta tb : TE} {i j : Int} (ha : Ev ta σ H (.int i)) (hb : Ev tb σ H (.int j)) : Ev (tCB rMn2 (tCons ta (tCons tb tNil))) σ H (.int (min i j)) := fun H1 e Q q =>
  ha H1 e _ fun H2 e2 => hb H2 (e.trans e2) _ fun H3 e3 => ⟨i, j, rfl, by rw [min_py]; exact q H3 (e2.trans e3)⟩
abbrev earlierA (an : Stratigraphy.Analysis) (a b : Nat) : Int := SalvageBase.threeValued (an.isEarlier a b) (an.sameStratum a b || an.isEarlier b a)
section
variable {P : Program} {w : World} {K : PySem.W.Frag} {mg : Str → Option Value} {base : Heap} {CF CO CS aA aU f : Addr} {fd : FuncData}
theorem ok_earlier_answer (F : Fun K "earlier_answer" "Order.earlier_answer" s_Order_earlier_answer f fd) (T : Txt K mg CF CO CS aA aU) (o_Order_is_before : OwnM P w K mg base CO "is_before" 1 ["self", "one", "other"] (spO2 CF CO P w (PB fun an => an.isEarlier)))
    (o_Order_is_not_after : OwnM P w K mg base CO "is_not_after" 2 ["self", "one", "other"] (spO2 CF CO P w (PB notAfter))) : FnOk P w K mg base CX0 3 f fd ["self", "one", "other"] (spO2 CF CO P w (PI2 earlierA)) := by
  refine F.ok sc_Order_earlier_answer (fun vs H Q E h => ?_) (fun cdv A outer s H vs Q E hr h => ?_)
  · obtain ⟨a, rfl, _⟩ := h
    rfl
  · obtain ⟨⟨r, n, es, a, b⟩, rfl, ⟨O, G, ha, hb⟩, k⟩ := h
    refine ⟨_, (pss_cons (ps_if (pt_val (pe_ownM o_Order_is_before (hr.mono (by decide)) (pv 0) (pa_cons (pv 1) (pa_cons (pv 2) pa_nil)))) (pss_one (ps_ret (pe_gint T.g_YES rfl))) pss_nil)
      (pss_one (ps_ret (pe_ifExp (pt_val (pe_ownM o_Order_is_not_after (hr.mono (by decide)) (pv 0) (pa_cons (pv 2) (pa_cons (pv 1) pa_nil)))) (pe_gint T.g_NO rfl) (pe_gint T.g_OPEN rfl))))), ?_⟩
    refine q_ifRetR (R := Is (.int 1)) (b := (anl n es).isEarlier a b) (et_B (ev_of (er_o2 G ⟨by decide +kernel, by decide +kernel, by decide +kernel⟩ (er_var rfl fun H' e => ⟨r, rfl, O.ex e⟩) (ev_var rfl) (ev_var rfl) ha hb))) (fun _ => er_is ev_c) (fun c v H1 e1 q => k v H1 e1 ?_) (fun c H1 e1 => ?_)
    · rw [show v = _ from q]
      show V.int 1 = .int (SalvageBase.threeValued ((anl n es).isEarlier a b) _)
      rw [c]
      rfl
    · refine s_retR (R := Is (.int (if notAfter (anl n es) b a = true then 0 else 2))) (er_if (b := notAfter (anl n es) b a) (et_B (ev_of (er_o2 G ⟨by decide +kernel, by decide +kernel, by decide +kernel⟩ (er_var rfl fun H' e => ⟨r, rfl, O.ex (e1.trans e)⟩) (ev_var rfl) (ev_var rfl) hb ha))) (fun d => ?_) (fun d => ?_)) fun v H2 e2 q => k v H2 (e1.trans e2) ?_
      · rw [d]; exact er_is ev_c
      · rw [d]; exact er_is ev_c
      · rw [show v = _ from q]
        show _ = V.int (SalvageBase.threeValued ((anl n es).isEarlier a b) ((anl n es).sameStratum a b || (anl n es).isEarlier b a))
        unfold SG.notAfter SalvageBase.threeValued
        rw [c, SG.same_symm (anl n es) a b]
        cases (anl n es).sameStratum b a || (anl n es).isEarlier b a <;> rfl
theorem ok_same_year_answer (F : Fun K "same_year_answer" "Order.same_year_answer" s_Order_same_year_answer f fd) (T : Txt K mg CF CO CS aA aU) (o_Order_is_same : OwnM P w K mg base CO "is_same" 1 ["self", "one", "other"] (spO2 CF CO P w (PB fun an => an.sameStratum)))
    (o_Order_earliest : OwnM P w K mg base CO "earliest" 3 ["self", "unit"] (spO1 CF CO P w (PI1 earlyOf))) (o_Order_latest : OwnM P w K mg base CO "latest" 3 ["self", "unit"] (spO1 CF CO P w (PI1 lateOf))) :
    FnOk P w K mg base CX0 4 f fd ["self", "one", "other"] (spO2 CF CO P w (PI2 fun an => an.sameYear)) := by
  refine F.ok sc_Order_same_year_answer (fun vs H Q E h => ?_) (fun cdv A outer s H vs Q E hr h => ?_)
  · obtain ⟨a, rfl, _⟩ := h
    rfl
  · obtain ⟨⟨r, n, es, a, b⟩, rfl, ⟨O, G, ha, hb⟩, k⟩ := h
    have G : Good n es := G
    refine ⟨_, (pss_cons (ps_par (i := 3) (j := 4) rfl sc_Order_same_year_answer.nd rfl rfl (by decide) rfl rfl (pa_cons (pe_ownM o_Order_earliest (hr.mono (by decide)) (pv 0) (pa_cons (pv 1) pa_nil)) (pa_cons (pe_ownM o_Order_latest (hr.mono (by decide)) (pv 0) (pa_cons (pv 1) pa_nil)) pa_nil)) (by rfl))
      (pss_cons (ps_par (i := 5) (j := 6) rfl sc_Order_same_year_answer.nd rfl rfl (by decide) rfl rfl (pa_cons (pe_ownM o_Order_earliest (hr.mono (by decide)) (pv 0) (pa_cons (pv 2) pa_nil)) (pa_cons (pe_ownM o_Order_latest (hr.mono (by decide)) (pv 0) (pa_cons (pv 2) pa_nil)) pa_nil)) (by rfl))
      (pss_cons (ps_if (PW.pt (pw_or (pt_val (pe_ownM o_Order_is_same (hr.mono (by decide)) (pv 0) (pa_cons (pv 1) (pa_cons (pv 2) pa_nil)))) (pw_or1 (pt_chain3 op_eq op_eq op_eq (pv 3) (pv 4) (pv 5) (pv 6))))) (pss_one (ps_ret (pe_gint T.g_YES rfl))) pss_nil)
      (pss_one (ps_ret (pe_ifExp (pt_cmpR op_le (pe_callB (call_max2 rfl) (by rfl) T.max (by decide +kernel) (pa_cons (pv 3) (pa_cons (pv 5) pa_nil))) (pe_callB (call_min2 rfl) (by rfl) T.min (by decide +kernel) (pa_cons (pv 4) (pa_cons (pv 6) pa_nil))) (nomark _)) (pe_gint T.g_OPEN rfl) (pe_gint T.g_NO rfl))))))), ?_⟩
    have y1 : ∀ (m : Str) (g : Stratigraphy.Analysis → Nat → Int) (i u : Nat) (σ : St) (H1 : Hp), NoF m → Ex H H1 → σ[0]? = some (some (.ref r)) → σ[i]? = some (some (.int u)) → u < n → Ev (tMeth CO m (spO1 CF CO P w (PI1 g)) [] E0 (tVar 0) (tCons (tVar i) tNil)) σ H1 (.int (g (anl n es) u)) := fun m g i u σ H1 hm e1 h0 hi hu =>
      ev_of (er_o1 G hm (er_var h0 fun H' e => ⟨r, rfl, O.ex (e1.trans e)⟩) (ev_var hi) hu)
    have n1 : NoF "earliest" := ⟨by decide +kernel, by decide +kernel, by decide +kernel⟩
    have n2 : NoF "latest" := ⟨by decide +kernel, by decide +kernel, by decide +kernel⟩
    refine q_par (ea_cons (y1 "earliest" earlyOf 1 a _ H n1 (Ex.refl _) rfl rfl ha) (ea_cons (y1 "latest" lateOf 1 a _ H n2 (Ex.refl _) rfl rfl ha) ea_nil)) fun H1 e1 => ?_
    refine q_par (ea_cons (y1 "earliest" earlyOf 2 b _ H1 n1 e1 rfl rfl hb) (ea_cons (y1 "latest" lateOf 2 b _ H1 n2 e1 rfl rfl hb) ea_nil)) fun H2 e2 => ?_
    have e12 := e1.trans e2
    refine q_ifRetR (R := Is (.int 1)) (et_or (et_B (ev_of (er_o2 G ⟨by decide +kernel, by decide +kernel, by decide +kernel⟩ (er_var rfl fun H' e => ⟨r, rfl, O.ex (e12.trans e)⟩) (ev_var rfl) (ev_var rfl) ha hb))) fun _ => et_test (ev_chain3 (ev_var rfl) (ev_var rfl) (ev_var rfl) (ev_var rfl) rv_eqI rv_eqI rv_eqI)) (fun _ => er_is ev_c) (fun c v H3 e3 q => k v H3 (e12.trans e3) ?_) (fun c H3 e3 => ?_)
    · rw [show v = _ from q]
      show V.int 1 = .int ((anl n es).sameYear a b)
      rw [← G.sameYear_eq ha hb, if_pos c]
    · refine s_retR (R := Is (.int (if max (earlyOf (anl n es) a) (earlyOf (anl n es) b) ≤ min (lateOf (anl n es) a) (lateOf (anl n es) b) then 2 else 0))) (er_if (t_I0 (ev_mx (ev_var rfl) (ev_var rfl)) (ev_mn (ev_var rfl) (ev_var rfl))) (fun d => ?_) (fun d => ?_)) fun v H4 e4 q => k v H4 (e12.trans (e3.trans e4)) ?_
      · rw [if_pos (of_decide_eq_true d)]; exact er_is ev_c
      · rw [if_neg (of_decide_eq_false d)]; exact er_is ev_c
      · rw [show v = _ from q]
        show _ = V.int ((anl n es).sameYear a b)
        rw [← G.sameYear_eq ha hb]
        exact congrArg V.int (if_neg (Bool.eq_false_iff.mp c)).symm
end
end L2.SD

/-! B6: sequences.py -/
set_option Elab.async false
set_option linter.all false
set_option maxRecDepth 100000
set_option maxHeartbeats 2000000
namespace L2.SD
open PySem PySem.Spec PyProof.Rows Evl
open Stratigraphy (Fact)
open SG (Good anl notAfter)

structure QA where
  r : Addr
  n : Nat
  es : List (Nat × Fact)
  vst : V
  st : List Nat
  a : Nat
  b : Nat
/-- units of an order, in a list -/
def StrOk (n : Nat) (st : List Nat) : Prop := (∀ u ∈ st, u < n) ∧ st.length ≤ 12
theorem strata_ok {n : Nat} {es : List (Nat × Fact)} (G : Good n es) : StrOk n (anl n es).strata := ⟨fun u hu => SG.strata_lt hu, by
  show ((List.range (anl n es).noEarlier.length).filter _).length ≤ 12
  refine Nat.le_trans (List.length_filter_le _ _) ?_
  rw [List.length_range, anl_len]
  exact G.n12⟩
def spE1 (CF CO : Addr) (P : Program) (w : World) (post : Nat → List (Nat × Fact) → List Nat → Nat → V → Hp → Prop) : Sp := spP (α := QA) (fun a => [.ref a.r, a.vst, .int a.a]) (fun a H => OrdAt CF CO P w H a.r a.n a.es ∧ Good a.n a.es ∧ LR Rnat a.st a.vst H ∧ StrOk a.n a.st ∧ a.a < a.n) (fun a v H => post a.n a.es a.st a.a v H)
def spE2 (CF CO : Addr) (P : Program) (w : World) (post : Nat → List (Nat × Fact) → List Nat → Nat → Nat → V → Hp → Prop) : Sp := spP (α := QA) (fun a => [.ref a.r, a.vst, .int a.a, .int a.b]) (fun a H => OrdAt CF CO P w H a.r a.n a.es ∧ Good a.n a.es ∧ LR Rnat a.st a.vst H ∧ StrOk a.n a.st ∧ a.a < a.n ∧ a.b < a.n) (fun a v H => post a.n a.es a.st a.a a.b v H)
theorem nf_before : NoF "is_before" := ⟨by decide +kernel, by decide +kernel, by decide +kernel⟩
theorem nf_notafter : NoF "is_not_after" := ⟨by decide +kernel, by decide +kernel, by decide +kernel⟩
theorem nf_strata : NoF "strata" := ⟨by decide +kernel, by decide +kernel, by decide +kernel⟩
theorem nf_stratum : NoF "stratum" := ⟨by decide +kernel, by decide +kernel, by decide +kernel⟩
section
variable {CF CO : Addr} {P : Program} {w : World} {σ : St} {H : Hp} {t0 t1 t2 t3 : TE} {n : Nat} {es : List (Nat × Fact)} {st : List Nat} {a b : Nat}
theorem er_e1 {post : Nat → List (Nat × Fact) → List Nat → Nat → V → Hp → Prop} (G : Good n es) (so : StrOk n st) (h0 : EvR t0 σ H (Rord CF CO P w n es)) (h1 : EvR t1 σ H (LR Rnat st)) (h2 : Ev t2 σ H (.int a)) (ha : a < n) :
    EvR (tCall (spE1 CF CO P w post) [] E0 (tCons t0 (tCons t1 (tCons t2 tNil)))) σ H (post n es st a) :=
  er_call (ear_cons h0 stb_ord (ear_cons h1 (stb_lr rob_nat (keep := nlK) st) (ear_is (ea_cons h2 ea_nil)))) fun us H1 e1 s => by
    obtain ⟨v0, r0, rfl, ⟨r, rfl, O⟩, v1, r1, rfl, q1, rfl⟩ := s
    exact ⟨⟨r, n, es, v1, st, a, 0⟩, rfl, ⟨O, G, q1, so, ha⟩, fun v H2 e2 h => h⟩
theorem er_e2 {post : Nat → List (Nat × Fact) → List Nat → Nat → Nat → V → Hp → Prop} (G : Good n es) (so : StrOk n st) (h0 : EvR t0 σ H (Rord CF CO P w n es)) (h1 : EvR t1 σ H (LR Rnat st)) (h2 : Ev t2 σ H (.int a)) (h3 : Ev t3 σ H (.int b)) (ha : a < n) (hb : b < n) :
    EvR (tCall (spE2 CF CO P w post) [] E0 (tCons t0 (tCons t1 (tCons t2 (tCons t3 tNil))))) σ H (post n es st a b) :=
  er_call (ear_cons h0 stb_ord (ear_cons h1 (stb_lr rob_nat (keep := nlK) st) (ear_is (ea_cons h2 (ea_cons h3 ea_nil))))) fun us H1 e1 s => by
    obtain ⟨v0, r0, rfl, ⟨r, rfl, O⟩, v1, r1, rfl, q1, rfl⟩ := s
    exact ⟨⟨r, n, es, v1, st, a, b⟩, rfl, ⟨O, G, q1, so, ha, hb⟩, fun v H2 e2 h => h⟩
theorem er_f1 {post : Nat → List (Nat × Fact) → Nat → V → Hp → Prop} (G : Good n es) (h0 : EvR t0 σ H (Rord CF CO P w n es)) (h1 : Ev t1 σ H (.int a)) (ha : a < n) : EvR (tCall (spO1 CF CO P w post) [] E0 (tCons t0 (tCons t1 tNil))) σ H (post n es a) :=
  er_call (ear_cons h0 stb_ord (ear_is (ea_cons h1 ea_nil))) fun us H1 e1 s => by
    obtain ⟨v0, r0, rfl, ⟨r, rfl, O⟩, rfl⟩ := s
    exact ⟨⟨r, n, es, a, 0⟩, rfl, ⟨O, G, ha⟩, fun v H2 e2 h => h⟩
theorem er_f0 {post : Nat → List (Nat × Fact) → V → Hp → Prop} (G : Good n es) (h0 : EvR t0 σ H (Rord CF CO P w n es)) : EvR (tCall (spO0 CF CO P w post) [] E0 (tCons t0 tNil)) σ H (post n es) :=
  er_call (ear_1 h0) fun us H1 e1 s => by
    obtain ⟨v0, rfl, r, rfl, O⟩ := s
    exact ⟨⟨r, n, es, 0, 0⟩, rfl, ⟨O, G⟩, fun v H2 e2 h => h⟩
theorem er_ord {i : Nat} {r : Addr} (h : σ[i]? = some (some (.ref r))) (O : OrdAt CF CO P w H r n es) : EvR (tVar i) σ H (Rord CF CO P w n es) := er_var h fun H' e => ⟨r, rfl, O.ex e⟩
theorem er_lrn {i : Nat} {v : V} {l : List Nat} (h : σ[i]? = some (some v)) (O : LR Rnat l v H) : EvR (tVar i) σ H (LR Rnat l) := er_var h fun H' e => O.ex (keep := nlK) rob_nat e
/-- len of a list that stands -/
theorem ev_lenR {K : PySem.W.Frag} {β : Type} {A : β → V → Hp → Prop} {l : List β} (h : EvR t0 σ H (LR A l)) : Ev (tCB (rLenS K) (tCons t0 tNil)) σ H (.int (l.length : Int)) := fun H1 e Q q =>
  h H1 e _ fun v H2 e2 r => by
    obtain ⟨p, ws, rfl, hp, al⟩ := r
    refine ⟨p, ws, rfl, Or.inl (sq_of hp), ?_⟩
    rw [al.length]
    exact q H2 e2
end
def befores (n : Nat) (es : List (Nat × Fact)) (st : List Nat) (u : Nat) : List Nat := st.filter fun o => (anl n es).isEarlier o u
def afters (n : Nat) (es : List (Nat × Fact)) (st : List Nat) (u : Nat) : List Nat := st.filter fun o => (anl n es).isEarlier u o
abbrev sE (CF CO : Addr) (P : Program) (w : World) : Sp := spE1 CF CO P w fun n es st a v H => LR Rnat (befores n es st a) v H
abbrev sL (CF CO : Addr) (P : Program) (w : World) : Sp := spE1 CF CO P w fun n es st a v H => LR Rnat (afters n es st a) v H
abbrev sBt (CF CO : Addr) (P : Program) (w : World) : Sp := spE2 CF CO P w fun n es st a b v _ => v = .bl (st.any fun c => (anl n es).isEarlier a c && (anl n es).isEarlier c b)
abbrev sPos (CF CO : Addr) (P : Program) (w : World) : Sp := spO1 CF CO P w fun n es u v H => LR Rnat [(befores n es (anl n es).strata u).length, (anl n es).strata.length - 1 - (afters n es (anl n es).strata u).length] v H
section
variable {CF CO : Addr} {P : Program} {w : World} {σ : St} {H : Hp} {t0 t1 t2 : TE} {n : Nat} {es : List (Nat × Fact)} {st : List Nat} {a : Nat}
theorem er_bef (G : Good n es) (so : StrOk n st) (h0 : EvR t0 σ H (Rord CF CO P w n es)) (h1 : EvR t1 σ H (LR Rnat st)) (h2 : Ev t2 σ H (.int a)) (ha : a < n) : EvR (tCall (sE CF CO P w) [] E0 (tCons t0 (tCons t1 (tCons t2 tNil)))) σ H (LR Rnat (befores n es st a)) :=
  er_e1 (post := fun n es st a v H => LR Rnat (befores n es st a) v H) G so h0 h1 h2 ha
theorem er_aft (G : Good n es) (so : StrOk n st) (h0 : EvR t0 σ H (Rord CF CO P w n es)) (h1 : EvR t1 σ H (LR Rnat st)) (h2 : Ev t2 σ H (.int a)) (ha : a < n) : EvR (tCall (sL CF CO P w) [] E0 (tCons t0 (tCons t1 (tCons t2 tNil)))) σ H (LR Rnat (afters n es st a)) :=
  er_e1 (post := fun n es st a v H => LR Rnat (afters n es st a) v H) G so h0 h1 h2 ha
end
theorem Good.rep (G : Good n es) {u o : Nat} (hu : u < n) (ho : o < n) : (anl n es).isEarlier o ((anl n es).stratumOf u) = (anl n es).isEarlier o u ∧ (anl n es).isEarlier ((anl n es).stratumOf u) o = (anl n es).isEarlier u o := by
  obtain ⟨h1, h2, _⟩ := G.stratum_ok hu
  have r1 := (G.same hu h2).mp h1
  have r2 := SG.Rch.symm G.V G.n12 G.C hu r1
  refine ⟨Bool.eq_iff_iff.mpr ?_, Bool.eq_iff_iff.mpr ?_⟩
  · rw [G.before ho h2, G.before ho hu]
    exact ⟨fun h => by simpa using h.trans r2, fun h => by simpa using h.trans r1⟩
  · rw [G.before h2 ho, G.before hu ho]
    exact ⟨fun h => by simpa using r1.trans h, fun h => by simpa using r2.trans h⟩
theorem Good.rep_b (G : Good n es) {u : Nat} (hu : u < n) : befores n es (anl n es).strata ((anl n es).stratumOf u) = befores n es (anl n es).strata u := List.filter_congr fun o ho => (Good.rep G hu (SG.strata_lt ho)).1
theorem Good.rep_a (G : Good n es) {u : Nat} (hu : u < n) : afters n es (anl n es).strata ((anl n es).stratumOf u) = afters n es (anl n es).strata u := List.filter_congr fun o ho => (Good.rep G hu (SG.strata_lt ho)).2
abbrev s_earlier_ones : Stmt := topS 35
theorem sc_earlier_ones : FnScope ["order", "strata", "unit", "other"] ["order", "strata", "unit"] (defScope s_earlier_ones) := ⟨rfl, rfl, rfl, by decide +kernel, rfl, by decide +kernel, by decide +kernel⟩
abbrev s_later_ones : Stmt := topS 36
theorem sc_later_ones : FnScope ["order", "strata", "unit", "other"] ["order", "strata", "unit"] (defScope s_later_ones) := ⟨rfl, rfl, rfl, by decide +kernel, rfl, by decide +kernel, by decide +kernel⟩
abbrev s_position_range : Stmt := topS 37
theorem sc_position_range : FnScope ["order", "unit", "strata", "own", "first"] ["order", "unit"] (defScope s_position_range) := ⟨rfl, rfl, rfl, by decide +kernel, rfl, by decide +kernel, by decide +kernel⟩
abbrev s_is_between : Stmt := topS 38
theorem sc_is_between : FnScope ["order", "strata", "one", "other", "third"] ["order", "strata", "one", "other"] (defScope s_is_between) := ⟨rfl, rfl, rfl, by decide +kernel, rfl, by decide +kernel, by decide +kernel⟩
section
variable {P : Program} {w : World} {K : PySem.W.Frag} {mg : Str → Option Value} {base : Heap} {CF CO CS aA aU f : Addr} {fd : FuncData}
theorem ok_earlier_ones (F : Fun K "earlier_ones" "earlier_ones" s_earlier_ones f fd) (T : Txt K mg CF CO CS aA aU) (o_Order_is_before : OwnM P w K mg base CO "is_before" 1 ["self", "one", "other"] (spO2 CF CO P w (PB fun an => an.isEarlier))) :
    FnOk P w K mg base CX0 2 f fd ["order", "strata", "unit"] (sE CF CO P w) := by
  refine F.ok sc_earlier_ones (fun vs H Q E h => ?_) (fun cdv A outer s H vs Q E hr h => ?_)
  · obtain ⟨a, rfl, _⟩ := h
    rfl
  · obtain ⟨⟨r, n, es, vst, st, u, _⟩, rfl, ⟨O, G, hl, so, hu⟩, k⟩ := h
    have hl : LR Rnat st vst H := hl
    refine ⟨_, (pss_one (ps_ret (pe_lc (own := [("other", 3)]) (g := gName 3) (tt := (tB (tMeth _ "is_before" _ [] E0 (tVar 0) (tCons (tVar 3) (tCons (tVar 2) tNil))))) (te := (tVar 3)) rfl sc_earlier_ones.nd (pi_list (pv 1)) (blkOk_by (own := [("other", 3)]) (N := ["order", "strata", "unit", "other"]) (sc := defScope s_earlier_ones) (by decide +kernel)) (fun _ _ _ _ _ => (pg_name (i := 3) sc_earlier_ones.nd rfl (.inl rfl))) (fun _ _ _ _ _ => pts_one (pt_val (pe_ownM o_Order_is_before (hr.mono (by decide)) (pv 0) (pa_cons (pv 3) (pa_cons (pv 2) pa_nil))))) (fun _ _ _ _ _ => (pv 3))))), ?_⟩
    refine s_retR (er_lcL rob_nat rob_nat (fun o => if (anl n es).isEarlier o u = true then some o else none) (er_lrn rfl hl) (Nat.le_trans so.2 (by decide)) (fun x => rfl) (fun c x H1 hc e1 rc => ?_) (fun c x b H1 hc e1 rc hb => ?_)) fun v H1 e r => k v H1 e (by rw [fm_filter] at r; exact r)
    · obtain rfl : x = .int c := rc
      exact et_is (et_B (ev_of (er_o2 G nf_before (er_ord rfl (O.ex e1)) (ev_var rfl) (ev_var rfl) (so.1 c hc) hu))) some_if
    · obtain rfl : x = .int c := rc
      by_cases z : (anl n es).isEarlier c u = true
      · rw [if_pos z] at hb
        cases hb
        exact er_of (ev_var rfl) fun _ _ => rfl
      · rw [if_neg z] at hb
        cases hb
theorem ok_later_ones (F : Fun K "later_ones" "later_ones" s_later_ones f fd) (T : Txt K mg CF CO CS aA aU) (o_Order_is_before : OwnM P w K mg base CO "is_before" 1 ["self", "one", "other"] (spO2 CF CO P w (PB fun an => an.isEarlier))) :
    FnOk P w K mg base CX0 2 f fd ["order", "strata", "unit"] (sL CF CO P w) := by
  refine F.ok sc_later_ones (fun vs H Q E h => ?_) (fun cdv A outer s H vs Q E hr h => ?_)
  · obtain ⟨a, rfl, _⟩ := h
    rfl
  · obtain ⟨⟨r, n, es, vst, st, u, _⟩, rfl, ⟨O, G, hl, so, hu⟩, k⟩ := h
    have hl : LR Rnat st vst H := hl
    refine ⟨_, (pss_one (ps_ret (pe_lc (own := [("other", 3)]) (g := gName 3) (tt := (tB (tMeth _ "is_before" _ [] E0 (tVar 0) (tCons (tVar 2) (tCons (tVar 3) tNil))))) (te := (tVar 3)) rfl sc_later_ones.nd (pi_list (pv 1)) (blkOk_by (own := [("other", 3)]) (N := ["order", "strata", "unit", "other"]) (sc := defScope s_later_ones) (by decide +kernel)) (fun _ _ _ _ _ => (pg_name (i := 3) sc_later_ones.nd rfl (.inl rfl))) (fun _ _ _ _ _ => pts_one (pt_val (pe_ownM o_Order_is_before (hr.mono (by decide)) (pv 0) (pa_cons (pv 2) (pa_cons (pv 3) pa_nil))))) (fun _ _ _ _ _ => (pv 3))))), ?_⟩
    refine s_retR (er_lcL rob_nat rob_nat (fun o => if (anl n es).isEarlier u o = true then some o else none) (er_lrn rfl hl) (Nat.le_trans so.2 (by decide)) (fun x => rfl) (fun c x H1 hc e1 rc => ?_) (fun c x b H1 hc e1 rc hb => ?_)) fun v H1 e r => k v H1 e (by rw [fm_filter] at r; exact r)
    · obtain rfl : x = .int c := rc
      exact et_is (et_B (ev_of (er_o2 G nf_before (er_ord rfl (O.ex e1)) (ev_var rfl) (ev_var rfl) hu (so.1 c hc)))) some_if
    · obtain rfl : x = .int c := rc
      by_cases z : (anl n es).isEarlier u c = true
      · rw [if_pos z] at hb
        cases hb
        exact er_of (ev_var rfl) fun _ _ => rfl
      · rw [if_neg z] at hb
        cases hb
theorem ok_is_between (F : Fun K "is_between" "is_between" s_is_between f fd) (T : Txt K mg CF CO CS aA aU) (o_Order_is_before : OwnM P w K mg base CO "is_before" 1 ["self", "one", "other"] (spO2 CF CO P w (PB fun an => an.isEarlier))) :
    FnOk P w K mg base CX0 2 f fd ["order", "strata", "one", "other"] (sBt CF CO P w) := by
  refine F.ok sc_is_between (fun vs H Q E h => ?_) (fun cdv A outer s H vs Q E hr h => ?_)
  · obtain ⟨a, rfl, _⟩ := h
    rfl
  · obtain ⟨⟨r, n, es, vst, st, a, b⟩, rfl, ⟨O, G, hl, so, ha, hb⟩, k⟩ := h
    have hl : LR Rnat st vst H := hl
    refine ⟨_, (pss_one (ps_ret (pe_callB (cr_any rfl) (by rfl) T.any (by decide +kernel) (pa_cons (pe_lc (own := [("third", 4)]) (g := gName 4) (tt := tYes) (te := (tAndV (tMeth _ "is_before" _ [] E0 (tVar 0) (tCons (tVar 2) (tCons (tVar 4) tNil))) (tMeth _ "is_before" _ [] E0 (tVar 0) (tCons (tVar 4) (tCons (tVar 3) tNil))))) rfl sc_is_between.nd (pi_list (pv 1)) (blkOk_by (own := [("third", 4)]) (N := ["order", "strata", "one", "other", "third"]) (sc := defScope s_is_between) (by decide +kernel)) (fun _ _ _ _ _ => (pg_name (i := 4) sc_is_between.nd rfl (.inl rfl))) (fun _ _ _ _ _ => pts_nil) (fun _ _ _ _ _ => (pe_and (pe_ownM o_Order_is_before (hr.mono (by decide)) (pv 0) (pa_cons (pv 2) (pa_cons (pv 4) pa_nil))) (pe_one (pe_ownM o_Order_is_before (hr.mono (by decide)) (pv 0) (pa_cons (pv 4) (pa_cons (pv 3) pa_nil))))))) pa_nil)))), ?_⟩
    have hlc := er_lcL (K := K) (B := Rbl) (σ := [some (.ref r), some vst, some (.int a), some (.int b), none]) (H := H) (j := 4) (vs := [4]) (tl := tVar 1) (tt := tYes) (te := tAndV (tMeth CO "is_before" (spO2 CF CO P w (PB fun an => an.isEarlier)) [] E0 (tVar 0) (tCons (tVar 2) (tCons (tVar 4) tNil))) (tMeth CO "is_before" (spO2 CF CO P w (PB fun an => an.isEarlier)) [] E0 (tVar 0) (tCons (tVar 4) (tCons (tVar 3) tNil)))) rob_nat rob_bl (fun c => some ((anl n es).isEarlier a c && (anl n es).isEarlier c b)) (er_lrn rfl hl) (Nat.le_trans so.2 (by decide)) (fun x => rfl) (fun c x H1 hc e1 rc => fun H3 e3 Q3 q3 => q3 H3 (Ex.refl _)) (fun c x y H1 hc e1 rc hb' => by
      obtain rfl : x = .int c := rc
      have := Option.some.inj hb'
      subst this
      exact er_is (ev_andV (ev_of (er_o2 G nf_before (er_ord rfl (O.ex e1)) (ev_var rfl) (ev_var rfl) ha (so.1 c hc))) fun _ => ev_of (er_o2 G nf_before (er_ord rfl (O.ex e1)) (ev_var rfl) (ev_var rfl) (so.1 c hc) hb)))
    rw [fm_some] at hlc
    refine s_retR (er_cb (R := fun v _ => v = .bl (st.any fun c => (anl n es).isEarlier a c && (anl n es).isEarlier c b)) (ear_1 hlc) fun us H1 e1 s1 Q1 q1 => ?_) fun v H1 e r => k v H1 e r
    obtain ⟨v, rfl, p, ws, rfl, hp, al⟩ := s1
    rw [all_bl al] at hp
    refine ⟨p, _, rfl, sq_of hp, q1 _ H1 (Ex.refl _) ?_⟩
    rw [List.any_map]
    rfl
theorem ok_position_range (F : Fun K "position_range" "position_range" s_position_range f fd) (T : Txt K mg CF CO CS aA aU) (o_Order_strata : OwnM P w K mg base CO "strata" 3 ["self"] (spO0 CF CO P w fun n es v H => LR Rnat (anl n es).strata v H)) (o_Order_stratum : OwnM P w K mg base CO "stratum" 2 ["self", "unit"] (spO1 CF CO P w (PI1 fun an u => (an.stratumOf u : Nat))))
    (o_earlier_ones : Own P w K mg base "earlier_ones" 2 ["order", "strata", "unit"] (sE CF CO P w)) (o_later_ones : Own P w K mg base "later_ones" 2 ["order", "strata", "unit"] (sL CF CO P w)) : FnOk P w K mg base CX0 4 f fd ["order", "unit"] (sPos CF CO P w) := by
  refine F.ok sc_position_range (fun vs H Q E h => ?_) (fun cdv A outer s H vs Q E hr h => ?_)
  · obtain ⟨a, rfl, _⟩ := h
    rfl
  · obtain ⟨⟨r, n, es, u, _⟩, rfl, ⟨O, G, hu⟩, k⟩ := h
    have G : Good n es := G
    have hu : u < n := hu
    refine ⟨_, (pss_cons (ps_par (i := 2) (j := 3) rfl sc_position_range.nd rfl rfl (by decide) rfl rfl (pa_cons (pe_ownM0 o_Order_strata (hr.mono (by decide)) (pv 0)) (pa_cons (pe_ownM o_Order_stratum (hr.mono (by decide)) (pv 0) (pa_cons (pv 1) pa_nil)) pa_nil)) (by rfl))
      (pss_cons (ps_set (i := 4) sc_position_range.nd rfl (.inl rfl) (pe_callB call_len_seq (by rfl) T.len PySem.boot_len (pa_cons (pe_own o_earlier_ones (hr.mono (by decide)) rfl (pa_cons (pv 0) (pa_cons (pv 2) (pa_cons (pv 3) pa_nil)))) pa_nil)))
      (pss_one (ps_ret (pe_lst (pa_cons (pv 4) (pa_cons (pe_op op_sub (pe_op op_sub (pe_callB call_len_seq (by rfl) T.len PySem.boot_len (pa_cons (pv 2) pa_nil)) pe_int) (pe_callB call_len_seq (by rfl) T.len PySem.boot_len (pa_cons (pe_own o_later_ones (hr.mono (by decide)) rfl (pa_cons (pv 0) (pa_cons (pv 2) (pa_cons (pv 3) pa_nil)))) pa_nil))) pa_nil))))))), ?_⟩
    have so := strata_ok G
    have hs := G.stratum_ok hu
    refine (er_o0 G nf_strata (er_ord rfl O)) _ (Ex.refl _) _ fun v2 H1 e1 r1 => ?_
    refine (ev_of (er_o1 (post := PI1 fun an u => (an.stratumOf u : Nat)) G nf_stratum (er_ord rfl (O.ex e1)) (ev_var rfl) hu)) _ (Ex.refl _) _ fun H2 e2 => ⟨_, _, rfl, ?_⟩
    have O2 := (O.ex e1).ex e2
    have r2 : LR Rnat (anl n es).strata v2 H2 := r1.ex (keep := nlK) rob_nat e2
    refine q_asg (v := .int ((befores n es (anl n es).strata ((anl n es).stratumOf u)).length : Int)) (ev_lenR (er_bef G so (er_ord rfl O2) (er_lrn rfl r2) (ev_var rfl) hs.2.1)) fun H3 e3 => ?_
    have O3 := O2.ex e3
    have r3 : LR Rnat (anl n es).strata v2 H3 := r2.ex (keep := nlK) rob_nat e3
    refine s_retR (R := LR Rnat [(befores n es (anl n es).strata u).length, (anl n es).strata.length - 1 - (afters n es (anl n es).strata u).length]) (er_lst rob_nat (by show 2 ≤ 100000; decide) ((ear_is (ea_cons (ev_var rfl) (ea_cons (ev_op (ev_op (ev_lenR (er_lrn rfl r3)) ev_c rv_I0) (ev_lenR (er_aft G so (er_ord rfl O3) (er_lrn rfl r3) (ev_var rfl) hs.2.1)) rv_I0) ea_nil))).weakA fun us H4 e4 q => ?_)) fun v H4 e4 q => k v H4 ((e1.trans e2).trans (e3.trans e4)) q
    rw [q, Good.rep_b G hu, Good.rep_a G hu]
    refine .cons rfl (.cons ?_ .nil)
    have hp := G.place_ok (G.stratum_mem hu)
    have : (afters n es (anl n es).strata u).length + 1 ≤ (anl n es).strata.length := by
      rw [← Good.rep_a G hu]
      exact hp
    show V.int _ = V.int _
    congr 1
    omega
end
theorem flatMap_if {α β : Type} (c : α → Bool) (f : α → β) : ∀ l : List α, (l.flatMap fun b => if c b = true then [f b] else []) = (l.filter c).map f
  | [] => rfl
  | x :: l => by
    rw [List.flatMap_cons, flatMap_if c f l]
    by_cases h : c x = true
    · rw [List.filter_cons_of_pos h, if_pos h]; rfl
    · rw [List.filter_cons_of_neg h, if_neg h]; rfl
theorem if_len {α : Type} {c : Bool} {x : α} : (if c = true then [x] else []).length ≤ 1 := by cases c <;> simp
def pairsG (st : List Nat) (c : Nat → Nat → Bool) (a : Nat) : List (Nat × Nat) := (st.filter (c a)).map fun b => (a, b)
theorem pairsG_len {st : List Nat} (h : st.length ≤ 12) (c : Nat → Nat → Bool) (a : Nat) : (pairsG st c a).length ≤ 12 := by
  unfold pairsG
  rw [List.length_map]
  exact Nat.le_trans (List.length_filter_le _ _) h
abbrev hCond (n : Nat) (es : List (Nat × Fact)) (st : List Nat) (a b : Nat) : Bool := (anl n es).isEarlier a b && !(st.any fun c => (anl n es).isEarlier a c && (anl n es).isEarlier c b)
abbrev uCond (n : Nat) (es : List (Nat × Fact)) (a b : Nat) : Bool := decide (a < b) && (!(anl n es).isEarlier a b && !(anl n es).isEarlier b a)
theorem er_pr {σ : St} {H : Hp} {t1 t2 : TE} {a b : Nat} (h1 : Ev t1 σ H (.int a)) (h2 : Ev t2 σ H (.int b)) : EvR (tTup (tCons t1 (tCons t2 tNil))) σ H (Rpr (a, b)) := er_U (eu_tup (ea_cons h1 (ea_cons h2 ea_nil)) (by decide : 2 ≤ 100000))
abbrev s_harris_pairs : Stmt := topS 39
theorem sc_harris_pairs : FnScope ["order", "strata", "found", "one", "other"] ["order"] (defScope s_harris_pairs) := ⟨rfl, rfl, rfl, by decide +kernel, rfl, by decide +kernel, by decide +kernel⟩
abbrev s_undetermined : Stmt := topS 44
theorem sc_undetermined : FnScope ["order", "strata", "found", "one", "other"] ["order"] (defScope s_undetermined) := ⟨rfl, rfl, rfl, by decide +kernel, rfl, by decide +kernel, by decide +kernel⟩
section
variable {P : Program} {w : World} {K : PySem.W.Frag} {mg : Str → Option Value} {base : Heap} {CF CO CS aA aU f : Addr} {fd : FuncData}
theorem ok_harris_pairs (F : Fun K "harris_pairs" "harris_pairs" s_harris_pairs f fd) (T : Txt K mg CF CO CS aA aU) (o_Order_strata : OwnM P w K mg base CO "strata" 3 ["self"] (spO0 CF CO P w fun n es v H => LR Rnat (anl n es).strata v H)) (o_Order_is_before : OwnM P w K mg base CO "is_before" 1 ["self", "one", "other"] (spO2 CF CO P w (PB fun an => an.isEarlier)))
    (o_is_between : Own P w K mg base "is_between" 2 ["order", "strata", "one", "other"] (sBt CF CO P w)) : FnOk P w K mg base CX0 4 f fd ["order"] (spO0 CF CO P w fun n es v H => LR Rpr (anl n es).harrisMatrix v H) := by
  refine F.ok sc_harris_pairs (fun vs H Q E h => ?_) (fun cdv A outer s H vs Q E hr h => ?_)
  · obtain ⟨a, rfl, _⟩ := h
    rfl
  · obtain ⟨⟨r, n, es, _, _⟩, rfl, ⟨O, G⟩, k⟩ := h
    have G : Good n es := G
    refine ⟨_, (pss_cons (ps_par (i := 1) (j := 2) rfl sc_harris_pairs.nd rfl rfl (by decide) rfl rfl (pa_cons (pe_ownM0 o_Order_strata (hr.mono (by decide)) (pv 0)) (pa_cons (pe_lst pa_nil) pa_nil)) (by rfl))
      (pss_cons (ps_for PassesOwn.never rfl (pi_list (pv 1)) (pg_name (i := 3) sc_harris_pairs.nd rfl (.inl rfl)) (pss_one (ps_for PassesOwn.never rfl (pi_list (pv 1)) (pg_name (i := 4) sc_harris_pairs.nd rfl (.inl rfl)) (pss_one (ps_if (PW.pt (pw_and (pt_val (pe_ownM o_Order_is_before (hr.mono (by decide)) (pv 0) (pa_cons (pv 3) (pa_cons (pv 4) pa_nil)))) (pw_and1 (pt_not (pt_val (pe_own o_is_between (hr.mono (by decide)) rfl (pa_cons (pv 0) (pa_cons (pv 1) (pa_cons (pv 3) (pa_cons (pv 4) pa_nil)))))))))) (pss_one (ps_expr (pe_bm PySem.F.plainAttrs_list PySem.F.slot_list_append PySem.F.type_list_append mt_append (pv 2) (pa_cons (pe_tup (pa_cons (pv 3) (pa_cons (pv 4) pa_nil))) pa_nil)))) pss_nil)))))
      (pss_one (ps_ret (pv 2))))), ?_⟩
    have so := strata_ok G
    refine (er_o0 (post := fun n es v H => LR Rnat (anl n es).strata v H) G nf_strata (er_ord rfl O)) _ (Ex.refl _) _ fun v1 H1 e1 r1 => ⟨Nat.zero_le _, fun p hp => ⟨_, _, rfl, ?_⟩⟩
    obtain ⟨a, ws, rfl, ha, al⟩ := r1
    have ap : (V.ref a) ≠ .ref p := fun z => by
      cases z
      rw [ha] at hp
      cases hp
    have e2 : Ex H1 (upd H1 p (.lst [])) := Ex.new hp
    have O1 := O.ex e1
    have lr : ∀ H', Ex H1 H' → LR Rnat (anl n es).strata (.ref a) H' := fun H' e => ⟨a, ws, rfl, e _ _ ha, al.ex (keep := nlK) rob_nat e⟩
    refine q_forAcc (es := (anl n es).strata) (bs := []) (p := p) (A := Rnat) (B := Rpr) 12 (pairsG (anl n es).strata (hCond n es (anl n es).strata)) (fun σ => ∃ x y, σ = [some (.ref r), some (.ref a), some (.ref p), x, y]) rob_nat rob_pr.weak (er_var rfl fun H' e => ⟨lr _ (e2.trans e), ap⟩) ⟨none, none, rfl⟩ ⟨[], upd_same, .nil⟩ (fun c _ => pairsG_len so.2 _ c) (fun σ' H' i1 b1 l1 => ?_) (fun i c x acc σ' H' D' hc i1 b1 rc l1 hz1 k1 => ?_)
    · obtain ⟨x, y, rfl⟩ := i1
      exact s_retR (er_is (ev_var rfl)) fun v H2 e r => by
        rw [show v = _ from r]
        exact k _ H2 (e1.trans ((ExB.ex0 e2 hp b1).trans e)) (l1.ex rob_pr.weak e).lr
    · obtain ⟨x2, y2, rfl⟩ := i1
      obtain rfl : x = .int c := rc
      have hi : i < (anl n es).strata.length := (List.getElem?_eq_some_iff.mp hc).1
      have hz1 : acc.length ≤ 0 + i * 12 := hz1
      have s12 := so.2
      have eH : Ex H1 H' := ExB.ex0 e2 hp b1
      have hcn := so.1 c (List.mem_of_getElem? hc)
      refine s_forAcc (es := (anl n es).strata) (bs := acc) (p := p) (A := Rnat) (B := Rpr) 1 (fun b => if hCond n es (anl n es).strata c b = true then [(c, b)] else []) (fun σ => ∃ y, σ = [some (.ref r), some (.ref a), some (.ref p), some (.int c), y]) rob_nat rob_pr.weak (er_var rfl fun H' e => ⟨lr _ (eH.trans e), ap⟩) ⟨_, rfl⟩ l1 (fun c _ => if_len) (fun σ2 H2 i2 b2 l2 => ?_) (fun j d x acc2 σ2 H2 D2 hd i2 b2 rd l2 hz2 k2 => ?_)
      · obtain ⟨y, rfl⟩ := i2
        refine k1 _ H2 ⟨_, _, rfl⟩ b2 ?_
        rw [flatMap_if (hCond n es (anl n es).strata c) fun b => (c, b)] at l2
        exact l2
      · obtain ⟨y, rfl⟩ := i2
        obtain rfl : x = .int d := rd
        have hj : j < (anl n es).strata.length := (List.getElem?_eq_some_iff.mp hd).1
        have eH2 : Ex H1 H2 := ExB.ex0 e2 hp (b1.trans b2)
        have hdn := so.1 d (List.mem_of_getElem? hd)
        refine s_when (b := hCond n es (anl n es).strata c d) (et_and (et_B (ev_of (er_o2 G nf_before (er_ord rfl (O1.ex eH2)) (ev_var rfl) (ev_var rfl) hcn hdn))) fun _ => et_not (et_B (ev_of (er_e2 (post := fun n es st a b v _ => v = .bl (st.any fun c => (anl n es).isEarlier a c && (anl n es).isEarlier c b)) G so (er_ord rfl (O1.ex eH2)) (er_lrn rfl (lr _ eH2)) (ev_var rfl) (ev_var rfl) hcn hdn)))) (fun hb H3 e3 => ?_) (fun hb H3 e3 => ?_)
        · refine s_appB (A := Rpr) rob_pr.weak (l2.ex rob_pr.weak e3) (ev_var rfl) (b := (c, d)) (er_pr (ev_var rfl) (ev_var rfl)) (by omega) fun H4 b4 l4 => k2 _ H4 ⟨_, rfl⟩ ((ExB.ex e3).trans b4) ?_
          rw [if_pos hb]
          exact l4
        · refine k2 _ H3 ⟨_, rfl⟩ (ExB.ex e3) ?_
          rw [if_neg (by rw [hb]; simp), List.append_nil]
          exact l2.ex rob_pr.weak e3
theorem ok_undetermined (F : Fun K "undetermined" "undetermined" s_undetermined f fd) (T : Txt K mg CF CO CS aA aU) (o_Order_strata : OwnM P w K mg base CO "strata" 3 ["self"] (spO0 CF CO P w fun n es v H => LR Rnat (anl n es).strata v H)) (o_Order_is_before : OwnM P w K mg base CO "is_before" 1 ["self", "one", "other"] (spO2 CF CO P w (PB fun an => an.isEarlier))) :
    FnOk P w K mg base CX0 4 f fd ["order"] (spO0 CF CO P w fun n es v H => LR Rpr (anl n es).undeterminedPairs v H) := by
  refine F.ok sc_undetermined (fun vs H Q E h => ?_) (fun cdv A outer s H vs Q E hr h => ?_)
  · obtain ⟨a, rfl, _⟩ := h
    rfl
  · obtain ⟨⟨r, n, es, _, _⟩, rfl, ⟨O, G⟩, k⟩ := h
    have G : Good n es := G
    refine ⟨_, (pss_cons (ps_par (i := 1) (j := 2) rfl sc_undetermined.nd rfl rfl (by decide) rfl rfl (pa_cons (pe_ownM0 o_Order_strata (hr.mono (by decide)) (pv 0)) (pa_cons (pe_lst pa_nil) pa_nil)) (by rfl))
      (pss_cons (ps_for PassesOwn.never rfl (pi_list (pv 1)) (pg_name (i := 3) sc_undetermined.nd rfl (.inl rfl)) (pss_one (ps_for PassesOwn.never rfl (pi_list (pv 1)) (pg_name (i := 4) sc_undetermined.nd rfl (.inl rfl)) (pss_one (ps_if (PW.pt (pw_and (pt_cmpR op_lt (pv 3) (pv 4) (nomark _)) (pw_and (pt_not (pt_val (pe_ownM o_Order_is_before (hr.mono (by decide)) (pv 0) (pa_cons (pv 3) (pa_cons (pv 4) pa_nil))))) (pw_and1 (pt_not (pt_val (pe_ownM o_Order_is_before (hr.mono (by decide)) (pv 0) (pa_cons (pv 4) (pa_cons (pv 3) pa_nil))))))))) (pss_one (ps_expr (pe_bm PySem.F.plainAttrs_list PySem.F.slot_list_append PySem.F.type_list_append mt_append (pv 2) (pa_cons (pe_tup (pa_cons (pv 3) (pa_cons (pv 4) pa_nil))) pa_nil)))) pss_nil)))))
      (pss_one (ps_ret (pv 2))))), ?_⟩
    have so := strata_ok G
    refine (er_o0 (post := fun n es v H => LR Rnat (anl n es).strata v H) G nf_strata (er_ord rfl O)) _ (Ex.refl _) _ fun v1 H1 e1 r1 => ⟨Nat.zero_le _, fun p hp => ⟨_, _, rfl, ?_⟩⟩
    obtain ⟨a, ws, rfl, ha, al⟩ := r1
    have ap : (V.ref a) ≠ .ref p := fun z => by
      cases z
      rw [ha] at hp
      cases hp
    have e2 : Ex H1 (upd H1 p (.lst [])) := Ex.new hp
    have O1 := O.ex e1
    have lr : ∀ H', Ex H1 H' → LR Rnat (anl n es).strata (.ref a) H' := fun H' e => ⟨a, ws, rfl, e _ _ ha, al.ex (keep := nlK) rob_nat e⟩
    refine q_forAcc (es := (anl n es).strata) (bs := []) (p := p) (A := Rnat) (B := Rpr) 12 (pairsG (anl n es).strata (uCond n es)) (fun σ => ∃ x y, σ = [some (.ref r), some (.ref a), some (.ref p), x, y]) rob_nat rob_pr.weak (er_var rfl fun H' e => ⟨lr _ (e2.trans e), ap⟩) ⟨none, none, rfl⟩ ⟨[], upd_same, .nil⟩ (fun c _ => pairsG_len so.2 _ c) (fun σ' H' i1 b1 l1 => ?_) (fun i c x acc σ' H' D' hc i1 b1 rc l1 hz1 k1 => ?_)
    · obtain ⟨x, y, rfl⟩ := i1
      exact s_retR (er_is (ev_var rfl)) fun v H2 e r => by
        rw [show v = _ from r]
        exact k _ H2 (e1.trans ((ExB.ex0 e2 hp b1).trans e)) (l1.ex rob_pr.weak e).lr
    · obtain ⟨x2, y2, rfl⟩ := i1
      obtain rfl : x = .int c := rc
      have hi : i < (anl n es).strata.length := (List.getElem?_eq_some_iff.mp hc).1
      have hz1 : acc.length ≤ 0 + i * 12 := hz1
      have s12 := so.2
      have eH : Ex H1 H' := ExB.ex0 e2 hp b1
      have hcn := so.1 c (List.mem_of_getElem? hc)
      refine s_forAcc (es := (anl n es).strata) (bs := acc) (p := p) (A := Rnat) (B := Rpr) 1 (fun b => if uCond n es c b = true then [(c, b)] else []) (fun σ => ∃ y, σ = [some (.ref r), some (.ref a), some (.ref p), some (.int c), y]) rob_nat rob_pr.weak (er_var rfl fun H' e => ⟨lr _ (eH.trans e), ap⟩) ⟨_, rfl⟩ l1 (fun c _ => if_len) (fun σ2 H2 i2 b2 l2 => ?_) (fun j d x acc2 σ2 H2 D2 hd i2 b2 rd l2 hz2 k2 => ?_)
      · obtain ⟨y, rfl⟩ := i2
        refine k1 _ H2 ⟨_, _, rfl⟩ b2 ?_
        rw [flatMap_if (uCond n es c) fun b => (c, b)] at l2
        exact l2
      · obtain ⟨y, rfl⟩ := i2
        obtain rfl : x = .int d := rd
        have hj : j < (anl n es).strata.length := (List.getElem?_eq_some_iff.mp hd).1
        have eH2 : Ex H1 H2 := ExB.ex0 e2 hp (b1.trans b2)
        have hdn := so.1 d (List.mem_of_getElem? hd)
        refine s_when (b := uCond n es c d) (et_and (et_is (t_I0 (i := (c : Int)) (j := (d : Int)) (ev_var rfl) (ev_var rfl)) (decide_eq_decide.mpr (by omega))) fun _ => et_and (et_not (et_B (ev_of (er_o2 G nf_before (er_ord rfl (O1.ex eH2)) (ev_var rfl) (ev_var rfl) hcn hdn)))) fun _ => et_not (et_B (ev_of (er_o2 G nf_before (er_ord rfl (O1.ex eH2)) (ev_var rfl) (ev_var rfl) hdn hcn)))) (fun hb H3 e3 => ?_) (fun hb H3 e3 => ?_)
        · refine s_appB (A := Rpr) rob_pr.weak (l2.ex rob_pr.weak e3) (ev_var rfl) (b := (c, d)) (er_pr (ev_var rfl) (ev_var rfl)) (by omega) fun H4 b4 l4 => k2 _ H4 ⟨_, rfl⟩ ((ExB.ex e3).trans b4) ?_
          rw [if_pos hb]
          exact l4
        · refine k2 _ H3 ⟨_, rfl⟩ (ExB.ex e3) ?_
          rw [if_neg (by rw [hb]; simp), List.append_nil]
          exact l2.ex rob_pr.weak e3
end
/-! ### the first sequence -/
theorem nat_inV (u : Nat) : ∀ l : List Nat, inV (.int u) (l.map fun (n : Nat) => V.int n) = decide (u ∈ l)
  | [] => rfl
  | x :: l => by
    have ih := nat_inV u l
    unfold inV at ih ⊢
    rw [List.map_cons, List.any_cons, ih]
    show ((x : Int) == (u : Int) || decide (u ∈ l)) = decide (u ∈ x :: l)
    by_cases h : x = u
    · subst h; simp
    · have h2 : ¬ u = x := fun z => h z.symm
      have h1 : ((x : Int) == (u : Int)) = false := beq_eq_false_iff_ne.mpr fun z => h (by omega)
      rw [h1]
      simp [h2]
theorem nat_flat (l : List Nat) : (l.map fun (n : Nat) => V.int n).all flatV = true := by
  rw [List.all_map]
  simp [flatV]
/-- x not in l -/
theorem t_notIn {K : PySem.W.Frag} {σ : St} {H : Hp} {t1 t2 : TE} {u : Nat} {l : List Nat} {p : Addr} (h1 : Ev t1 σ H (.int u)) (h2 : Ev t2 σ H (.ref p)) (hl : LA Rnat H p l) : EvT (tTest (tOp (rIn K true) t1 t2)) σ H (!decide (u ∈ l)) := by
  obtain ⟨ws, hp, al⟩ := hl
  rw [all_nat al] at hp
  exact et_is (et_test (ev_op h1 h2 (rv_niL (sq_of hp) rfl (nat_flat l)))) (by rw [nat_inV])
theorem shaped_nat (ls : List Nat) : SeqAt.shaped (.list (ls.map fun (n : Nat) => .int n)) = true := by
  unfold SeqAt.shaped
  rw [Bool.and_eq_true]
  refine ⟨by simp only [PyData.canLay0]; exact lay_ints ls, decide_eq_true ?_⟩
  simp only [PyData.depth, depth_ints]
  decide
theorem dpall_nat {K : PySem.W.Frag} {H : Hp} {ws : List V} {ls : List Nat} (h : All Rnat H ws ls) : DpAll K H ws (ls.map fun (n : Nat) => .int n) := by
  rw [all_nat h]
  exact dp_ints ls
/-- l == [] -/
theorem t_empty {K : PySem.W.Frag} {σ : St} {H : Hp} {te : TE} {ls : List Nat} (h : EvR te σ H (LR Rnat ls)) : EvT (tTest (tOp (rEqD K) te (tLst tNil))) σ H ls.isEmpty := fun H1 e1 Q q =>
  h H1 e1 _ fun v H2 e2 r2 => ⟨Nat.zero_le _, fun p hp => by
    obtain ⟨l, ws, rfl, hl, al⟩ := r2.ex (keep := nlK) rob_nat (Ex.new (o := .lst []) hp)
    refine ⟨.list (ls.map fun (n : Nat) => .int n), .list [], .lst (sq_of hl) (dpall_nat al), .lst (sq_of upd_same) .nil, shaped_nat ls, by decide, _, rfl, ?_⟩
    have : PyData.eqv (.list (ls.map fun (n : Nat) => .int n)) (.list []) = ls.isEmpty := by
      cases ls with
      | nil => rfl
      | cons x l => simp [PyData.eqv, PyData.eqvAll]
    rw [this]
    exact q _ (e2.trans (Ex.new hp))⟩
theorem firstSeq_len (bef : Nat → Nat → Bool) (st : List Nat) : ∀ k, (SG.firstSeqM bef st k).length ≤ k := by
  intro k
  unfold SG.firstSeqM
  have : ∀ (l acc : List Nat), (l.foldl (fun found _ => found ++ [(SG.readyOf bef st found).headD 0]) acc).length = acc.length + l.length := by
    intro l
    induction l with
    | nil => intro acc; simp
    | cons x l ih => intro acc; rw [List.foldl_cons, ih]; simp; omega
  rw [this, List.length_take]
  simp
  omega
abbrev s_first_sequence : Stmt := topS 40
theorem sc_first_sequence : FnScope ["order", "strata", "found", "turn", "ready", "unit", "missing", "other"] ["order"] (defScope s_first_sequence) := ⟨rfl, rfl, rfl, by decide +kernel, rfl, by decide +kernel, by decide +kernel⟩
section
variable {P : Program} {w : World} {K : PySem.W.Frag} {mg : Str → Option Value} {base : Heap} {CF CO CS aA aU f : Addr} {fd : FuncData}
theorem ok_first_sequence (F : Fun K "first_sequence" "first_sequence" s_first_sequence f fd) (T : Txt K mg CF CO CS aA aU) (o_Order_strata : OwnM P w K mg base CO "strata" 3 ["self"] (spO0 CF CO P w fun n es v H => LR Rnat (anl n es).strata v H))
    (o_earlier_ones : Own P w K mg base "earlier_ones" 2 ["order", "strata", "unit"] (sE CF CO P w)) : FnOk P w K mg base CX0 4 f fd ["order"] (spO0 CF CO P w fun n es v H => LR Rnat (Stratigraphy.firstSequenceOf (anl n es) (anl n es).strata.length (anl n es).strata) v H) := by
  refine F.ok sc_first_sequence (fun vs H Q E h => ?_) (fun cdv A outer s H vs Q E hr h => ?_)
  · obtain ⟨a, rfl, _⟩ := h
    rfl
  · obtain ⟨⟨r, n, es, _, _⟩, rfl, ⟨O, G⟩, k⟩ := h
    have G : Good n es := G
    refine ⟨_, (pss_cons (ps_asg (pe_tup (pa_cons (pe_ownM0 o_Order_strata (hr.mono (by decide)) (pv 0)) (pa_cons (pe_lst pa_nil) pa_nil))) (pg_tup rfl (pgs_cons (pg_name (i := 1) sc_first_sequence.nd rfl (.inl rfl)) (pgs_cons (pg_name (i := 2) sc_first_sequence.nd rfl (.inr rfl)) pgs_nil))))
      (pss_cons (ps_for PassesOwn.never rfl (pi_list (pv 1)) (pg_name (i := 3) sc_first_sequence.nd rfl (.inl rfl)) (pss_cons (ps_set (i := 4) sc_first_sequence.nd rfl (.inl rfl) (pe_lst pa_nil))
      (pss_cons (ps_for PassesOwn.never rfl (pi_list (pv 1)) (pg_name (i := 5) sc_first_sequence.nd rfl (.inl rfl)) (pss_cons (ps_setLc (i := 6) (own := [("other", 7)]) (g := gName 7) (tt := (tTest (tOp (rIn K true) (tVar 7) (tVar 2)))) (te := (tVar 7)) rfl sc_first_sequence.nd rfl rfl (sw_true rfl rfl rfl (by decide +kernel)) (pi_list (pe_own o_earlier_ones (hr.mono (by decide)) rfl (pa_cons (pv 0) (pa_cons (pv 1) (pa_cons (pv 5) pa_nil))))) (blkOk_by (own := [("other", 7)]) (N := ["order", "strata", "found", "turn", "ready", "unit", "missing", "other"]) (sc := defScope s_first_sequence) (by decide +kernel)) (fun _ _ _ _ _ => (pg_name (i := 7) sc_first_sequence.nd rfl (.inl rfl))) (fun _ _ _ _ _ => pts_one (pt_cmpR op_notIn_seq (pv 7) (pv 2) rfl)) (fun _ _ _ _ _ => (pv 7)))
      (pss_one (ps_if (PW.pt (pw_and (pt_cmpR op_notIn_seq (pv 5) (pv 2) rfl) (pw_and1 (pt_cmpR (op_eqD hr.units) (pv 6) (pe_lst pa_nil) (nomark _))))) (pss_one (ps_expr (pe_bm PySem.F.plainAttrs_list PySem.F.slot_list_append PySem.F.type_list_append mt_append (pv 4) (pa_cons (pv 5) pa_nil)))) pss_nil))))
      (pss_one (ps_expr (pe_bm PySem.F.plainAttrs_list PySem.F.slot_list_append PySem.F.type_list_append mt_append (pv 2) (pa_cons (pe_ix ix_list (pv 4) pe_int (fun _ _ => rfl)) pa_nil)))))))
      (pss_one (ps_ret (pv 2))))), ?_⟩
    have so := strata_ok G
    have s12 := so.2
    refine (er_o0 (post := fun n es v H => LR Rnat (anl n es).strata v H) G nf_strata (er_ord rfl O)) _ (Ex.refl _) _ fun v1 H1 e1 r1 => ⟨Nat.zero_le _, fun p hp => ⟨by show 2 ≤ sizeLine; decide, fun t ht => ⟨t, _, rfl, st_of upd_same, rfl, _, _, rfl, _, _, rfl, rfl, ?_⟩⟩⟩
    obtain ⟨a, ws, rfl, ha, al⟩ := r1
    have e2 : Ex H1 (upd H1 p (.lst [])) := Ex.new hp
    have e3 : Ex (upd H1 p (.lst [])) (upd (upd H1 p (.lst [])) t (.tup [.ref a, .ref p])) := Ex.new ht
    have O1 := O.ex e1
    have lr : ∀ H', Ex H1 H' → LR Rnat (anl n es).strata (.ref a) H' := fun H' e => ⟨a, ws, rfl, e _ _ ha, al.ex (keep := nlK) rob_nat e⟩
    let bef := (anl n es).isEarlier
    let S := (anl n es).strata
    have s12 : S.length ≤ 12 := so.2
    refine ⟨_, rfl, a, rfl, ⟨ws, sq_of ((e2.trans e3) _ _ ha)⟩, for_list (xs := ws) (fun i σ' H' => Ex H1 H' ∧ LA Rnat H' p (SG.firstSeqM bef S i) ∧ ∃ x3 x4 x5 x6 x7, σ' = [some (.ref r), some (.ref a), some (.ref p), x3, x4, x5, x6, x7]) ⟨e2.trans e3, ⟨[], e3 _ _ upd_same, .nil⟩, _, _, _, _, _, rfl⟩ (fun i σ' H' _ q => sq_of (q.1 _ _ ha)) (fun i x σ' H' hi q => ?_) (fun σ' H' q => ?_)⟩
    · obtain ⟨q1, q2, x3, x4, x5, x6, x7, rfl⟩ := q
      obtain ⟨c, hc, rc⟩ := al.get hi
      have hlt : i < S.length := (List.getElem?_eq_some_iff.mp hc).1
      have hfl := firstSeq_len bef S i
      refine q_new fun p4 hp4 => ?_
      have e4 : Ex H' (upd H' p4 (.lst [])) := Ex.new hp4
      have npp : p ≠ p4 := fun z => by
        obtain ⟨us, hus, _⟩ := q2
        rw [z, hp4] at hus
        cases hus
      have nap : (V.ref a) ≠ .ref p4 := fun z => by
        cases z
        have := q1 _ _ ha
        rw [hp4] at this
        cases this
      have fnd : ∀ H2, ExB p4 (upd H' p4 (.lst [])) H2 → LA Rnat H2 p (SG.firstSeqM bef S i) := fun H2 b => by
        obtain ⟨us, hus, au⟩ := q2
        exact ⟨us, b _ _ (e4 _ _ hus) npp, by rw [all_nat au]; exact all_nat_mk _⟩
      let ready : Nat → Bool := fun u => !decide (u ∈ SG.firstSeqM bef S i) && (SG.missingOf bef S (SG.firstSeqM bef S i) u).isEmpty
      refine q_forAcc (es := S) (bs := []) (p := p4) (A := Rnat) (B := Rnat) 1 (fun u => if ready u = true then [u] else []) (fun σ => ∃ x5 x6 x7, σ = [some (.ref r), some (.ref a), some (.ref p), some x, some (.ref p4), x5, x6, x7]) rob_nat rob_nat (er_var rfl fun H' e => ⟨lr _ (q1.trans (e4.trans e)), nap⟩) ⟨_, _, _, rfl⟩ ⟨[], upd_same, .nil⟩ (fun c _ => if_len) (fun σ2 H2 i2 b2 l2 => ?_) (fun j d y acc σ2 H2 D2 hd i2 b2 rd l2 hz2 k2 => ?_)
      · obtain ⟨y5, y6, y7, rfl⟩ := i2
        have er : ([] ++ S.flatMap fun u => if ready u = true then [u] else []) = SG.readyOf bef S (SG.firstSeqM bef S i) := by
          rw [List.nil_append, flatMap_if ready fun u => u, List.map_id']
          rfl
        rw [er] at l2
        have hne : SG.readyOf bef S (SG.firstSeqM bef S i) ≠ [] := G.ready hlt
        have eH2 : Ex H1 H2 := q1.trans (ExB.ex0 e4 hp4 b2)
        have hd0 : (SG.readyOf bef S (SG.firstSeqM bef S i))[0]? = some ((SG.readyOf bef S (SG.firstSeqM bef S i)).headD 0) := by
          cases hh : SG.readyOf bef S (SG.firstSeqM bef S i) with
          | nil => exact absurd hh hne
          | cons y l => rfl
        obtain ⟨us, hus, au⟩ := l2
        have hu0 : us[0]? = some (.int ((SG.readyOf bef S (SG.firstSeqM bef S i)).headD 0 : Nat)) := by
          rw [all_nat au, List.getElem?_map, hd0]
          rfl
        refine s_appB (A := Rnat) rob_nat (fnd H2 b2) (ev_var rfl) (b := (SG.readyOf bef S (SG.firstSeqM bef S i)).headD 0) (er_of (ev_op (ev_var rfl) ev_c (rv_ixL (sq_of hus) (atI_nat (j := 0) hu0))) fun _ _ => rfl) (by omega) fun H4 b4 l4 => ?_
        refine ⟨ExB.ex0 (H0 := H1) eH2 hp b4, ?_, _, _, _, _, _, rfl⟩
        have : SG.firstSeqM bef S (i + 1) = SG.firstSeqM bef S i ++ [(SG.readyOf bef S (SG.firstSeqM bef S i)).headD 0] := by
          show (S.take (i + 1)).foldl _ _ = _
          rw [List.take_add_one, hc, List.foldl_append]
          rfl
        rw [this]
        exact l4
      · obtain ⟨y5, y6, y7, rfl⟩ := i2
        obtain rfl : y = .int d := rd
        have hj : j < S.length := (List.getElem?_eq_some_iff.mp hd).1
        have eH2 : Ex H1 H2 := q1.trans (ExB.ex0 e4 hp4 b2)
        have hdn := so.1 d (List.mem_of_getElem? hd)
        have f2 := fnd H2 b2
        refine q_asgR (R := LR Rnat (SG.missingOf bef S (SG.firstSeqM bef S i) d)) ((er_lcL rob_nat rob_nat (fun o => if (!decide (o ∈ SG.firstSeqM bef S i)) = true then some o else none) (er_bef G so (er_ord rfl (O1.ex eH2)) (er_lrn rfl (lr _ eH2)) (ev_var rfl) hdn) (Nat.le_trans (List.length_filter_le _ _) (Nat.le_trans so.2 (by decide))) (fun x => rfl) (fun o x H3 ho e3 ro => ?_) (fun o x b H3 ho e3 ro hb => ?_)).weak fun v H3 e3 h3 => ?_) fun v6 H3 e3 r6 => ?_
        · obtain rfl : x = .int o := ro
          exact et_is (t_notIn (ev_var rfl) (ev_var rfl) (f2.ex (keep := nlK) rob_nat e3)) some_if
        · obtain rfl : x = .int o := ro
          by_cases z : (!decide (o ∈ SG.firstSeqM bef S i)) = true
          · rw [if_pos z] at hb
            cases hb
            exact er_of (ev_var rfl) fun _ _ => rfl
          · rw [if_neg z] at hb
            cases hb
        · rw [fm_filter] at h3
          exact h3
        · refine s_when (b := ready d) (et_and (t_notIn (ev_var rfl) (ev_var rfl) (f2.ex (keep := nlK) rob_nat e3)) fun _ => t_empty (er_lrn rfl r6)) (fun hb H5 e5 => ?_) (fun hb H5 e5 => ?_)
          · have hz2 : acc.length ≤ 0 + j * 1 := hz2
            refine s_appB (A := Rnat) rob_nat (l2.ex (keep := nlK) rob_nat (e3.trans e5)) (ev_var rfl) (b := d) (er_of (ev_var rfl) fun _ _ => rfl) (by omega) fun H6 b6 l6 => k2 _ H6 ⟨_, _, _, rfl⟩ ((ExB.ex (e3.trans e5)).trans b6) ?_
            rw [if_pos hb]
            exact l6
          · refine k2 _ H5 ⟨_, _, _, rfl⟩ (ExB.ex (e3.trans e5)) ?_
            rw [if_neg (by rw [hb]; simp), List.append_nil]
            exact l2.ex (keep := nlK) rob_nat (e3.trans e5)
    · obtain ⟨q1, q2, x3, x4, x5, x6, x7, rfl⟩ := q
      rw [al.length] at q2
      exact s_retR (er_is (ev_var rfl)) fun v H2 e r => by
        rw [show v = _ from r]
        refine k _ H2 (e1.trans (q1.trans e)) ?_
        have := (q2.ex (keep := nlK) rob_nat e).lr
        rw [show SG.firstSeqM bef S (anl n es).strata.length = _ from G.firstSeq] at this
        exact this
end
end L2.SD

/-! B7: sequences.py, counting and asking -/
set_option Elab.async false
set_option linter.all false
set_option maxRecDepth 100000
set_option maxHeartbeats 2000000
namespace L2.SD
open PySem PySem.Spec PyProof.Rows Evl
open Stratigraphy (Fact)
open SG (Good anl notAfter)

theorem flatMap_one {α β : Type} (f : α → β) : ∀ l : List α, (l.flatMap fun u => [f u]) = l.map f
  | [] => rfl
  | x :: l => by rw [List.flatMap_cons, flatMap_one f l]; rfl
theorem fm_filter_map {α β : Type} (c : α → Bool) (g : α → β) : ∀ l : List α, (l.filterMap fun q => if c q = true then some (g q) else none) = (l.filter c).map g
  | [] => rfl
  | x :: l => by
    have ih := fm_filter_map c g l
    by_cases h : c x = true
    · rw [List.filter_cons_of_pos h, List.map_cons, ← ih]; simp [h]
    · rw [List.filter_cons_of_neg h, ← ih]; simp [h]
/-- [elt for i, x in enumerate(l) if test] -/
theorem er_lcE {K : PySem.W.Frag} {σ : St} {H : Hp} {ta : TA} {tt : TT} {te : TE} {β : Type} {B : β → V → Hp → Prop} {l : List Nat} {a : Addr} {i j : Nat} {vs : List Nat} (rB : Rob nlK B) (f : Nat × Nat → Option β)
    (hn : EvA ta σ H [.ref a]) (hl : LA Rnat H a l) (hz : l.length ≤ 100000) (hw : ∀ x y, wipe (((wipe σ vs).set i (some x)).set j (some y)) vs = wipe σ vs)
    (ht : ∀ p H1, p ∈ l.zipIdx → Ex H H1 → EvT tt (((wipe σ vs).set i (some (.int (p.2 : Nat)))).set j (some (.int (p.1 : Nat)))) H1 (f p).isSome)
    (he : ∀ p b H1, p ∈ l.zipIdx → Ex H H1 → f p = some b → EvR te (((wipe σ vs).set i (some (.int (p.2 : Nat)))).set j (some (.int (p.1 : Nat)))) H1 (B b)) :
    EvR (tLc (iEnum K ta) (gTup K 2 (gCons (gName i) (gCons (gName j) gNil))) tt te vs) σ H (LR B (l.zipIdx.filterMap f)) := fun H0 e0 Q q => hn H0 e0 _ fun H1 e1 => by
  obtain ⟨ws, hws, al⟩ := hl
  have ew := all_nat al
  have hws1 := (e0.trans e1) _ _ hws
  refine ⟨a, ws, rfl, sq_of hws1, fun D hD => ?_⟩
  have hlen : ws.length = l.length := al.length
  refine lc_it (walk_enum (K := K) (a := a) (xs := ws)) (fun i H' => Ex H1 H' ∧ ∃ us, H' D = some (.lst us) ∧ All B H' us ((l.zipIdx.take i).filterMap f) ∧ us.length ≤ i) ⟨Ex.new hD, [], upd_same, .nil, Nat.zero_le _⟩ (fun i H' _ p => sq_of (p.1 _ _ hws1)) (fun k x H2 H3 hk p y => ?_) fun H' p => ?_
  · obtain ⟨p1, us, p2, p3, p4⟩ := p
    obtain ⟨t, x', y', rfl, hT, rfl, hx', hy'⟩ := y
    obtain rfl : V.int (k : Nat) = x' := Option.some.inj hx'
    rw [hlen] at hk
    obtain ⟨u, hu⟩ : ∃ u, l[k]? = some u := ⟨l[k], List.getElem?_eq_getElem hk⟩
    have : y' = .int (u : Nat) := by
      have hh : ws[k]? = some y' := hy'
      rw [ew, List.getElem?_map, hu] at hh
      exact (Option.some.inj hh).symm
    subst this
    have eT : Ex H2 (upd H2 t (.tup [.int (k : Nat), .int (u : Nat)])) := Ex.new hT
    refine ⟨t, _, rfl, st_of upd_same, rfl, _, _, rfl, _, _, rfl, rfl, hw _ _, ?_⟩
    have hzi : l.zipIdx[k]? = some (u, k) := by rw [List.getElem?_zipIdx, hu]; simp
    have hm : (u, k) ∈ l.zipIdx := List.mem_of_getElem? hzi
    have e02 : Ex H (upd H2 t (.tup [.int (k : Nat), .int (u : Nat)])) := ((e0.trans e1).trans p1).trans eT
    refine ht (u, k) _ hm e02 _ (Ex.refl _) _ fun H4 e4 => ?_
    have es' : (l.zipIdx.take (k + 1)).filterMap f = (l.zipIdx.take k).filterMap f ++ (f (u, k)).toList := by
      rw [List.take_add_one, hzi, List.filterMap_append]
      cases hf : f (u, k) <;> simp [hf]
    rw [es']
    cases hf : f (u, k) with
    | some b =>
      rw [if_pos (by rfl)]
      refine he (u, k) b _ hm e02 hf H4 e4 _ fun y H5 e5 ry => ⟨us, e5 _ _ (e4 _ _ (eT _ _ p2)), by rw [sizeLine_eq]; omega, ?_, ?_⟩
      · exact Ex.mut (((p1.trans eT).trans e4).trans e5) hD
      · exact ⟨_, upd_same, ((p3.ex rB ((eT.trans e4).trans e5)).snoc ry).kp rB (KP.upd (e5 _ _ (e4 _ _ (eT _ _ p2))) rfl), by simp; omega⟩
    | none =>
      rw [if_neg (by simp)]
      exact ⟨(p1.trans eT).trans e4, us, e4 _ _ (eT _ _ p2), by simpa using p3.ex rB (eT.trans e4), by omega⟩
  · obtain ⟨p1, us, p2, p3, _⟩ := p
    rw [hlen, show l.length = l.zipIdx.length by simp, List.take_length] at p3
    exact q _ H' (e1.trans p1) ⟨D, us, rfl, p2, p3⟩
theorem sum_cast : ∀ l : List Nat, (l.map fun (n : Nat) => (n : Int)).sum = ((l.sum : Nat) : Int)
  | [] => rfl
  | x :: l => by
    rw [List.map_cons, List.sum_cons, List.sum_cons, sum_cast l]
    omega
theorem call_sumN {σ : St} {H : Hp} {K : PySem.W.Frag} {te : TE} {l : List Nat} (h : EvR te σ H (LR Rnat l)) : EvR (tCB (rSum K) (tCons te tNil)) σ H (Rnat l.sum) := er_cb (ear_1 h) fun vs H1 e1 s Q q => by
  obtain ⟨v, rfl, p, ws, rfl, hp, al⟩ := s
  refine ⟨p, l.map fun (n : Nat) => (n : Int), rfl, ?_, q _ H1 (Ex.refl _) ?_⟩
  · rw [all_nat al] at hp
    rw [List.map_map]
    exact sq_of hp
  · rw [sum_cast]
    rfl
theorem shl1 (i : Nat) : (1 : Int) * 2 ^ ((i : Nat) : Int).toNat = ((2 ^ i : Nat) : Int) := by
  rw [Int.one_mul, Int.toNat_natCast]
  simp
theorem ev_shl1 {σ : St} {H : Hp} {t : TE} {i : Nat} (h : Ev t σ H (.int (i : Nat))) (hi : i ≤ 1000) : Ev (tOp (rI CPow fun i j => .int (i * 2 ^ j.toNat)) (tC (.int 1)) t) σ H (.int ((2 ^ i : Nat) : Int)) := by
  have := ev_op (H := H) (σ := σ) (ta := tC (.int 1)) ev_c h (rv_I (C := CPow) (g := fun i j => .int (i * 2 ^ j.toNat)) (i := 1) (j := (i : Nat)) ⟨by omega, by omega, by decide⟩)
  rw [shl1] at this
  exact this
def spM (CF CO : Addr) (P : Program) (w : World) : Sp := spP (α := QA) (fun a => [.ref a.r, a.vst]) (fun a H => OrdAt CF CO P w H a.r a.n a.es ∧ Good a.n a.es ∧ LR Rnat a.st a.vst H ∧ StrOk a.n a.st) (fun a v H => LR Rnat (a.st.map (SG.maskOf (anl a.n a.es).isEarlier a.st)) v H)
theorem er_m {CF CO : Addr} {P : Program} {w : World} {σ : St} {H : Hp} {t0 t1 : TE} {n : Nat} {es : List (Nat × Fact)} {st : List Nat} (G : Good n es) (so : StrOk n st) (h0 : EvR t0 σ H (Rord CF CO P w n es)) (h1 : EvR t1 σ H (LR Rnat st)) :
    EvR (tCall (spM CF CO P w) [] E0 (tCons t0 (tCons t1 tNil))) σ H (LR Rnat (st.map (SG.maskOf (anl n es).isEarlier st))) :=
  er_call (ear_cons h0 stb_ord (ear_1 h1)) fun us H1 e1 s => by
    obtain ⟨v0, r0, rfl, ⟨r, rfl, O⟩, v1, rfl, q1⟩ := s
    exact ⟨⟨r, n, es, v1, st, 0, 0⟩, rfl, ⟨O, G, q1, so⟩, fun v H2 e2 h => h⟩
abbrev s_masks_of : Stmt := topS 41
theorem sc_masks_of : FnScope ["order", "strata", "found", "unit", "at", "other"] ["order", "strata"] (defScope s_masks_of) := ⟨rfl, rfl, rfl, by decide +kernel, rfl, by decide +kernel, by decide +kernel⟩
section
variable {P : Program} {w : World} {K : PySem.W.Frag} {mg : Str → Option Value} {base : Heap} {CF CO CS aA aU f : Addr} {fd : FuncData}
theorem ok_masks_of (F : Fun K "masks_of" "masks_of" s_masks_of f fd) (T : Txt K mg CF CO CS aA aU) (o_Order_is_before : OwnM P w K mg base CO "is_before" 1 ["self", "one", "other"] (spO2 CF CO P w (PB fun an => an.isEarlier))) :
    FnOk P w K mg base CX0 2 f fd ["order", "strata"] (spM CF CO P w) := by
  refine F.ok sc_masks_of (fun vs H Q E h => ?_) (fun cdv A outer s H vs Q E hr h => ?_)
  · obtain ⟨a, rfl, _⟩ := h
    rfl
  · obtain ⟨⟨r, n, es, vst, st, _, _⟩, rfl, ⟨O, G, hl, so⟩, k⟩ := h
    have G : Good n es := G
    have s12 : st.length ≤ 12 := so.2
    refine ⟨_, (pss_cons (ps_set (i := 2) sc_masks_of.nd rfl (.inl rfl) (pe_lst pa_nil))
      (pss_cons (ps_for PassesOwn.never rfl (pi_list (pv 1)) (pg_name (i := 3) sc_masks_of.nd rfl (.inr rfl)) (pss_one (ps_expr (pe_bm PySem.F.plainAttrs_list PySem.F.slot_list_append PySem.F.type_list_append mt_append (pv 2) (pa_cons (pe_callB (cr_sum rfl) (by rfl) T.sum (by decide +kernel) (pa_cons (pe_lc (own := [("at", 4), ("other", 5)]) (g := gTup K 2 (gCons (gName 4) (gCons (gName 5) gNil))) (tt := (tB (tMeth _ "is_before" _ [] E0 (tVar 0) (tCons (tVar 5) (tCons (tVar 3) tNil))))) (te := (tOp _ (tC (.int 1)) (tVar 4))) rfl sc_masks_of.nd (pi_enum (by rfl) T.enumerate (pa_cons (pv 1) pa_nil)) (blkOk_by (own := [("at", 4), ("other", 5)]) (N := ["order", "strata", "found", "unit", "at", "other"]) (sc := defScope s_masks_of) (by decide +kernel)) (fun _ _ _ _ _ => (pg_tup rfl (pgs_cons (pg_name (i := 4) sc_masks_of.nd rfl (.inl rfl)) (pgs_cons (pg_name (i := 5) sc_masks_of.nd rfl (.inl rfl)) pgs_nil)))) (fun _ _ _ _ _ => pts_one (pt_val (pe_ownM o_Order_is_before (hr.mono (by decide)) (pv 0) (pa_cons (pv 5) (pa_cons (pv 3) pa_nil))))) (fun _ _ _ _ _ => (pe_op op_shl pe_int (pv 4)))) pa_nil)) pa_nil)))))
      (pss_one (ps_ret (pv 2))))), ?_⟩
    obtain ⟨a, ws, rfl, ha, al⟩ := hl
    refine q_new fun p hp => ?_
    have ap : (V.ref a) ≠ .ref p := fun z => by
      cases z
      rw [ha] at hp
      cases hp
    have e0 : Ex H (upd H p (.lst [])) := Ex.new hp
    have lr : ∀ H', Ex H H' → LR Rnat st (.ref a) H' := fun H' e => ⟨a, ws, rfl, e _ _ ha, al.ex (keep := nlK) rob_nat e⟩
    refine q_forAcc (es := st) (bs := []) (p := p) (A := Rnat) (B := Rnat) 1 (fun u => [SG.maskOf (anl n es).isEarlier st u]) (fun σ => ∃ x y z, σ = [some (.ref r), some (.ref a), some (.ref p), x, y, z]) rob_nat rob_nat (er_var rfl fun H' e => ⟨lr _ (e0.trans e), ap⟩) ⟨none, none, none, rfl⟩ ⟨[], upd_same, .nil⟩ (fun c _ => Nat.le_refl 1) (fun σ' H' i1 b1 l1 => ?_) (fun i c x acc σ' H' D' hc i1 b1 rc l1 hz1 k1 => ?_)
    · obtain ⟨x, y, z, rfl⟩ := i1
      exact s_retR (er_is (ev_var rfl)) fun v H1 e q => by
        rw [show v = _ from q]
        refine k _ H1 ((ExB.ex0 e0 hp b1).trans e) ?_
        have := (l1.ex (keep := nlK) rob_nat e).lr
        rw [List.nil_append, flatMap_one] at this
        exact this
    · obtain ⟨x3, y3, z3, rfl⟩ := i1
      obtain rfl : x = .int c := rc
      have hi : i < st.length := (List.getElem?_eq_some_iff.mp hc).1
      have hz1 : acc.length ≤ 0 + i * 1 := hz1
      have eH : Ex H H' := ExB.ex0 e0 hp b1
      have hcn := so.1 c (List.mem_of_getElem? hc)
      refine s_appB (A := Rnat) rob_nat l1 (ev_var rfl) (b := SG.maskOf (anl n es).isEarlier st c) ?_ (by omega) fun H2 b2 l2 => k1 _ H2 ⟨_, _, _, rfl⟩ b2 l2
      have hlc := er_lcE (K := K) (B := Rnat) (σ := [some (.ref r), some (.ref a), some (.ref p), some (.int c), y3, z3]) (H := H') (i := 4) (j := 5) (vs := [4, 5]) (ta := tCons (tVar 1) tNil) (tt := tB (tMeth CO "is_before" (spO2 CF CO P w (PB fun an => an.isEarlier)) [] E0 (tVar 0) (tCons (tVar 5) (tCons (tVar 3) tNil)))) (te := tOp (rI CPow fun i j => .int (i * 2 ^ j.toNat)) (tC (.int 1)) (tVar 4)) rob_nat (fun q => if (anl n es).isEarlier q.1 c = true then some (2 ^ q.2) else none) (ea_cons (ev_var rfl) ea_nil) ⟨ws, eH _ _ ha, al.ex (keep := nlK) rob_nat eH⟩ (by show st.length ≤ 100000; omega) (fun x y => rfl) (fun q H1 hq e1 => ?_) (fun q b H1 hq e1 hb => ?_)
      · have := call_sumN (K := K) hlc
        have em : (st.zipIdx.filterMap fun q => if (anl n es).isEarlier q.1 c = true then some (2 ^ q.2) else none).sum = SG.maskOf (anl n es).isEarlier st c := by
          unfold SG.maskOf
          rw [fm_filter_map (fun q : Nat × Nat => (anl n es).isEarlier q.1 c) fun q => 2 ^ q.2]
        rw [em] at this
        exact this
      · refine et_is (et_B (ev_of (er_o2 G nf_before (er_ord rfl (O.ex (eH.trans e1))) (ev_var rfl) (ev_var rfl) (so.1 q.1 (List.fst_mem_of_mem_zipIdx hq)) hcn))) ?_
        show (anl n es).isEarlier q.1 c = _
        cases (anl n es).isEarlier q.1 c <;> rfl
      · by_cases z : (anl n es).isEarlier q.1 c = true
        · rw [if_pos z] at hb
          cases hb
          have : q.2 < 0 + st.length := (List.mem_zipIdx hq).2.1
          exact er_of (ev_shl1 (ev_var rfl) (by omega)) fun _ _ => rfl
        · rw [if_neg z] at hb
          cases hb
end
/-! ### spread -/
theorem band (a b : Nat) : Builtin.bitAnd (a : Int) (b : Int) = ((a &&& b : Nat) : Int) := by
  have h1 : decide ((0 : Int) ≤ (a : Int)) = true := decide_eq_true (by omega)
  have h2 : decide ((0 : Int) ≤ (b : Int)) = true := decide_eq_true (by omega)
  unfold Builtin.bitAnd
  rw [h1, h2]
  simp
theorem bit0 (d i : Nat) : Builtin.bitAnd ((d : Int) / 2 ^ ((i : Nat) : Int).toNat) 1 = (((d / 2 ^ i) % 2 : Nat) : Int) := by
  have e1 : ((d : Int) / 2 ^ ((i : Nat) : Int).toNat) = ((d / 2 ^ i : Nat) : Int) := by
    rw [Int.toNat_natCast]
    simp
  have := band (d / 2 ^ i) 1
  rw [e1]
  rw [show ((1 : Nat) : Int) = 1 from rfl] at this
  rw [this, Nat.and_one_is_mod]
theorem ev_op2 {σ : St} {H : Hp} {ta tb : TE} {i j : Int} {g : Int → Int → V} (ha : Ev ta σ H (.int i)) (hb : Ev tb σ H (.int j)) : Ev (tOp (rI0 g) ta tb) σ H (g i j) := ev_op ha hb rv_I0
abbrev stepM (done : Nat) (w : List Nat) (p : Nat × Nat) : List Nat := if done.testBit p.2 = false ∧ p.1 &&& done = p.1 then w.set (done + 2 ^ p.2) (w.getD (done + 2 ^ p.2) 0 + w.getD done 0) else w
theorem stepM_len (done : Nat) : ∀ (l : List (Nat × Nat)) (w : List Nat), (l.foldl (stepM done) w).length = w.length
  | [], w => rfl
  | p :: l, w => by
    rw [List.foldl_cons, stepM_len done l]
    unfold stepM
    split
    · rw [List.length_set]
    · rfl
theorem add_pow_lt {d k p : Nat} (hd : d < 2 ^ k) (hp : p < k) (h : d.testBit p = false) : d + 2 ^ p < 2 ^ k := SG.lt_pow_of_bits fun j hj => by
  rw [SG.testBit_add_pow p d j h] at hj
  by_cases e : j = p
  · omega
  · rw [if_neg e] at hj
    exact SG.bit_lt hd hj
def natV (l : List Nat) : List V := l.map fun (n : Nat) => V.int n
def spSpread : Sp := fun vs H Q _ => ∃ (pw : Addr) (vm : V) (ways masks : List Nat) (done : Nat), vs = [.ref pw, vm, .int done] ∧ H pw = some (.lst (natV ways)) ∧ LR Rnat masks vm H ∧ vm ≠ .ref pw ∧ masks.length ≤ 12 ∧ ways.length = 2 ^ masks.length ∧ done < 2 ^ masks.length ∧
  ∀ H', ExB pw H H' → H' pw = some (.lst (natV (SG.spreadM masks ways done))) → Q .non H'
abbrev s_spread : Stmt := topS 43
theorem sc_spread : FnScope ["ways", "masks", "done", "at", "mask"] ["ways", "masks", "done"] (defScope s_spread) := ⟨rfl, rfl, rfl, by decide +kernel, rfl, by decide +kernel, by decide +kernel⟩
section
variable {P : Program} {w : World} {K : PySem.W.Frag} {mg : Str → Option Value} {base : Heap} {CF CO CS aA aU f : Addr} {fd : FuncData}
theorem ok_spread (F : Fun K "spread" "spread" s_spread f fd) (T : Txt K mg CF CO CS aA aU) : FnOk P w K mg base CX0 1 f fd ["ways", "masks", "done"] spSpread := by
  refine F.ok sc_spread (fun vs H Q E h => ?_) (fun cdv A outer s H vs Q E hr h => ?_)
  · obtain ⟨pw, vm, ways, masks, done, rfl, _⟩ := h
    rfl
  · obtain ⟨pw, vm, ways, masks, done, rfl, hpw, hm, hne, h12, hwl, hd, k⟩ := h
    refine ⟨_, (pss_one (ps_for PassesOwn.never rfl (pi_enum (by rfl) T.enumerate (pa_cons (pv 1) pa_nil)) (pg_tup rfl (pgs_cons (pg_name (i := 3) sc_spread.nd rfl (.inl rfl)) (pgs_cons (pg_name (i := 4) sc_spread.nd rfl (.inl rfl)) pgs_nil))) (pss_one (ps_if (PW.pt (pw_and (pt_cmpR op_eq (pe_op op_and (pe_op op_shr (pv 2) (pv 3)) pe_int) pe_int (nomark _)) (pw_and1 (pt_cmpR op_eq (pe_op op_and (pv 4) (pv 2)) (pv 4) (nomark _))))) (pss_one (ps_asg (pe_op op_add (pe_ix ix_list (pv 0) (pe_op op_add (pv 2) (pe_op op_shl pe_int (pv 3))) (fun _ _ => rfl)) (pe_ix ix_list (pv 0) (pv 2) (fun _ _ => rfl))) (pg_sub (pv 0) (pe_op op_add (pv 2) (pe_op op_shl pe_int (pv 3))) set_list))) pss_nil)))), ?_⟩
    obtain ⟨a, ws, rfl, ha, al⟩ := hm
    have ap : a ≠ pw := fun z => hne (by rw [z])
    have ew := all_nat al
    have hlen : ws.length = masks.length := al.length
    refine ⟨_, rfl, a, ws, rfl, sq_of ha, for_it (walk_enum (K := K) (a := a) (xs := ws)) (fun i σ' H' => ExB pw H H' ∧ H' pw = some (.lst (natV ((masks.zipIdx.take i).foldl (stepM done) ways))) ∧ ∃ x y, σ' = [some (.ref pw), some (.ref a), some (.int done), x, y]) ⟨.refl, hpw, _, _, rfl⟩ (fun i σ' H' _ q => sq_of (q.1 _ _ ha ap)) (fun i x σ' H' H2 hi q y => ?_) (fun σ' H' q => ?_)⟩
    · obtain ⟨q1, q2, x0, y0, rfl⟩ := q
      obtain ⟨t, x', y', rfl, hT, rfl, hx', hy'⟩ := y
      obtain rfl : V.int (i : Nat) = x' := Option.some.inj hx'
      rw [hlen] at hi
      obtain ⟨m, hm⟩ : ∃ u, masks[i]? = some u := ⟨masks[i], List.getElem?_eq_getElem hi⟩
      have : y' = .int (m : Nat) := by
        have hh : ws[i]? = some y' := hy'
        rw [ew, List.getElem?_map, hm] at hh
        exact (Option.some.inj hh).symm
      subst this
      have eT : Ex H' (upd H' t (.tup [.int (i : Nat), .int (m : Nat)])) := Ex.new hT
      refine ⟨t, _, rfl, st_of upd_same, rfl, _, _, rfl, _, _, rfl, rfl, ?_⟩
      have hzi : masks.zipIdx[i]? = some (m, i) := by rw [List.getElem?_zipIdx, hm]; simp
      have et : masks.zipIdx.take (i + 1) = masks.zipIdx.take i ++ [(m, i)] := by rw [List.take_add_one, hzi]; rfl
      have wl := stepM_len done (masks.zipIdx.take i) ways
      rw [hwl] at wl
      have q2' := eT _ _ q2
      have q1' : ExB pw H (upd H' t (.tup [.int (i : Nat), .int (m : Nat)])) := q1.trans (ExB.ex eT)
      have ef : (masks.zipIdx.take (i + 1)).foldl (stepM done) ways = stepM done ((masks.zipIdx.take i).foldl (stepM done) ways) (m, i) := by rw [et, List.foldl_append]; rfl
      rw [ef]
      generalize (masks.zipIdx.take i).foldl (stepM done) ways = w0 at wl q2' ⊢
      have hA : ∀ j, j < w0.length → (natV w0)[j]? = some (.int (w0.getD j 0 : Nat)) := fun j hj => by
        unfold natV
        rw [List.getElem?_map, List.getElem?_eq_getElem hj, List.getD_eq_getElem?_getD, List.getElem?_eq_getElem hj]
        rfl
      refine s_when (b := decide (done.testBit i = false) && decide (m &&& done = m)) (et_and (et_is (t_eqI (ev_op2 (g := fun i j => .int (Builtin.bitAnd i j)) (ev_op (ev_var rfl) (ev_var rfl) (rv_I (C := fun _ j => 0 ≤ j) (g := fun i j => .int (i / 2 ^ j.toNat)) (by omega))) ev_c) ev_c) ?_) fun _ => et_is (t_eqI (ev_op2 (g := fun i j => .int (Builtin.bitAnd i j)) (ev_var rfl) (ev_var rfl)) (ev_var rfl)) ?_) (fun hb H3 e3 => ?_) (fun hb H3 e3 => ?_)
      · rw [bit0]
        refine decide_eq_decide.mpr ?_
        rw [Nat.testBit_eq_decide_div_mod_eq]
        have : done / 2 ^ i % 2 < 2 := Nat.mod_lt _ (by decide)
        rw [decide_eq_false_iff_not]
        omega
      · rw [band]
        exact decide_eq_decide.mpr (by omega)
      · rw [Bool.and_eq_true] at hb
        have h1 := of_decide_eq_true hb.1
        have h2 := of_decide_eq_true hb.2
        have hlt := add_pow_lt hd hi h1
        rw [← wl] at hlt
        have hd' : done < w0.length := by rw [wl]; exact hd
        have ew0 : stepM done w0 (m, i) = w0.set (done + 2 ^ i) (w0.getD (done + 2 ^ i) 0 + w0.getD done 0) := if_pos ⟨h1, h2⟩
        have hpw3 := e3 _ _ q2'
        have eix : ∀ H4, Ev (tOp (rI0 fun i j => .int (i + j)) (tVar 2) (tOp (rI CPow fun i j => .int (i * 2 ^ j.toNat)) (tC (.int 1)) (tVar 3))) [some (.ref pw), some (.ref a), some (.int (done : Nat)), some (.int (i : Nat)), some (.int (m : Nat))] H4 (.int ((done + 2 ^ i : Nat) : Int)) := fun H4 => by
          have := ev_op2 (H := H4) (σ := [some (.ref pw), some (.ref a), some (.int (done : Nat)), some (.int (i : Nat)), some (.int (m : Nat))]) (g := fun i j => .int (i + j)) (ev_var (i := 2) rfl) (ev_shl1 (ev_var (i := 3) rfl) (by omega))
          rw [show ((done + 2 ^ i : Nat) : Int) = (done : Int) + ((2 ^ i : Nat) : Int) by omega]
          exact this
        refine s_setL (l := pw) (xs := natV w0) (j := done + 2 ^ i) (v := .int ((w0.getD (done + 2 ^ i) 0 + w0.getD done 0 : Nat) : Int)) hpw3 ?_ (ev_var rfl) (eix _) (by unfold natV; rw [List.length_map]; exact hlt) fun H4 e4 => ?_
        · have := ev_op2 (H := H3) (σ := [some (.ref pw), some (.ref a), some (.int (done : Nat)), some (.int (i : Nat)), some (.int (m : Nat))]) (g := fun i j => .int (i + j)) (ev_op (ta := tVar 0) (ev_var rfl) (eix H3) (rv_ixL (K := K) (sq_of hpw3) (atI_nat (hA _ hlt)))) (ev_op (ta := tVar 0) (tb := tVar 2) (ev_var rfl) (ev_var rfl) (rv_ixL (K := K) (sq_of hpw3) (atI_nat (hA _ hd'))))
          rw [show ((w0.getD (done + 2 ^ i) 0 + w0.getD done 0 : Nat) : Int) = ((w0.getD (done + 2 ^ i) 0 : Nat) : Int) + ((w0.getD done 0 : Nat) : Int) by omega]
          exact this
        · refine ⟨(q1'.trans (ExB.ex (e3.trans e4))).trans .upd, ?_, _, _, rfl⟩
          rw [ew0, upd_same]
          unfold natV
          rw [List.map_set]
      · have ew0 : stepM done w0 (m, i) = w0 := if_neg fun c => by
          rw [decide_eq_true c.1, decide_eq_true c.2] at hb
          cases hb
        exact ⟨q1'.trans (ExB.ex e3), by rw [ew0]; exact e3 _ _ q2', _, _, rfl⟩
    · obtain ⟨q1, q2, x0, y0, rfl⟩ := q
      rw [hlen, show masks.length = masks.zipIdx.length by simp, List.take_length] at q2
      exact k H' q1 q2
end
theorem pow12 {k : Nat} (h : k ≤ 12) : 2 ^ k ≤ 4096 := Nat.pow_le_pow_right (by decide) h
theorem flat_rep (k : Nat) : (List.replicate k [V.int 0]).flatten = natV (List.replicate k 0) := by
  unfold natV
  rw [List.map_replicate]
  induction k with
  | zero => rfl
  | succ k ih => rw [List.replicate_succ, List.flatten_cons, ih, List.replicate_succ]; rfl
theorem er_rep {σ : St} {H : Hp} {t1 t2 : TE} {k : Nat} (h1 : EvR t1 σ H (fun v H => ∃ p, v = .ref p ∧ H p = some (.lst [.int 0]))) (h2 : Ev t2 σ H (.int (k : Nat))) (hk : k ≤ 100000) : EvR (tOp rRep t1 t2) σ H (fun v H' => ∃ p, v = .ref p ∧ H p = none ∧ H' p = some (.lst (natV (List.replicate k 0)))) := fun H1 e1 Q q =>
  h1 H1 e1 _ fun v H2 e2 r => h2 H2 (e1.trans e2) _ fun H3 e3 => by
    obtain ⟨l, rfl, hl⟩ := r
    refine ⟨l, _, [.int 0], rfl, rfl, e3 _ _ hl, by omega, by omega, ?_, fun p hp => ?_⟩
    · show 1 * ((k : Nat) : Int).toNat ≤ sizeLine
      rw [Int.toNat_natCast, Nat.one_mul]
      exact sz_of hk
    · rw [Int.toNat_natCast, flat_rep]
      exact q _ _ ((e2.trans e3).trans (Ex.new hp)) ⟨p, rfl, fresh_back ((e1.trans e2).trans e3) hp, upd_same⟩
theorem spread_len (masks ways : List Nat) (d : Nat) : (SG.spreadM masks ways d).length = ways.length := stepM_len d masks.zipIdx ways
theorem ways_len (masks : List Nat) : ∀ (l : List Nat) (w : List Nat), (l.foldl (SG.spreadM masks) w).length = w.length
  | [], w => rfl
  | d :: l, w => by rw [List.foldl_cons, ways_len masks l, spread_len]
theorem last_at {l : List Nat} {k : Nat} (h : l.length = k) (hk : 0 < k) : atI (natV l) (-1) = some (.int ((l.getD (k - 1) 0 : Nat) : Int)) := by
  have hne : l ≠ [] := fun z => by rw [z] at h; simp at h; omega
  obtain ⟨l', x, rfl⟩ : ∃ l' x, l = l' ++ [x] := ⟨l.dropLast, l.getLast hne, (List.dropLast_concat_getLast hne).symm⟩
  have e : natV (l' ++ [x]) = natV l' ++ [V.int (x : Nat)] := by unfold natV; rw [List.map_append]; rfl
  rw [e, atI_last]
  rw [List.length_append] at h
  simp only [List.length_singleton] at h
  rw [List.getD_eq_getElem?_getD, show k - 1 = l'.length by omega, List.getElem?_append_right (Nat.le_refl _)]
  simp
abbrev sCnt (CF CO : Addr) (P : Program) (w : World) : Sp := spO0 CF CO P w fun n es v _ => v = .int ((Stratigraphy.countSequences (anl n es) : Nat) : Int)
abbrev s_count_sequences : Stmt := topS 42
theorem sc_count_sequences : FnScope ["order", "masks", "ways", "done"] ["order"] (defScope s_count_sequences) := ⟨rfl, rfl, rfl, by decide +kernel, rfl, by decide +kernel, by decide +kernel⟩
section
variable {P : Program} {w : World} {K : PySem.W.Frag} {mg : Str → Option Value} {base : Heap} {CF CO CS aA aU f : Addr} {fd : FuncData}
theorem ok_count_sequences (F : Fun K "count_sequences" "count_sequences" s_count_sequences f fd) (T : Txt K mg CF CO CS aA aU) (o_Order_strata : OwnM P w K mg base CO "strata" 3 ["self"] (spO0 CF CO P w fun n es v H => LR Rnat (anl n es).strata v H))
    (o_masks_of : Own P w K mg base "masks_of" 2 ["order", "strata"] (spM CF CO P w)) (o_spread : Own P w K mg base "spread" 1 ["ways", "masks", "done"] spSpread) : FnOk P w K mg base CX0 4 f fd ["order"] (sCnt CF CO P w) := by
  refine F.ok sc_count_sequences (fun vs H Q E h => ?_) (fun cdv A outer s H vs Q E hr h => ?_)
  · obtain ⟨a, rfl, _⟩ := h
    rfl
  · obtain ⟨⟨r, n, es, _, _⟩, rfl, ⟨O, G⟩, k⟩ := h
    have G : Good n es := G
    refine ⟨_, (pss_cons (ps_set (i := 1) sc_count_sequences.nd rfl (.inl rfl) (pe_own o_masks_of (hr.mono (by decide)) rfl (pa_cons (pv 0) (pa_cons (pe_ownM0 o_Order_strata (hr.mono (by decide)) (pv 0)) pa_nil))))
      (pss_cons (ps_set (i := 2) sc_count_sequences.nd rfl (.inl rfl) (pe_op op_rep (pe_lst (pa_cons pe_int pa_nil)) (pe_op op_shl pe_int (pe_callB call_len_seq (by rfl) T.len PySem.boot_len (pa_cons (pv 1) pa_nil)))))
      (pss_cons (ps_asg pe_int (pg_sub (pv 2) pe_int set_list))
      (pss_cons (ps_for PassesOwn.never rfl (pi_range1 rfl T.range (pa_cons (pe_callB call_len_seq (by rfl) T.len PySem.boot_len (pa_cons (pv 2) pa_nil)) pa_nil)) (pg_name (i := 3) sc_count_sequences.nd rfl (.inl rfl)) (pss_one (ps_expr (pe_own o_spread (hr.mono (by decide)) rfl (pa_cons (pv 2) (pa_cons (pv 1) (pa_cons (pv 3) pa_nil)))))))
      (pss_one (ps_ret (pe_ix ix_list (pv 2) (pe_un un_neg pe_int) (fun _ _ => rfl)))))))), ?_⟩
    have so := strata_ok G
    refine q_asgR (er_m G so (er_ord rfl O) (er_o0 (post := fun n es v H => LR Rnat (anl n es).strata v H) G nf_strata (er_ord rfl O))) fun v1 H1 e1 r1 => ?_
    have hml : ((anl n es).strata.map (SG.maskOf (anl n es).isEarlier (anl n es).strata)).length ≤ 12 := by rw [List.length_map]; exact so.2
    have hcnt := G.count
    generalize (anl n es).strata.map (SG.maskOf (anl n es).isEarlier (anl n es).strata) = masks at r1 hml hcnt
    have hp12 := pow12 hml
    refine q_asgR (er_rep (k := 2 ^ masks.length) (er_L (el_lst (vs := [.int 0]) (ea_cons ev_c ea_nil) (by decide : 1 ≤ 100000))) (ev_shl1 (i := masks.length) (ev_lenR (er_var (R := LR Rnat masks) rfl fun H' e => r1.ex (keep := nlK) rob_nat e)) (by omega)) (by omega)) fun vw H4 e4 r4 => ?_
    obtain ⟨pw, rfl, hpw, hpw4⟩ := r4
    refine q_setL (l := pw) (xs := natV (List.replicate (2 ^ masks.length) 0)) (j := 0) (v := .int 1) hpw4 ev_c (ev_var rfl) ev_c (by unfold natV; rw [List.length_map, List.length_replicate]; exact Nat.two_pow_pos _) fun H5 e5 => ?_
    have es0 : (natV (List.replicate (2 ^ masks.length) 0)).set 0 (V.int 1) = natV ((List.replicate (2 ^ masks.length) 0).set 0 1) := by
      unfold natV
      rw [List.map_set]
      rfl
    rw [es0]
    let init := (List.replicate (2 ^ masks.length) 0).set 0 1
    have hil : init.length = 2 ^ masks.length := by
      show ((List.replicate (2 ^ masks.length) 0).set 0 1).length = _
      rw [List.length_set, List.length_replicate]
    have b6 : ExB pw H5 (upd H5 pw (.lst (natV init))) := .upd
    have eH5 : Ex H1 (upd H5 pw (.lst (natV init))) := ExB.ex0 (e4.trans e5) hpw b6
    have hv1 : v1 ≠ .ref pw := fun z => by
      obtain ⟨q, ws, e, hq, _⟩ := r1
      rw [e] at z
      cases z
      rw [hpw] at hq
      cases hq
    refine q_forR1 (n := ((2 ^ masks.length : Nat) : Int)) (ea_cons (ev_is (ev_len (xs := natV init) (ev_var rfl) (sq_of upd_same)) (by unfold natV; rw [List.length_map, hil])) ea_nil) (by omega) (fun i σ' H' => Ex H1 H' ∧ H' pw = some (.lst (natV ((List.range i).foldl (SG.spreadM masks) init))) ∧ ∃ x, σ' = [some (.ref r), some v1, some (.ref pw), x]) (fun H6 e6 => ⟨eH5.trans e6, e6 _ _ upd_same, _, rfl⟩) (fun i σ' H' hi q => ?_) (fun σ' H' q => ?_)
    · obtain ⟨q1, q2, x, rfl⟩ := q
      have hi : i < 2 ^ masks.length := by omega
      refine ⟨_, rfl, _, rfl, _, rfl, pw, v1, (List.range i).foldl (SG.spreadM masks) init, masks, i, rfl, q2, r1.ex (keep := nlK) rob_nat q1, hv1, hml, by rw [ways_len, hil], hi, fun H7 b7 h7 => ⟨ExB.ex0 q1 hpw b7, ?_, _, rfl⟩⟩
      rw [List.range_succ, List.foldl_append]
      exact h7
    · obtain ⟨q1, q2, x, rfl⟩ := q
      rw [Int.toNat_natCast] at q2
      have hW : ((List.range (2 ^ masks.length)).foldl (SG.spreadM masks) init).length = 2 ^ masks.length := by rw [ways_len, hil]
      refine s_retR (er_is (ev_op (ev_var rfl) (ev_un ev_c ru_neg) (rv_ixL (sq_of q2) (last_at hW (Nat.two_pow_pos _))))) fun v H7 e7 q => k v H7 (e1.trans (q1.trans e7)) ?_
      rw [show v = _ from q]
      show V.int ((SG.countM masks : Nat) : Int) = V.int ((Stratigraphy.countSequences (anl n es) : Nat) : Int)
      rw [hcnt]
end
/-! ### the best question -/
structure PA2 where
  r : Addr
  n : Nat
  es : List (Nat × Fact)
  vp : V
  p : Nat × Nat
  a : Nat
  b : Nat
def spSet (CF CO : Addr) (P : Program) (w : World) : Sp := spP (α := PA2) (fun a => [.ref a.r, a.vp, .int a.a, .int a.b]) (fun a H => OrdAt CF CO P w H a.r a.n a.es ∧ Good a.n a.es ∧ Rpr a.p a.vp H ∧ (a.p.1 < a.n ∧ a.p.2 < a.n) ∧ a.a < a.n ∧ a.b < a.n) (fun a v _ => v = .bl (SG.settled (anl a.n a.es) a.p a.a a.b))
def spLeft (CF CO : Addr) (P : Program) (w : World) : Sp := spP (α := PA2) (fun a => [.ref a.r, a.vp, .int a.a, .int a.b]) (fun a H => OrdAt CF CO P w H a.r a.n a.es ∧ Good a.n a.es ∧ LR Rpr (anl a.n a.es).undeterminedPairs a.vp H ∧ a.a < a.n ∧ a.b < a.n) (fun a v _ => v = .int ((SG.leftOpen (anl a.n a.es) a.a a.b : Nat) : Int))
def Rot (o : Option (Nat × Nat × Nat)) : V → Hp → Prop := fun v H => match o with
  | some m => Rtri m v H
  | none => v = .non
abbrev sBest (CF CO : Addr) (P : Program) (w : World) : Sp := spO0 CF CO P w fun n es v H => Rot (SG.bestM (anl n es)) v H
theorem und_lt {n : Nat} {es : List (Nat × Fact)} {p : Nat × Nat} (h : p ∈ (anl n es).undeterminedPairs) : p.1 < n ∧ p.2 < n := by
  have := SG.mem_und.mp h
  exact ⟨SG.strata_lt this.1, SG.strata_lt this.2.1⟩
theorem und_len {n : Nat} {es : List (Nat × Fact)} (G : Good n es) : (anl n es).undeterminedPairs.length ≤ 144 := by
  have s12 := (strata_ok G).2
  have := flatMap_len 12 (pairsG (anl n es).strata (uCond n es)) (fun c => pairsG_len s12 _ c) (anl n es).strata
  have e : (anl n es).undeterminedPairs = (anl n es).strata.flatMap (pairsG (anl n es).strata (uCond n es)) := rfl
  rw [e]
  omega
abbrev s_is_settled : Stmt := topS 45
theorem sc_is_settled : FnScope ["order", "pair", "one", "other", "left", "right"] ["order", "pair", "one", "other"] (defScope s_is_settled) := ⟨rfl, rfl, rfl, by decide +kernel, rfl, by decide +kernel, by decide +kernel⟩
abbrev s_left_open : Stmt := topS 46
theorem sc_left_open : FnScope ["order", "pairs", "one", "other", "pair"] ["order", "pairs", "one", "other"] (defScope s_left_open) := ⟨rfl, rfl, rfl, by decide +kernel, rfl, by decide +kernel, by decide +kernel⟩
abbrev s_best_question : Stmt := topS 47
theorem sc_best_question : FnScope ["order", "pairs", "found", "one", "other", "worst"] ["order"] (defScope s_best_question) := ⟨rfl, rfl, rfl, by decide +kernel, rfl, by decide +kernel, by decide +kernel⟩
section
variable {P : Program} {w : World} {K : PySem.W.Frag} {mg : Str → Option Value} {base : Heap} {CF CO CS aA aU f : Addr} {fd : FuncData}
theorem ok_is_settled (F : Fun K "is_settled" "is_settled" s_is_settled f fd) (T : Txt K mg CF CO CS aA aU) (o_Order_is_not_after : OwnM P w K mg base CO "is_not_after" 2 ["self", "one", "other"] (spO2 CF CO P w (PB notAfter))) :
    FnOk P w K mg base CX0 3 f fd ["order", "pair", "one", "other"] (spSet CF CO P w) := by
  refine F.ok sc_is_settled (fun vs H Q E h => ?_) (fun cdv A outer s H vs Q E hr h => ?_)
  · obtain ⟨a, rfl, _⟩ := h
    rfl
  · obtain ⟨⟨r, n, es, vp, ⟨x, y⟩, a, b⟩, rfl, ⟨O, G, hp, hxy, ha, hb⟩, k⟩ := h
    have G : Good n es := G
    have ha : a < n := ha
    have hb : b < n := hb
    have hx : x < n := hxy.1
    have hy : y < n := hxy.2
    refine ⟨_, (pss_cons (ps_for PassesOwn.never rfl (pi_tup (pe_tup (pa_cons (pv 1) (pa_cons (pe_revT (pv 1)) pa_nil)))) (pg_tup rfl (pgs_cons (pg_name (i := 4) sc_is_settled.nd rfl (.inl rfl)) (pgs_cons (pg_name (i := 5) sc_is_settled.nd rfl (.inl rfl)) pgs_nil))) (pss_one (ps_if (PW.pt (pw_and (pt_val (pe_ownM o_Order_is_not_after (hr.mono (by decide)) (pv 0) (pa_cons (pv 4) (pa_cons (pv 2) pa_nil)))) (pw_and1 (pt_val (pe_ownM o_Order_is_not_after (hr.mono (by decide)) (pv 0) (pa_cons (pv 3) (pa_cons (pv 5) pa_nil))))))) (pss_one (ps_ret pe_bl)) pss_nil)))
      (pss_one (ps_ret pe_bl))), ?_⟩
    obtain ⟨pp, rfl, hpp⟩ := hp
    refine ⟨_, rfl, _, rfl, pp, _, _, rfl, st_of hpp, fun p2 hp2 => ⟨by show 2 ≤ sizeLine; decide, fun t ht => ⟨t, rfl, ⟨_, st_of upd_same⟩, ?_⟩⟩⟩
    have e1 : Ex H (upd H p2 (.tup [.int (y : Nat), .int (x : Nat)])) := Ex.new hp2
    have e2 : Ex (upd H p2 (.tup [.int (y : Nat), .int (x : Nat)])) (upd (upd H p2 (.tup [.int (y : Nat), .int (x : Nat)])) t (.tup [.ref pp, .ref p2])) := Ex.new ht
    let c : Nat → Bool := fun i => if i = 0 then notAfter (anl n es) x a && notAfter (anl n es) b y else notAfter (anl n es) y a && notAfter (anl n es) b x
    have hset : SG.settled (anl n es) (x, y) a b = (c 0 || c 1) := rfl
    have hpp2 : (upd (upd H p2 (.tup [.int (y : Nat), .int (x : Nat)])) t (.tup [.ref pp, .ref p2])) pp = some (.tup [.int (x : Nat), .int (y : Nat)]) := e2 _ _ (e1 _ _ hpp)
    have hp22 : (upd (upd H p2 (.tup [.int (y : Nat), .int (x : Nat)])) t (.tup [.ref pp, .ref p2])) p2 = some (.tup [.int (y : Nat), .int (x : Nat)]) := e2 _ _ upd_same
    have ht2 : (upd (upd H p2 (.tup [.int (y : Nat), .int (x : Nat)])) t (.tup [.ref pp, .ref p2])) t = some (.tup [.ref pp, .ref p2]) := upd_same
    have e12 := e1.trans e2
    generalize upd (upd H p2 (.tup [.int (y : Nat), .int (x : Nat)])) t (.tup [.ref pp, .ref p2]) = H3 at hpp2 hp22 ht2 e12 ⊢
    refine for_tup (xs := [.ref pp, .ref p2]) (fun i σ' H' => Ex H3 H' ∧ (∀ j, j < i → c j = false) ∧ ∃ u v, σ' = [some (.ref r), some (.ref pp), some (.int a), some (.int b), u, v]) ⟨Ex.refl _, fun j h => absurd h (Nat.not_lt_zero j), none, none, rfl⟩ (fun i σ' H' _ q => st_of (q.1 _ _ ht2)) (fun i z σ' H' hi q => ?_) (fun σ' H' q => ?_)
    · obtain ⟨q1, q2, u, v, rfl⟩ := q
      have key : ∀ (q : Addr) (l m : Nat), H3 q = some (.tup [.int (l : Nat), .int (m : Nat)]) → l < n → m < n → c i = (notAfter (anl n es) l a && notAfter (anl n es) b m) → (i = 0 ∨ i = 1) →
          gTup K 2 (gCons (gName 4) (gCons (gName 5) gNil)) (.ref q) [some (.ref r), some (.ref pp), some (.int a), some (.int b), u, v] H' fun σ2 H2 => tIfS (tAnd (tB (tMeth CO "is_not_after" (spO2 CF CO P w (PB notAfter)) [] E0 (tVar 0) (tCons (tVar 4) (tCons (tVar 2) tNil)))) (tB (tMeth CO "is_not_after" (spO2 CF CO P w (PB notAfter)) [] E0 (tVar 0) (tCons (tVar 3) (tCons (tVar 5) tNil))))) (tRet (tC (.bl true))) tNext { nx := fun σ' H' => Ex H3 H' ∧ (∀ j, j < i + 1 → c j = false) ∧ ∃ u v, σ' = [some (.ref r), some (.ref pp), some (.int a), some (.int b), u, v], rt := Q, ct := fun σ' H' => Ex H3 H' ∧ (∀ j, j < i + 1 → c j = false) ∧ ∃ u v, σ' = [some (.ref r), some (.ref pp), some (.int a), some (.int b), u, v], bk := fun σ' H' => tRet (tC (.bl false)) { nx := fun x H' => Q .non H', rt := Q } σ' H' } σ2 H2 := by
        intro q l m hq hl hm hc hi01
        refine ⟨q, _, rfl, st_of (q1 _ _ hq), rfl, _, _, rfl, _, _, rfl, rfl, ?_⟩
        have OO := O.ex (e12.trans q1)
        refine s_when (b := c i) (by
          rw [hc]
          exact et_and (et_B (ev_of (er_o2 G nf_notafter (er_ord rfl OO) (ev_var rfl) (ev_var rfl) hl ha))) fun _ => et_B (ev_of (er_o2 G nf_notafter (er_ord rfl OO) (ev_var rfl) (ev_var rfl) hb hm))) (fun hb' H5 e5 => ?_) (fun hb' H5 e5 => ?_)
        · refine k _ H5 ((e12.trans q1).trans e5) ?_
          show V.bl true = .bl (SG.settled (anl n es) (x, y) a b)
          rw [hset]
          rcases hi01 with rfl | rfl
          · rw [hb']; rfl
          · rw [hb', Bool.or_true]
        · refine ⟨q1.trans e5, fun j hj => ?_, _, _, rfl⟩
          by_cases z : j = i
          · rw [z]; exact hb'
          · exact q2 j (by omega)
      match i, hi with
      | 0, hi =>
        have : V.ref pp = z := by simpa using hi
        subst this
        exact key pp x y hpp2 hx hy rfl (.inl rfl)
      | 1, hi =>
        have : V.ref p2 = z := by simpa using hi
        subst this
        exact key p2 y x hp22 hy hx rfl (.inr rfl)
      | i + 2, hi => simp at hi
    · obtain ⟨q1, q2, u, v, rfl⟩ := q
      refine k _ H' (e12.trans q1) ?_
      show V.bl false = .bl (SG.settled (anl n es) (x, y) a b)
      rw [hset, q2 0 (by show 0 < 2; decide), q2 1 (by show 1 < 2; decide)]
      rfl
theorem ok_left_open (F : Fun K "left_open" "left_open" s_left_open f fd) (T : Txt K mg CF CO CS aA aU) (o_is_settled : Own P w K mg base "is_settled" 3 ["order", "pair", "one", "other"] (spSet CF CO P w)) :
    FnOk P w K mg base CX0 4 f fd ["order", "pairs", "one", "other"] (spLeft CF CO P w) := by
  refine F.ok sc_left_open (fun vs H Q E h => ?_) (fun cdv A outer s H vs Q E hr h => ?_)
  · obtain ⟨a, rfl, _⟩ := h
    rfl
  · obtain ⟨⟨r, n, es, vp, _, a, b⟩, rfl, ⟨O, G, hl, ha, hb⟩, k⟩ := h
    have G : Good n es := G
    have ha : a < n := ha
    have hb : b < n := hb
    have hul := und_len G
    refine ⟨_, (pss_one (ps_ret (pe_callB call_len_seq (by rfl) T.len PySem.boot_len (pa_cons (pe_lc (own := [("pair", 4)]) (g := gName 4) (tt := (tNot (tB (tCall _ [] E0 (tCons (tVar 0) (tCons (tVar 4) (tCons (tVar 2) (tCons (tVar 3) tNil)))))))) (te := (tVar 4)) rfl sc_left_open.nd (pi_list (pv 1)) (blkOk_by (own := [("pair", 4)]) (N := ["order", "pairs", "one", "other", "pair"]) (sc := defScope s_left_open) (by decide +kernel)) (fun _ _ _ _ _ => (pg_name (i := 4) sc_left_open.nd rfl (.inl rfl))) (fun _ _ _ _ _ => pts_one (pt_not (pt_val (pe_own o_is_settled (hr.mono (by decide)) rfl (pa_cons (pv 0) (pa_cons (pv 4) (pa_cons (pv 2) (pa_cons (pv 3) pa_nil)))))))) (fun _ _ _ _ _ => (pv 4))) pa_nil)))), ?_⟩
    refine s_retR (er_is (ev_lenR (er_lcL rob_pr.weak rob_pr.weak (fun p => if (!SG.settled (anl n es) p a b) = true then some p else none) (er_var (R := LR Rpr (anl n es).undeterminedPairs) rfl fun H' e => hl.ex rob_pr e) (by omega) (fun x => rfl) (fun c x H1 hc e1 rc => ?_) (fun c x d H1 hc e1 rc hd => ?_)))) fun v H1 e q => k v H1 e ?_
    · refine et_is (et_not (et_B (ev_call (⟨r, n, es, x, c, a, b⟩ : PA2) (ea_cons (ev_var rfl) (ea_cons (ev_var rfl) (ea_cons (ev_var rfl) (ea_cons (ev_var rfl) ea_nil)))) (fun H2 e2 => ⟨O.ex (e1.trans e2), G, rob_pr.ex e2 rc, und_lt hc, ha, hb⟩) fun _ _ _ h => h))) ?_
      show (!SG.settled (anl n es) c a b) = _
      cases SG.settled (anl n es) c a b <;> rfl
    · by_cases z : (!SG.settled (anl n es) c a b) = true
      · rw [if_pos z] at hd
        cases hd
        exact er_var rfl fun H' e => rob_pr.ex e rc
      · rw [if_neg z] at hd
        cases hd
    · rw [show v = _ from q]
      rw [fm_filter]
      rfl
theorem dpall_tri {H : Hp} : ∀ {ws : List V} {ls : List (Nat × Nat × Nat)}, All Rtri H ws ls → DpAll K H ws (ls.map dTri)
  | _, _, .nil => .nil
  | _, _, .cons r t => by
    obtain ⟨i, e, h⟩ := r
    subst e
    exact .cons (.tup (st_of h) (.cons (.int _) (.cons (.int _) (.cons (.int _) .nil)))) (dpall_tri t)
theorem shaped_tri (ls : List (Nat × Nat × Nat)) : SeqAt.shaped (.list (ls.map dTri)) = true := by
  have h1 : ∀ ls : List (Nat × Nat × Nat), PyData.canLayAll0 (ls.map dTri) = true := by
    intro ls
    induction ls with
    | nil => rfl
    | cons x l ih =>
      simp only [List.map_cons, PyData.canLayAll0, dTri, PyData.canLay0, Bool.true_and]
      exact ih
  unfold SeqAt.shaped
  rw [Bool.and_eq_true]
  refine ⟨by simp only [PyData.canLay0]; exact h1 ls, decide_eq_true ?_⟩
  have := depth_all (f := dTri) (k := 1) (fun l => Nat.le_of_eq (depth_tri l)) ls
  simp only [PyData.depth]
  omega
theorem tri_inj {a b : Nat × Nat × Nat} (h : dTri a = dTri b) : a = b := by
  unfold dTri at h
  have h := PyData.tuple.inj h
  simp only [List.cons.injEq, PyData.int.injEq] at h
  exact Prod.ext (by omega) (Prod.ext (by show a.2.1 = b.2.1; omega) (by show a.2.2 = b.2.2; omega))
theorem ok_best_question (F : Fun K "best_question" "best_question" s_best_question f fd) (T : Txt K mg CF CO CS aA aU) (o_undetermined : Own P w K mg base "undetermined" 4 ["order"] (spO0 CF CO P w fun n es v H => LR Rpr (anl n es).undeterminedPairs v H))
    (o_left_open : Own P w K mg base "left_open" 4 ["order", "pairs", "one", "other"] (spLeft CF CO P w)) : FnOk P w K mg base CX0 5 f fd ["order"] (sBest CF CO P w) := by
  refine F.ok sc_best_question (fun vs H Q E h => ?_) (fun cdv A outer s H vs Q E hr h => ?_)
  · obtain ⟨a, rfl, _⟩ := h
    rfl
  · obtain ⟨⟨r, n, es, _, _⟩, rfl, ⟨O, G⟩, k⟩ := h
    have G : Good n es := G
    refine ⟨_, (pss_cons (ps_set (i := 1) sc_best_question.nd rfl (.inl rfl) (pe_own o_undetermined (hr.mono (by decide)) rfl (pa_cons (pv 0) pa_nil)))
      (pss_cons (ps_set (i := 2) sc_best_question.nd rfl (.inl rfl) (pe_lst pa_nil))
      (pss_cons (ps_for PassesOwn.never rfl (pi_list (pv 1)) (pg_tup rfl (pgs_cons (pg_name (i := 3) sc_best_question.nd rfl (.inl rfl)) (pgs_cons (pg_name (i := 4) sc_best_question.nd rfl (.inl rfl)) pgs_nil))) (pss_cons (ps_set (i := 5) sc_best_question.nd rfl (.inl rfl) (pe_callB (call_max2 rfl) (by rfl) T.max (by decide +kernel) (pa_cons (pe_own o_left_open (hr.mono (by decide)) rfl (pa_cons (pv 0) (pa_cons (pv 1) (pa_cons (pv 3) (pa_cons (pv 4) pa_nil))))) (pa_cons (pe_own o_left_open (hr.mono (by decide)) rfl (pa_cons (pv 0) (pa_cons (pv 1) (pa_cons (pv 4) (pa_cons (pv 3) pa_nil))))) pa_nil))))
      (pss_one (ps_expr (pe_bm PySem.F.plainAttrs_list PySem.F.slot_list_append PySem.F.type_list_append mt_append (pv 2) (pa_cons (pe_tup (pa_cons (pv 5) (pa_cons (pv 3) (pa_cons (pv 4) pa_nil)))) pa_nil))))))
      (pss_one (ps_ret (pe_ifExp (pt_cmpR (op_neD hr.units) (pv 2) (pe_lst pa_nil) (nomark _)) (pe_callB (cr_minL rfl hr.units) (by rfl) T.min (by decide +kernel) (pa_cons (pv 2) pa_nil)) pe_non)))))), ?_⟩
    have hul := und_len G
    refine q_asgR (er_f0 (post := fun n es v H => LR Rpr (anl n es).undeterminedPairs v H) G (er_ord rfl O)) fun v1 H1 e1 r1 => ?_
    obtain ⟨a, ws, rfl, ha, al⟩ := r1
    have O1 := O.ex e1
    refine q_new fun p hp => ?_
    have ap : (V.ref a) ≠ .ref p := fun z => by
      cases z
      rw [ha] at hp
      cases hp
    have e2 : Ex H1 (upd H1 p (.lst [])) := Ex.new hp
    have lr : ∀ H', Ex H1 H' → LR Rpr (anl n es).undeterminedPairs (.ref a) H' := fun H' e => ⟨a, ws, rfl, e _ _ ha, al.ex rob_pr e⟩
    let g : Nat × Nat → Nat × Nat × Nat := fun q => (SG.worstM (anl n es) q, q.1, q.2)
    refine q_forAcc (es := (anl n es).undeterminedPairs) (bs := []) (p := p) (A := Rpr) (B := Rtri) 1 (fun q => [g q]) (fun σ => ∃ x y z, σ = [some (.ref r), some (.ref a), some (.ref p), x, y, z]) rob_pr.weak rob_tri.weak (er_var rfl fun H' e => ⟨lr _ (e2.trans e), ap⟩) ⟨none, none, none, rfl⟩ ⟨[], upd_same, .nil⟩ (fun c _ => Nat.le_refl 1) (fun σ' H' i1 b1 l1 => ?_) (fun i c x acc σ' H' D' hc i1 b1 rc l1 hz1 k1 => ?_)
    · obtain ⟨x, y, z, rfl⟩ := i1
      rw [List.nil_append, flatMap_one g] at l1
      have eH : Ex H1 H' := ExB.ex0 e2 hp b1
      have hbest : SG.bestM (anl n es) = SG.triMin ((anl n es).undeterminedPairs.map g) := rfl
      refine s_retR (R := Rot (SG.bestM (anl n es))) (er_if (b := !((anl n es).undeterminedPairs.map g).isEmpty) (ev_some (A := Rtri) (d := dTri) rob_tri.weak (er_var rfl fun H' e => (l1.ex rob_tri.weak e).lr) (fun _ _ h => dpall_tri h) (shaped_tri _)) (fun hb => ?_) (fun hb => ?_)) fun v H2 e q => k v H2 (e1.trans (eH.trans e)) q
      · rw [hbest]
        cases hm : (anl n es).undeterminedPairs.map g with
        | nil => rw [hm] at hb; cases hb
        | cons m ms =>
          rw [hm] at l1
          exact er_minL (A := Rtri) (d := dTri) (lt := SG.triLt) (er_var rfl fun H' e => (l1.ex rob_tri.weak e).lr) (fun _ _ h => dpall_tri h) alike_tri (fun a => by unfold dTri; simp) (fun a => by rw [depth_tri]; decide) lt_tri (fun a b => tri_inj)
      · rw [hbest]
        cases hm : (anl n es).undeterminedPairs.map g with
        | nil => exact er_of ev_c fun _ _ => rfl
        | cons m ms => rw [hm] at hb; cases hb
    · obtain ⟨x3, y3, z3, rfl⟩ := i1
      obtain ⟨tc, rfl, htc⟩ := rc
      have hi : i < (anl n es).undeterminedPairs.length := (List.getElem?_eq_some_iff.mp hc).1
      have hz1 : acc.length ≤ 0 + i * 1 := hz1
      have eH : Ex H1 H' := ExB.ex0 e2 hp b1
      obtain ⟨hc1, hc2⟩ := und_lt (List.mem_of_getElem? hc)
      refine ⟨tc, _, rfl, st_of htc, rfl, _, _, rfl, _, _, rfl, rfl, ?_⟩
      have lo : ∀ (i j u v : Nat) (σ : St), σ[0]? = some (some (.ref r)) → σ[1]? = some (some (.ref a)) → σ[i]? = some (some (.int u)) → σ[j]? = some (some (.int v)) → u < n → v < n → Ev (tCall (spLeft CF CO P w) [] E0 (tCons (tVar 0) (tCons (tVar 1) (tCons (tVar i) (tCons (tVar j) tNil))))) σ H' (.int ((SG.leftOpen (anl n es) u v : Nat) : Int)) := fun i j u v σ h0 h1 h2 h3 hu hv =>
        ev_call (⟨r, n, es, .ref a, (0, 0), u, v⟩ : PA2) (ea_cons (ev_var h0) (ea_cons (ev_var h1) (ea_cons (ev_var h2) (ea_cons (ev_var h3) ea_nil)))) (fun H2 e2 => ⟨O1.ex (eH.trans e2), G, lr _ (eH.trans e2), hu, hv⟩) fun _ _ _ h => h
      refine q_asg (v := .int ((SG.worstM (anl n es) c : Nat) : Int)) (ev_is (ev_mx (lo 3 4 c.1 c.2 _ rfl rfl rfl rfl hc1 hc2) (lo 4 3 c.2 c.1 _ rfl rfl rfl rfl hc2 hc1)) ?_) fun H3 e3 => ?_
      · congr 1
        show max _ _ = (((max (SG.leftOpen (anl n es) c.1 c.2) (SG.leftOpen (anl n es) c.2 c.1)) : Nat) : Int)
        omega
      · refine s_appB (A := Rtri) rob_tri.weak (l1.ex rob_tri.weak e3) (ev_var rfl) (b := g c) (er_U (eu_tup (ea_cons (ev_var rfl) (ea_cons (ev_var rfl) (ea_cons (ev_var rfl) ea_nil))) (by decide : 3 ≤ 100000))) (by omega) fun H4 b4 l4 => k1 _ H4 ⟨_, _, _, rfl⟩ ((ExB.ex e3).trans b4) l4
end
end L2.SD

/-! B8: excavation.py, Fact and Session -/
set_option Elab.async false
set_option linter.all false
set_option maxRecDepth 100000
set_option maxHeartbeats 2000000
namespace L2.SD
open PySem PySem.Spec PyProof.Rows Evl
open Stratigraphy (Fact)
open SG (Good anl VFact VEnt)

/-! ### the session -/
structure Ses where
  units : Nat
  ents : List (Nat × Fact × Bool)
def Rent (CF : Addr) : Nat × Fact × Bool → V → Hp → Prop := fun e v H => ∃ a, v = .ref a ∧ FactAt CF H a e.1 e.2.1 e.2.2
theorem rob_ent {CF : Addr} : Rob nlK (Rent CF) := fun e v H H' k ⟨r, h, dx, g⟩ => ⟨r, h, dx, k r _ g rfl⟩
def sesF (n : Nat) (fl : Addr) : List (Str × V) := [("units", .int n), ("facts", .ref fl)]
def SesAt (CF CS : Addr) (H : Hp) (r fl : Addr) (s : Ses) : Prop := ∃ dx, H r = some (.ins CS dx (sesF s.units fl)) ∧ LA (Rent CF) H fl s.ents
theorem SesAt.ex {CF CS : Addr} {H H' : Hp} {r fl : Addr} {s : Ses} (e : Ex H H') (h : SesAt CF CS H r fl s) : SesAt CF CS H' r fl s := let ⟨dx, h1, h2⟩ := h; ⟨dx, e _ _ h1, h2.ex rob_ent e⟩
def act (l : List (Nat × Fact × Bool)) : List (Nat × Fact) := l.filterMap fun e => if e.2.2 = true then some (e.1, e.2.1) else none
structure SesOk (s : Ses) : Prop where
  good : Good s.units (act s.ents)
  len : s.ents.length ≤ 40
  ids : ∀ i e, s.ents[i]? = some e → e.1 = i + 1
theorem SesOk.alen {s : Ses} (k : SesOk s) : (act s.ents).length ≤ 40 := Nat.le_trans (List.length_filterMap_le _ _) k.len
theorem ses_u {n : Nat} {fl : Addr} : (sesF n fl).lookup ("units" : Str) = some (.int n) := lkH
theorem ses_f {n : Nat} {fl : Addr} : (sesF n fl).lookup ("facts" : Str) = some (.ref fl) := (lkP (by decide +kernel)).trans lkH
theorem ses_no {n : Nat} {fl : Addr} {m : Str} (h1 : (m == ("units" : Str)) = false) (h2 : (m == ("facts" : Str)) = false) : (sesF n fl).lookup m = none := (lkP h1).trans ((lkP h2).trans rfl)
/-- what a session's change leaves: all but instances and the list at fl -/
def insK : HO → Bool
  | .ins _ _ _ => false
  | _ => true
def FrS (fl : Addr) (H H' : Hp) : Prop := ∀ a o, H a = some o → a ≠ fl → insK o = true → H' a = some o
theorem FrS.ex {fl : Addr} {H H' : Hp} (e : Ex H H') : FrS fl H H' := fun a o h _ _ => e a o h
theorem FrS.trans {fl : Addr} {H H1 H2 : Hp} (a : FrS fl H H1) (b : FrS fl H1 H2) : FrS fl H H2 := fun x o h k q => b x o (a x o h k q) k q
theorem FrS.exb {fl p : Addr} {H H' : Hp} {C dx : Addr} {fs : List (Str × V)} (hp : H p = some (.ins C dx fs)) (e : ExB p H H') : FrS fl H H' := fun a o h _ k => e a o h fun z => by
  rw [z, hp] at h
  cases h
  cases k
theorem FrS.lst {fl : Addr} {H H' : Hp} (e : ExB fl H H') : FrS fl H H' := fun a o h n _ => e a o h n
section
variable {K : PySem.W.Frag} {mg : Str → Option Value} {CF CO CS aA aU : Addr} {σ : St} {H : Hp} {to : TE} {r fl : Addr} {s : Ses}
theorem ev_units (T : Txt K mg CF CO CS aA aU) (S : SesAt CF CS H r fl s) (ho : Ev to σ H (.ref r)) : Ev (tFld K to "units") σ H (.int s.units) := fun H1 e Q q => ho H1 e _ fun H2 e2 => by
  obtain ⟨dx, h1, _⟩ := S
  exact ⟨r, CS, dx, _, _, rfl, e2 _ _ (e _ _ h1), T.cS, T.nSu, ses_u, q H2 e2⟩
theorem ev_facts (T : Txt K mg CF CO CS aA aU) (S : SesAt CF CS H r fl s) (ho : Ev to σ H (.ref r)) : Ev (tFld K to "facts") σ H (.ref fl) := fun H1 e Q q => ho H1 e _ fun H2 e2 => by
  obtain ⟨dx, h1, _⟩ := S
  exact ⟨r, CS, dx, _, _, rfl, e2 _ _ (e _ _ h1), T.cS, T.nSf, ses_f, q H2 e2⟩
end
def NoS (m : Str) : Prop := (m == ("units" : Str)) = false ∧ (m == ("facts" : Str)) = false
structure SA where
  r : Addr
  fl : Addr
  s : Ses
/-- a pure method of the session, of no more arguments -/
def spS0 (CF CS : Addr) (post : Ses → V → Hp → Prop) : Sp := spP (α := SA) (fun a => [.ref a.r]) (fun a H => SesAt CF CS H a.r a.fl a.s ∧ SesOk a.s) (fun a v H => post a.s v H)
def Rses (CF CS : Addr) (r fl : Addr) (s : Ses) : V → Hp → Prop := fun v H => v = .ref r ∧ SesAt CF CS H r fl s
theorem er_s0 {CF CS : Addr} {σ : St} {H : Hp} {to : TE} {r fl : Addr} {s : Ses} {m : Str} {post : Ses → V → Hp → Prop} (k : SesOk s) (hm : NoS m) (S : SesAt CF CS H r fl s) (ho : Ev to σ H (.ref r)) : EvR (tMeth CS m (spS0 CF CS post) [] E0 to tNil) σ H (post s) :=
  er_meth (er_is ho) stb_is (fun v H1 e1 q => by
    obtain ⟨dx, h, _⟩ := S
    exact ⟨r, dx, _, q, e1 _ _ h, ses_no hm.1 hm.2⟩) (ear_is ea_nil) fun v us H1 e1 q z => ⟨⟨r, fl, s⟩, by rw [show v = _ from q, z], ⟨S.ex e1, k⟩, fun u H2 e2 h => h⟩
theorem er_fs0 {CF CS : Addr} {σ : St} {H : Hp} {to : TE} {r fl : Addr} {s : Ses} {post : Ses → V → Hp → Prop} (k : SesOk s) (S : SesAt CF CS H r fl s) (ho : Ev to σ H (.ref r)) : EvR (tCall (spS0 CF CS post) [] E0 (tCons to tNil)) σ H (post s) :=
  er_call (ear_is (ea_cons ho ea_nil)) fun us H1 e1 z => ⟨⟨r, fl, s⟩, z, ⟨S.ex e1, k⟩, fun u H2 e2 h => h⟩
theorem ns_active : NoS "active" := ⟨by decide +kernel, by decide +kernel⟩
theorem ns_order : NoS "order" := ⟨by decide +kernel, by decide +kernel⟩
/-! ### Fact -/
def spFInit (CF : Addr) : Sp := fun vs H Q _ => ∃ (p dx : Addr) (i : Nat) (f : Fact), vs = [.ref p, .int i, .int (fK f), .int (f1 f), .int (f2 f), .int (f3 f)] ∧ H p = some (.ins CF dx []) ∧ ∀ H', ExB p H H' → FactAt CF H' p i f true → Q .non H'
def spFRet (CF : Addr) : Sp := fun vs H Q _ => ∃ (p : Addr) (i : Nat) (f : Fact) (b : Bool), vs = [.ref p] ∧ FactAt CF H p i f b ∧ ∀ H', ExB p H H' → FactAt CF H' p i f false → Q .non H'
theorem fac_put (i : Nat) (f : Fact) : putF "is_active" (.bl true) (putF "third" (.int (f3 f)) (putF "second" (.int (f2 f)) (putF "first" (.int (f1 f)) (putF "kind" (.int (fK f)) (putF "own_id" (.int i) []))))) = facF i f true := by
  have e1 : putF "kind" (.int (fK f)) (putF "own_id" (.int i) []) = ([("own_id", .int i), ("kind", .int (fK f))] : List (Str × V)) := putP (g := "own_id") (f := "kind") (by decide +kernel)
  rw [e1]
  have e2 : putF "first" (.int (f1 f)) ([("own_id", .int i), ("kind", .int (fK f))] : List (Str × V)) = ([("own_id", .int i), ("kind", .int (fK f)), ("first", .int (f1 f))] : List (Str × V)) := (putP (g := "own_id") (f := "first") (by decide +kernel)).trans (congrArg _ (putP (g := "kind") (f := "first") (by decide +kernel)))
  rw [e2]
  have e3 : putF "second" (.int (f2 f)) ([("own_id", .int i), ("kind", .int (fK f)), ("first", .int (f1 f))] : List (Str × V)) = ([("own_id", .int i), ("kind", .int (fK f)), ("first", .int (f1 f)), ("second", .int (f2 f))] : List (Str × V)) :=
    (putP (g := "own_id") (f := "second") (by decide +kernel)).trans (congrArg _ ((putP (g := "kind") (f := "second") (by decide +kernel)).trans (congrArg _ (putP (g := "first") (f := "second") (by decide +kernel)))))
  rw [e3]
  have e4 : putF "third" (.int (f3 f)) ([("own_id", .int i), ("kind", .int (fK f)), ("first", .int (f1 f)), ("second", .int (f2 f))] : List (Str × V)) = ([("own_id", .int i), ("kind", .int (fK f)), ("first", .int (f1 f)), ("second", .int (f2 f)), ("third", .int (f3 f))] : List (Str × V)) :=
    (putP (g := "own_id") (f := "third") (by decide +kernel)).trans (congrArg _ ((putP (g := "kind") (f := "third") (by decide +kernel)).trans (congrArg _ ((putP (g := "first") (f := "third") (by decide +kernel)).trans (congrArg _ (putP (g := "second") (f := "third") (by decide +kernel)))))))
  rw [e4]
  exact (putP (g := "own_id") (f := "is_active") (by decide +kernel)).trans (congrArg _ ((putP (g := "kind") (f := "is_active") (by decide +kernel)).trans (congrArg _ ((putP (g := "first") (f := "is_active") (by decide +kernel)).trans (congrArg _ ((putP (g := "second") (f := "is_active") (by decide +kernel)).trans (congrArg _ (putP (g := "third") (f := "is_active") (by decide +kernel)))))))))
theorem fac_off (i : Nat) (f : Fact) (b : Bool) : putF "is_active" (.bl false) (facF i f b) = facF i f false :=
  (putP (g := "own_id") (f := "is_active") (by decide +kernel)).trans (congrArg _ ((putP (g := "kind") (f := "is_active") (by decide +kernel)).trans (congrArg _ ((putP (g := "first") (f := "is_active") (by decide +kernel)).trans (congrArg _ ((putP (g := "second") (f := "is_active") (by decide +kernel)).trans (congrArg _ ((putP (g := "third") (f := "is_active") (by decide +kernel)).trans (congrArg _ putH)))))))))
abbrev s_Fact_init : Stmt := inClass (topS 7) 0
theorem sc_Fact_init : FnScope ["self", "own_id", "kind", "first", "second", "third"] ["self", "own_id", "kind", "first", "second", "third"] (defScope s_Fact_init) := ⟨rfl, rfl, rfl, by decide +kernel, rfl, by decide +kernel, by decide +kernel⟩
abbrev s_Fact_retract : Stmt := inClass (topS 7) 1
theorem sc_Fact_retract : FnScope ["self"] ["self"] (defScope s_Fact_retract) := ⟨rfl, rfl, rfl, by decide +kernel, rfl, by decide +kernel, by decide +kernel⟩
abbrev s_Session_init : Stmt := inClass (topS 58) 0
theorem sc_Session_init : FnScope ["self"] ["self"] (defScope s_Session_init) := ⟨rfl, rfl, rfl, by decide +kernel, rfl, by decide +kernel, by decide +kernel⟩
abbrev s_Session_active : Stmt := inClass (topS 58) 1
theorem sc_Session_active : FnScope ["self", "fact"] ["self"] (defScope s_Session_active) := ⟨rfl, rfl, rfl, by decide +kernel, rfl, by decide +kernel, by decide +kernel⟩
abbrev s_Session_order : Stmt := inClass (topS 58) 2
theorem sc_Session_order : FnScope ["self"] ["self"] (defScope s_Session_order) := ⟨rfl, rfl, rfl, by decide +kernel, rfl, by decide +kernel, by decide +kernel⟩
def spSInit (CF CS : Addr) : Sp := fun vs H Q _ => ∃ (p dx : Addr), vs = [.ref p] ∧ H p = some (.ins CS dx []) ∧ ∀ fl H', ExB p H H' → H fl = none → SesAt CF CS H' p fl ⟨0, []⟩ → Q .non H'
section
variable {P : Program} {w : World} {K : PySem.W.Frag} {mg : Str → Option Value} {base : Heap} {CF CO CS aA aU f : Addr} {fd : FuncData}
theorem ok_Fact_init (F : Fun K "__init__" "Fact.__init__" s_Fact_init f fd) (T : Txt K mg CF CO CS aA aU) : FnOk P w K mg base CX0 1 f fd ["self", "own_id", "kind", "first", "second", "third"] (spFInit CF) := by
  refine F.ok sc_Fact_init (fun vs H Q E h => ?_) (fun cdv A outer s H vs Q E hr h => ?_)
  · obtain ⟨p, dx, i, f, rfl, _⟩ := h
    rfl
  · obtain ⟨p, dx, i, f, rfl, hp, k⟩ := h
    refine ⟨_, (pss_cons (ps_fld (pv 0) (pv 1) rfl)
      (pss_cons (ps_fld (pv 0) (pv 2) rfl)
      (pss_cons (ps_fld (pv 0) (pv 3) rfl)
      (pss_cons (ps_fld (pv 0) (pv 4) rfl)
      (pss_cons (ps_fld (pv 0) (pv 5) rfl)
      (pss_one (ps_fld (pv 0) pe_bl rfl))))))), ?_⟩
    refine ⟨_, rfl, _, rfl, p, CF, dx, [], rfl, hp, T.cF, T.nFi, (by show 0 < 1000; decide), ?_⟩
    refine ⟨_, rfl, _, rfl, p, CF, dx, _, rfl, upd_same, T.cF, T.nFk, (by show 1 < 1000; decide), ?_⟩
    refine ⟨_, rfl, _, rfl, p, CF, dx, _, rfl, upd_same, T.cF, T.nF1, (by show 2 < 1000; decide), ?_⟩
    refine ⟨_, rfl, _, rfl, p, CF, dx, _, rfl, upd_same, T.cF, T.nF2, (by show 3 < 1000; decide), ?_⟩
    refine ⟨_, rfl, _, rfl, p, CF, dx, _, rfl, upd_same, T.cF, T.nF3, (by show 4 < 1000; decide), ?_⟩
    refine ⟨_, rfl, p, CF, dx, _, rfl, upd_same, T.cF, T.nFa, (by show 5 < 1000; decide), ?_⟩
    refine k _ (ExB.trans .upd (ExB.trans .upd (ExB.trans .upd (ExB.trans .upd (ExB.trans .upd .upd))))) ⟨dx, ?_⟩
    exact Eq.trans upd_same (congrArg (fun q => some (HO.ins CF dx q)) (fac_put i f))
theorem ok_Fact_retract (F : Fun K "retract" "Fact.retract" s_Fact_retract f fd) (T : Txt K mg CF CO CS aA aU) : FnOk P w K mg base CX0 1 f fd ["self"] (spFRet CF) := by
  refine F.ok sc_Fact_retract (fun vs H Q E h => ?_) (fun cdv A outer s H vs Q E hr h => ?_)
  · obtain ⟨p, i, f, b, rfl, _⟩ := h
    rfl
  · obtain ⟨p, i, f, b, rfl, ⟨dx, hp⟩, k⟩ := h
    refine ⟨_, (pss_one (ps_fld (pv 0) pe_bl rfl)), ?_⟩
    refine ⟨_, rfl, p, CF, dx, _, rfl, hp, T.cF, T.nFa, (by show 6 < 1000; decide), ?_⟩
    exact k _ .upd ⟨dx, Eq.trans upd_same (congrArg (fun q => some (HO.ins CF dx q)) (fac_off i f b))⟩
theorem ok_Session_init (F : Fun K "__init__" "Session.__init__" s_Session_init f fd) (T : Txt K mg CF CO CS aA aU) : FnOk P w K mg base CX0 1 f fd ["self"] (spSInit CF CS) := by
  refine F.ok sc_Session_init (fun vs H Q E h => ?_) (fun cdv A outer s H vs Q E hr h => ?_)
  · obtain ⟨p, dx, rfl, _⟩ := h
    rfl
  · obtain ⟨p, dx, rfl, hp, k⟩ := h
    refine ⟨_, (pss_cons (ps_fld (pv 0) pe_int rfl)
      (pss_one (ps_fld (pv 0) (pe_lst pa_nil) rfl))), ?_⟩
    refine ⟨_, rfl, p, CS, dx, [], rfl, hp, T.cS, T.nSu, (by show 0 < 1000; decide), ?_⟩
    refine ⟨Nat.zero_le _, fun fl hfl => ⟨_, rfl, p, CS, dx, _, rfl, (Ex.new hfl) _ _ upd_same, T.cS, T.nSf, (by show 1 < 1000; decide), ?_⟩⟩
    have nfp : fl ≠ p := fun z => by
      rw [z, upd_same] at hfl
      cases hfl
    have hfl0 : H fl = none := by
      rw [upd_ne nfp] at hfl
      exact hfl
    refine k fl _ ((ExB.trans .upd (ExB.ex (Ex.new hfl))).trans .upd) hfl0 ⟨dx, ?_, [], ?_, .nil⟩
    · exact Eq.trans upd_same (congrArg (fun q => some (HO.ins CS dx q)) (putP (g := "units") (f := "facts") (by decide +kernel)))
    · rw [upd_ne nfp]
      exact upd_same
theorem ok_Session_active (F : Fun K "active" "Session.active" s_Session_active f fd) (T : Txt K mg CF CO CS aA aU) : FnOk P w K mg base CX0 1 f fd ["self"] (spS0 CF CS fun s v H => LR (Rfact CF) (act s.ents) v H) := by
  refine F.ok sc_Session_active (fun vs H Q E h => ?_) (fun cdv A outer s H vs Q E hr h => ?_)
  · obtain ⟨a, rfl, _⟩ := h
    rfl
  · obtain ⟨⟨r, fl, s⟩, rfl, ⟨S, O⟩, k⟩ := h
    refine ⟨_, (pss_one (ps_ret (pe_lc (own := [("fact", 1)]) (g := gName 1) (tt := (tB (tFld K (tVar 1) "is_active"))) (te := (tVar 1)) rfl sc_Session_active.nd (pi_list (pe_fld (pv 0) rfl)) (blkOk_by (own := [("fact", 1)]) (N := ["self", "fact"]) (sc := defScope s_Session_active) (by decide +kernel)) (fun _ _ _ _ _ => (pg_name (i := 1) sc_Session_active.nd rfl (.inl rfl))) (fun _ _ _ _ _ => pts_one (pt_val (pe_fld (pv 1) rfl))) (fun _ _ _ _ _ => (pv 1))))), ?_⟩
    have hlen : s.ents.length ≤ 40 := O.len
    refine s_retR (er_lcL (A := Rent CF) (B := Rfact CF) rob_ent (rob_fact CF) (fun e => if e.2.2 = true then some (e.1, e.2.1) else none) (er_of (R := LR (Rent CF) s.ents) (ev_facts T S (ev_var rfl)) fun H' e => by
      obtain ⟨dx, _, l⟩ := S
      exact (l.ex rob_ent e).lr) (by omega) (fun x => rfl) (fun c x H1 hc e1 rc => ?_) (fun c x b H1 hc e1 rc hb => ?_)) fun v H1 e q => k v H1 e q
    · obtain ⟨a, rfl, fa⟩ := rc
      refine et_is (et_B (T.e_act (ev_var rfl) fa)) ?_
      cases c.2.2 <;> rfl
    · obtain ⟨a, rfl, fa⟩ := rc
      by_cases z : c.2.2 = true
      · rw [if_pos z] at hb
        cases hb
        rw [z] at fa
        exact er_of (ev_var rfl) fun H' e => ⟨a, rfl, fa.ex e⟩
      · rw [if_neg z] at hb
        cases hb
end
/-- Order(n, facts) -/
theorem er_mkOrder {CF CO : Addr} {P : Program} {w : World} {σ : St} {H : Hp} {t1 t2 : TE} {n : Nat} {es : List (Nat × Fact)} (G : Good n es) (h1 : Ev t1 σ H (.int n)) (h2 : EvR t2 σ H (LR (Rfact CF) es)) (hz : es.length ≤ 40) : EvR (tMake CO (spOInit CF CO P w) [] E0 (tCons t1 (tCons t2 tNil))) σ H (Rord CF CO P w n es) := fun H0 e0 Q q =>
  h1 H0 e0 _ fun H1 e1 => h2 H1 (e0.trans e1) _ fun v H2 e2 r2 x dx nx nd ne => by
    have e3 : Ex H2 (upd H2 dx (.own x)) := Ex.new nd
    have nx' : upd H2 dx (.own x) x = none := by rw [upd_ne (Ne.symm ne)]; exact nx
    have e4 : Ex (upd H2 dx (.own x)) (upd (upd H2 dx (.own x)) x (.ins CO dx [])) := Ex.new nx'
    refine ⟨x, dx, n, v, es, rfl, upd_same, ⟨r2.ex (rob_fact CF) (e3.trans e4), hz⟩, G, fun H' b O => ⟨rfl, q _ H' ((e1.trans e2).trans (ExB.ex0 (p := x) (e3.trans e4) nx b)) ⟨x, rfl, O⟩⟩⟩
section
variable {P : Program} {w : World} {K : PySem.W.Frag} {mg : Str → Option Value} {base : Heap} {CF CO CS aA aU f : Addr} {fd : FuncData}
theorem ok_Session_order (F : Fun K "order" "Session.order" s_Session_order f fd) (T : Txt K mg CF CO CS aA aU) (o_Order_init : OwnC P w K mg base "Order" CO 5 ["self", "count", "facts"] (spOInit CF CO P w)) (o_Session_active : OwnM P w K mg base CS "active" 1 ["self"] (spS0 CF CS fun s v H => LR (Rfact CF) (act s.ents) v H)) :
    FnOk P w K mg base CX0 7 f fd ["self"] (spS0 CF CS fun s v H => Rord CF CO P w s.units (act s.ents) v H) := by
  refine F.ok sc_Session_order (fun vs H Q E h => ?_) (fun cdv A outer s H vs Q E hr h => ?_)
  · obtain ⟨a, rfl, _⟩ := h
    rfl
  · obtain ⟨⟨r, fl, s⟩, rfl, ⟨S, O⟩, k⟩ := h
    refine ⟨_, (pss_one (ps_ret (pe_ownC o_Order_init (hr.mono (by decide)) rfl (pa_cons (pe_fld (pv 0) rfl) (pa_cons (pe_ownM0 o_Session_active (hr.mono (by decide)) (pv 0)) pa_nil))))), ?_⟩
    exact s_retR (er_mkOrder O.good (ev_units T S (ev_var rfl)) (er_s0 (post := fun s v H => LR (Rfact CF) (act s.ents) v H) O ns_active S (ev_var rfl)) O.alen) fun v H1 e q => k v H1 e q
end
end L2.SD

/-! B9: excavation.py, what changes a session -/
set_option Elab.async false
set_option linter.all false
set_option maxRecDepth 100000
set_option maxHeartbeats 2000000
namespace L2.SD
open PySem PySem.Spec PyProof.Rows Evl
open Stratigraphy (Fact)
open SG (Good anl VFact VEnt contrM)

theorem paired_of {α β : Type} {R : α → β → Prop} : ∀ {l : List α} {m : List β}, l.length = m.length → (∀ (i : Nat) (x : α) (y : β), l[i]? = some x → m[i]? = some y → R x y) → Paired R l m
  | [], [], _, _ => .nil
  | [], _ :: _, h, _ => by simp at h
  | _ :: _, [], h, _ => by simp at h
  | x :: l, y :: m, h, g => .cons (g 0 x y rfl rfl) (paired_of (by simpa using h) fun i a b h1 h2 => g (i + 1) a b (by simpa using h1) (by simpa using h2))
theorem ent_off {C CF : Addr} {H H' : Hp} {p dx : Addr} {fs : List (Str × V)} {es : List (Nat × Fact × Bool)} {fl : Addr} (hp : H p = some (.ins C dx fs)) (hf : ∀ i f b, fs ≠ facF i f b) (e : ExB p H H') (h : LA (Rent CF) H fl es) : LA (Rent CF) H' fl es := by
  obtain ⟨ws, hq, al⟩ := h
  refine ⟨ws, e _ _ hq fun z => ?_, Paired.mapP al fun x c ⟨r, e1, d, h1⟩ => ⟨r, e1, d, e _ _ h1 fun z => ?_⟩⟩
  · rw [z, hp] at hq
    exact nomatch (Option.some.inj hq)
  · rw [z, hp] at h1
    have := Option.some.inj h1
    injection this with a b c
    exact hf _ _ _ c
theorem ses_ne {n : Nat} {fl : Addr} (i : Nat) (f : Fact) (b : Bool) : sesF n fl ≠ facF i f b := by unfold sesF facF; simp
def encN (l : List Nat) : List Int := l.map fun (n : Nat) => (n : Int)
def addUnitM (s : Ses) : Ses × List Int := if s.units = 12 then (s, [-9]) else (⟨s.units + 1, s.ents⟩, [(s.units : Int)])
def addFactM (s : Ses) (f : Fact) : Ses × List Int := match contrM (act s.ents) f with
  | some L => (s, -4 :: (L.length : Int) :: encN L)
  | none => if s.ents.length = 40 then (s, [-9]) else (⟨s.units, s.ents ++ [(s.ents.length + 1, f, true)]⟩, [((s.ents.length + 1 : Nat) : Int)])
def retractM (s : Ses) (i : Nat) (f : Fact) : Ses × List Int := (⟨s.units, s.ents.set i (i + 1, f, false)⟩, [0])
def spImp {α : Type} (args : α → List V) (fl : α → Addr) (pre : α → Hp → Prop) (post : α → V → Hp → Prop) : Sp := fun vs H Q _ => ∃ a, vs = args a ∧ pre a H ∧ ∀ v H', FrS (fl a) H H' → post a v H' → Q v H'
def SesPost (CF CS : Addr) (r fl : Addr) (p : Ses × List Int) : V → Hp → Prop := fun v H => SesAt CF CS H r fl p.1 ∧ LR Rint p.2 v H
theorem SesPost.ex {CF CS : Addr} {H H' : Hp} {r fl : Addr} {p : Ses × List Int} {v : V} (e : Ex H H') (h : SesPost CF CS r fl p v H) : SesPost CF CS r fl p v H' := ⟨h.1.ex e, h.2.ex (keep := nlK) rob_int e⟩
def spAddUnit (CF CS : Addr) : Sp := spImp (α := SA) (fun a => [.ref a.r]) (fun a => a.fl) (fun a H => SesAt CF CS H a.r a.fl a.s) (fun a v H => SesPost CF CS a.r a.fl (addUnitM a.s) v H)
structure FA extends SA where
  f : Fact
def spAddFact (CF CS : Addr) : Sp := spImp (α := FA) (fun a => [.ref a.r, .int (fK a.f), .int (f1 a.f), .int (f2 a.f), .int (f3 a.f)]) (fun a => a.fl) (fun a H => SesAt CF CS H a.r a.fl a.s ∧ SesOk a.s ∧ VFact a.s.units a.f) (fun a v H => SesPost CF CS a.r a.fl (addFactM a.s a.f) v H)
structure RA extends SA where
  i : Nat
  f : Fact
  b : Bool
  a : Addr
def spRetract (CF CS : Addr) : Sp := spImp (α := RA) (fun a => [.ref a.r, .ref a.a]) (fun a => a.fl) (fun a H => SesAt CF CS H a.r a.fl a.s ∧ SesOk a.s ∧ a.s.ents[a.i]? = some (a.i + 1, a.f, a.b) ∧ ∃ ws, H a.fl = some (.lst ws) ∧ ws[a.i]? = some (.ref a.a)) (fun a v H => SesPost CF CS a.r a.fl (retractM a.s a.i a.f) v H)
theorem all_ints_mk {H : Hp} : ∀ (l : List Int), All Rint H (l.map V.int) l
  | [] => .nil
  | _ :: l => .cons rfl (all_ints_mk l)
theorem er_ints {σ : St} {H : Hp} {ta : TA} {l : List Int} (h : EvA ta σ H (l.map V.int)) (hz : l.length ≤ 100000) : EvR (tLst ta) σ H (LR Rint l) := er_lst rob_int hz ((ear_is h).weakA fun us H' e q => by
  rw [q]
  exact all_ints_mk l)
theorem idV_enc (L : List Nat) : idV L = (encN L).map V.int := by
  unfold idV encN
  rw [List.map_map]
  rfl
/-- list(t), t a tuple of ids -/
theorem er_listIds {K : PySem.W.Frag} {σ : St} {H : Hp} {t : TE} {L : List Nat} (h : EvR t σ H (Rids L)) : EvR (tCB (rListS K) (tCons t tNil)) σ H (LR Rint (encN L)) := fun H1 e Q q =>
  h H1 e _ fun v H2 e2 r => by
    obtain ⟨p, rfl, hp⟩ := r
    refine ⟨p, _, rfl, Or.inr (st_of hp), fun l hl => q _ _ (e2.trans (Ex.new hl)) ⟨l, _, rfl, upd_same, ?_⟩⟩
    rw [idV_enc]
    exact all_ints_mk _
theorem ev_lenIds {K : PySem.W.Frag} {σ : St} {H : Hp} {t : TE} {L : List Nat} (h : EvR t σ H (Rids L)) : Ev (tCB (rLenS K) (tCons t tNil)) σ H (.int (L.length : Int)) := fun H1 e Q q =>
  h H1 e _ fun v H2 e2 r => by
    obtain ⟨p, rfl, hp⟩ := r
    refine ⟨p, _, rfl, Or.inr (st_of hp), ?_⟩
    have : (idV L).length = L.length := by simp [idV]
    rw [this]
    exact q H2 e2
def rNN : R2 := fun x y H Q => y = .non ∧ Q (.bl (!decide (x = .non))) H
def rNI : R2 := fun x y H Q => y = .non ∧ Q (.bl (decide (x = .non))) H
theorem t_notNone {σ : St} {H : Hp} {t : TE} {v : V} {b : Bool} (h : Ev t σ H v) (e : (!decide (v = .non)) = b) : EvT (tTest (tOp rNN t (tC .non))) σ H b := fun H1 e1 Q q => h H1 e1 _ fun H2 e2 => ⟨rfl, _, rfl, by rw [e]; exact q H2 e2⟩
theorem t_isNone {σ : St} {H : Hp} {t : TE} {v : V} {b : Bool} (h : Ev t σ H v) (e : decide (v = .non) = b) : EvT (tTest (tOp rNI t (tC .non))) σ H b := fun H1 e1 Q q => h H1 e1 _ fun H2 e2 => ⟨rfl, _, rfl, by rw [e]; exact q H2 e2⟩
abbrev s_Session_add_unit : Stmt := inClass (topS 58) 3
theorem sc_Session_add_unit : FnScope ["self"] ["self"] (defScope s_Session_add_unit) := ⟨rfl, rfl, rfl, by decide +kernel, rfl, by decide +kernel, by decide +kernel⟩
abbrev s_Session_add_fact : Stmt := inClass (topS 58) 4
theorem sc_Session_add_fact : FnScope ["self", "kind", "first", "second", "third", "why"] ["self", "kind", "first", "second", "third"] (defScope s_Session_add_fact) := ⟨rfl, rfl, rfl, by decide +kernel, rfl, by decide +kernel, by decide +kernel⟩
abbrev s_Session_retract : Stmt := inClass (topS 58) 5
theorem sc_Session_retract : FnScope ["self", "fact"] ["self", "fact"] (defScope s_Session_retract) := ⟨rfl, rfl, rfl, by decide +kernel, rfl, by decide +kernel, by decide +kernel⟩
section
variable {P : Program} {w : World} {K : PySem.W.Frag} {mg : Str → Option Value} {base : Heap} {CF CO CS aA aU f : Addr} {fd : FuncData}
theorem ok_add_unit (F : Fun K "add_unit" "Session.add_unit" s_Session_add_unit f fd) (T : Txt K mg CF CO CS aA aU) : FnOk P w K mg base CX0 1 f fd ["self"] (spAddUnit CF CS) := by
  refine F.ok sc_Session_add_unit (fun vs H Q E h => ?_) (fun cdv A outer s H vs Q E hr h => ?_)
  · obtain ⟨a, rfl, _⟩ := h
    rfl
  · obtain ⟨⟨r, fl, s⟩, rfl, S, k⟩ := h
    have S : SesAt CF CS H r fl s := S
    refine ⟨_, (pss_cons (ps_if (pt_cmpR op_eq (pe_fld (pv 0) rfl) (pe_gint T.g_MOST_UNITS rfl) (nomark _)) (pss_one (ps_ret (pe_lst (pa_cons (pe_gint T.g_TOO_MANY rfl) pa_nil)))) pss_nil)
      (pss_cons (ps_fld (pv 0) (pe_op op_add (pe_fld (pv 0) rfl) pe_int) rfl)
      (pss_one (ps_ret (pe_lst (pa_cons (pe_op op_sub (pe_fld (pv 0) rfl) pe_int) pa_nil)))))), ?_⟩
    refine q_ifRetR (R := LR Rint [-9]) (b := decide (s.units = 12)) (et_is (t_eqI (i := (s.units : Int)) (j := 12) (ev_units T S (ev_var rfl)) ev_c) (decide_eq_decide.mpr (by omega))) (fun _ => er_ints (ea_cons ev_c ea_nil) (by decide)) (fun hb v H1 e1 q => k v H1 (.ex e1) ?_) (fun hb H1 e1 => ?_)
    · have hb := of_decide_eq_true hb
      show SesPost CF CS r fl (addUnitM s) v H1
      unfold addUnitM
      rw [if_pos hb]
      exact ⟨S.ex e1, q⟩
    · have hb := of_decide_eq_false hb
      have S1 := S.ex e1
      obtain ⟨dx, hr1, hl1⟩ := id S1
      refine (ev_op2 (g := fun i j => .int (i + j)) (ev_units T S1 (ev_var rfl)) ev_c) H1 (Ex.refl _) _ fun H2 e2 => ?_
      refine ⟨_, rfl, r, CS, dx, _, rfl, e2 _ _ hr1, T.cS, T.nSu, (by show 2 < 1000; decide), ?_⟩
      have b3 : ExB r H2 (upd H2 r (.ins CS dx (putF "units" (.int ((s.units : Int) + 1)) (sesF s.units fl)))) := .upd
      have S3 : SesAt CF CS (upd H2 r (.ins CS dx (putF "units" (.int ((s.units : Int) + 1)) (sesF s.units fl)))) r fl ⟨s.units + 1, s.ents⟩ := by
        refine ⟨dx, ?_, ent_off (e2 _ _ hr1) ses_ne b3 (hl1.ex rob_ent e2)⟩
        refine Eq.trans upd_same (congrArg (fun q => some (HO.ins CS dx q)) ?_)
        refine putH.trans ?_
        unfold sesF
        rw [show ((s.units + 1 : Nat) : Int) = (s.units : Int) + 1 by omega]
      have f3 : FrS fl H (upd H2 r (.ins CS dx (putF "units" (.int ((s.units : Int) + 1)) (sesF s.units fl)))) := (FrS.ex (e1.trans e2)).trans (FrS.exb (e2 _ _ hr1) b3)
      refine s_retR (R := LR Rint [(s.units : Int)]) (er_ints (ea_cons (ev_is (ev_op2 (g := fun i j => .int (i - j)) (ev_units T S3 (ev_var rfl)) ev_c) ?_) ea_nil) (by show 1 ≤ 100000; decide)) fun v H4 e4 q => k v H4 (f3.trans (.ex e4)) ?_
      · show V.int (((s.units + 1 : Nat) : Int) - 1) = .int (s.units : Int)
        congr 1
        omega
      · show SesPost CF CS r fl (addUnitM s) v H4
        unfold addUnitM
        rw [if_neg hb]
        exact ⟨S3.ex e4, q⟩
theorem ok_Session_retract (F : Fun K "retract" "Session.retract" s_Session_retract f fd) (T : Txt K mg CF CO CS aA aU) (o_Fact_retract : OwnM P w K mg base CF "retract" 1 ["self"] (spFRet CF)) : FnOk P w K mg base CX0 2 f fd ["self", "fact"] (spRetract CF CS) := by
  refine F.ok sc_Session_retract (fun vs H Q E h => ?_) (fun cdv A outer s H vs Q E hr h => ?_)
  · obtain ⟨a, rfl, _⟩ := h
    rfl
  · obtain ⟨⟨⟨r, fl, s⟩, i, fc, b, a⟩, rfl, ⟨S, O, hi, ws, hfl, hw⟩, k⟩ := h
    have S : SesAt CF CS H r fl s := S
    have O : SesOk s := O
    have hi : s.ents[i]? = some (i + 1, fc, b) := hi
    have hw : ws[i]? = some (.ref a) := hw
    have hfl : H fl = some (.lst ws) := hfl
    refine ⟨_, (pss_cons (ps_expr (pe_ownM0 o_Fact_retract (hr.mono (by decide)) (pv 1)))
      (pss_one (ps_ret (pe_lst (pa_cons pe_int pa_nil))))), ?_⟩
    obtain ⟨dx, hr1, us, hus, al⟩ := S
    have : us = ws := by
      have hus : H fl = some (.lst us) := hus
      rw [hfl] at hus
      cases hus
      rfl
    subst this
    obtain ⟨e, he, a', ea, dxa, ha⟩ := al.get hw
    rw [hi] at he
    cases he
    cases ea
    have fa : FactAt CF H a (i + 1) fc b := ⟨dxa, ha⟩
    refine ⟨_, rfl, a, dxa, _, rfl, ha, fac_ret (i + 1) fc b, a, i + 1, fc, b, rfl, fa, fun H1 b1 fa1 => ?_⟩
    have nra : r ≠ a := fun z => by
      rw [z, ha] at hr1
      have := Option.some.inj hr1
      injection this with _ _ c
      exact ses_ne _ _ _ c.symm
    have nfa : fl ≠ a := fun z => by
      rw [z, ha] at hus
      exact nomatch (Option.some.inj hus)
    have S1 : SesAt CF CS H1 r fl ⟨s.units, s.ents.set i (i + 1, fc, false)⟩ := by
      refine ⟨dx, b1 _ _ hr1 nra, us, b1 _ _ hus nfa, paired_of (by rw [al.length, List.length_set]) fun j x y hx hy => ?_⟩
      rw [List.getElem?_set] at hy
      by_cases z : i = j
      · subst z
        have hlt : i < s.ents.length := (List.getElem?_eq_some_iff.mp hi).1
        rw [if_pos rfl, if_pos hlt] at hy
        cases hy
        rw [hw] at hx
        cases hx
        exact ⟨a, rfl, fa1⟩
      · rw [if_neg z] at hy
        obtain ⟨e, he, aj, ej, dj, hj⟩ := al.get hx
        rw [hy] at he
        cases he
        refine ⟨aj, ej, dj, b1 _ _ hj fun zz => ?_⟩
        rw [zz, ha] at hj
        have := Option.some.inj hj
        injection this with _ _ c
        have h1 : ((i + 1 : Nat) : Int) = (y.1 : Int) := by
          unfold facF at c
          simp only [List.cons.injEq, Prod.mk.injEq, V.int.injEq] at c
          exact c.1.2
        have := O.ids j y hy
        omega
    refine s_retR (σ := [some (.ref r), some (.ref a)]) (R := LR Rint [0]) (er_ints (ea_cons ev_c ea_nil) (by decide)) fun v H2 e2 q => k v H2 ((FrS.exb ha b1).trans (.ex e2)) ⟨S1.ex e2, q⟩
end
open Stratigraphy (stepsOf) in
theorem pref_mem {l : List (List Nat)} {L : List Nat} (h : SG.prefMin l = some L) : L ∈ l := by
  have := SG.prefMin_ok l
  rw [h] at this
  exact this.1
theorem strictCh_mem_len {S : List Stratigraphy.Step} {start : Nat} (hB : SG.Bd S 12) {v : Nat} {L : List Nat} (h : L ∈ SG.strictCh (SG.chainsFrom S start) v) : L.length ≤ 48 := by
  unfold SG.strictCh at h
  cases hh : SG.look (SG.chainsFrom S start) (v, true) with
  | none => rw [hh] at h; simp at h
  | some M =>
    rw [hh] at h
    have : L = M := by simpa using h
    subst this
    exact chains_len hB hh
theorem contr_len {es : List (Nat × Fact)} (V : VEnt 12 es) {f : Fact} {L : List Nat} (h : contrM es f = some L) : L.length ≤ 49 := by
  have hB : SG.Bd (Stratigraphy.stepsOf es) 12 := SG.bd_stepsOf V
  have hb : ∀ (u : Nat) (y : Int), L ∈ SG.agBegin es (SG.chainsFrom (Stratigraphy.stepsOf es) u) y → L.length ≤ 49 := fun u y h => by
    obtain ⟨e, he, hL⟩ := List.mem_flatMap.mp h
    split at hL
    · split at hL
      · obtain ⟨L1, h1, rfl⟩ := List.mem_map.mp hL
        have := anyCh_mem_len hB h1
        rw [List.length_append]
        simp only [List.length_singleton]
        omega
      · simp at hL
    · simp at hL
  have hd : ∀ (u : Nat) (y : Int), L ∈ SG.agEnd es u y → L.length ≤ 49 := fun u y h => by
    obtain ⟨e, he, hL⟩ := List.mem_flatMap.mp h
    split at hL
    · split at hL
      · obtain ⟨L1, h1, rfl⟩ := List.mem_map.mp hL
        have := anyCh_mem_len hB h1
        rw [List.length_append]
        simp only [List.length_singleton]
        omega
      · simp at hL
    · simp at hL
  cases f with
  | above u l => exact Nat.le_succ_of_le (anyCh_mem_len hB (pref_mem h))
  | same a b =>
    rcases List.mem_append.mp (pref_mem h) with q | q
    · exact Nat.le_succ_of_le (strictCh_mem_len hB q)
    · exact Nat.le_succ_of_le (strictCh_mem_len hB q)
  | find u s t => exact hb _ _ (pref_mem h)
  | date u s t =>
    rcases List.mem_append.mp (pref_mem h) with q | q
    · exact hb _ _ q
    · exact hd _ _ q
theorem er_mkFact {CF : Addr} {σ : St} {H : Hp} {ta : TA} {i : Nat} {f : Fact} (h : EvA ta σ H [.int i, .int (fK f), .int (f1 f), .int (f2 f), .int (f3 f)]) : EvR (tMake CF (spFInit CF) [] E0 ta) σ H (Rent CF (i, f, true)) := fun H0 e0 Q q =>
  h H0 e0 _ fun H2 e2 x dx nx nd ne => by
    have e3 : Ex H2 (upd H2 dx (.own x)) := Ex.new nd
    have nx' : upd H2 dx (.own x) x = none := by rw [upd_ne (Ne.symm ne)]; exact nx
    have e4 : Ex (upd H2 dx (.own x)) (upd (upd H2 dx (.own x)) x (.ins CF dx [])) := Ex.new nx'
    exact ⟨x, dx, i, f, rfl, upd_same, fun H' b fa => ⟨rfl, q _ H' (e2.trans (ExB.ex0 (p := x) (e3.trans e4) nx b)) ⟨x, rfl, fa⟩⟩⟩
section
variable {P : Program} {w : World} {K : PySem.W.Frag} {mg : Str → Option Value} {base : Heap} {CF CO CS aA aU f : Addr} {fd : FuncData}
theorem ok_add_fact (F : Fun K "add_fact" "Session.add_fact" s_Session_add_fact f fd) (T : Txt K mg CF CO CS aA aU) (o_contradiction : Own P w K mg base "contradiction" 4 ["facts", "kind", "first", "second", "third"] (spCon CF)) (o_Session_active : OwnM P w K mg base CS "active" 1 ["self"] (spS0 CF CS fun s v H => LR (Rfact CF) (act s.ents) v H))
    (o_Fact_init : OwnC P w K mg base "Fact" CF 1 ["self", "own_id", "kind", "first", "second", "third"] (spFInit CF)) : FnOk P w K mg base CX0 5 f fd ["self", "kind", "first", "second", "third"] (spAddFact CF CS) := by
  refine F.ok sc_Session_add_fact (fun vs H Q E h => ?_) (fun cdv A outer s H vs Q E hr h => ?_)
  · obtain ⟨a, rfl, _⟩ := h
    rfl
  · obtain ⟨⟨⟨r, fl, s⟩, fc⟩, rfl, ⟨S, O, hf⟩, k⟩ := h
    have S : SesAt CF CS H r fl s := S
    have O : SesOk s := O
    have hf : VFact s.units fc := hf
    have V12 := O.good.V12
    have k : ∀ v H', FrS fl H H' → SesPost CF CS r fl (addFactM s fc) v H' → Q v H' := k
    refine ⟨_, (pss_cons (ps_set (i := 5) sc_Session_add_fact.nd rfl (.inl rfl) (pe_own o_contradiction (hr.mono (by decide)) rfl (pa_cons (pe_ownM0 o_Session_active (hr.mono (by decide)) (pv 0)) (pa_cons (pv 1) (pa_cons (pv 2) (pa_cons (pv 3) (pa_cons (pv 4) pa_nil)))))))
      (pss_cons (ps_if (pt_cmpR op_notN (pv 5) pe_non (nomark _)) (pss_one (ps_ret (pe_op op_cat (pe_lst (pa_cons (pe_gint T.g_CONTRADICTED rfl) (pa_cons (pe_callB call_len_seq (by rfl) T.len PySem.boot_len (pa_cons (pv 5) pa_nil)) pa_nil))) (pe_callTy call_list_of (by rfl) T.list (by decide +kernel) (pa_cons (pv 5) pa_nil))))) pss_nil)
      (pss_cons (ps_if (pt_cmpR op_eq (pe_callB call_len_seq (by rfl) T.len PySem.boot_len (pa_cons (pe_fld (pv 0) rfl) pa_nil)) (pe_gint T.g_MOST_FACTS rfl) (nomark _)) (pss_one (ps_ret (pe_lst (pa_cons (pe_gint T.g_TOO_MANY rfl) pa_nil)))) pss_nil)
      (pss_cons (ps_expr (pe_bm PySem.F.plainAttrs_list PySem.F.slot_list_append PySem.F.type_list_append mt_append (pe_fld (pv 0) rfl) (pa_cons (pe_ownC o_Fact_init (hr.mono (by decide)) rfl (pa_cons (pe_op op_add (pe_callB call_len_seq (by rfl) T.len PySem.boot_len (pa_cons (pe_fld (pv 0) rfl) pa_nil)) pe_int) (pa_cons (pv 1) (pa_cons (pv 2) (pa_cons (pv 3) (pa_cons (pv 4) pa_nil)))))) pa_nil)))
      (pss_one (ps_ret (pe_lst (pa_cons (pe_callB call_len_seq (by rfl) T.len PySem.boot_len (pa_cons (pe_fld (pv 0) rfl) pa_nil)) pa_nil)))))))), ?_⟩
    refine q_asgR (R := Roc (contrM (act s.ents) fc)) (er_call (ear_cons (er_s0 (post := fun s v H => LR (Rfact CF) (act s.ents) v H) O ns_active S (ev_var rfl)) (stb_lr (rob_fact CF) _) (ear_is (ea_cons (ev_var rfl) (ea_cons (ev_var rfl) (ea_cons (ev_var rfl) (ea_cons (ev_var rfl) ea_nil)))))) fun us H1 e1 z => ?_) fun v5 H1 e1 r1 => ?_
    · obtain ⟨v, rr, rfl, hv, rfl⟩ := z
      exact ⟨(v, act s.ents, fc), rfl, ⟨⟨hv, O.alen⟩, V12, SG.VFact.mono O.good.n12 hf⟩, fun v H2 e2 h => h⟩
    have S1 := S.ex e1
    unfold addFactM at k
    cases hc : contrM (act s.ents) fc with
    | some L =>
      rw [hc] at r1 k
      have hL := contr_len V12 hc
      obtain ⟨t, rfl, ht⟩ := r1
      have rL : ∀ (σ : St) H', σ[5]? = some (some (.ref t)) → Ex H1 H' → EvR (tVar 5) σ H' (Rids L) := fun σ H' h e => er_var h fun H2 e2 => ⟨t, rfl, (e.trans e2) _ _ ht⟩
      refine q_ifRetR (R := LR Rint (-4 :: (L.length : Int) :: encN L)) (b := true) (t_notNone (ev_var rfl) rfl) (fun _ => ?_) (fun _ v H2 e2 q => k v H2 (.ex (e1.trans e2)) ⟨S1.ex e2, q⟩) (fun z => nomatch z)
      exact er_cat (bs := [-4, (L.length : Int)]) (cs := encN L) rob_int (by unfold encN; rw [List.length_map]; show 2 + L.length ≤ 100000; omega) (er_ints (ea_cons ev_c (ea_cons (ev_lenIds (rL _ _ rfl (Ex.refl _))) ea_nil)) (by show 2 ≤ 100000; decide)) (er_listIds (rL _ _ rfl (Ex.refl _)))
    | none =>
      rw [hc] at r1 k
      obtain rfl : v5 = .non := r1
      refine q_ifRetR (R := fun _ _ => False) (b := false) (t_notNone (ev_var rfl) rfl) (fun z => nomatch z) (fun z => nomatch z) (fun _ H2 e2 => ?_)
      have S2 := S1.ex e2
      obtain ⟨dx, hr2, hl2⟩ := id S2
      have lenE : ∀ (σ : St) H', σ[0]? = some (some (.ref r)) → Ex H2 H' → Ev (tCB (rLenS K) (tCons (tFld K (tVar 0) "facts") tNil)) σ H' (.int (s.ents.length : Int)) := fun σ H' h e => ev_lenR (er_of (R := LR (Rent CF) s.ents) (ev_facts T (S2.ex e) (ev_var h)) fun H'' e' => (hl2.ex rob_ent (e.trans e')).lr)
      refine q_ifRetR (R := LR Rint [-9]) (b := decide (s.ents.length = 40)) (et_is (t_eqI (i := (s.ents.length : Int)) (j := 40) (lenE _ _ rfl (Ex.refl _)) ev_c) (decide_eq_decide.mpr (by omega))) (fun _ => er_ints (ea_cons ev_c ea_nil) (by decide)) (fun hb v H3 e3 q => k v H3 (.ex (e1.trans (e2.trans e3))) ?_) (fun hb H3 e3 => ?_)
      · dsimp only
        rw [if_pos (of_decide_eq_true hb)]
        exact ⟨S2.ex e3, q⟩
      · have hb := of_decide_eq_false hb
        have S3 := S2.ex e3
        have hl3 := hl2.ex rob_ent e3
        have len40 := O.len
        refine q_appB (A := Rent CF) (b := (s.ents.length + 1, fc, true)) rob_ent hl3 (ev_facts T S3 (ev_var rfl)) (er_mkFact (ea_cons (ev_is (ev_op2 (g := fun i j => .int (i + j)) (lenE _ _ rfl e3) ev_c) (by congr 1)) (ea_cons (ev_var rfl) (ea_cons (ev_var rfl) (ea_cons (ev_var rfl) (ea_cons (ev_var rfl) ea_nil)))))) (by omega) fun H4 b4 l4 => ?_
        have nrf : r ≠ fl := fun z => by
          obtain ⟨ws, hws, _⟩ := hl2
          rw [← z, hr2] at hws
          exact nomatch (Option.some.inj hws)
        have S4 : SesAt CF CS H4 r fl ⟨s.units, s.ents ++ [(s.ents.length + 1, fc, true)]⟩ := ⟨dx, b4 _ _ (e3 _ _ hr2) nrf, l4⟩
        refine s_retR (R := LR Rint [((s.ents.length + 1 : Nat) : Int)]) (er_ints (ea_cons (ev_is (ev_lenR (er_of (R := LR (Rent CF) (s.ents ++ [(s.ents.length + 1, fc, true)])) (ev_facts T S4 (ev_var rfl)) fun H'' e' => (l4.ex rob_ent e').lr)) (by simp)) ea_nil) (by show 1 ≤ 100000; decide)) fun v H5 e5 q => k v H5 ((FrS.ex (e1.trans (e2.trans e3))).trans ((FrS.lst b4).trans (.ex e5))) ?_
        dsimp only
        rw [if_neg hb]
        exact ⟨S4.ex e5, q⟩
end
end L2.SD

/-! B10: excavation.py, what is told -/
set_option Elab.async false
set_option linter.all false
set_option maxRecDepth 100000
set_option maxHeartbeats 2000000
namespace L2.SD
open PySem PySem.Spec PyProof.Rows Evl
open Stratigraphy (Fact stepsOf)
open SG (Good anl VFact VEnt)

abbrev anS (s : Ses) : Stratigraphy.Analysis := anl s.units (act s.ents)
def fyrM (s : Ses) (f : Fact) : List Int := match f with
  | .find u st en => [0, st, min en (lateOf (anS s) u)]
  | _ => [-4]
def pairsM (ps : List (Nat × Nat)) : List Int := 0 :: (ps.length : Int) :: ps.flatMap fun p => [(p.1 : Int), (p.2 : Int)]
def expM (s : Ses) (a b : Nat) : List Int := match Stratigraphy.strictChain (stepsOf (act s.ents)) a b with
  | some L => 0 :: (L.length : Int) :: encN L
  | none => [-4]
def askM (s : Ses) : List Int := match SG.bestM (anS s) with
  | some m => [0, (m.2.1 : Int), (m.2.2 : Int), (m.1 : Int)]
  | none => [-4]
def encF (e : Nat × Fact) : List Int := [(e.1 : Int), fK e.2, f1 e.2, f2 e.2, f3 e.2]
def listM (s : Ses) : List Int := 0 :: ((act s.ents).length : Int) :: (act s.ents).flatMap encF
structure YA extends SA where
  i : Nat
  f : Fact
def spFyr (CF CS : Addr) : Sp := spP (α := YA) (fun a => [.ref a.r, .int ((a.i + 1 : Nat) : Int)]) (fun a H => SesAt CF CS H a.r a.fl a.s ∧ SesOk a.s ∧ a.s.ents[a.i]? = some (a.i + 1, a.f, true)) (fun a v H => LR Rint (fyrM a.s a.f) v H)
def spTold : Sp := spP (α := V × List (Nat × Nat)) (fun a => [a.1]) (fun a H => LR Rpr a.2 a.1 H ∧ a.2.length ≤ 1000) (fun a v H => LR Rint (pairsM a.2) v H)
structure EA extends SA where
  a : Nat
  b : Nat
def spExp (CF CS : Addr) : Sp := spP (α := EA) (fun a => [.ref a.r, .int a.a, .int a.b]) (fun a H => SesAt CF CS H a.r a.fl a.s ∧ SesOk a.s ∧ a.a < a.s.units ∧ a.b < a.s.units) (fun a v H => LR Rint (expM a.s a.a a.b) v H)
abbrev sOrder (CF CO CS : Addr) (P : Program) (w : World) : Sp := spS0 CF CS fun s v H => Rord CF CO P w s.units (act s.ents) v H
abbrev sActive (CF CS : Addr) : Sp := spS0 CF CS fun s v H => LR (Rfact CF) (act s.ents) v H
abbrev sAsk (CF CS : Addr) : Sp := spS0 CF CS fun s v H => LR Rint (askM s) v H
abbrev sList (CF CS : Addr) : Sp := spS0 CF CS fun s v H => LR Rint (listM s) v H
theorem nf_latest : NoF "latest" := ⟨by decide +kernel, by decide +kernel, by decide +kernel⟩
theorem nf_earliest : NoF "earliest" := ⟨by decide +kernel, by decide +kernel, by decide +kernel⟩
/-- the i-th fact of the session -/
theorem er_ent {K : PySem.W.Frag} {mg : Str → Option Value} {CF CO CS aA aU : Addr} {σ : St} {H : Hp} {t1 t2 : TE} {r fl : Addr} {s : Ses} {i : Nat} {e : Nat × Fact × Bool} (T : Txt K mg CF CO CS aA aU) (S : SesAt CF CS H r fl s) (h1 : Ev t1 σ H (.ref r)) (h2 : Ev t2 σ H (.int (i : Nat))) (he : s.ents[i]? = some e) : EvR (tOp (rIxL K) (tFld K t1 "facts") t2) σ H (fun v H' => ∃ a, v = .ref a ∧ FactAt CF H' a e.1 e.2.1 e.2.2 ∧ ∃ ws, H' fl = some (.lst ws) ∧ ws[i]? = some (.ref a)) := by
  obtain ⟨dx, hr, ws, hws, al⟩ := id S
  obtain ⟨x, hx, a, rfl, fa⟩ := al.get' he
  exact er_of (ev_op (ev_facts T S h1) h2 (rv_ixL (sq_of hws) (atI_nat hx))) fun H' e' => ⟨a, rfl, fa.ex e', ws, e' _ _ hws, hx⟩
theorem q_newL {σ : St} {H : Hp} {ta : TA} {vs : List V} {D : Ends} {tz : TS} {i : Nat} (h : EvA ta σ H vs) (hz : vs.length ≤ 100000) (k : ∀ p H1, Ex H H1 → H1 p = none → tz D (σ.set i (some (.ref p))) (upd H1 p (.lst vs))) : tSeq (tAsg (tLst ta) (gName i)) tz D σ H :=
  h H (Ex.refl H) _ fun H1 e1 => ⟨sz_of hz, fun p hp => k p H1 e1 hp⟩
abbrev s_find_year_range : Stmt := topS 62
theorem sc_find_year_range : FnScope ["session", "number", "fact"] ["session", "number"] (defScope s_find_year_range) := ⟨rfl, rfl, rfl, by decide +kernel, rfl, by decide +kernel, by decide +kernel⟩
abbrev s_told_pairs : Stmt := topS 63
theorem sc_told_pairs : FnScope ["pairs", "found", "one", "other"] ["pairs"] (defScope s_told_pairs) := ⟨rfl, rfl, rfl, by decide +kernel, rfl, by decide +kernel, by decide +kernel⟩
abbrev s_explain : Stmt := topS 64
theorem sc_explain : FnScope ["session", "one", "other", "chain"] ["session", "one", "other"] (defScope s_explain) := ⟨rfl, rfl, rfl, by decide +kernel, rfl, by decide +kernel, by decide +kernel⟩
abbrev s_ask : Stmt := topS 65
theorem sc_ask : FnScope ["session", "best"] ["session"] (defScope s_ask) := ⟨rfl, rfl, rfl, by decide +kernel, rfl, by decide +kernel, by decide +kernel⟩
abbrev s_list_facts : Stmt := topS 66
theorem sc_list_facts : FnScope ["session", "found", "fact"] ["session"] (defScope s_list_facts) := ⟨rfl, rfl, rfl, by decide +kernel, rfl, by decide +kernel, by decide +kernel⟩
section
variable {P : Program} {w : World} {K : PySem.W.Frag} {mg : Str → Option Value} {base : Heap} {CF CO CS aA aU f : Addr} {fd : FuncData}
theorem ok_find_year_range (F : Fun K "find_year_range" "find_year_range" s_find_year_range f fd) (T : Txt K mg CF CO CS aA aU) (o_Order_latest : OwnM P w K mg base CO "latest" 3 ["self", "unit"] (spO1 CF CO P w (PI1 lateOf))) (o_Session_order : OwnM P w K mg base CS "order" 7 ["self"] (sOrder CF CO CS P w)) :
    FnOk P w K mg base CX0 8 f fd ["session", "number"] (spFyr CF CS) := by
  refine F.ok sc_find_year_range (fun vs H Q E h => ?_) (fun cdv A outer s H vs Q E hr h => ?_)
  · obtain ⟨a, rfl, _⟩ := h
    rfl
  · obtain ⟨⟨⟨r, fl, s⟩, i, fc⟩, rfl, ⟨S, O, he⟩, k⟩ := h
    have S : SesAt CF CS H r fl s := S
    have O : SesOk s := O
    have he : s.ents[i]? = some (i + 1, fc, true) := he
    have k : ∀ v H', Ex H H' → LR Rint (fyrM s fc) v H' → Q v H' := k
    refine ⟨_, (pss_cons (ps_set (i := 2) sc_find_year_range.nd rfl (.inl rfl) (pe_ix ix_list (pe_fld (pv 0) rfl) (pe_op op_sub (pv 1) pe_int) (fun _ _ => rfl)))
      (pss_cons (ps_if (pt_cmpR op_ne (pe_fld (pv 2) rfl) (pe_gint T.g_FIND rfl) (nomark _)) (pss_one (ps_ret (pe_lst (pa_cons (pe_gint T.g_CONTRADICTED rfl) pa_nil)))) pss_nil)
      (pss_one (ps_ret (pe_lst (pa_cons pe_int (pa_cons (pe_fld (pv 2) rfl) (pa_cons (pe_callB (call_min2 rfl) (by rfl) T.min (by decide +kernel) (pa_cons (pe_fld (pv 2) rfl) (pa_cons (pe_ownM o_Order_latest (hr.mono (by decide)) (pe_ownM0 o_Session_order (hr.mono (by decide)) (pv 0)) (pa_cons (pe_fld (pv 2) rfl) pa_nil)) pa_nil))) pa_nil)))))))), ?_⟩
    refine q_asgR (er_ent T S (ev_var rfl) (ev_is (ev_op2 (g := fun i j => .int (i - j)) (ev_var rfl) ev_c) (by show V.int (((i + 1 : Nat) : Int) - 1) = .int (i : Nat); congr 1; omega)) he) fun v2 H1 e1 r1 => ?_
    obtain ⟨a, rfl, fa, _⟩ := r1
    have S1 := S.ex e1
    have hv : VFact s.units fc := O.good.V (i + 1, fc) (List.mem_filterMap.mpr ⟨_, List.mem_of_getElem? he, rfl⟩)
    refine q_ifRetR (R := LR Rint [-4]) (t_neI (T.e_kind (ev_var rfl) fa) ev_c) (fun _ => er_ints (ea_cons ev_c ea_nil) (by decide)) (fun hb v H2 e2 q => k v H2 (e1.trans e2) ?_) (fun hb H2 e2 => ?_)
    · cases fc with
      | find u st en => exact absurd (show (!decide ((4 : Int) = 4)) = true from hb) (by decide)
      | above _ _ => exact q
      | same _ _ => exact q
      | date _ _ _ => exact q
    · cases fc with
      | find u st en =>
        refine s_retR (R := LR Rint [0, st, min en (lateOf (anS s) u)]) (er_ints (ea_cons ev_c (ea_cons (T.e_2 (ev_var rfl) (fa.ex e2)) (ea_cons (ev_mn (T.e_3 (ev_var rfl) (fa.ex e2)) (ev_of (er_o1 (post := PI1 lateOf) O.good nf_latest (er_s0 (post := fun s v H => Rord CF CO P w s.units (act s.ents) v H) O ns_order (S1.ex e2) (ev_var rfl)) (T.e_1 (ev_var rfl) (fa.ex e2)) hv.1))) ea_nil))) (by show 3 ≤ 100000; decide)) fun v H3 e3 q => k v H3 (e1.trans (e2.trans e3)) q
      | above _ _ => exact absurd (show (!decide ((2 : Int) = 4)) = false from hb) (by decide)
      | same _ _ => exact absurd (show (!decide ((3 : Int) = 4)) = false from hb) (by decide)
      | date _ _ _ => exact absurd (show (!decide ((5 : Int) = 4)) = false from hb) (by decide)
theorem ok_told_pairs (F : Fun K "told_pairs" "told_pairs" s_told_pairs f fd) (T : Txt K mg CF CO CS aA aU) : FnOk P w K mg base CX0 1 f fd ["pairs"] spTold := by
  refine F.ok sc_told_pairs (fun vs H Q E h => ?_) (fun cdv A outer s H vs Q E hr h => ?_)
  · obtain ⟨a, rfl, _⟩ := h
    rfl
  · obtain ⟨⟨v, ps⟩, rfl, ⟨hl, hz⟩, k⟩ := h
    have hz : ps.length ≤ 1000 := hz
    refine ⟨_, (pss_cons (ps_set (i := 1) sc_told_pairs.nd rfl (.inl rfl) (pe_lst (pa_cons pe_int (pa_cons (pe_callB call_len_seq (by rfl) T.len PySem.boot_len (pa_cons (pv 0) pa_nil)) pa_nil))))
      (pss_cons (ps_for PassesOwn.never rfl (pi_list (pv 0)) (pg_tup rfl (pgs_cons (pg_name (i := 2) sc_told_pairs.nd rfl (.inl rfl)) (pgs_cons (pg_name (i := 3) sc_told_pairs.nd rfl (.inl rfl)) pgs_nil))) (pss_one (ps_expr (pe_bm PySem.F.plainAttrs_list PySem.F.slot_list_extend PySem.F.type_list_extend mt_extend (pv 1) (pa_cons (pe_lst (pa_cons (pv 2) (pa_cons (pv 3) pa_nil))) pa_nil)))))
      (pss_one (ps_ret (pv 1))))), ?_⟩
    obtain ⟨a, ws, rfl, ha, al⟩ := hl
    have lr : ∀ H', Ex H H' → LR Rpr ps (.ref a) H' := fun H' e => ⟨a, ws, rfl, e _ _ ha, al.ex rob_pr e⟩
    refine q_newL (vs := [.int 0, .int (ps.length : Int)]) (ea_cons ev_c (ea_cons (ev_lenR (er_var (R := LR Rpr ps) (i := 0) rfl fun H' e => lr _ e)) ea_nil)) (by show 2 ≤ 100000; decide) fun p H1 e1 hp => ?_
    have ap : (V.ref a) ≠ .ref p := fun z => by
      cases z
      rw [e1 _ _ ha] at hp
      cases hp
    have e2 : Ex H1 (upd H1 p (.lst [.int 0, .int (ps.length : Int)])) := Ex.new hp
    refine q_forAcc (es := ps) (bs := [0, (ps.length : Int)]) (p := p) (A := Rpr) (B := Rint) 2 (fun q => [(q.1 : Int), (q.2 : Int)]) (fun σ => ∃ x y, σ = [some (.ref a), some (.ref p), x, y]) rob_pr.weak rob_int (er_var rfl fun H' e => ⟨lr _ ((e1.trans e2).trans e), ap⟩) ⟨none, none, rfl⟩ ⟨_, upd_same, all_ints_mk [0, (ps.length : Int)]⟩ (fun c _ => Nat.le_refl 2) (fun σ' H' i1 b1 l1 => ?_) (fun i c x acc σ' H' D' hc i1 b1 rc l1 hz1 k1 => ?_)
    · obtain ⟨x, y, rfl⟩ := i1
      exact s_retR (er_is (ev_var rfl)) fun v H2 e q => by
        rw [show v = _ from q]
        exact k _ H2 (e1.trans ((ExB.ex0 e2 hp b1).trans e)) (l1.ex (keep := nlK) rob_int e).lr
    · obtain ⟨x2, y2, rfl⟩ := i1
      obtain ⟨t, rfl, ht⟩ := rc
      have hi : i < ps.length := (List.getElem?_eq_some_iff.mp hc).1
      have hz1 : acc.length ≤ 2 + i * 2 := hz1
      refine ⟨t, _, rfl, st_of ht, rfl, _, _, rfl, _, _, rfl, rfl, ?_⟩
      exact s_extB (A := Rint) rob_int l1 (ev_var rfl) (cs := [(c.1 : Int), (c.2 : Int)]) (er_ints (ea_cons (ev_var rfl) (ea_cons (ev_var rfl) ea_nil)) (by show 2 ≤ 100000; decide)) (by show acc.length + 2 ≤ 100000; omega) fun H2 b2 l2 => k1 _ H2 ⟨_, _, rfl⟩ b2 l2
theorem ok_explain (F : Fun K "explain" "explain" s_explain f fd) (T : Txt K mg CF CO CS aA aU) (o_Session_active : OwnM P w K mg base CS "active" 1 ["self"] (sActive CF CS)) (o_strict_chain : Own P w K mg base "strict_chain" 4 ["facts", "one", "other"] (spStrict CF)) : FnOk P w K mg base CX0 5 f fd ["session", "one", "other"] (spExp CF CS) := by
  refine F.ok sc_explain (fun vs H Q E h => ?_) (fun cdv A outer s H vs Q E hr h => ?_)
  · obtain ⟨a, rfl, _⟩ := h
    rfl
  · obtain ⟨⟨⟨r, fl, s⟩, a, b⟩, rfl, ⟨S, O, ha, hb⟩, k⟩ := h
    have S : SesAt CF CS H r fl s := S
    have O : SesOk s := O
    have n12 := O.good.n12
    have ha : a < s.units := ha
    have hb : b < s.units := hb
    have V12 := O.good.V12
    have k : ∀ v H', Ex H H' → LR Rint (expM s a b) v H' → Q v H' := k
    refine ⟨_, (pss_cons (ps_set (i := 3) sc_explain.nd rfl (.inl rfl) (pe_own o_strict_chain (hr.mono (by decide)) rfl (pa_cons (pe_ownM0 o_Session_active (hr.mono (by decide)) (pv 0)) (pa_cons (pv 1) (pa_cons (pv 2) pa_nil)))))
      (pss_one (ps_ret (pe_ifExp (pt_cmpR op_isN (pv 3) pe_non (nomark _)) (pe_lst (pa_cons (pe_gint T.g_CONTRADICTED rfl) pa_nil)) (pe_op op_cat (pe_lst (pa_cons pe_int (pa_cons (pe_callB call_len_seq (by rfl) T.len PySem.boot_len (pa_cons (pv 3) pa_nil)) pa_nil))) (pe_callTy call_list_of (by rfl) T.list (by decide +kernel) (pa_cons (pv 3) pa_nil))))))), ?_⟩
    refine q_asgR (R := Roc (Stratigraphy.strictChain (stepsOf (act s.ents)) a b)) (er_call (ear_cons (er_s0 (post := fun s v H => LR (Rfact CF) (act s.ents) v H) O ns_active S (ev_var rfl)) (stb_lr (rob_fact CF) _) (ear_is (ea_cons (ev_var rfl) (ea_cons (ev_var rfl) ea_nil)))) fun us H1 e1 z => ?_) fun v3 H1 e1 r1 => ?_
    · obtain ⟨v, rr, rfl, hv, rfl⟩ := z
      exact ⟨(v, act s.ents, a, b), rfl, ⟨⟨hv, O.alen⟩, V12, by show a < 12; omega, by show b < 12; omega⟩, fun v H2 e2 h => h⟩
    unfold expM at k
    cases hc : Stratigraphy.strictChain (stepsOf (act s.ents)) a b with
    | some L =>
      rw [hc] at r1 k
      have hL : L.length ≤ 48 := by
        rw [← SG.strict_eq V12 (show a < 12 by omega) (show b < 12 by omega)] at hc
        exact strictCh_mem_len (SG.bd_stepsOf V12) (pref_mem hc)
      obtain ⟨t, rfl, ht⟩ := r1
      have rL : ∀ (σ : St) H', σ[3]? = some (some (.ref t)) → Ex H1 H' → EvR (tVar 3) σ H' (Rids L) := fun σ H' h e => er_var h fun H2 e2 => ⟨t, rfl, (e.trans e2) _ _ ht⟩
      exact s_retR (R := LR Rint (0 :: (L.length : Int) :: encN L)) (er_if (b := false) (t_isNone (ev_var rfl) rfl) (fun z => nomatch z) fun _ => er_cat (bs := [0, (L.length : Int)]) (cs := encN L) rob_int (by unfold encN; rw [List.length_map]; show 2 + L.length ≤ 100000; omega) (er_ints (ea_cons ev_c (ea_cons (ev_lenIds (rL _ _ rfl (Ex.refl _))) ea_nil)) (by show 2 ≤ 100000; decide)) (er_listIds (rL _ _ rfl (Ex.refl _)))) fun v H2 e2 q => k v H2 (e1.trans e2) q
    | none =>
      rw [hc] at r1 k
      obtain rfl : v3 = .non := r1
      exact s_retR (R := LR Rint [-4]) (er_if (b := true) (t_isNone (ev_var rfl) rfl) (fun _ => er_ints (ea_cons ev_c ea_nil) (by decide)) (fun z => nomatch z)) fun v H2 e2 q => k v H2 (e1.trans e2) q
theorem ok_ask (F : Fun K "ask" "ask" s_ask f fd) (T : Txt K mg CF CO CS aA aU) (o_Session_order : OwnM P w K mg base CS "order" 7 ["self"] (sOrder CF CO CS P w)) (o_best_question : Own P w K mg base "best_question" 5 ["order"] (sBest CF CO P w)) : FnOk P w K mg base CX0 8 f fd ["session"] (sAsk CF CS) := by
  refine F.ok sc_ask (fun vs H Q E h => ?_) (fun cdv A outer s H vs Q E hr h => ?_)
  · obtain ⟨a, rfl, _⟩ := h
    rfl
  · obtain ⟨⟨r, fl, s⟩, rfl, ⟨S, O⟩, k⟩ := h
    have S : SesAt CF CS H r fl s := S
    have O : SesOk s := O
    have k : ∀ v H', Ex H H' → LR Rint (askM s) v H' → Q v H' := k
    refine ⟨_, (pss_cons (ps_set (i := 1) sc_ask.nd rfl (.inl rfl) (pe_own o_best_question (hr.mono (by decide)) rfl (pa_cons (pe_ownM0 o_Session_order (hr.mono (by decide)) (pv 0)) pa_nil)))
      (pss_one (ps_ret (pe_ifExp (pt_cmpR op_isN (pv 1) pe_non (nomark _)) (pe_lst (pa_cons (pe_gint T.g_CONTRADICTED rfl) pa_nil)) (pe_lst (pa_cons pe_int (pa_cons (pe_ix ix_tup (pv 1) pe_int (fun _ _ => rfl)) (pa_cons (pe_ix ix_tup (pv 1) pe_int (fun _ _ => rfl)) (pa_cons (pe_ix ix_tup (pv 1) pe_int (fun _ _ => rfl)) pa_nil))))))))), ?_⟩
    refine q_asgR (er_f0 (post := fun n es v H => Rot (SG.bestM (anl n es)) v H) O.good (er_s0 (post := fun s v H => Rord CF CO P w s.units (act s.ents) v H) O ns_order S (ev_var rfl))) fun v1 H1 e1 r1 => ?_
    unfold askM at k
    cases hc : SG.bestM (anS s) with
    | some m =>
      rw [show SG.bestM (anl s.units (act s.ents)) = some m from hc] at r1
      rw [hc] at k
      obtain ⟨t, rfl, ht⟩ := r1
      have ix : ∀ (σ : St) H' (i : Nat) (z : Nat), σ[1]? = some (some (.ref t)) → Ex H1 H' → ([V.int (m.1 : Nat), .int (m.2.1 : Nat), .int (m.2.2 : Nat)])[i]? = some (.int (z : Nat)) → Ev (tOp (rIxT K) (tVar 1) (tC (.int (i : Nat)))) σ H' (.int (z : Nat)) := fun σ H' i z h e hi => ev_op (ev_var h) ev_c (rv_ixT (st_of (e _ _ ht)) (atI_nat hi))
      exact s_retR (R := LR Rint [0, (m.2.1 : Int), (m.2.2 : Int), (m.1 : Int)]) (er_if (b := false) (t_isNone (ev_var rfl) rfl) (fun z => nomatch z) fun _ => er_ints (ea_cons ev_c (ea_cons (ix _ _ 1 _ rfl (Ex.refl _) rfl) (ea_cons (ix _ _ 2 _ rfl (Ex.refl _) rfl) (ea_cons (ix _ _ 0 _ rfl (Ex.refl _) rfl) ea_nil)))) (by show 4 ≤ 100000; decide)) fun v H2 e2 q => k v H2 (e1.trans e2) q
    | none =>
      rw [show SG.bestM (anl s.units (act s.ents)) = none from hc] at r1
      rw [hc] at k
      obtain rfl : v1 = .non := r1
      exact s_retR (R := LR Rint [-4]) (er_if (b := true) (t_isNone (ev_var rfl) rfl) (fun _ => er_ints (ea_cons ev_c ea_nil) (by decide)) (fun z => nomatch z)) fun v H2 e2 q => k v H2 (e1.trans e2) q
theorem ok_list_facts (F : Fun K "list_facts" "list_facts" s_list_facts f fd) (T : Txt K mg CF CO CS aA aU) (o_Session_active : OwnM P w K mg base CS "active" 1 ["self"] (sActive CF CS)) : FnOk P w K mg base CX0 2 f fd ["session"] (sList CF CS) := by
  refine F.ok sc_list_facts (fun vs H Q E h => ?_) (fun cdv A outer s H vs Q E hr h => ?_)
  · obtain ⟨a, rfl, _⟩ := h
    rfl
  · obtain ⟨⟨r, fl, s⟩, rfl, ⟨S, O⟩, k⟩ := h
    have S : SesAt CF CS H r fl s := S
    have O : SesOk s := O
    have hz := O.alen
    have k : ∀ v H', Ex H H' → LR Rint (listM s) v H' → Q v H' := k
    refine ⟨_, (pss_cons (ps_set (i := 1) sc_list_facts.nd rfl (.inl rfl) (pe_lst (pa_cons pe_int (pa_cons (pe_callB call_len_seq (by rfl) T.len PySem.boot_len (pa_cons (pe_ownM0 o_Session_active (hr.mono (by decide)) (pv 0)) pa_nil)) pa_nil))))
      (pss_cons (ps_for PassesOwn.never rfl (pi_list (pe_ownM0 o_Session_active (hr.mono (by decide)) (pv 0))) (pg_name (i := 2) sc_list_facts.nd rfl (.inl rfl)) (pss_one (ps_expr (pe_bm PySem.F.plainAttrs_list PySem.F.slot_list_extend PySem.F.type_list_extend mt_extend (pv 1) (pa_cons (pe_lst (pa_cons (pe_fld (pv 2) rfl) (pa_cons (pe_fld (pv 2) rfl) (pa_cons (pe_fld (pv 2) rfl) (pa_cons (pe_fld (pv 2) rfl) (pa_cons (pe_fld (pv 2) rfl) pa_nil)))))) pa_nil)))))
      (pss_one (ps_ret (pv 1))))), ?_⟩
    have acts : ∀ (σ : St) H', σ[0]? = some (some (.ref r)) → Ex H H' → EvR (tMeth CS "active" (sActive CF CS) [] E0 (tVar 0) tNil) σ H' (LR (Rfact CF) (act s.ents)) := fun σ H' h e => er_s0 (post := fun s v H => LR (Rfact CF) (act s.ents) v H) O ns_active (S.ex e) (ev_var h)
    refine q_newL (vs := [.int 0, .int ((act s.ents).length : Int)]) (ea_cons ev_c (ea_cons (ev_lenR (acts _ _ rfl (Ex.refl _))) ea_nil)) (by show 2 ≤ 100000; decide) fun p H1 e1 hp => ?_
    have e2 : Ex H1 (upd H1 p (.lst [.int 0, .int ((act s.ents).length : Int)])) := Ex.new hp
    refine q_forAcc (es := act s.ents) (bs := [0, ((act s.ents).length : Int)]) (p := p) (A := Rfact CF) (B := Rint) 5 encF (fun σ => ∃ x, σ = [some (.ref r), some (.ref p), x]) (rob_fact CF) rob_int ((acts _ _ rfl (e1.trans e2)).weak fun v H' e h => ⟨h, fun z => ?_⟩) ⟨none, rfl⟩ ⟨_, upd_same, all_ints_mk [0, ((act s.ents).length : Int)]⟩ (fun c _ => Nat.le_refl 5) (fun σ' H' i1 b1 l1 => ?_) (fun i c x acc σ' H' D' hc i1 b1 rc l1 hz1 k1 => ?_)
    · obtain ⟨q, ws, rfl, hq, al⟩ := h
      cases z
      rw [e _ _ upd_same] at hq
      cases hq
      obtain ⟨c, _, a, ea, _⟩ := al.get (i := 0) rfl
      cases ea
    · obtain ⟨x, rfl⟩ := i1
      exact s_retR (er_is (ev_var rfl)) fun v H2 e q => by
        rw [show v = _ from q]
        exact k _ H2 (e1.trans ((ExB.ex0 e2 hp b1).trans e)) (l1.ex (keep := nlK) rob_int e).lr
    · obtain ⟨x2, rfl⟩ := i1
      obtain ⟨a, rfl, fa⟩ := rc
      have hi : i < (act s.ents).length := (List.getElem?_eq_some_iff.mp hc).1
      have hz1 : acc.length ≤ 2 + i * 5 := hz1
      exact s_extB (A := Rint) rob_int l1 (ev_var rfl) (cs := encF c) (er_ints (l := encF c) (ea_cons (T.e_id (ev_var rfl) fa) (ea_cons (T.e_kind (ev_var rfl) fa) (ea_cons (T.e_1 (ev_var rfl) fa) (ea_cons (T.e_2 (ev_var rfl) fa) (ea_cons (T.e_3 (ev_var rfl) fa) ea_nil))))) (by show 5 ≤ 100000; decide)) (by show acc.length + 5 ≤ 100000; omega) fun H2 b2 l2 => k1 _ H2 ⟨_, rfl⟩ b2 l2
end
end L2.SD

/-! B11: excavation.py, calls and their faults -/
set_option Elab.async false
set_option linter.all false
set_option maxRecDepth 100000
set_option maxHeartbeats 2000000
namespace L2.SD
open PySem PySem.Spec PyProof.Rows Evl
open Stratigraphy (Fact stepsOf)
open SG (Good anl VFact VEnt)

abbrev SCall := StratigraphySpec.Call
def opC : SCall → Int
  | .addUnit => 1
  | .addAbove _ _ => 2
  | .addSame _ _ => 3
  | .addFind _ _ _ => 4
  | .addDate _ _ _ => 5
  | .retract _ => 6
  | .isEarlier _ _ => 7
  | .yearRange _ => 8
  | .findYearRange _ => 9
  | .stratum _ => 10
  | .positionRange _ => 11
  | .harrisMatrix => 12
  | .firstSequence => 13
  | .countSequences => 14
  | .sameYear _ _ => 15
  | .explain _ _ => 16
  | .bestQuestion => 17
  | .listFacts => 18
def numC : SCall → List Int
  | .addUnit => []
  | .addAbove a b => [(a : Int), (b : Int)]
  | .addSame a b => [(a : Int), (b : Int)]
  | .addFind u s e => [(u : Int), s, e]
  | .addDate u s e => [(u : Int), s, e]
  | .retract i => [(i : Int)]
  | .isEarlier a b => [(a : Int), (b : Int)]
  | .yearRange u => [(u : Int)]
  | .findYearRange i => [(i : Int)]
  | .stratum u => [(u : Int)]
  | .positionRange u => [(u : Int)]
  | .harrisMatrix => []
  | .firstSequence => []
  | .countSequences => []
  | .sameYear a b => [(a : Int), (b : Int)]
  | .explain a b => [(a : Int), (b : Int)]
  | .bestQuestion => []
  | .listFacts => []
def unitsOf : SCall → List Nat
  | .addAbove a b => [a, b]
  | .addSame a b => [a, b]
  | .addFind u _ _ => [u]
  | .addDate u _ _ => [u]
  | .isEarlier a b => [a, b]
  | .yearRange u => [u]
  | .stratum u => [u]
  | .positionRange u => [u]
  | .sameYear a b => [a, b]
  | .explain a b => [a, b]
  | _ => []
def restOk : SCall → Bool
  | .addAbove a b => !decide ((a : Int) = (b : Int))
  | .addSame a b => !decide ((a : Int) = (b : Int))
  | .addFind _ s e => decide (-5000 ≤ s) && (decide (s ≤ e) && decide (e ≤ 2100))
  | .addDate _ s e => decide (-5000 ≤ s) && (decide (s ≤ e) && decide (e ≤ 2100))
  | .retract i => decide ((1 : Int) ≤ (i : Int)) && decide ((i : Int) ≤ 40)
  | .findYearRange i => decide ((1 : Int) ≤ (i : Int)) && decide ((i : Int) ≤ 40)
  | _ => true
def belowAll (n : Int) (c : SCall) : Bool := (encN (unitsOf c)).all fun u => decide (u < n)
def rightM (c : SCall) : Bool := belowAll 12 c && restOk c
abbrev UNI : List Int := [0, 0, 2, 2, 1, 1, 0, 2, 1, 0, 1, 1, 0, 0, 0, 2, 2, 0, 0]
theorem uni_at (c : SCall) : atI (UNI.map V.int) (opC c) = some (.int ((unitsOf c).length : Nat)) := by cases c <;> rfl
theorem num_take (c : SCall) : (numC c).take (unitsOf c).length = encN (unitsOf c) := by cases c <;> rfl
theorem units_len (c : SCall) : (unitsOf c).length ≤ 2 := by cases c <;> simp [unitsOf]
theorem cut_take (l : List Int) (n : Nat) : cutV (l.map V.int) none (some (n : Int)) = (l.take n).map V.int := by
  unfold cutV
  have h1 : HT.sIx (l.map V.int).length 0 none = 0 := rfl
  rw [h1, HT.sIx_nat, List.drop_zero, Nat.sub_zero, List.length_map, ← List.map_take]
  congr 1
  rw [Nat.min_def]
  split
  · rfl
  · rw [List.take_of_length_le (Nat.le_refl _), List.take_of_length_le (by omega)]
theorem er_slTake {K : PySem.W.Frag} {σ : St} {H : Hp} {t1 t2 : TE} {l : List Int} {n : Nat} (h1 : EvR t1 σ H (LR Rint l)) (h2 : Ev t2 σ H (.int (n : Nat))) : EvR (tSl (rSlL K) t1 tNoPart (tPart t2)) σ H (LR Rint (l.take n)) := fun H1 e1 Q q =>
  h1 H1 e1 _ fun v H2 e2 r => h2 H2 (e1.trans e2) _ fun H3 e3 => by
    obtain ⟨a, ws, rfl, ha, al⟩ := r.ex (keep := nlK) rob_int e3
    rw [all_int al] at ha
    refine ⟨_, rfl, a, _, rfl, sq_of ha, fun p hp => q _ _ ((e2.trans e3).trans (Ex.new hp)) ⟨p, _, rfl, upd_same, ?_⟩⟩
    rw [cut_take]
    exact all_ints_mk _
/-- all([unit < n for unit in numbers[:UNITS[call]]]) -/
theorem er_below {K : PySem.W.Frag} {mg : Str → Option Value} {CF CO CS aA aU : Addr} {σ : St} {H : Hp} {t1 t2 tn : TE} {c : SCall} {n : Int} {j : Nat} {vs : List Nat} (T : Txt K mg CF CO CS aA aU) (h1 : EvR t1 σ H (LR Rint (numC c))) (h2 : Ev t2 σ H (.int (opC c))) (hw : ∀ x, wipe ((wipe σ vs).set j (some x)) vs = wipe σ vs) (hj : ∀ x, ((wipe σ vs).set j (some x))[j]? = some (some x)) (hn : ∀ x H1, Ex H H1 → Ev tn ((wipe σ vs).set j (some x)) H1 (.int n)) :
    Ev (tCB (rAll K) (tCons (tLc (iList K (tSl (rSlL K) t1 tNoPart (tPart (tOp (rIxT K) (tC (.ref aU)) t2)))) (gName j) tYes (tOp (rI0 fun i j => .bl (decide (i < j))) (tVar j) tn) vs) tNil)) σ H (.bl (belowAll n c)) := by
  have hlc := er_lcL (K := K) (B := Rbl) (σ := σ) (H := H) (j := j) (vs := vs) (tt := tYes) (te := tOp (rI0 fun i j => .bl (decide (i < j))) (tVar j) tn) rob_int rob_bl (fun u => some (decide (u < n))) (er_slTake (K := K) h1 (ev_op (ta := tC (.ref aU)) (tb := t2) (H := H) (σ := σ) ev_c h2 (rv_ixT (T.g_UNITS.2 H) (uni_at c)))) (by
    rw [num_take]
    have := units_len c
    unfold encN
    rw [List.length_map]
    omega) hw (fun c x H1 hc e1 rc => fun H3 e3 Q3 q3 => q3 H3 (Ex.refl _)) (fun u x b H1 hu e1 rc hb => by
      obtain rfl : x = .int u := rc
      have := Option.some.inj hb
      subst this
      exact er_is (ev_op2 (g := fun i j => .bl (decide (i < j))) (ev_var (hj _)) (hn _ H1 e1)))
  rw [fm_some, num_take] at hlc
  refine ev_of (er_cb (ear_1 hlc) fun us H1 e1 s1 Q1 q1 => ?_)
  obtain ⟨v, rfl, p, ws, rfl, hp, al⟩ := s1
  rw [all_bl al] at hp
  refine ⟨p, _, rfl, sq_of hp, q1 _ H1 (Ex.refl _) ?_⟩
  rw [List.all_map]
  rfl
def spYears : Sp := spP (α := Int × Int) (fun a => [.int a.1, .int a.2]) (fun _ _ => True) (fun a v _ => v = .bl (decide (-5000 ≤ a.1) && (decide (a.1 ≤ a.2) && decide (a.2 ≤ 2100))))
def spRight : Sp := spP (α := V × SCall) (fun a => [.int (opC a.2), a.1]) (fun a H => LR Rint (numC a.2) a.1 H) (fun a v _ => v = .bl (rightM a.2))
abbrev s_are_years : Stmt := topS 59
theorem sc_are_years : FnScope ["first", "last"] ["first", "last"] (defScope s_are_years) := ⟨rfl, rfl, rfl, by decide +kernel, rfl, by decide +kernel, by decide +kernel⟩
abbrev s_are_right : Stmt := topS 60
theorem sc_are_right : FnScope ["call", "numbers", "unit"] ["call", "numbers"] (defScope s_are_right) := ⟨rfl, rfl, rfl, by decide +kernel, rfl, by decide +kernel, by decide +kernel⟩
section
variable {P : Program} {w : World} {K : PySem.W.Frag} {mg : Str → Option Value} {base : Heap} {CF CO CS aA aU f : Addr} {fd : FuncData}
theorem ok_are_years (F : Fun K "are_years" "are_years" s_are_years f fd) (T : Txt K mg CF CO CS aA aU) : FnOk P w K mg base CX0 1 f fd ["first", "last"] spYears := by
  refine F.ok sc_are_years (fun vs H Q E h => ?_) (fun cdv A outer s H vs Q E hr h => ?_)
  · obtain ⟨a, rfl, _⟩ := h
    rfl
  · obtain ⟨⟨a, b⟩, rfl, _, k⟩ := h
    refine ⟨_, (pss_one (ps_ret (pe_chain3 op_le op_le op_le (pe_gint T.g_FIRST_YEAR rfl) (pv 0) (pv 1) (pe_gint T.g_LAST_YEAR rfl)))), ?_⟩
    exact s_retR (er_is (ev_chain3 ev_c (ev_var rfl) (ev_var rfl) ev_c rv_I0 rv_I0 rv_I0)) fun v H1 e q => k v H1 e q
/-- call in (x, y) -/
theorem t_in2 {σ : St} {H : Hp} {k x y : Int} {b : Bool} {i : Nat} (h : σ[i]? = some (some (.int k))) (e : inV (.int k) [.int x, .int y] = b) : EvT (tTest (tOp (rIn K false) (tVar i) (tTup (tCons (tC (.int x)) (tCons (tC (.int y)) tNil))))) σ H b :=
  et_is (et_test (ev_inU (xs := [.int x, .int y]) (ev_var h) (eu_tup (ea_cons ev_c (ea_cons ev_c ea_nil)) (by show 2 ≤ 100000; decide)) rfl rfl)) e
theorem ev_num {σ : St} {H : Hp} {l : List Int} {v : V} {i j : Nat} {x : Int} (hv : σ[j]? = some (some v)) (h : LR Rint l v H) (hx : l[i]? = some x) : Ev (tOp (rIxL K) (tVar j) (tC (.int (i : Nat)))) σ H (.int x) := by
  obtain ⟨p, ws, rfl, hp, al⟩ := h
  rw [all_int al] at hp
  exact ev_op (ev_var hv) ev_c (rv_ixL (sq_of hp) (atI_nat (by rw [List.getElem?_map, hx]; rfl)))
theorem ok_are_right (F : Fun K "are_right" "are_right" s_are_right f fd) (T : Txt K mg CF CO CS aA aU) (o_are_years : Own P w K mg base "are_years" 1 ["first", "last"] spYears) : FnOk P w K mg base CX0 2 f fd ["call", "numbers"] spRight := by
  refine F.ok sc_are_right (fun vs H Q E h => ?_) (fun cdv A outer s H vs Q E hr h => ?_)
  · obtain ⟨a, rfl, _⟩ := h
    rfl
  · obtain ⟨⟨v, c⟩, rfl, hl, k⟩ := h
    have hl : LR Rint (numC c) v H := hl
    have k : ∀ u H', Ex H H' → u = .bl (rightM c) → Q u H' := k
    refine ⟨_, (pss_cons (ps_if (pt_not (pt_val (pe_callB (cr_all rfl) (by rfl) T.all (by decide +kernel) (pa_cons (pe_lc (own := [("unit", 2)]) (g := gName 2) (tt := tYes) (te := (tOp _ (tVar 2) (tC (.int 12)))) rfl sc_are_right.nd (pi_list (pe_slice sl_list (pv 1) po_none (po_some (pe_ix ix_tup (pe_gtup T.g_UNITS rfl) (pv 0) (fun _ _ => rfl))))) (blkOk_by (own := [("unit", 2)]) (N := ["call", "numbers", "unit"]) (sc := defScope s_are_right) (by decide +kernel)) (fun _ _ _ _ _ => (pg_name (i := 2) sc_are_right.nd rfl (.inl rfl))) (fun _ _ _ _ _ => pts_nil) (fun _ _ _ _ _ => (pe_cmpR op_lt (pv 2) (pe_gint T.g_MOST_UNITS rfl) (nomark _)))) pa_nil)))) (pss_one (ps_ret pe_bl)) pss_nil)
      (pss_cons (ps_if (pt_cmpR op_in_seq (pv 0) (pe_tup (pa_cons (pe_gint T.g_ABOVE rfl) (pa_cons (pe_gint T.g_SAME rfl) pa_nil))) rfl) (pss_one (ps_ret (pe_cmpR op_ne (pe_ix ix_list (pv 1) pe_int (fun _ _ => rfl)) (pe_ix ix_list (pv 1) pe_int (fun _ _ => rfl)) (nomark _)))) pss_nil)
      (pss_cons (ps_if (pt_cmpR op_in_seq (pv 0) (pe_tup (pa_cons pe_int (pa_cons pe_int pa_nil))) rfl) (pss_one (ps_ret (pe_own o_are_years (hr.mono (by decide)) rfl (pa_cons (pe_ix ix_list (pv 1) pe_int (fun _ _ => rfl)) (pa_cons (pe_ix ix_list (pv 1) pe_int (fun _ _ => rfl)) pa_nil))))) pss_nil)
      (pss_one (ps_ret (pe_or (pe_cmpR op_notIn_seq (pv 0) (pe_tup (pa_cons pe_int (pa_cons pe_int pa_nil))) rfl) (pe_one (pe_chain op_le op_le pe_int (pe_ix ix_list (pv 1) pe_int (fun _ _ => rfl)) (pe_gint T.g_MOST_FACTS rfl))))))))), ?_⟩
    refine q_ifRetR (R := Is (.bl false)) (b := !belowAll 12 c) (et_not (et_B (er_below T (er_var rfl fun H' e => hl.ex (keep := nlK) rob_int e) (ev_var rfl) (fun x => rfl) (fun x => rfl) (fun x H1 e1 => ev_c)))) (fun _ => er_is ev_c) (fun hb u H1 e1 q => k u H1 e1 ?_) (fun hb H1 e1 => ?_)
    · rw [show u = _ from q]
      unfold rightM
      rw [show belowAll 12 c = false by simpa using hb]
      rfl
    · have hb : belowAll 12 c = true := by simpa using hb
      have hl1 := hl.ex (keep := nlK) rob_int e1
      have k : ∀ u H', Ex H1 H' → u = .bl (restOk c) → Q u H' := fun u H' e h => k u H' (e1.trans e) (by unfold rightM; rw [hb, h]; rfl)
      have skip : ∀ (x y : Int) (te : TE) (tz : TS) (D : Ends) (H2 : Hp), inV (.int (opC c)) [.int x, .int y] = false → (∀ H3, Ex H2 H3 → tz D [some (.int (opC c)), some v, none] H3) → tSeq (tIfS (tTest (tOp (rIn K false) (tVar 0) (tTup (tCons (tC (.int x)) (tCons (tC (.int y)) tNil))))) (tRet te) tNext) tz D [some (.int (opC c)), some v, none] H2 := fun x y te tz D H2 h kk =>
        q_ifRetR (R := fun _ _ => False) (t_in2 rfl h) (fun z => nomatch z) (fun z => nomatch z) (fun _ => kk)
      have oth : ∀ H2, Ex H1 H2 → restOk c = true → inV (.int (opC c)) [.int 6, .int 9] = false → tRet (tOrV (tOp (rIn K true) (tVar 0) (tTup (tCons (tC (.int 6)) (tCons (tC (.int 9)) tNil)))) (tChain (rI0 fun i j => .bl (decide (i ≤ j))) (rI0 fun i j => .bl (decide (i ≤ j))) (tC (.int 1)) (tOp (rIxL K) (tVar 1) (tC (.int 0))) (tC (.int 40)))) { nx := fun _ H' => Q .non H', rt := Q } [some (.int (opC c)), some v, none] H2 := fun H2 e2 h1 h2 =>
        s_retR (er_is (ev_orV (a := true) (b := true) (ev_is (ev_niU (xs := [.int 6, .int 9]) (ev_var rfl) (eu_tup (ea_cons ev_c (ea_cons ev_c ea_nil)) (by show 2 ≤ 100000; decide)) rfl rfl) (by rw [h2]; rfl)) fun z => nomatch z)) fun u H3 e3 q => k u H3 (e2.trans e3) (by rw [show u = _ from q, h1]; rfl)
      have ids : ∀ H2 (i : Nat), Ex H1 H2 → (numC c)[0]? = some (i : Int) → restOk c = (decide ((1 : Int) ≤ (i : Int)) && decide ((i : Int) ≤ 40)) → inV (.int (opC c)) [.int 6, .int 9] = true → tRet (tOrV (tOp (rIn K true) (tVar 0) (tTup (tCons (tC (.int 6)) (tCons (tC (.int 9)) tNil)))) (tChain (rI0 fun i j => .bl (decide (i ≤ j))) (rI0 fun i j => .bl (decide (i ≤ j))) (tC (.int 1)) (tOp (rIxL K) (tVar 1) (tC (.int 0))) (tC (.int 40)))) { nx := fun _ H' => Q .non H', rt := Q } [some (.int (opC c)), some v, none] H2 := fun H2 i e2 h0 h1 h2 =>
        s_retR (er_is (ev_orV (a := false) (ev_is (ev_niU (xs := [.int 6, .int 9]) (ev_var rfl) (eu_tup (ea_cons ev_c (ea_cons ev_c ea_nil)) (by show 2 ≤ 100000; decide)) rfl rfl) (by rw [h2]; rfl)) fun _ => ev_chain ev_c (ev_num (i := 0) rfl (hl1.ex (keep := nlK) rob_int e2) h0) ev_c rv_I0 rv_I0)) fun u H3 e3 q => k u H3 (e2.trans e3) (by rw [show u = _ from q, h1]; rfl)
      have neq : ∀ a b : Nat, (numC c)[0]? = some (a : Int) → (numC c)[1]? = some (b : Int) → restOk c = (!decide ((a : Int) = (b : Int))) → EvR (tOp rNe (tOp (rIxL K) (tVar 1) (tC (.int 0))) (tOp (rIxL K) (tVar 1) (tC (.int 1)))) [some (.int (opC c)), some v, none] H1 (Is (.bl (restOk c))) := fun a b h0 h1 h2 => er_is (ev_is (ev_op (ev_num (i := 0) rfl hl1 h0) (ev_num (i := 1) rfl hl1 h1) (rv_ne rfl)) (by
        rw [h2]
        by_cases z : (a : Int) = (b : Int)
        · rw [z]; simp
        · simp [z]))
      have yrs : ∀ (s e : Int) H2, Ex H1 H2 → (numC c)[1]? = some s → (numC c)[2]? = some e → restOk c = (decide (-5000 ≤ s) && (decide (s ≤ e) && decide (e ≤ 2100))) → EvR (tCall spYears [] E0 (tCons (tOp (rIxL K) (tVar 1) (tC (.int 1))) (tCons (tOp (rIxL K) (tVar 1) (tC (.int 2))) tNil))) [some (.int (opC c)), some v, none] H2 (Is (.bl (restOk c))) := fun s e H2 e2 h0 h1 h2 =>
        er_is (ev_call (s, e) (ea_cons (ev_num (i := 1) rfl (hl1.ex (keep := nlK) rob_int e2) h0) (ea_cons (ev_num (i := 2) rfl (hl1.ex (keep := nlK) rob_int e2) h1) ea_nil)) (fun _ _ => trivial) fun _ _ _ h => h.trans (by rw [h2]))
      cases c with
      | addAbove a b => exact q_ifRetR (t_in2 rfl rfl) (fun _ => neq a b rfl rfl rfl) (fun _ u H2 e2 q => k u H2 e2 q) (fun z => nomatch z)
      | addSame a b => exact q_ifRetR (t_in2 rfl rfl) (fun _ => neq a b rfl rfl rfl) (fun _ u H2 e2 q => k u H2 e2 q) (fun z => nomatch z)
      | addFind a s e => exact skip _ _ _ _ _ _ rfl fun H2 e2 => q_ifRetR (t_in2 rfl rfl) (fun _ => yrs s e H2 e2 rfl rfl rfl) (fun _ u H3 e3 q => k u H3 (e2.trans e3) q) (fun z => nomatch z)
      | addDate a s e => exact skip _ _ _ _ _ _ rfl fun H2 e2 => q_ifRetR (t_in2 rfl rfl) (fun _ => yrs s e H2 e2 rfl rfl rfl) (fun _ u H3 e3 q => k u H3 (e2.trans e3) q) (fun z => nomatch z)
      | retract i => exact skip _ _ _ _ _ _ rfl fun H2 e2 => skip _ _ _ _ _ _ rfl fun H3 e3 => ids H3 i (e2.trans e3) rfl rfl rfl
      | findYearRange i => exact skip _ _ _ _ _ _ rfl fun H2 e2 => skip _ _ _ _ _ _ rfl fun H3 e3 => ids H3 i (e2.trans e3) rfl rfl rfl
      | addUnit => exact skip _ _ _ _ _ _ rfl fun H2 e2 => skip _ _ _ _ _ _ rfl fun H3 e3 => oth H3 (e2.trans e3) rfl rfl
      | isEarlier _ _ => exact skip _ _ _ _ _ _ rfl fun H2 e2 => skip _ _ _ _ _ _ rfl fun H3 e3 => oth H3 (e2.trans e3) rfl rfl
      | yearRange _ => exact skip _ _ _ _ _ _ rfl fun H2 e2 => skip _ _ _ _ _ _ rfl fun H3 e3 => oth H3 (e2.trans e3) rfl rfl
      | stratum _ => exact skip _ _ _ _ _ _ rfl fun H2 e2 => skip _ _ _ _ _ _ rfl fun H3 e3 => oth H3 (e2.trans e3) rfl rfl
      | positionRange _ => exact skip _ _ _ _ _ _ rfl fun H2 e2 => skip _ _ _ _ _ _ rfl fun H3 e3 => oth H3 (e2.trans e3) rfl rfl
      | harrisMatrix => exact skip _ _ _ _ _ _ rfl fun H2 e2 => skip _ _ _ _ _ _ rfl fun H3 e3 => oth H3 (e2.trans e3) rfl rfl
      | firstSequence => exact skip _ _ _ _ _ _ rfl fun H2 e2 => skip _ _ _ _ _ _ rfl fun H3 e3 => oth H3 (e2.trans e3) rfl rfl
      | countSequences => exact skip _ _ _ _ _ _ rfl fun H2 e2 => skip _ _ _ _ _ _ rfl fun H3 e3 => oth H3 (e2.trans e3) rfl rfl
      | sameYear _ _ => exact skip _ _ _ _ _ _ rfl fun H2 e2 => skip _ _ _ _ _ _ rfl fun H3 e3 => oth H3 (e2.trans e3) rfl rfl
      | explain _ _ => exact skip _ _ _ _ _ _ rfl fun H2 e2 => skip _ _ _ _ _ _ rfl fun H3 e3 => oth H3 (e2.trans e3) rfl rfl
      | bestQuestion => exact skip _ _ _ _ _ _ rfl fun H2 e2 => skip _ _ _ _ _ _ rfl fun H3 e3 => oth H3 (e2.trans e3) rfl rfl
      | listFacts => exact skip _ _ _ _ _ _ rfl fun H2 e2 => skip _ _ _ _ _ _ rfl fun H3 e3 => oth H3 (e2.trans e3) rfl rfl
end
/-! ### faults -/
def factFault (s : Ses) (i : Nat) : Option Int := if (s.ents.length : Int) < (i : Int) then some (-3) else match s.ents[i - 1]? with
  | some e => if e.2.2 = true then none else some (-8)
  | none => some (-8)
def extraF (s : Ses) : SCall → Option Int
  | .retract i => factFault s i
  | .findYearRange i => factFault s i
  | _ => none
def faultM (s : Ses) (c : SCall) : Option Int := if rightM c = false then some (-1) else if belowAll s.units c = false then some (-3) else extraF s c
def Roi (o : Option Int) : V → Hp → Prop := fun v _ => match o with
  | some i => v = .int i
  | none => v = .non
structure CA extends SA where
  v : V
  c : SCall
def spFault (CF CS : Addr) : Sp := spP (α := CA) (fun a => [.ref a.r, .int (opC a.c), a.v]) (fun a H => SesAt CF CS H a.r a.fl a.s ∧ SesOk a.s ∧ LR Rint (numC a.c) a.v H) (fun a v H => Roi (faultM a.s a.c) v H)
abbrev s_fault_of : Stmt := topS 61
theorem sc_fault_of : FnScope ["session", "call", "numbers", "unit"] ["session", "call", "numbers"] (defScope s_fault_of) := ⟨rfl, rfl, rfl, by decide +kernel, rfl, by decide +kernel, by decide +kernel⟩
section
variable {P : Program} {w : World} {K : PySem.W.Frag} {mg : Str → Option Value} {base : Heap} {CF CO CS aA aU f : Addr} {fd : FuncData}
theorem ok_fault_of (F : Fun K "fault_of" "fault_of" s_fault_of f fd) (T : Txt K mg CF CO CS aA aU) (o_are_right : Own P w K mg base "are_right" 2 ["call", "numbers"] spRight) : FnOk P w K mg base CX0 3 f fd ["session", "call", "numbers"] (spFault CF CS) := by
  refine F.ok sc_fault_of (fun vs H Q E h => ?_) (fun cdv A outer s H vs Q E hr h => ?_)
  · obtain ⟨a, rfl, _⟩ := h
    rfl
  · obtain ⟨⟨⟨r, fl, s⟩, v, c⟩, rfl, ⟨S, O, hl⟩, k⟩ := h
    have S : SesAt CF CS H r fl s := S
    have O : SesOk s := O
    have hl : LR Rint (numC c) v H := hl
    have k : ∀ u H', Ex H H' → Roi (faultM s c) u H' → Q u H' := k
    refine ⟨_, (pss_cons (ps_if (pt_not (pt_val (pe_own o_are_right (hr.mono (by decide)) rfl (pa_cons (pv 1) (pa_cons (pv 2) pa_nil))))) (pss_one (ps_ret (pe_gint T.g_OUT_OF_RANGE rfl))) pss_nil)
      (pss_cons (ps_if (pt_not (pt_val (pe_callB (cr_all rfl) (by rfl) T.all (by decide +kernel) (pa_cons (pe_lc (own := [("unit", 3)]) (g := gName 3) (tt := tYes) (te := (tOp _ (tVar 3) (tFld K (tVar 0) "units"))) rfl sc_fault_of.nd (pi_list (pe_slice sl_list (pv 2) po_none (po_some (pe_ix ix_tup (pe_gtup T.g_UNITS rfl) (pv 1) (fun _ _ => rfl))))) (blkOk_by (own := [("unit", 3)]) (N := ["session", "call", "numbers", "unit"]) (sc := defScope s_fault_of) (by decide +kernel)) (fun _ _ _ _ _ => (pg_name (i := 3) sc_fault_of.nd rfl (.inl rfl))) (fun _ _ _ _ _ => pts_nil) (fun _ _ _ _ _ => (pe_cmpR op_lt (pv 3) (pe_fld (pv 0) rfl) (nomark _)))) pa_nil)))) (pss_one (ps_ret (pe_gint T.g_NOT_THERE rfl))) pss_nil)
      (pss_cons (ps_if (pt_cmpR op_in_seq (pv 1) (pe_tup (pa_cons pe_int (pa_cons pe_int pa_nil))) rfl) (pss_cons (ps_if (pt_cmpR op_gt (pe_ix ix_list (pv 2) pe_int (fun _ _ => rfl)) (pe_callB call_len_seq (by rfl) T.len PySem.boot_len (pa_cons (pe_fld (pv 0) rfl) pa_nil)) (nomark _)) (pss_one (ps_ret (pe_gint T.g_NOT_THERE rfl))) pss_nil)
      (pss_one (ps_ret (pe_ifExp (pt_val (pe_fld (pe_ix ix_list (pe_fld (pv 0) rfl) (pe_op op_sub (pe_ix ix_list (pv 2) pe_int (fun _ _ => rfl)) pe_int) (fun _ _ => rfl)) rfl)) pe_non (pe_gint T.g_RETRACTED rfl))))) pss_nil)
      (pss_one (ps_ret pe_non))))), ?_⟩
    refine q_ifRetR (R := Is (.int (-1))) (b := !rightM c) (et_not (et_B (ev_call (v, c) (ea_cons (ev_var rfl) (ea_cons (ev_var rfl) ea_nil)) (fun H1 e1 => hl.ex (keep := nlK) rob_int e1) fun _ _ _ h => h))) (fun _ => er_is ev_c) (fun hb u H1 e1 q => k u H1 e1 ?_) (fun hb H1 e1 => ?_)
    · unfold faultM
      rw [if_pos (by simpa using hb)]
      exact q
    have hright : rightM c = true := by simpa using hb
    have hl1 := hl.ex (keep := nlK) rob_int e1
    have S1 := S.ex e1
    refine q_ifRetR (R := Is (.int (-3))) (b := !belowAll s.units c) (et_not (et_B (er_below T (er_var rfl fun H' e => hl1.ex (keep := nlK) rob_int e) (ev_var rfl) (fun x => rfl) (fun x => rfl) (fun x H2 e2 => ev_units T (S1.ex e2) (ev_var rfl))))) (fun _ => er_is ev_c) (fun hb u H2 e2 q => k u H2 (e1.trans e2) ?_) (fun hb H2 e2 => ?_)
    · unfold faultM
      rw [if_neg (by rw [hright]; simp), if_pos (by simpa using hb)]
      exact q
    have hbel : belowAll s.units c = true := by simpa using hb
    have hl2 := hl1.ex (keep := nlK) rob_int e2
    have S2 := S1.ex e2
    obtain ⟨dx, hr2, hents2⟩ := id S2
    have lenE : ∀ (σ : St) H', σ[0]? = some (some (.ref r)) → Ex H2 H' → Ev (tCB (rLenS K) (tCons (tFld K (tVar 0) "facts") tNil)) σ H' (.int (s.ents.length : Int)) := fun σ H' h e => ev_lenR (er_of (R := LR (Rent CF) s.ents) (ev_facts T (S2.ex e) (ev_var h)) fun H'' e' => (hents2.ex rob_ent (e.trans e')).lr)
    have kF : ∀ u H', Ex H2 H' → Roi (extraF s c) u H' → Q u H' := fun u H' e h => k u H' (e1.trans (e2.trans e)) (by
      unfold faultM
      rw [if_neg (by rw [hright]; simp), if_neg (by rw [hbel]; simp)]
      exact h)
    have idc : ∀ i : Nat, (numC c)[0]? = some (i : Int) → 1 ≤ i → (∀ u H', Ex H2 H' → Roi (factFault s i) u H' → Q u H') → ∀ H3, Ex H2 H3 → tSeq (tIfS (tTest (tOp (rI0 fun i j => .bl (decide (j < i))) (tOp (rIxL K) (tVar 2) (tC (.int 0))) (tCB (rLenS K) (tCons (tFld K (tVar 0) "facts") tNil)))) (tRet (tC (.int (-3)))) tNext)
        (tRet (tIf (tB (tFld K (tOp (rIxL K) (tFld K (tVar 0) "facts") (tOp (rI0 fun i j => .int (i - j)) (tOp (rIxL K) (tVar 2) (tC (.int 0))) (tC (.int 1)))) "is_active")) (tC .non) (tC (.int (-8))))) { nx := fun σ' H' => tRet (tC .non) { nx := fun _ H' => Q .non H', rt := Q } σ' H', rt := Q } [some (.ref r), some (.int (opC c)), some v, none] H3 := by
      intro i hi0 hi1 kk H3 e3
      have hl3 := hl2.ex (keep := nlK) rob_int e3
      refine q_ifRetR (R := Is (.int (-3))) (t_I0 (ev_num (i := 0) rfl hl3 hi0) (lenE _ _ rfl e3)) (fun _ => er_is ev_c) (fun hb u H4 e4 q => kk u H4 (e3.trans e4) ?_) (fun hb H4 e4 => ?_)
      · unfold factFault
        rw [if_pos (of_decide_eq_true hb)]
        exact q
      · have hb := of_decide_eq_false hb
        have hlt : i - 1 < s.ents.length := by omega
        obtain ⟨e, he⟩ : ∃ e, s.ents[i - 1]? = some e := ⟨_, List.getElem?_eq_getElem hlt⟩
        have S4 := S2.ex (e3.trans e4)
        have hl4 := hl3.ex (keep := nlK) rob_int e4
        have hff : factFault s i = if e.2.2 = true then none else some (-8) := by
          unfold factFault
          rw [if_neg hb, he]
        have hev : Ev (tFld K (tOp (rIxL K) (tFld K (tVar 0) "facts") (tOp (rI0 fun i j => .int (i - j)) (tOp (rIxL K) (tVar 2) (tC (.int 0))) (tC (.int 1)))) "is_active") [some (.ref r), some (.int (opC c)), some v, none] H4 (.bl e.2.2) := fun H5 e5 Q5 q5 =>
          (er_ent T S4 (ev_var rfl) (ev_is (ev_op2 (g := fun i j => .int (i - j)) (ev_num (i := 0) rfl hl4 hi0) ev_c) (show V.int ((i : Int) - 1) = .int ((i - 1 : Nat) : Int) by congr 1; omega)) he) H5 e5 _ fun v6 H6 e6 r6 => by
            obtain ⟨a, rfl, ⟨dxa, ga⟩, _⟩ := r6
            exact ⟨a, CF, dxa, _, _, rfl, ga, T.cF, T.nFa, fac_act e.1 e.2.1 e.2.2, q5 H6 e6⟩
        refine s_retR (R := Roi (factFault s i)) (er_if (et_B hev) (fun hc => ?_) (fun hc => ?_)) fun u H5 e5 q => kk u H5 (e3.trans (e4.trans e5)) q
        · rw [hff, if_pos hc]
          exact er_of ev_c fun _ _ => rfl
        · rw [hff, if_neg (by rw [hc]; simp)]
          exact er_of ev_c fun _ _ => rfl
    have oth : inV (.int (opC c)) [.int 6, .int 9] = false → extraF s c = none → ∀ tz : TS, tSeq (tIfS (tTest (tOp (rIn K false) (tVar 1) (tTup (tCons (tC (.int 6)) (tCons (tC (.int 9)) tNil))))) tz tNext) (tRet (tC .non)) { nx := fun _ H' => Q .non H', rt := Q } [some (.ref r), some (.int (opC c)), some v, none] H2 := fun h1 h2 tz =>
      q_when (t_in2 rfl h1) (fun z => nomatch z) fun _ H3 e3 => s_retR (er_is ev_c) fun u H4 e4 q => kF u H4 (e3.trans e4) (by rw [h2]; exact q)
    have pos : ∀ i : Nat, restOk c = (decide ((1 : Int) ≤ (i : Int)) && decide ((i : Int) ≤ 40)) → 1 ≤ i := fun i h => by
      unfold rightM at hright
      rw [Bool.and_eq_true, h, Bool.and_eq_true] at hright
      have := of_decide_eq_true hright.2.1
      omega
    cases c with
    | retract i => exact q_when (t_in2 rfl rfl) (fun _ H3 e3 => idc i rfl (pos i rfl) (fun u H' e h => kF u H' e h) H3 e3) (fun z => nomatch z)
    | findYearRange i => exact q_when (t_in2 rfl rfl) (fun _ H3 e3 => idc i rfl (pos i rfl) (fun u H' e h => kF u H' e h) H3 e3) (fun z => nomatch z)
    | addUnit => exact oth rfl rfl _
    | addAbove _ _ => exact oth rfl rfl _
    | addSame _ _ => exact oth rfl rfl _
    | addFind _ _ _ => exact oth rfl rfl _
    | addDate _ _ _ => exact oth rfl rfl _
    | isEarlier _ _ => exact oth rfl rfl _
    | yearRange _ => exact oth rfl rfl _
    | stratum _ => exact oth rfl rfl _
    | positionRange _ => exact oth rfl rfl _
    | harrisMatrix => exact oth rfl rfl _
    | firstSequence => exact oth rfl rfl _
    | countSequences => exact oth rfl rfl _
    | sameYear _ _ => exact oth rfl rfl _
    | explain _ _ => exact oth rfl rfl _
    | bestQuestion => exact oth rfl rfl _
    | listFacts => exact oth rfl rfl _
end
end L2.SD

/-! B12: excavation.py, answers -/
set_option Elab.async false
set_option linter.all false
set_option maxRecDepth 100000
set_option maxHeartbeats 2000000
namespace L2.SD
open PySem PySem.Spec PyProof.Rows Evl
open Stratigraphy (Fact stepsOf)
open SG (Good anl VFact VEnt)

def posM (an : Stratigraphy.Analysis) (u : Nat) : List Nat := [(an.strata.filter fun o => an.isEarlier o u).length, an.strata.length - 1 - (an.strata.filter fun o => an.isEarlier u o).length]
def tellM (s : Ses) : SCall → List Int
  | .isEarlier a b => [0, earlierA (anS s) a b]
  | .yearRange u => [0, earlyOf (anS s) u, lateOf (anS s) u]
  | .stratum u => [0, ((anS s).stratumOf u : Nat)]
  | .positionRange u => 0 :: encN (posM (anS s) u)
  | .sameYear a b => [0, (anS s).sameYear a b]
  | .harrisMatrix => pairsM (anS s).harrisMatrix
  | .firstSequence => 0 :: ((Stratigraphy.firstSequenceOf (anS s) (anS s).strata.length (anS s).strata).length : Int) :: encN (Stratigraphy.firstSequenceOf (anS s) (anS s).strata.length (anS s).strata)
  | .countSequences => [0, ((Stratigraphy.countSequences (anS s) : Nat) : Int)]
  | .bestQuestion => askM s
  | .listFacts => listM s
  | .explain a b => expM s a b
  | .findYearRange i => match s.ents[i - 1]? with
    | some e => fyrM s e.2.1
    | none => []
  | _ => []
def replyM (s : Ses) : SCall → Ses × List Int
  | .addUnit => addUnitM s
  | .addAbove a b => addFactM s (.above a b)
  | .addSame a b => addFactM s (.same a b)
  | .addFind u x y => addFactM s (.find u x y)
  | .addDate u x y => addFactM s (.date u x y)
  | .retract i => match s.ents[i - 1]? with
    | some e => retractM s (i - 1) e.2.1
    | none => (s, [])
  | c => (s, tellM s c)
def totalM (s : Ses) (c : SCall) : Ses × List Int := match faultM s c with
  | some k => (s, [k])
  | none => replyM s c
theorem fault_none {s : Ses} {c : SCall} (h : faultM s c = none) : rightM c = true ∧ belowAll s.units c = true ∧ extraF s c = none := by
  unfold faultM at h
  by_cases h1 : rightM c = false
  · rw [if_pos h1] at h; cases h
  · rw [if_neg h1] at h
    by_cases h2 : belowAll s.units c = false
    · rw [if_pos h2] at h; cases h
    · rw [if_neg h2] at h
      exact ⟨by simpa using h1, by simpa using h2, h⟩
theorem below_mem {n : Nat} {c : SCall} (h : belowAll n c = true) {u : Nat} (hu : u ∈ unitsOf c) : u < n := by
  unfold belowAll at h
  rw [List.all_eq_true] at h
  have := of_decide_eq_true (h (u : Int) (List.mem_map.mpr ⟨u, hu, rfl⟩))
  omega
theorem fact_there {s : Ses} (O : SesOk s) {i : Nat} (h1 : 1 ≤ i) (h : factFault s i = none) : ∃ f, s.ents[i - 1]? = some (i - 1 + 1, f, true) := by
  unfold factFault at h
  by_cases c : (s.ents.length : Int) < (i : Int)
  · rw [if_pos c] at h; cases h
  · rw [if_neg c] at h
    have hlt : i - 1 < s.ents.length := by omega
    obtain ⟨e, he⟩ : ∃ e, s.ents[i - 1]? = some e := ⟨_, List.getElem?_eq_getElem hlt⟩
    rw [he] at h
    by_cases z : e.2.2 = true
    · refine ⟨e.2.1, ?_⟩
      rw [he]
      have := O.ids _ _ he
      exact congrArg some (Prod.ext this (Prod.ext rfl z))
    · simp [z] at h
theorem right_pos {c : SCall} {i : Nat} (h : rightM c = true) (e : restOk c = (decide ((1 : Int) ≤ (i : Int)) && decide ((i : Int) ≤ 40))) : 1 ≤ i := by
  unfold rightM at h
  rw [Bool.and_eq_true, e, Bool.and_eq_true] at h
  have := of_decide_eq_true h.2.1
  omega
theorem right_years {c : SCall} {x y : Int} (h : rightM c = true) (e : restOk c = (decide (-5000 ≤ x) && (decide (x ≤ y) && decide (y ≤ 2100)))) : SG.VYears x y := by
  unfold rightM at h
  rw [Bool.and_eq_true, e, Bool.and_eq_true, Bool.and_eq_true] at h
  exact ⟨of_decide_eq_true h.2.1, of_decide_eq_true h.2.2.1, of_decide_eq_true h.2.2.2⟩
def spChange (CF CS : Addr) : Sp := spImp (α := CA) (fun a => [.ref a.r, .int (opC a.c), a.v]) (fun a => a.fl) (fun a H => SesAt CF CS H a.r a.fl a.s ∧ SesOk a.s ∧ LR Rint (numC a.c) a.v H ∧ faultM a.s a.c = none ∧ opC a.c ≤ 6) (fun a v H => SesPost CF CS a.r a.fl (replyM a.s a.c) v H)
theorem r_meth {α : Type} {C dx r : Addr} {fs : List (Str × V)} {m : Str} {args : α → List V} {fl : α → Addr} {pre : α → Hp → Prop} {post : α → V → Hp → Prop} {σ : St} {H : Hp} {to : TE} {ta : TA} {us : List V} {D : Ends} (a : α) (ho : Ev to σ H (.ref r)) (hi : H r = some (.ins C dx fs)) (hno : fs.lookup m = none) (ha : EvA ta σ H us) (harg : .ref r :: us = args a) (hpre : ∀ H1, Ex H H1 → pre a H1)
    (k : ∀ v H', FrS (fl a) H H' → post a v H' → D.rt v H') : tRet (tMeth C m (spImp args fl pre post) [] E0 to ta) D σ H :=
  ho H (Ex.refl H) _ fun H1 e1 => ⟨r, dx, fs, rfl, e1 _ _ hi, hno, ha H1 e1 _ fun H2 e2 => ⟨a, by rw [List.append_nil]; exact harg, hpre H2 (e1.trans e2), fun v H' f p => k v H' ((FrS.ex (e1.trans e2)).trans f) p⟩⟩
theorem r_meth1 {α : Type} {C dx r : Addr} {fs : List (Str × V)} {m : Str} {args : α → List V} {fl : α → Addr} {pre : α → Hp → Prop} {post : α → V → Hp → Prop} {σ : St} {H : Hp} {to te : TE} {R : V → Hp → Prop} {D : Ends} (ho : Ev to σ H (.ref r)) (hi : H r = some (.ins C dx fs)) (hno : fs.lookup m = none) (h : EvR te σ H R)
    (hs : ∀ v H1, Ex H H1 → R v H1 → ∃ a, [.ref r, v] = args a ∧ pre a H1 ∧ ∀ u H', FrS (fl a) H1 H' → post a u H' → D.rt u H') : tRet (tMeth C m (spImp args fl pre post) [] E0 to (tCons te tNil)) D σ H :=
  ho H (Ex.refl H) _ fun H1 e1 => ⟨r, dx, fs, rfl, e1 _ _ hi, hno, h H1 e1 _ fun v H2 e2 rv => by
    obtain ⟨a, g1, g2, g3⟩ := hs v H2 (e1.trans e2) rv
    exact ⟨a, g1, g2, g3⟩⟩
theorem r_fun {α : Type} {args : α → List V} {fl : α → Addr} {pre : α → Hp → Prop} {post : α → V → Hp → Prop} {σ : St} {H : Hp} {ta : TA} {us : List V} {D : Ends} (a : α) (ha : EvA ta σ H us) (harg : us = args a) (hpre : ∀ H1, Ex H H1 → pre a H1)
    (k : ∀ v H', FrS (fl a) H H' → post a v H' → D.rt v H') : tRet (tCall (spImp args fl pre post) [] E0 ta) D σ H :=
  ha H (Ex.refl H) _ fun H2 e2 => ⟨a, by rw [List.append_nil]; exact harg, hpre H2 e2, fun v H' f p => k v H' ((FrS.ex e2).trans f) p⟩
theorem ns_add_unit : NoS "add_unit" := ⟨by decide +kernel, by decide +kernel⟩
theorem ns_add_fact : NoS "add_fact" := ⟨by decide +kernel, by decide +kernel⟩
theorem ns_retract : NoS "retract" := ⟨by decide +kernel, by decide +kernel⟩
abbrev s_change : Stmt := topS 67
theorem sc_change : FnScope ["session", "call", "numbers"] ["session", "call", "numbers"] (defScope s_change) := ⟨rfl, rfl, rfl, by decide +kernel, rfl, by decide +kernel, by decide +kernel⟩
section
variable {P : Program} {w : World} {K : PySem.W.Frag} {mg : Str → Option Value} {base : Heap} {CF CO CS aA aU f : Addr} {fd : FuncData}
theorem ok_change (F : Fun K "change" "change" s_change f fd) (T : Txt K mg CF CO CS aA aU) (o_Session_add_unit : OwnM P w K mg base CS "add_unit" 1 ["self"] (spAddUnit CF CS)) (o_Session_add_fact : OwnM P w K mg base CS "add_fact" 5 ["self", "kind", "first", "second", "third"] (spAddFact CF CS))
    (o_Session_retract : OwnM P w K mg base CS "retract" 2 ["self", "fact"] (spRetract CF CS)) : FnOk P w K mg base CX0 6 f fd ["session", "call", "numbers"] (spChange CF CS) := by
  refine F.ok sc_change (fun vs H Q E h => ?_) (fun cdv A outer s H vs Q E hr h => ?_)
  · obtain ⟨a, rfl, _⟩ := h
    rfl
  · obtain ⟨⟨⟨r, fl, s⟩, v, c⟩, rfl, ⟨S, O, hl, hf, h6⟩, k⟩ := h
    have S : SesAt CF CS H r fl s := S
    have O : SesOk s := O
    have hl : LR Rint (numC c) v H := hl
    have hf : faultM s c = none := hf
    have h6 : opC c ≤ 6 := h6
    have k : ∀ u H', FrS fl H H' → SesPost CF CS r fl (replyM s c) u H' → Q u H' := k
    obtain ⟨g1, g2, g3⟩ := fault_none hf
    refine ⟨_, (pss_cons (ps_if (pt_cmpR op_eq (pv 1) pe_int (nomark _)) (pss_one (ps_ret (pe_ownM0 o_Session_add_unit (hr.mono (by decide)) (pv 0)))) pss_nil)
      (pss_cons (ps_if (pt_cmpR op_in_seq (pv 1) (pe_tup (pa_cons (pe_gint T.g_ABOVE rfl) (pa_cons (pe_gint T.g_SAME rfl) pa_nil))) rfl) (pss_one (ps_ret (pe_ownM o_Session_add_fact (hr.mono (by decide)) (pv 0) (pa_cons (pv 1) (pa_cons (pe_ix ix_list (pv 2) pe_int (fun _ _ => rfl)) (pa_cons (pe_ix ix_list (pv 2) pe_int (fun _ _ => rfl)) (pa_cons pe_int pa_nil))))))) pss_nil)
      (pss_cons (ps_if (pt_cmpR op_in_seq (pv 1) (pe_tup (pa_cons pe_int (pa_cons pe_int pa_nil))) rfl) (pss_one (ps_ret (pe_ownM o_Session_add_fact (hr.mono (by decide)) (pv 0) (pa_cons (pv 1) (pa_cons (pe_ix ix_list (pv 2) pe_int (fun _ _ => rfl)) (pa_cons (pe_ix ix_list (pv 2) pe_int (fun _ _ => rfl)) (pa_cons (pe_ix ix_list (pv 2) pe_int (fun _ _ => rfl)) pa_nil))))))) pss_nil)
      (pss_one (ps_ret (pe_ownM o_Session_retract (hr.mono (by decide)) (pv 0) (pa_cons (pe_ix ix_list (pe_fld (pv 0) rfl) (pe_op op_sub (pe_ix ix_list (pv 2) pe_int (fun _ _ => rfl)) pe_int) (fun _ _ => rfl)) pa_nil))))))), ?_⟩
    obtain ⟨dx, hr0, _⟩ := id S
    have no : ∀ (n : Int) (te : TE) (tz : TS) (D : Ends), opC c ≠ n → (∀ H1, Ex H H1 → tz D [some (.ref r), some (.int (opC c)), some v] H1) → tSeq (tIfS (tTest (tOp rEq (tVar 1) (tC (.int n)))) (tRet te) tNext) tz D [some (.ref r), some (.int (opC c)), some v] H := fun n te tz D hn kk =>
      q_when (b := false) (et_is (t_eqI (ev_var rfl) ev_c) (decide_eq_false hn)) (fun z => nomatch z) fun _ H1 e1 => kk H1 e1
    have no2 : ∀ (x y : Int) (te : TE) (tz : TS) (D : Ends) (H1 : Hp), inV (.int (opC c)) [.int x, .int y] = false → (∀ H2, Ex H1 H2 → tz D [some (.ref r), some (.int (opC c)), some v] H2) → tSeq (tIfS (tTest (tOp (rIn K false) (tVar 1) (tTup (tCons (tC (.int x)) (tCons (tC (.int y)) tNil))))) (tRet te) tNext) tz D [some (.ref r), some (.int (opC c)), some v] H1 := fun x y te tz D H1 h kk =>
      q_when (t_in2 rfl h) (fun z => nomatch z) fun _ H2 e2 => kk H2 e2
    have af : ∀ (fc : Fact) (H2 : Hp) (t3 : TE), Ex H H2 → opC c = fK fc → (numC c)[0]? = some (f1 fc) → (numC c)[1]? = some (f2 fc) → Ev t3 [some (.ref r), some (.int (opC c)), some v] H2 (.int (f3 fc)) → VFact s.units fc → replyM s c = addFactM s fc → tRet (tMeth CS "add_fact" (spAddFact CF CS) [] E0 (tVar 0) (tCons (tVar 1) (tCons (tOp (rIxL K) (tVar 2) (tC (.int 0))) (tCons (tOp (rIxL K) (tVar 2) (tC (.int 1))) (tCons t3 tNil))))) { nx := fun _ H' => Q .non H', rt := Q } [some (.ref r), some (.int (opC c)), some v] H2 := fun fc H2 t3 e2 hk h0 h1 h3 hv he =>
      r_meth (⟨⟨r, fl, s⟩, fc⟩ : FA) (ev_var rfl) (e2 _ _ hr0) (ses_no ns_add_fact.1 ns_add_fact.2) (ea_cons (ev_var rfl) (ea_cons (ev_num (i := 0) rfl (hl.ex (keep := nlK) rob_int e2) h0) (ea_cons (ev_num (i := 1) rfl (hl.ex (keep := nlK) rob_int e2) h1) (ea_cons h3 ea_nil)))) (by rw [hk]) (fun H3 e3 => ⟨S.ex (e2.trans e3), O, hv⟩) fun u H' fr p => k u H' ((FrS.ex e2).trans fr) (by rw [he]; exact p)
    cases c with
    | addUnit =>
      refine q_when (b := true) (et_is (t_eqI (ev_var rfl) ev_c) rfl) (fun _ H1 e1 => ?_) (fun z => nomatch z)
      exact r_meth (⟨r, fl, s⟩ : SA) (ev_var rfl) (e1 _ _ hr0) (ses_no ns_add_unit.1 ns_add_unit.2) ea_nil rfl (fun H2 e2 => S.ex (e1.trans e2)) fun u H' fr p => k u H' ((FrS.ex e1).trans fr) p
    | addAbove a b => exact no 1 _ _ _ (by show (2 : Int) ≠ 1; decide) fun H1 e1 => q_when (t_in2 rfl rfl) (fun _ H2 e2 => af (.above a b) H2 _ (e1.trans e2) rfl rfl rfl ev_c ⟨below_mem g2 (by simp [unitsOf]), below_mem g2 (by simp [unitsOf])⟩ rfl) (fun z => nomatch z)
    | addSame a b => exact no 1 _ _ _ (by show (3 : Int) ≠ 1; decide) fun H1 e1 => q_when (t_in2 rfl rfl) (fun _ H2 e2 => af (.same a b) H2 _ (e1.trans e2) rfl rfl rfl ev_c ⟨below_mem g2 (by simp [unitsOf]), below_mem g2 (by simp [unitsOf])⟩ rfl) (fun z => nomatch z)
    | addFind u x y => exact no 1 _ _ _ (by show (4 : Int) ≠ 1; decide) fun H1 e1 => no2 _ _ _ _ _ _ rfl fun H2 e2 => q_when (t_in2 rfl rfl) (fun _ H3 e3 => af (.find u x y) H3 _ (e1.trans (e2.trans e3)) rfl rfl rfl (ev_num (i := 2) rfl (hl.ex (keep := nlK) rob_int (e1.trans (e2.trans e3))) rfl) ⟨below_mem g2 (by simp [unitsOf]), right_years g1 rfl⟩ rfl) (fun z => nomatch z)
    | addDate u x y => exact no 1 _ _ _ (by show (5 : Int) ≠ 1; decide) fun H1 e1 => no2 _ _ _ _ _ _ rfl fun H2 e2 => q_when (t_in2 rfl rfl) (fun _ H3 e3 => af (.date u x y) H3 _ (e1.trans (e2.trans e3)) rfl rfl rfl (ev_num (i := 2) rfl (hl.ex (keep := nlK) rob_int (e1.trans (e2.trans e3))) rfl) ⟨below_mem g2 (by simp [unitsOf]), right_years g1 rfl⟩ rfl) (fun z => nomatch z)
    | retract i =>
      refine no 1 _ _ _ (by show (6 : Int) ≠ 1; decide) fun H1 e1 => no2 _ _ _ _ _ _ rfl fun H2 e2 => no2 _ _ _ _ _ _ rfl fun H3 e3 => ?_
      have e03 := e1.trans (e2.trans e3)
      have hi1 := right_pos (i := i) g1 rfl
      obtain ⟨fc, he⟩ := fact_there O hi1 g3
      have S3 := S.ex e03
      refine r_meth1 (ev_var rfl) (e03 _ _ hr0) (ses_no ns_retract.1 ns_retract.2) (er_ent T S3 (ev_var rfl) (ev_is (ev_op2 (g := fun i j => .int (i - j)) (ev_num (i := 0) (x := (i : Int)) rfl (hl.ex (keep := nlK) rob_int e03) rfl) ev_c) (show V.int ((i : Int) - 1) = .int ((i - 1 : Nat) : Int) by congr 1; omega)) he) fun v6 H6 e6 r6 => ?_
      obtain ⟨a, rfl, fa, ws, hws, hw⟩ := r6
      refine ⟨(⟨⟨r, fl, s⟩, i - 1, fc, true, a⟩ : RA), rfl, ⟨S3.ex e6, O, he, ws, hws, hw⟩, fun u H' fr p => k u H' ((FrS.ex (e03.trans e6)).trans fr) ?_⟩
      show SesPost CF CS r fl (match s.ents[i - 1]? with | some e => retractM s (i - 1) e.2.1 | none => (s, [])) u H'
      rw [he]
      exact p
    | _ => exact absurd h6 (by simp [opC])
end
/-! ### about units, about all -/
def spAU (CF CS : Addr) : Sp := spP (α := CA) (fun a => [.ref a.r, .int (opC a.c), a.v]) (fun a H => SesAt CF CS H a.r a.fl a.s ∧ SesOk a.s ∧ LR Rint (numC a.c) a.v H ∧ belowAll a.s.units a.c = true ∧ (opC a.c = 7 ∨ opC a.c = 8 ∨ opC a.c = 10 ∨ opC a.c = 11 ∨ opC a.c = 15)) (fun a v H => LR Rint (tellM a.s a.c) v H)
def spAA (CF CS : Addr) : Sp := spP (α := CA) (fun a => [.ref a.r, .int (opC a.c)]) (fun a H => SesAt CF CS H a.r a.fl a.s ∧ SesOk a.s ∧ (opC a.c = 12 ∨ opC a.c = 13 ∨ opC a.c = 14 ∨ opC a.c = 17 ∨ opC a.c = 18)) (fun a v H => LR Rint (tellM a.s a.c) v H)
theorem firstSeqOf_len (an : Stratigraphy.Analysis) : ∀ (n : Nat) (l : List Nat), (Stratigraphy.firstSequenceOf an n l).length ≤ n
  | 0, l => Nat.le_refl 0
  | n + 1, l => by
    unfold Stratigraphy.firstSequenceOf
    split
    · have := firstSeqOf_len an n
      rename_i stratum _
      have := this (l.filter fun (other : Nat) => other != stratum)
      rw [List.length_cons]
      omega
    · exact Nat.zero_le _
theorem harris_len {n : Nat} {es : List (Nat × Fact)} (G : Good n es) : (anl n es).harrisMatrix.length ≤ 144 := by
  have s12 := (strata_ok G).2
  have := flatMap_len 12 (pairsG (anl n es).strata (hCond n es (anl n es).strata)) (fun c => pairsG_len s12 _ c) (anl n es).strata
  have e : (anl n es).harrisMatrix = (anl n es).strata.flatMap (pairsG (anl n es).strata (hCond n es (anl n es).strata)) := rfl
  rw [e]
  omega
theorem nf_ea : NoF "earlier_answer" := ⟨by decide +kernel, by decide +kernel, by decide +kernel⟩
theorem nf_sy : NoF "same_year_answer" := ⟨by decide +kernel, by decide +kernel, by decide +kernel⟩
abbrev sHar (CF CO : Addr) (P : Program) (w : World) : Sp := spO0 CF CO P w fun n es v H => LR Rpr (anl n es).harrisMatrix v H
abbrev sFir (CF CO : Addr) (P : Program) (w : World) : Sp := spO0 CF CO P w fun n es v H => LR Rnat (Stratigraphy.firstSequenceOf (anl n es) (anl n es).strata.length (anl n es).strata) v H
abbrev s_about_units : Stmt := topS 68
theorem sc_about_units : FnScope ["session", "call", "numbers", "order"] ["session", "call", "numbers"] (defScope s_about_units) := ⟨rfl, rfl, rfl, by decide +kernel, rfl, by decide +kernel, by decide +kernel⟩
abbrev s_about_all : Stmt := topS 69
theorem sc_about_all : FnScope ["session", "call", "sequence"] ["session", "call"] (defScope s_about_all) := ⟨rfl, rfl, rfl, by decide +kernel, rfl, by decide +kernel, by decide +kernel⟩
section
variable {P : Program} {w : World} {K : PySem.W.Frag} {mg : Str → Option Value} {base : Heap} {CF CO CS aA aU f : Addr} {fd : FuncData}
theorem ok_about_units (F : Fun K "about_units" "about_units" s_about_units f fd) (T : Txt K mg CF CO CS aA aU) (o_Session_order : OwnM P w K mg base CS "order" 7 ["self"] (sOrder CF CO CS P w)) (o_Order_earlier_answer : OwnM P w K mg base CO "earlier_answer" 3 ["self", "one", "other"] (spO2 CF CO P w (PI2 earlierA)))
    (o_Order_earliest : OwnM P w K mg base CO "earliest" 3 ["self", "unit"] (spO1 CF CO P w (PI1 earlyOf))) (o_Order_latest : OwnM P w K mg base CO "latest" 3 ["self", "unit"] (spO1 CF CO P w (PI1 lateOf))) (o_Order_stratum : OwnM P w K mg base CO "stratum" 2 ["self", "unit"] (spO1 CF CO P w (PI1 fun an u => (an.stratumOf u : Nat))))
    (o_Order_same_year_answer : OwnM P w K mg base CO "same_year_answer" 4 ["self", "one", "other"] (spO2 CF CO P w (PI2 fun an => an.sameYear))) (o_position_range : Own P w K mg base "position_range" 4 ["order", "unit"] (sPos CF CO P w)) : FnOk P w K mg base CX0 8 f fd ["session", "call", "numbers"] (spAU CF CS) := by
  refine F.ok sc_about_units (fun vs H Q E h => ?_) (fun cdv A outer s H vs Q E hr h => ?_)
  · obtain ⟨a, rfl, _⟩ := h
    rfl
  · obtain ⟨⟨⟨r, fl, s⟩, v, c⟩, rfl, ⟨S, O, hl, hb, hc⟩, k⟩ := h
    have S : SesAt CF CS H r fl s := S
    have O : SesOk s := O
    have G := O.good
    have hl : LR Rint (numC c) v H := hl
    have hb : belowAll s.units c = true := hb
    have hc : opC c = 7 ∨ opC c = 8 ∨ opC c = 10 ∨ opC c = 11 ∨ opC c = 15 := hc
    have k : ∀ u H', Ex H H' → LR Rint (tellM s c) u H' → Q u H' := k
    refine ⟨_, (pss_cons (ps_set (i := 3) sc_about_units.nd rfl (.inl rfl) (pe_ownM0 o_Session_order (hr.mono (by decide)) (pv 0)))
      (pss_cons (ps_if (pt_cmpR op_eq (pv 1) pe_int (nomark _)) (pss_one (ps_ret (pe_lst (pa_cons pe_int (pa_cons (pe_ownM o_Order_earlier_answer (hr.mono (by decide)) (pv 3) (pa_cons (pe_ix ix_list (pv 2) pe_int (fun _ _ => rfl)) (pa_cons (pe_ix ix_list (pv 2) pe_int (fun _ _ => rfl)) pa_nil))) pa_nil))))) pss_nil)
      (pss_cons (ps_if (pt_cmpR op_eq (pv 1) pe_int (nomark _)) (pss_one (ps_ret (pe_lst (pa_cons pe_int (pa_cons (pe_ownM o_Order_earliest (hr.mono (by decide)) (pv 3) (pa_cons (pe_ix ix_list (pv 2) pe_int (fun _ _ => rfl)) pa_nil)) (pa_cons (pe_ownM o_Order_latest (hr.mono (by decide)) (pv 3) (pa_cons (pe_ix ix_list (pv 2) pe_int (fun _ _ => rfl)) pa_nil)) pa_nil)))))) pss_nil)
      (pss_cons (ps_if (pt_cmpR op_eq (pv 1) pe_int (nomark _)) (pss_one (ps_ret (pe_lst (pa_cons pe_int (pa_cons (pe_ownM o_Order_stratum (hr.mono (by decide)) (pv 3) (pa_cons (pe_ix ix_list (pv 2) pe_int (fun _ _ => rfl)) pa_nil)) pa_nil))))) pss_nil)
      (pss_cons (ps_if (pt_cmpR op_eq (pv 1) pe_int (nomark _)) (pss_one (ps_ret (pe_op op_cat (pe_lst (pa_cons pe_int pa_nil)) (pe_own o_position_range (hr.mono (by decide)) rfl (pa_cons (pv 3) (pa_cons (pe_ix ix_list (pv 2) pe_int (fun _ _ => rfl)) pa_nil)))))) pss_nil)
      (pss_one (ps_ret (pe_lst (pa_cons pe_int (pa_cons (pe_ownM o_Order_same_year_answer (hr.mono (by decide)) (pv 3) (pa_cons (pe_ix ix_list (pv 2) pe_int (fun _ _ => rfl)) (pa_cons (pe_ix ix_list (pv 2) pe_int (fun _ _ => rfl)) pa_nil))) pa_nil)))))))))), ?_⟩
    refine q_asgR (er_s0 (post := fun s v H => Rord CF CO P w s.units (act s.ents) v H) O ns_order S (ev_var rfl)) fun v3 H1 e1 r1 => ?_
    obtain ⟨ro, rfl, Or1⟩ := r1
    have hl1 := hl.ex (keep := nlK) rob_int e1
    have no : ∀ (n : Int) (te : TE) (tz : TS) (D : Ends) (H2 : Hp), opC c ≠ n → (∀ H3, Ex H2 H3 → tz D [some (.ref r), some (.int (opC c)), some v, some (.ref ro)] H3) → tSeq (tIfS (tTest (tOp rEq (tVar 1) (tC (.int n)))) (tRet te) tNext) tz D [some (.ref r), some (.int (opC c)), some v, some (.ref ro)] H2 := fun n te tz D H2 hn kk =>
      q_when (b := false) (et_is (t_eqI (ev_var rfl) ev_c) (decide_eq_false hn)) (fun z => nomatch z) fun _ H3 e3 => kk H3 e3
    have yes : ∀ (n : Int) (te : TE) (tz : TS) (D : Ends) (H2 : Hp) (R : V → Hp → Prop), opC c = n → EvR te [some (.ref r), some (.int (opC c)), some v, some (.ref ro)] H2 R → (∀ u H3, Ex H2 H3 → R u H3 → D.rt u H3) → tSeq (tIfS (tTest (tOp rEq (tVar 1) (tC (.int n)))) (tRet te) tNext) tz D [some (.ref r), some (.int (opC c)), some v, some (.ref ro)] H2 := fun n te tz D H2 R hn h kk =>
      q_ifRetR (R := R) (b := true) (et_is (t_eqI (ev_var rfl) ev_c) (decide_eq_true hn)) (fun _ => h) (fun _ u H3 e3 q => kk u H3 e3 q) (fun z => nomatch z)
    have OO : ∀ H2, Ex H1 H2 → OrdAt CF CO P w H2 ro s.units (act s.ents) := fun H2 e => Or1.ex e
    have nm : ∀ (i : Nat) (x : Int) (H2 : Hp), Ex H1 H2 → (numC c)[i]? = some x → Ev (tOp (rIxL K) (tVar 2) (tC (.int (i : Nat)))) [some (.ref r), some (.int (opC c)), some v, some (.ref ro)] H2 (.int x) := fun i x H2 e h => ev_num rfl (hl1.ex (keep := nlK) rob_int e) h
    cases c with
    | isEarlier a b =>
      have ha : a < s.units := below_mem hb (by simp [unitsOf])
      have hb' : b < s.units := below_mem hb (by simp [unitsOf])
      exact yes 7 _ _ _ _ (LR Rint [0, earlierA (anS s) a b]) rfl (er_ints (ea_cons ev_c (ea_cons (ev_of (er_o2 (post := PI2 earlierA) G nf_ea (er_ord rfl Or1) (nm 0 _ _ (Ex.refl _) rfl) (nm 1 _ _ (Ex.refl _) rfl) ha hb')) ea_nil)) (by show 2 ≤ 100000; decide)) fun u H3 e3 q => k u H3 (e1.trans e3) q
    | yearRange a =>
      have ha : a < s.units := below_mem hb (by simp [unitsOf])
      exact no 7 _ _ _ _ (by show (8 : Int) ≠ 7; decide) fun H2 e2 => yes 8 _ _ _ _ (LR Rint [0, earlyOf (anS s) a, lateOf (anS s) a]) rfl (er_ints (ea_cons ev_c (ea_cons (ev_of (er_o1 (post := PI1 earlyOf) G nf_earliest (er_ord rfl (OO _ e2)) (nm 0 _ _ e2 rfl) ha)) (ea_cons (ev_of (er_o1 (post := PI1 lateOf) G nf_latest (er_ord rfl (OO _ e2)) (nm 0 _ _ e2 rfl) ha)) ea_nil))) (by show 3 ≤ 100000; decide)) fun u H3 e3 q => k u H3 (e1.trans (e2.trans e3)) q
    | stratum a =>
      have ha : a < s.units := below_mem hb (by simp [unitsOf])
      exact no 7 _ _ _ _ (by show (10 : Int) ≠ 7; decide) fun H2 e2 => no 8 _ _ _ _ (by show (10 : Int) ≠ 8; decide) fun H3 e3 => yes 10 _ _ _ _ (LR Rint [0, ((anS s).stratumOf a : Nat)]) rfl (er_ints (ea_cons ev_c (ea_cons (ev_of (er_o1 (post := PI1 fun an u => (an.stratumOf u : Nat)) G nf_stratum (er_ord rfl (OO _ (e2.trans e3))) (nm 0 _ _ (e2.trans e3) rfl) ha)) ea_nil)) (by show 2 ≤ 100000; decide)) fun u H4 e4 q => k u H4 (e1.trans (e2.trans (e3.trans e4))) q
    | positionRange a =>
      have ha : a < s.units := below_mem hb (by simp [unitsOf])
      exact no 7 _ _ _ _ (by show (11 : Int) ≠ 7; decide) fun H2 e2 => no 8 _ _ _ _ (by show (11 : Int) ≠ 8; decide) fun H3 e3 => no 10 _ _ _ _ (by show (11 : Int) ≠ 10; decide) fun H4 e4 => yes 11 _ _ _ _ (LR Rint (0 :: encN (posM (anS s) a))) rfl
        (er_cat (bs := [0]) (cs := encN (posM (anS s) a)) rob_int (by show 1 + 2 ≤ 100000; decide) (er_ints (ea_cons ev_c ea_nil) (by show 1 ≤ 100000; decide)) ((er_f1 (post := fun n es u v H => LR Rnat [(befores n es (anl n es).strata u).length, (anl n es).strata.length - 1 - (afters n es (anl n es).strata u).length] v H) G (er_ord rfl (OO _ (e2.trans (e3.trans e4)))) (nm 0 _ _ (e2.trans (e3.trans e4)) rfl) ha).weak fun v H' e h => lr_nat_int h)) fun u H5 e5 q => k u H5 (e1.trans (e2.trans (e3.trans (e4.trans e5)))) q
    | sameYear a b =>
      have ha : a < s.units := below_mem hb (by simp [unitsOf])
      have hb' : b < s.units := below_mem hb (by simp [unitsOf])
      refine no 7 _ _ _ _ (by show (15 : Int) ≠ 7; decide) fun H2 e2 => no 8 _ _ _ _ (by show (15 : Int) ≠ 8; decide) fun H3 e3 => no 10 _ _ _ _ (by show (15 : Int) ≠ 10; decide) fun H4 e4 => no 11 _ _ _ _ (by show (15 : Int) ≠ 11; decide) fun H5 e5 => ?_
      have e15 := e2.trans (e3.trans (e4.trans e5))
      exact s_retR (R := LR Rint [0, (anS s).sameYear a b]) (er_ints (ea_cons ev_c (ea_cons (ev_of (er_o2 (post := PI2 fun an => an.sameYear) G nf_sy (er_ord rfl (OO _ e15)) (nm 0 _ _ e15 rfl) (nm 1 _ _ e15 rfl) ha hb')) ea_nil)) (by show 2 ≤ 100000; decide)) fun u H6 e6 q => k u H6 (e1.trans (e15.trans e6)) q
    | _ => exact absurd hc (by simp [opC])
theorem ok_about_all (F : Fun K "about_all" "about_all" s_about_all f fd) (T : Txt K mg CF CO CS aA aU) (o_Session_order : OwnM P w K mg base CS "order" 7 ["self"] (sOrder CF CO CS P w)) (o_harris_pairs : Own P w K mg base "harris_pairs" 4 ["order"] (sHar CF CO P w)) (o_told_pairs : Own P w K mg base "told_pairs" 1 ["pairs"] spTold)
    (o_first_sequence : Own P w K mg base "first_sequence" 4 ["order"] (sFir CF CO P w)) (o_count_sequences : Own P w K mg base "count_sequences" 4 ["order"] (sCnt CF CO P w)) (o_ask : Own P w K mg base "ask" 8 ["session"] (sAsk CF CS)) (o_list_facts : Own P w K mg base "list_facts" 2 ["session"] (sList CF CS)) :
    FnOk P w K mg base CX0 9 f fd ["session", "call"] (spAA CF CS) := by
  refine F.ok sc_about_all (fun vs H Q E h => ?_) (fun cdv A outer s H vs Q E hr h => ?_)
  · obtain ⟨a, rfl, _⟩ := h
    rfl
  · obtain ⟨⟨⟨r, fl, s⟩, v, c⟩, rfl, ⟨S, O, hc⟩, k⟩ := h
    have S : SesAt CF CS H r fl s := S
    have O : SesOk s := O
    have G := O.good
    have hc : opC c = 12 ∨ opC c = 13 ∨ opC c = 14 ∨ opC c = 17 ∨ opC c = 18 := hc
    have k : ∀ u H', Ex H H' → LR Rint (tellM s c) u H' → Q u H' := k
    refine ⟨_, (pss_cons (ps_if (pt_cmpR op_eq (pv 1) pe_int (nomark _)) (pss_one (ps_ret (pe_own o_told_pairs (hr.mono (by decide)) rfl (pa_cons (pe_own o_harris_pairs (hr.mono (by decide)) rfl (pa_cons (pe_ownM0 o_Session_order (hr.mono (by decide)) (pv 0)) pa_nil)) pa_nil)))) pss_nil)
      (pss_cons (ps_if (pt_cmpR op_eq (pv 1) pe_int (nomark _)) (pss_cons (ps_set (i := 2) sc_about_all.nd rfl (.inl rfl) (pe_own o_first_sequence (hr.mono (by decide)) rfl (pa_cons (pe_ownM0 o_Session_order (hr.mono (by decide)) (pv 0)) pa_nil)))
      (pss_one (ps_ret (pe_op op_cat (pe_lst (pa_cons pe_int (pa_cons (pe_callB call_len_seq (by rfl) T.len PySem.boot_len (pa_cons (pv 2) pa_nil)) pa_nil))) (pv 2))))) pss_nil)
      (pss_cons (ps_if (pt_cmpR op_eq (pv 1) pe_int (nomark _)) (pss_one (ps_ret (pe_lst (pa_cons pe_int (pa_cons (pe_own o_count_sequences (hr.mono (by decide)) rfl (pa_cons (pe_ownM0 o_Session_order (hr.mono (by decide)) (pv 0)) pa_nil)) pa_nil))))) pss_nil)
      (pss_one (ps_ret (pe_ifExp (pt_cmpR op_eq (pv 1) pe_int (nomark _)) (pe_own o_ask (hr.mono (by decide)) rfl (pa_cons (pv 0) pa_nil)) (pe_own o_list_facts (hr.mono (by decide)) rfl (pa_cons (pv 0) pa_nil)))))))), ?_⟩
    have no : ∀ (n : Int) (tw tz : TS) (D : Ends) (H2 : Hp), opC c ≠ n → (∀ H3, Ex H2 H3 → tz D [some (.ref r), some (.int (opC c)), none] H3) → tSeq (tIfS (tTest (tOp rEq (tVar 1) (tC (.int n)))) tw tNext) tz D [some (.ref r), some (.int (opC c)), none] H2 := fun n tw tz D H2 hn kk =>
      q_when (b := false) (et_is (t_eqI (ev_var rfl) ev_c) (decide_eq_false hn)) (fun z => nomatch z) fun _ H3 e3 => kk H3 e3
    have ord : ∀ (σ : St) H2, σ[0]? = some (some (.ref r)) → Ex H H2 → EvR (tMeth CS "order" (sOrder CF CO CS P w) [] E0 (tVar 0) tNil) σ H2 (Rord CF CO P w s.units (act s.ents)) := fun σ H2 h e => er_s0 (post := fun s v H => Rord CF CO P w s.units (act s.ents) v H) O ns_order (S.ex e) (ev_var h)
    cases c with
    | harrisMatrix =>
      have hh : (anS s).harrisMatrix.length ≤ 144 := harris_len G
      refine q_ifRetR (R := LR Rint (pairsM (anS s).harrisMatrix)) (b := true) (et_is (t_eqI (ev_var rfl) ev_c) rfl) (fun _ => er_call (ear_1 (er_f0 (post := fun n es v H => LR Rpr (anl n es).harrisMatrix v H) G (ord _ _ rfl (Ex.refl _)))) fun us H1 e1 z => ?_) (fun _ u H1 e1 q => k u H1 e1 q) (fun z => nomatch z)
      obtain ⟨v, rfl, hv⟩ := z
      exact ⟨(v, (anS s).harrisMatrix), rfl, ⟨hv, by show (anS s).harrisMatrix.length ≤ 1000; omega⟩, fun v H2 e2 h => h⟩
    | firstSequence =>
      have s12 : (anS s).strata.length ≤ 12 := (strata_ok G).2
      have hh := firstSeqOf_len (anS s) (anS s).strata.length (anS s).strata
      refine no 12 _ _ _ _ (by show (13 : Int) ≠ 12; decide) fun H1 e1 => q_when (b := true) (et_is (t_eqI (ev_var rfl) ev_c) rfl) (fun _ H2 e2 => ?_) (fun z => nomatch z)
      refine q_asgR (er_f0 (post := fun n es v H => LR Rnat (Stratigraphy.firstSequenceOf (anl n es) (anl n es).strata.length (anl n es).strata) v H) G (ord _ _ rfl (e1.trans e2))) fun v2 H3 e3 r3 => ?_
      generalize hseq : Stratigraphy.firstSequenceOf (anl s.units (act s.ents)) (anl s.units (act s.ents)).strata.length (anl s.units (act s.ents)).strata = sq at r3 hh
      refine s_retR (R := LR Rint (0 :: (sq.length : Int) :: encN sq)) (er_cat (bs := [0, (sq.length : Int)]) (cs := encN sq) rob_int (by unfold encN; rw [List.length_map]; show 2 + sq.length ≤ 100000; omega) (er_ints (ea_cons ev_c (ea_cons (ev_lenR (er_lrn rfl r3)) ea_nil)) (by show 2 ≤ 100000; decide)) ((er_lrn rfl r3).weak fun v H' e h => lr_nat_int h)) fun u H4 e4 q => k u H4 (e1.trans (e2.trans (e3.trans e4))) ?_
      show LR Rint (0 :: ((Stratigraphy.firstSequenceOf (anl s.units (act s.ents)) (anl s.units (act s.ents)).strata.length (anl s.units (act s.ents)).strata).length : Int) :: encN (Stratigraphy.firstSequenceOf (anl s.units (act s.ents)) (anl s.units (act s.ents)).strata.length (anl s.units (act s.ents)).strata)) u H4
      rw [hseq]
      exact q
    | countSequences =>
      refine no 12 _ _ _ _ (by show (14 : Int) ≠ 12; decide) fun H1 e1 => no 13 _ _ _ _ (by show (14 : Int) ≠ 13; decide) fun H2 e2 => q_ifRetR (R := LR Rint [0, ((Stratigraphy.countSequences (anS s) : Nat) : Int)]) (b := true) (et_is (t_eqI (ev_var rfl) ev_c) rfl) (fun _ => er_ints (ea_cons ev_c (ea_cons (ev_of (er_f0 (post := fun n es v _ => v = .int ((Stratigraphy.countSequences (anl n es) : Nat) : Int)) G (ord _ _ rfl (e1.trans e2)))) ea_nil)) (by show 2 ≤ 100000; decide)) (fun _ u H3 e3 q => k u H3 (e1.trans (e2.trans e3)) q) (fun z => nomatch z)
    | bestQuestion =>
      refine no 12 _ _ _ _ (by show (17 : Int) ≠ 12; decide) fun H1 e1 => no 13 _ _ _ _ (by show (17 : Int) ≠ 13; decide) fun H2 e2 => no 14 _ _ _ _ (by show (17 : Int) ≠ 14; decide) fun H3 e3 => ?_
      have e03 := e1.trans (e2.trans e3)
      exact s_retR (R := LR Rint (askM s)) (er_if (b := true) (et_is (t_eqI (ev_var rfl) ev_c) rfl) (fun _ => er_fs0 (post := fun s v H => LR Rint (askM s) v H) O (S.ex e03) (ev_var rfl)) (fun z => nomatch z)) fun u H4 e4 q => k u H4 (e03.trans e4) q
    | listFacts =>
      refine no 12 _ _ _ _ (by show (18 : Int) ≠ 12; decide) fun H1 e1 => no 13 _ _ _ _ (by show (18 : Int) ≠ 13; decide) fun H2 e2 => no 14 _ _ _ _ (by show (18 : Int) ≠ 14; decide) fun H3 e3 => ?_
      have e03 := e1.trans (e2.trans e3)
      exact s_retR (R := LR Rint (listM s)) (er_if (b := false) (et_is (t_eqI (ev_var rfl) ev_c) rfl) (fun z => nomatch z) (fun _ => er_fs0 (post := fun s v H => LR Rint (listM s) v H) O (S.ex e03) (ev_var rfl))) fun u H4 e4 q => k u H4 (e03.trans e4) q
    | _ => exact absurd hc (by simp [opC])
end
/-! ### answer -/
def spAnswer (CF CS : Addr) : Sp := spImp (α := CA) (fun a => [.ref a.r, .int (opC a.c), a.v]) (fun a => a.fl) (fun a H => SesAt CF CS H a.r a.fl a.s ∧ SesOk a.s ∧ LR Rint (numC a.c) a.v H) (fun a v H => SesPost CF CS a.r a.fl (totalM a.s a.c) v H)
abbrev s_answer : Stmt := topS 70
theorem sc_answer : FnScope ["session", "call", "numbers", "fault"] ["session", "call", "numbers"] (defScope s_answer) := ⟨rfl, rfl, rfl, by decide +kernel, rfl, by decide +kernel, by decide +kernel⟩
section
variable {P : Program} {w : World} {K : PySem.W.Frag} {mg : Str → Option Value} {base : Heap} {CF CO CS aA aU f : Addr} {fd : FuncData}
theorem ok_answer (F : Fun K "answer" "answer" s_answer f fd) (T : Txt K mg CF CO CS aA aU) (o_fault_of : Own P w K mg base "fault_of" 3 ["session", "call", "numbers"] (spFault CF CS)) (o_change : Own P w K mg base "change" 6 ["session", "call", "numbers"] (spChange CF CS)) (o_about_units : Own P w K mg base "about_units" 8 ["session", "call", "numbers"] (spAU CF CS))
    (o_find_year_range : Own P w K mg base "find_year_range" 8 ["session", "number"] (spFyr CF CS)) (o_explain : Own P w K mg base "explain" 5 ["session", "one", "other"] (spExp CF CS)) (o_about_all : Own P w K mg base "about_all" 9 ["session", "call"] (spAA CF CS)) : FnOk P w K mg base CX0 10 f fd ["session", "call", "numbers"] (spAnswer CF CS) := by
  refine F.ok sc_answer (fun vs H Q E h => ?_) (fun cdv A outer s H vs Q E hr h => ?_)
  · obtain ⟨a, rfl, _⟩ := h
    rfl
  · obtain ⟨⟨⟨r, fl, s⟩, v, c⟩, rfl, ⟨S, O, hl⟩, k⟩ := h
    have S : SesAt CF CS H r fl s := S
    have O : SesOk s := O
    have hl : LR Rint (numC c) v H := hl
    have k : ∀ u H', FrS fl H H' → SesPost CF CS r fl (totalM s c) u H' → Q u H' := k
    refine ⟨_, (pss_cons (ps_set (i := 3) sc_answer.nd rfl (.inl rfl) (pe_own o_fault_of (hr.mono (by decide)) rfl (pa_cons (pv 0) (pa_cons (pv 1) (pa_cons (pv 2) pa_nil)))))
      (pss_cons (ps_if (pt_cmpR op_notN (pv 3) pe_non (nomark _)) (pss_one (ps_ret (pe_lst (pa_cons (pv 3) pa_nil)))) pss_nil)
      (pss_cons (ps_if (pt_cmpR op_le (pv 1) pe_int (nomark _)) (pss_one (ps_ret (pe_own o_change (hr.mono (by decide)) rfl (pa_cons (pv 0) (pa_cons (pv 1) (pa_cons (pv 2) pa_nil)))))) pss_nil)
      (pss_cons (ps_if (pt_cmpR op_in_seq (pv 1) (pe_tup (pa_cons pe_int (pa_cons pe_int (pa_cons pe_int (pa_cons pe_int (pa_cons pe_int pa_nil)))))) rfl) (pss_one (ps_ret (pe_own o_about_units (hr.mono (by decide)) rfl (pa_cons (pv 0) (pa_cons (pv 1) (pa_cons (pv 2) pa_nil)))))) pss_nil)
      (pss_cons (ps_if (pt_cmpR op_eq (pv 1) pe_int (nomark _)) (pss_one (ps_ret (pe_own o_find_year_range (hr.mono (by decide)) rfl (pa_cons (pv 0) (pa_cons (pe_ix ix_list (pv 2) pe_int (fun _ _ => rfl)) pa_nil))))) pss_nil)
      (pss_one (ps_ret (pe_ifExp (pt_cmpR op_eq (pv 1) pe_int (nomark _)) (pe_own o_explain (hr.mono (by decide)) rfl (pa_cons (pv 0) (pa_cons (pe_ix ix_list (pv 2) pe_int (fun _ _ => rfl)) (pa_cons (pe_ix ix_list (pv 2) pe_int (fun _ _ => rfl)) pa_nil)))) (pe_own o_about_all (hr.mono (by decide)) rfl (pa_cons (pv 0) (pa_cons (pv 1) pa_nil))))))))))), ?_⟩
    refine q_asgR (R := Roi (faultM s c)) (er_call (ear_is (ea_cons (ev_var rfl) (ea_cons (ev_var rfl) (ea_cons (ev_var rfl) ea_nil)))) fun us H1 e1 z => ⟨(⟨⟨r, fl, s⟩, v, c⟩ : CA), z, ⟨S.ex e1, O, hl.ex (keep := nlK) rob_int e1⟩, fun u H2 e2 h => h⟩) fun v3 H1 e1 r3 => ?_
    have S1 := S.ex e1
    have hl1 := hl.ex (keep := nlK) rob_int e1
    unfold totalM at k
    cases hf : faultM s c with
    | some z =>
      rw [hf] at r3 k
      obtain rfl : v3 = .int z := r3
      exact q_ifRetR (R := LR Rint [z]) (b := true) (t_notNone (ev_var rfl) rfl) (fun _ => er_ints (ea_cons (ev_var rfl) ea_nil) (by show 1 ≤ 100000; decide)) (fun _ u H2 e2 q => k u H2 (.ex (e1.trans e2)) ⟨S1.ex e2, q⟩) (fun z => nomatch z)
    | none =>
      rw [hf] at r3 k
      obtain rfl : v3 = .non := r3
      have k : ∀ u H', FrS fl H1 H' → SesPost CF CS r fl (replyM s c) u H' → Q u H' := fun u H' fr p => k u H' ((FrS.ex e1).trans fr) p
      obtain ⟨g1, g2, g3⟩ := fault_none hf
      refine q_when (b := false) (t_notNone (ev_var rfl) rfl) (fun z => nomatch z) fun _ H2 e2 => ?_
      have S2 := S1.ex e2
      have hl2 := hl1.ex (keep := nlK) rob_int e2
      have k : ∀ u H', FrS fl H2 H' → SesPost CF CS r fl (replyM s c) u H' → Q u H' := fun u H' fr p => k u H' ((FrS.ex e2).trans fr) p
      have chg : opC c ≤ 6 → ∀ tz : TS, tSeq (tIfS (tTest (tOp (rI0 fun i j => .bl (decide (i ≤ j))) (tVar 1) (tC (.int 6)))) (tRet (tCall (spChange CF CS) [] E0 (tCons (tVar 0) (tCons (tVar 1) (tCons (tVar 2) tNil))))) tNext) tz { nx := fun _ H' => Q .non H', rt := Q } [some (.ref r), some (.int (opC c)), some v, some .non] H2 := fun h6 tz =>
        q_when (b := true) (et_is (t_I0 (ev_var rfl) ev_c) (decide_eq_true h6)) (fun _ H3 e3 => r_fun (⟨⟨r, fl, s⟩, v, c⟩ : CA) (ea_cons (ev_var rfl) (ea_cons (ev_var rfl) (ea_cons (ev_var rfl) ea_nil))) rfl (fun H4 e4 => ⟨S2.ex (e3.trans e4), O, hl2.ex (keep := nlK) rob_int (e3.trans e4), hf, h6⟩) fun u H' fr p => k u H' ((FrS.ex e3).trans fr) p) (fun z => nomatch z)
      have skip : ¬ opC c ≤ 6 → ∀ (tw tz : TS) (D : Ends), (∀ H3, Ex H2 H3 → tz D [some (.ref r), some (.int (opC c)), some v, some .non] H3) → tSeq (tIfS (tTest (tOp (rI0 fun i j => .bl (decide (i ≤ j))) (tVar 1) (tC (.int 6)))) tw tNext) tz D [some (.ref r), some (.int (opC c)), some v, some .non] H2 := fun h6 tw tz D kk =>
        q_when (b := false) (et_is (t_I0 (ev_var rfl) ev_c) (decide_eq_false h6)) (fun z => nomatch z) fun _ H3 e3 => kk H3 e3
      have in5 : ∀ (b : Bool) (H3 : Hp), inV (.int (opC c)) [.int 7, .int 8, .int 10, .int 11, .int 15] = b → EvT (tTest (tOp (rIn K false) (tVar 1) (tTup (tCons (tC (.int 7)) (tCons (tC (.int 8)) (tCons (tC (.int 10)) (tCons (tC (.int 11)) (tCons (tC (.int 15)) tNil)))))))) [some (.ref r), some (.int (opC c)), some v, some .non] H3 b := fun b H3 e => et_is (et_test (ev_inU (xs := [.int 7, .int 8, .int 10, .int 11, .int 15]) (ev_var rfl) (eu_tup (ea_cons ev_c (ea_cons ev_c (ea_cons ev_c (ea_cons ev_c (ea_cons ev_c ea_nil))))) (by show 5 ≤ 100000; decide)) rfl rfl)) e
      have au : ∀ H3, Ex H2 H3 → (opC c = 7 ∨ opC c = 8 ∨ opC c = 10 ∨ opC c = 11 ∨ opC c = 15) → replyM s c = (s, tellM s c) → EvR (tCall (spAU CF CS) [] E0 (tCons (tVar 0) (tCons (tVar 1) (tCons (tVar 2) tNil)))) [some (.ref r), some (.int (opC c)), some v, some .non] H3 (LR Rint (tellM s c)) := fun H3 e3 h5 _ =>
        er_call (ear_is (ea_cons (ev_var rfl) (ea_cons (ev_var rfl) (ea_cons (ev_var rfl) ea_nil)))) fun us H4 e4 z => ⟨(⟨⟨r, fl, s⟩, v, c⟩ : CA), z, ⟨S2.ex (e3.trans e4), O, hl2.ex (keep := nlK) rob_int (e3.trans e4), g2, h5⟩, fun u H5 e5 h => h⟩
      have aa : ∀ H3, Ex H2 H3 → (opC c = 12 ∨ opC c = 13 ∨ opC c = 14 ∨ opC c = 17 ∨ opC c = 18) → EvR (tCall (spAA CF CS) [] E0 (tCons (tVar 0) (tCons (tVar 1) tNil))) [some (.ref r), some (.int (opC c)), some v, some .non] H3 (LR Rint (tellM s c)) := fun H3 e3 h5 =>
        er_call (ear_is (ea_cons (ev_var rfl) (ea_cons (ev_var rfl) ea_nil))) fun us H4 e4 z => ⟨(⟨⟨r, fl, s⟩, v, c⟩ : CA), z, ⟨S2.ex (e3.trans e4), O, h5⟩, fun u H5 e5 h => h⟩
      have tell : ∀ u H', Ex H2 H' → replyM s c = (s, tellM s c) → LR Rint (tellM s c) u H' → Q u H' := fun u H' e he q => k u H' (.ex e) (by rw [he]; exact ⟨S2.ex e, q⟩)
      have doAu : ¬ opC c ≤ 6 → inV (.int (opC c)) [.int 7, .int 8, .int 10, .int 11, .int 15] = true → (opC c = 7 ∨ opC c = 8 ∨ opC c = 10 ∨ opC c = 11 ∨ opC c = 15) → replyM s c = (s, tellM s c) → ∀ (tw tz : TS), tSeq (tIfS (tTest (tOp (rI0 fun i j => .bl (decide (i ≤ j))) (tVar 1) (tC (.int 6)))) tw tNext) (tSeq (tIfS (tTest (tOp (rIn K false) (tVar 1) (tTup (tCons (tC (.int 7)) (tCons (tC (.int 8)) (tCons (tC (.int 10)) (tCons (tC (.int 11)) (tCons (tC (.int 15)) tNil)))))))) (tRet (tCall (spAU CF CS) [] E0 (tCons (tVar 0) (tCons (tVar 1) (tCons (tVar 2) tNil))))) tNext) tz) { nx := fun _ H' => Q .non H', rt := Q } [some (.ref r), some (.int (opC c)), some v, some .non] H2 := fun h6 h5 hd he tw tz =>
        skip h6 _ _ _ fun H3 e3 => q_ifRetR (in5 true H3 h5) (fun _ => au H3 e3 hd he) (fun _ u H4 e4 q => tell u H4 (e3.trans e4) he q) (fun z => nomatch z)
      have to9 : ¬ opC c ≤ 6 → inV (.int (opC c)) [.int 7, .int 8, .int 10, .int 11, .int 15] = false → ∀ (tw tw2 tz : TS), (∀ H3, Ex H2 H3 → tz { nx := fun _ H' => Q .non H', rt := Q } [some (.ref r), some (.int (opC c)), some v, some .non] H3) → tSeq (tIfS (tTest (tOp (rI0 fun i j => .bl (decide (i ≤ j))) (tVar 1) (tC (.int 6)))) tw tNext) (tSeq (tIfS (tTest (tOp (rIn K false) (tVar 1) (tTup (tCons (tC (.int 7)) (tCons (tC (.int 8)) (tCons (tC (.int 10)) (tCons (tC (.int 11)) (tCons (tC (.int 15)) tNil)))))))) tw2 tNext) tz) { nx := fun _ H' => Q .non H', rt := Q } [some (.ref r), some (.int (opC c)), some v, some .non] H2 := fun h6 h5 tw tw2 tz kk =>
        skip h6 _ _ _ fun H3 e3 => q_when (in5 false H3 h5) (fun z => nomatch z) fun _ H4 e4 => kk H4 (e3.trans e4)
      have doAa : ¬ opC c ≤ 6 → inV (.int (opC c)) [.int 7, .int 8, .int 10, .int 11, .int 15] = false → opC c ≠ 9 → opC c ≠ 16 → (opC c = 12 ∨ opC c = 13 ∨ opC c = 14 ∨ opC c = 17 ∨ opC c = 18) → replyM s c = (s, tellM s c) → ∀ (tw tw2 tw3 : TS) (te : TE), tSeq (tIfS (tTest (tOp (rI0 fun i j => .bl (decide (i ≤ j))) (tVar 1) (tC (.int 6)))) tw tNext) (tSeq (tIfS (tTest (tOp (rIn K false) (tVar 1) (tTup (tCons (tC (.int 7)) (tCons (tC (.int 8)) (tCons (tC (.int 10)) (tCons (tC (.int 11)) (tCons (tC (.int 15)) tNil)))))))) tw2 tNext) (tSeq (tIfS (tTest (tOp rEq (tVar 1) (tC (.int 9)))) tw3 tNext) (tRet (tIf (tTest (tOp rEq (tVar 1) (tC (.int 16)))) te (tCall (spAA CF CS) [] E0 (tCons (tVar 0) (tCons (tVar 1) tNil))))))) { nx := fun _ H' => Q .non H', rt := Q } [some (.ref r), some (.int (opC c)), some v, some .non] H2 := fun h6 h5 h9 h16 hd he tw tw2 tw3 te =>
        to9 h6 h5 _ _ _ fun H3 e3 => q_when (b := false) (et_is (t_eqI (ev_var rfl) ev_c) (decide_eq_false h9)) (fun z => nomatch z) fun _ H4 e4 => s_retR (er_if (b := false) (et_is (t_eqI (ev_var rfl) ev_c) (decide_eq_false h16)) (fun z => nomatch z) fun _ => aa H4 (e3.trans e4) hd) fun u H5 e5 q => tell u H5 (e3.trans (e4.trans e5)) he q
      cases c with
      | addUnit => exact chg (by show (1 : Int) ≤ 6; decide) _
      | addAbove _ _ => exact chg (by show (2 : Int) ≤ 6; decide) _
      | addSame _ _ => exact chg (by show (3 : Int) ≤ 6; decide) _
      | addFind _ _ _ => exact chg (by show (4 : Int) ≤ 6; decide) _
      | addDate _ _ _ => exact chg (by show (5 : Int) ≤ 6; decide) _
      | retract _ => exact chg (by show (6 : Int) ≤ 6; decide) _
      | isEarlier _ _ => exact doAu (by show ¬ (7 : Int) ≤ 6; decide) rfl (by simp [opC]) rfl _ _
      | yearRange _ => exact doAu (by show ¬ (8 : Int) ≤ 6; decide) rfl (by simp [opC]) rfl _ _
      | stratum _ => exact doAu (by show ¬ (10 : Int) ≤ 6; decide) rfl (by simp [opC]) rfl _ _
      | positionRange _ => exact doAu (by show ¬ (11 : Int) ≤ 6; decide) rfl (by simp [opC]) rfl _ _
      | sameYear _ _ => exact doAu (by show ¬ (15 : Int) ≤ 6; decide) rfl (by simp [opC]) rfl _ _
      | harrisMatrix => exact doAa (by show ¬ (12 : Int) ≤ 6; decide) rfl (by show (12 : Int) ≠ 9; decide) (by show (12 : Int) ≠ 16; decide) (by simp [opC]) rfl _ _ _ _
      | firstSequence => exact doAa (by show ¬ (13 : Int) ≤ 6; decide) rfl (by show (13 : Int) ≠ 9; decide) (by show (13 : Int) ≠ 16; decide) (by simp [opC]) rfl _ _ _ _
      | countSequences => exact doAa (by show ¬ (14 : Int) ≤ 6; decide) rfl (by show (14 : Int) ≠ 9; decide) (by show (14 : Int) ≠ 16; decide) (by simp [opC]) rfl _ _ _ _
      | bestQuestion => exact doAa (by show ¬ (17 : Int) ≤ 6; decide) rfl (by show (17 : Int) ≠ 9; decide) (by show (17 : Int) ≠ 16; decide) (by simp [opC]) rfl _ _ _ _
      | listFacts => exact doAa (by show ¬ (18 : Int) ≤ 6; decide) rfl (by show (18 : Int) ≠ 9; decide) (by show (18 : Int) ≠ 16; decide) (by simp [opC]) rfl _ _ _ _
      | findYearRange i =>
        have hi1 := right_pos (i := i) g1 rfl
        obtain ⟨fc, he⟩ := fact_there O hi1 g3
        refine to9 (by show ¬ (9 : Int) ≤ 6; decide) rfl _ _ _ fun H3 e3 => q_ifRetR (R := LR Rint (fyrM s fc)) (b := true) (et_is (t_eqI (ev_var rfl) ev_c) rfl) (fun _ => er_call (ear_is (ea_cons (ev_var rfl) (ea_cons (ev_num (i := 0) (x := (i : Int)) rfl (hl2.ex (keep := nlK) rob_int e3) rfl) ea_nil))) fun us H4 e4 z => ⟨(⟨⟨r, fl, s⟩, i - 1, fc⟩ : YA), ?_, ⟨S2.ex (e3.trans e4), O, he⟩, fun u H5 e5 h => h⟩) (fun _ u H4 e4 q => tell u H4 (e3.trans e4) rfl ?_) (fun z => nomatch z)
        · rw [z]
          show [V.ref r, V.int (i : Int)] = [V.ref r, V.int ((i - 1 + 1 : Nat) : Int)]
          rw [show i - 1 + 1 = i by omega]
        · show LR Rint (match s.ents[i - 1]? with | some e => fyrM s e.2.1 | none => []) u H4
          rw [he]
          exact q
      | explain a b =>
        refine to9 (by show ¬ (16 : Int) ≤ 6; decide) rfl _ _ _ fun H3 e3 => q_when (b := false) (et_is (t_eqI (ev_var rfl) ev_c) (decide_eq_false (by show (16 : Int) ≠ 9; decide))) (fun z => nomatch z) fun _ H4 e4 => s_retR (R := LR Rint (expM s a b)) (er_if (b := true) (et_is (t_eqI (ev_var rfl) ev_c) rfl) (fun _ => er_call (ear_is (ea_cons (ev_var rfl) (ea_cons (ev_num (i := 0) (x := (a : Int)) rfl (hl2.ex (keep := nlK) rob_int (e3.trans e4)) rfl) (ea_cons (ev_num (i := 1) (x := (b : Int)) rfl (hl2.ex (keep := nlK) rob_int (e3.trans e4)) rfl) ea_nil)))) fun us H5 e5 z => ⟨(⟨⟨r, fl, s⟩, a, b⟩ : EA), z, ⟨S2.ex (e3.trans (e4.trans e5)), O, below_mem g2 (by simp [unitsOf]), below_mem g2 (by simp [unitsOf])⟩, fun u H6 e6 h => h⟩) (fun z => nomatch z)) fun u H5 e5 q => tell u H5 (e3.trans (e4.trans e5)) rfl q
end
end L2.SD

/-! C1: the plain law: a session's mirror answers as the specification says -/
set_option linter.all false
namespace L2.SD
open Stratigraphy (Fact State stepsOf)
open StratigraphySpec (withUnits withUnit withFact addFact validYears countedList encodeFact)
open SalvageBase
open SG (Good anl VFact VEnt contrM)

def toSt (s : Ses) : State := ⟨s.units, act s.ents, s.ents.length⟩
abbrev encR (r : Response) : List Int := StratigraphyNeutral.encodeResponse r
/-- what one step is to keep -/
def Keeps (s : Ses) (p : Ses × List Int) (q : State × Response) : Prop := toSt p.1 = q.1 ∧ p.2 = encR q.2 ∧ SesOk p.1
theorem Keeps.same {s : Ses} (O : SesOk s) {l : List Int} {r : Response} (h : l = encR r) : Keeps s (s, l) (toSt s, r) := ⟨rfl, h, O⟩
theorem act_app (l : List (Nat × Fact × Bool)) (i : Nat) (f : Fact) : act (l ++ [(i, f, true)]) = act l ++ [(i, f)] := by
  unfold act
  rw [List.filterMap_append]
  rfl
theorem law_unit {s : Ses} (O : SesOk s) : Keeps s (addUnitM s) (StratigraphySpec.step (toSt s) .addUnit) := by
  have n12 := O.good.n12
  unfold addUnitM
  show Keeps s _ (if 12 ≤ s.units then (toSt s, limitExceeded) else ({ toSt s with unitCount := s.units + 1 }, Response.ofCode (s.units : Int)))
  by_cases h : s.units = 12
  · rw [if_pos h, if_pos (by omega)]
    exact .same O rfl
  · rw [if_neg h, if_neg (by omega)]
    exact ⟨rfl, rfl, ⟨⟨by show s.units + 1 ≤ 12; omega, fun e he => SG.VFact.mono (Nat.le_succ _) (O.good.V e he), O.good.C⟩, O.len, O.ids⟩⟩
theorem law_fact {s : Ses} (O : SesOk s) {f : Fact} (hf : VFact s.units f) : Keeps s (addFactM s f) (addFact (toSt s) f) := by
  have V12 := O.good.V12
  have n12 := O.good.n12
  have hf12 : VFact 12 f := SG.VFact.mono n12 hf
  have ec := SG.contr_eq V12 hf12
  have len := O.len
  unfold addFactM addFact
  show Keeps s _ (match Stratigraphy.contradiction (act s.ents) f with
    | some explanation => (toSt s, Response.withValues (-4) (countedList explanation))
    | none => if 40 ≤ s.ents.length then (toSt s, limitExceeded) else ({ toSt s with activeFacts := act s.ents ++ [(s.ents.length + 1, f)], factCount := s.ents.length + 1 }, Response.ofCode ((s.ents.length + 1 : Nat) : Int)))
  rw [← ec]
  cases hc : contrM (act s.ents) f with
  | some L => exact .same O rfl
  | none =>
    dsimp only
    by_cases h : s.ents.length = 40
    · rw [if_pos h, if_pos (by omega)]
      exact .same O rfl
    · rw [if_neg h, if_neg (by omega)]
      refine ⟨?_, rfl, ⟨⟨n12, ?_, ?_⟩, ?_, ?_⟩⟩
      · unfold toSt
        simp only [List.length_append, List.length_singleton, act_app]
      · show VEnt s.units (act (s.ents ++ [(s.ents.length + 1, f, true)]))
        rw [act_app]
        intro e he
        rcases List.mem_append.mp he with he | he
        · exact O.good.V e he
        · rw [List.mem_singleton] at he
          subst he
          exact hf
      · show SG.Cons (act (s.ents ++ [(s.ents.length + 1, f, true)]))
        rw [act_app]
        refine SG.cons_add O.good.C hf12 fun L hL => ?_
        have := SG.contrM_ok V12 hf12
        rw [hc] at this
        exact this L hL
      · show (s.ents ++ [(s.ents.length + 1, f, true)]).length ≤ 40
        rw [List.length_append]
        simp only [List.length_singleton]
        omega
      · intro i e he
        have he : (s.ents ++ [(s.ents.length + 1, f, true)])[i]? = some e := he
        rw [List.getElem?_append] at he
        split at he
        · exact O.ids i e he
        · rename_i hlt
          have : i - s.ents.length = 0 := by
            have := (List.getElem?_eq_some_iff.mp he).1
            simp only [List.length_singleton] at this
            omega
          rw [this] at he
          have : e = (s.ents.length + 1, f, true) := by simpa using he.symm
          rw [this]
          show s.ents.length + 1 = i + 1
          omega
/-! facts by their ids -/
theorem find_act : ∀ (l : List (Nat × Fact × Bool)) (k i : Nat), (∀ j e, l[j]? = some e → e.1 = j + 1 + k) → k < i → (act l).find? (fun e => e.1 == i) = (l[i - 1 - k]?).bind fun e => if e.2.2 = true then some (e.1, e.2.1) else none
  | [], k, i, _, _ => by simp [act]
  | e :: l, k, i, h, hk => by
    have he := h 0 e rfl
    have ih := find_act l (k + 1) i (fun j e' h' => by have := h (j + 1) e' h'; omega)
    have ha : act (e :: l) = (if e.2.2 = true then [(e.1, e.2.1)] else []) ++ act l := by
      unfold act
      rw [List.filterMap_cons]
      by_cases z : e.2.2 = true <;> simp [z]
    rw [ha, List.find?_append]
    by_cases c : i = k + 1
    · have h0 : i - 1 - k = 0 := by omega
      rw [h0]
      have e1 : (e.1 == i) = true := by simp; omega
      have rest : (act l).find? (fun e => e.1 == i) = none := by
        rw [List.find?_eq_none]
        intro x hx
        obtain ⟨y, hy, hyx⟩ := List.mem_filterMap.mp hx
        obtain ⟨j, hj⟩ := List.getElem?_of_mem hy
        have := h (j + 1) y (by simpa using hj)
        split at hyx
        · cases hyx
          simp
          omega
        · cases hyx
      rw [rest]
      by_cases z : e.2.2 = true <;> simp [z, e1]
    · have hne : (e.1 == i) = false := by simp; omega
      have h1 : i - 1 - k = (i - 1 - (k + 1)) + 1 := by omega
      rw [h1, List.getElem?_cons_succ, ← ih (by omega)]
      by_cases z : e.2.2 = true <;> simp [z, hne]
theorem filter_act : ∀ (l : List (Nat × Fact × Bool)) (k i : Nat) (f : Fact), (∀ j e, l[j]? = some e → e.1 = j + 1 + k) → k < i → (act l).filter (fun e => e.1 != i) = act (l.set (i - 1 - k) (i, f, false))
  | [], k, i, f, _, _ => by simp [act]
  | e :: l, k, i, f, h, hk => by
    have he := h 0 e rfl
    have ih := filter_act l (k + 1) i f (fun j e' h' => by have := h (j + 1) e' h'; omega)
    have ha : ∀ (e : Nat × Fact × Bool) (l : List (Nat × Fact × Bool)), act (e :: l) = (if e.2.2 = true then [(e.1, e.2.1)] else []) ++ act l := fun e l => by
      unfold act
      rw [List.filterMap_cons]
      by_cases z : e.2.2 = true <;> simp [z]
    by_cases c : i = k + 1
    · have h0 : i - 1 - k = 0 := by omega
      rw [h0, List.set_cons_zero, ha, ha, List.filter_append]
      have e1 : (e.1 != i) = false := by simp; omega
      have rest : (act l).filter (fun e => e.1 != i) = act l := by
        rw [List.filter_eq_self]
        intro x hx
        obtain ⟨y, hy, hyx⟩ := List.mem_filterMap.mp hx
        obtain ⟨j, hj⟩ := List.getElem?_of_mem hy
        have := h (j + 1) y (by simpa using hj)
        split at hyx
        · cases hyx
          simp
          omega
        · cases hyx
      rw [rest]
      by_cases z : e.2.2 = true <;> simp [z, e1]
    · have hne : (e.1 != i) = true := by simp; omega
      have h1 : i - 1 - k = (i - 1 - (k + 1)) + 1 := by omega
      rw [h1, List.set_cons_succ, ha, ha, List.filter_append, ih (by omega)]
      by_cases z : e.2.2 = true <;> simp [z, hne]
/-! two units, one unit -/
theorem law_two {s : Ses} {c : SCall} {a b : Nat} {md : Bool} {q : State × Response} (O : SesOk s) (hu : unitsOf c = [a, b]) (hr : restOk c = true ↔ (md = true → a ≠ b)) (hx : extraF s c = none) (h : a < s.units → b < s.units → Keeps s (replyM s c) q) :
    Keeps s (totalM s c) (withUnits (toSt s) a b md q) := by
  have n12 := O.good.n12
  have hb : ∀ n : Nat, belowAll (n : Int) c = true ↔ (a < n ∧ b < n) := fun n => by
    unfold belowAll encN
    rw [hu]
    simp
  have hb12 : belowAll 12 c = true ↔ (a < 12 ∧ b < 12) := hb 12
  have hR : rightM c = true ↔ (a < 12 ∧ b < 12) ∧ (md = true → a ≠ b) := by
    unfold rightM
    rw [Bool.and_eq_true, hb12, hr]
  unfold totalM faultM
  show Keeps s _ (if 12 ≤ a ∨ 12 ≤ b ∨ (md = true ∧ a = b) then (toSt s, outOfRange) else if s.units ≤ a ∨ s.units ≤ b then (toSt s, notFound) else q)
  by_cases c1 : rightM c = true
  · have d1 := hR.mp c1
    rw [if_neg (by rw [c1]; simp), if_neg (show ¬ (12 ≤ a ∨ 12 ≤ b ∨ (md = true ∧ a = b)) by
      rintro (z | z | ⟨z, w⟩)
      · omega
      · omega
      · exact d1.2 z w)]
    by_cases c2 : belowAll s.units c = true
    · have d2 := (hb s.units).mp c2
      rw [if_neg (by rw [c2]; simp), if_neg (by omega), hx]
      exact h d2.1 d2.2
    · have d2 : ¬ (a < s.units ∧ b < s.units) := fun z => c2 ((hb s.units).mpr z)
      rw [if_pos (by simpa using c2), if_pos (by omega)]
      exact .same O rfl
  · have d1 : ¬ ((a < 12 ∧ b < 12) ∧ (md = true → a ≠ b)) := fun z => c1 (hR.mpr z)
    rw [if_pos (by simpa using c1), if_pos]
    · exact .same O rfl
    · by_cases z : a < 12 ∧ b < 12
      · by_cases w : md = true ∧ a = b
        · exact .inr (.inr w)
        · exact absurd ⟨z, fun x y => w ⟨x, y⟩⟩ d1
      · omega
theorem law_one {s : Ses} {c : SCall} {a : Nat} {q : State × Response} (O : SesOk s) (hu : unitsOf c = [a]) (hr : restOk c = true) (hx : extraF s c = none) (h : a < s.units → Keeps s (replyM s c) q) : Keeps s (totalM s c) (withUnit (toSt s) a q) := by
  have n12 := O.good.n12
  have hb : ∀ n : Nat, belowAll (n : Int) c = true ↔ a < n := fun n => by
    unfold belowAll encN
    rw [hu]
    simp
  have hR : rightM c = true ↔ a < 12 := by
    unfold rightM
    rw [Bool.and_eq_true, hr]
    have : belowAll 12 c = true ↔ a < 12 := hb 12
    simp [this]
  unfold totalM faultM
  show Keeps s _ (if 12 ≤ a ∨ 12 ≤ a ∨ (false = true ∧ a = a) then (toSt s, outOfRange) else if s.units ≤ a ∨ s.units ≤ a then (toSt s, notFound) else q)
  by_cases c1 : rightM c = true
  · have d1 := hR.mp c1
    rw [if_neg (by rw [c1]; simp), if_neg (show ¬ (12 ≤ a ∨ 12 ≤ a ∨ (false = true ∧ a = a)) by
      rintro (z | z | ⟨z, w⟩)
      · omega
      · omega
      · cases z)]
    by_cases c2 : belowAll s.units c = true
    · have d2 := (hb s.units).mp c2
      rw [if_neg (by rw [c2]; simp), if_neg (by omega), hx]
      exact h d2
    · have d2 : ¬ a < s.units := fun z => c2 ((hb s.units).mpr z)
      rw [if_pos (by simpa using c2), if_pos (by omega)]
      exact .same O rfl
  · have d1 : ¬ a < 12 := fun z => c1 (hR.mpr z)
    rw [if_pos (by simpa using c1), if_pos (by omega)]
    exact .same O rfl
theorem law_years {s : Ses} {c : SCall} {a : Nat} {x y : Int} {f : Fact} (O : SesOk s) (hu : unitsOf c = [a]) (hr : restOk c = (decide (-5000 ≤ x) && (decide (x ≤ y) && decide (y ≤ 2100)))) (hx : extraF s c = none) (he : replyM s c = addFactM s f) (hv : a < s.units → SG.VYears x y → VFact s.units f) :
    Keeps s (totalM s c) (if validYears x y = false then (toSt s, outOfRange) else withUnit (toSt s) a (addFact (toSt s) f)) := by
  have hvy : validYears x y = restOk c := by rw [hr]; rfl
  rw [hvy]
  by_cases z : restOk c = true
  · rw [if_neg (by rw [z]; simp)]
    refine law_one O hu z hx fun ha => ?_
    rw [he]
    refine law_fact O (hv ha ?_)
    rw [hr, Bool.and_eq_true, Bool.and_eq_true] at z
    exact ⟨of_decide_eq_true z.1, of_decide_eq_true z.2.1, of_decide_eq_true z.2.2⟩
  · have z' : restOk c = false := by simpa using z
    rw [if_pos z']
    unfold totalM faultM
    rw [if_pos (by unfold rightM; rw [z', Bool.and_false])]
    exact .same O rfl
/-- a fact by its id -/
theorem law_byid {s : Ses} {c : SCall} {i : Nat} {run : Fact → State × Response} (O : SesOk s) (hu : unitsOf c = []) (hr : restOk c = (decide ((1 : Int) ≤ (i : Int)) && decide ((i : Int) ≤ 40))) (hx : extraF s c = factFault s i) (h : ∀ f, 1 ≤ i → s.ents[i - 1]? = some (i - 1 + 1, f, true) → Keeps s (replyM s c) (run f)) :
    Keeps s (totalM s c) (withFact (toSt s) i run) := by
  have hb : ∀ n : Int, belowAll n c = true := fun n => by
    unfold belowAll encN
    rw [hu]
    rfl
  have hR : rightM c = true ↔ 1 ≤ i ∧ i ≤ 40 := by
    unfold rightM
    rw [hb, hr]
    simp
    omega
  unfold totalM faultM
  show Keeps s _ (if i = 0 ∨ 40 < i then (toSt s, outOfRange) else if s.ents.length < i then (toSt s, notFound) else match (act s.ents).find? fun (entry : Nat × Fact) => entry.1 == i with
    | none => (toSt s, alreadyDone)
    | some entry => run entry.2)
  by_cases c1 : rightM c = true
  · have d1 := hR.mp c1
    rw [if_neg (by rw [c1]; simp), if_neg (by rw [hb]; simp), if_neg (show ¬ (i = 0 ∨ 40 < i) by omega), hx]
    by_cases c2 : s.ents.length < i
    · rw [if_pos c2]
      unfold factFault
      rw [if_pos (by omega)]
      exact .same O rfl
    · rw [if_neg c2]
      have hlt : i - 1 < s.ents.length := by omega
      obtain ⟨e, he⟩ : ∃ e, s.ents[i - 1]? = some e := ⟨_, List.getElem?_eq_getElem hlt⟩
      have hid := O.ids _ _ he
      have hf := find_act s.ents 0 i (fun j e h => by have := O.ids j e h; omega) (by omega)
      rw [Nat.sub_zero, he] at hf
      rw [hf]
      have hff : factFault s i = if e.2.2 = true then none else some (-8) := by
        unfold factFault
        rw [if_neg (by omega), he]
      rw [hff]
      by_cases z : e.2.2 = true
      · rw [if_pos z]
        have := h e.2.1 d1.1 (by rw [he]; exact congrArg some (Prod.ext hid (Prod.ext rfl z)))
        simp only [Option.bind_some, z, if_true]
        exact this
      · rw [if_neg z]
        simp only [Option.bind_some, z, if_false]
        exact .same O rfl
  · have d1 : ¬ (1 ≤ i ∧ i ≤ 40) := fun z => c1 (hR.mpr z)
    rw [if_pos (by simpa using c1), if_pos (by omega)]
    exact .same O rfl
theorem law_plain {s : Ses} {c : SCall} {q : State × Response} (hu : unitsOf c = []) (hr : restOk c = true) (hx : extraF s c = none) (h : Keeps s (replyM s c) q) : Keeps s (totalM s c) q := by
  have hb : ∀ n : Int, belowAll n c = true := fun n => by
    unfold belowAll encN
    rw [hu]
    rfl
  unfold totalM faultM
  rw [if_neg (by unfold rightM; rw [hb, hr]; simp), if_neg (by rw [hb]; simp), hx]
  exact h
theorem enc_fact (e : Nat × Fact) : encF e = encodeFact e := by
  obtain ⟨i, f⟩ := e
  cases f <;> rfl
theorem law_step {s : Ses} (O : SesOk s) (c : SCall) : Keeps s (totalM s c) (StratigraphySpec.step (toSt s) c) := by
  have G := O.good
  cases c with
  | addUnit => exact law_plain rfl rfl rfl (law_unit O)
  | addAbove a b => exact law_two (md := true) O rfl (by simp [restOk]; omega) rfl fun ha hb => law_fact O ⟨ha, hb⟩
  | addSame a b => exact law_two (md := true) O rfl (by simp [restOk]; omega) rfl fun ha hb => law_fact O ⟨ha, hb⟩
  | addFind u x y => exact law_years (f := .find u x y) O rfl rfl rfl rfl fun ha hy => ⟨ha, hy⟩
  | addDate u x y => exact law_years (f := .date u x y) O rfl rfl rfl rfl fun ha hy => ⟨ha, hy⟩
  | retract i =>
    refine law_byid O rfl rfl rfl fun f hi he => ?_
    show Keeps s (match s.ents[i - 1]? with | some e => retractM s (i - 1) e.2.1 | none => (s, [])) ({ toSt s with activeFacts := (act s.ents).filter fun (entry : Nat × Fact) => entry.1 != i }, Response.ofCode 0)
    rw [he]
    have hfa := filter_act s.ents 0 i f (fun j e h => by have := O.ids j e h; omega) (by omega)
    rw [Nat.sub_zero] at hfa
    have e1 : i - 1 + 1 = i := by omega
    show Keeps s (⟨s.units, s.ents.set (i - 1) (i - 1 + 1, f, false)⟩, [0]) _
    rw [e1]
    refine ⟨?_, rfl, ⟨⟨G.n12, ?_, ?_⟩, ?_, ?_⟩⟩
    · unfold toSt
      simp only [List.length_set]
      rw [← hfa]
    · show VEnt s.units (act (s.ents.set (i - 1) (i, f, false)))
      rw [← hfa]
      exact fun e he => G.V e (List.mem_filter.mp he).1
    · show SG.Cons (act (s.ents.set (i - 1) (i, f, false)))
      rw [← hfa]
      exact SG.cons_sub (fun e he => (List.mem_filter.mp he).1) G.C
    · show (s.ents.set (i - 1) (i, f, false)).length ≤ 40
      rw [List.length_set]
      exact O.len
    · intro j e hj
      have hj : (s.ents.set (i - 1) (i, f, false))[j]? = some e := hj
      rw [List.getElem?_set] at hj
      split at hj
      · split at hj
        · cases hj
          show i = j + 1
          omega
        · cases hj
      · exact O.ids j e hj
  | isEarlier a b => exact law_two (md := false) O rfl (by simp [restOk]) rfl fun ha hb => .same O rfl
  | yearRange u => exact law_one O rfl rfl rfl fun ha => .same O rfl
  | findYearRange i =>
    refine law_byid O rfl rfl rfl fun f hi he => ?_
    show Keeps s (s, match s.ents[i - 1]? with | some e => fyrM s e.2.1 | none => []) _
    rw [he]
    cases f <;> exact .same O rfl
  | stratum u => exact law_one O rfl rfl rfl fun ha => .same O rfl
  | positionRange u => exact law_one O rfl rfl rfl fun ha => .same O rfl
  | harrisMatrix => exact law_plain rfl rfl rfl (.same O rfl)
  | firstSequence => exact law_plain rfl rfl rfl (.same O rfl)
  | countSequences => exact law_plain rfl rfl rfl (.same O rfl)
  | sameYear a b => exact law_two (md := false) O rfl (by simp [restOk]) rfl fun ha hb => .same O rfl
  | explain a b =>
    refine law_two (md := false) O rfl (by simp [restOk]) rfl fun ha hb => ?_
    show Keeps s (s, expM s a b) (match Stratigraphy.strictChain (stepsOf (act s.ents)) a b with
      | some explanation => (toSt s, Response.withValues 0 (countedList explanation))
      | none => (toSt s, conflict))
    unfold expM
    cases Stratigraphy.strictChain (stepsOf (act s.ents)) a b <;> exact .same O rfl
  | bestQuestion =>
    refine law_plain rfl rfl rfl ?_
    have hb := G.best
    show Keeps s (s, askM s) (match Stratigraphy.firstMinimum ((anS s).undeterminedPairs.map fun (pair : Nat × Nat) => (pair, Stratigraphy.worstRemaining s.units ((act s.ents).map (·.2)) pair)) with
      | some best => (toSt s, Response.withValues 0 (encodeNats [best.1.1, best.1.2, best.2]))
      | none => (toSt s, conflict))
    rw [hb]
    unfold askM
    cases SG.bestM (anS s) <;> exact .same O rfl
  | listFacts =>
    refine law_plain rfl rfl rfl (.same O ?_)
    show listM s = 0 :: ((act s.ents).length : Int) :: (act s.ents).flatMap encodeFact
    unfold listM
    rw [show encF = encodeFact from funext enc_fact]
end L2.SD

/-! C2: the plain law: a list of calls -/
set_option linter.all false
namespace L2.SD
open Stratigraphy (Fact State stepsOf)

def rowC (c : SCall) : List Int := opC c :: numC c
def flatC (cs : List SCall) : List Int := cs.flatMap rowC
def runM : Ses → List SCall → List Int
  | _, [] => []
  | s, c :: cs => ((totalM s c).2.length : Int) :: ((totalM s c).2 ++ runM (totalM s c).1 cs)
theorem whole_id (c : List (List Int)) : PyWrsvgr.whole c = c := by
  unfold PyWrsvgr.whole
  split <;> rfl
theorem callOf_row (c : SCall) : StratigraphyNeutral.callOf [rowC c] = some c := by cases c <;> rfl
theorem nat_of {x : Int} (h : StratigraphyNeutral.isUnsigned32 x = true) : ((x.toNat : Nat) : Int) = x := by
  unfold StratigraphyNeutral.isUnsigned32 at h
  rw [Bool.and_eq_true] at h
  have := of_decide_eq_true h.1
  omega
theorem asked_row {r : List (List Int)} (h : StratigraphyNeutral.asked1 r = true) : ∃ c, r = [rowC c] := by
  unfold StratigraphyNeutral.asked1 at h
  split at h
  · exact ⟨.addUnit, rfl⟩
  · rename_i a b
    rw [Bool.and_eq_true] at h
    exact ⟨.addAbove a.toNat b.toNat, by simp only [rowC, opC, numC, nat_of h.1, nat_of h.2]⟩
  · rename_i a b
    rw [Bool.and_eq_true] at h
    exact ⟨.addSame a.toNat b.toNat, by simp only [rowC, opC, numC, nat_of h.1, nat_of h.2]⟩
  · rename_i u x y
    rw [Bool.and_eq_true] at h
    exact ⟨.addFind u.toNat x y, by simp only [rowC, opC, numC, nat_of h.1]⟩
  · rename_i u x y
    rw [Bool.and_eq_true] at h
    exact ⟨.addDate u.toNat x y, by simp only [rowC, opC, numC, nat_of h.1]⟩
  · rename_i i
    exact ⟨.retract i.toNat, by simp only [rowC, opC, numC, nat_of h]⟩
  · rename_i a b
    rw [Bool.and_eq_true] at h
    exact ⟨.isEarlier a.toNat b.toNat, by simp only [rowC, opC, numC, nat_of h.1, nat_of h.2]⟩
  · rename_i i
    exact ⟨.yearRange i.toNat, by simp only [rowC, opC, numC, nat_of h]⟩
  · rename_i i
    exact ⟨.findYearRange i.toNat, by simp only [rowC, opC, numC, nat_of h]⟩
  · rename_i i
    exact ⟨.stratum i.toNat, by simp only [rowC, opC, numC, nat_of h]⟩
  · rename_i i
    exact ⟨.positionRange i.toNat, by simp only [rowC, opC, numC, nat_of h]⟩
  · exact ⟨.harrisMatrix, rfl⟩
  · exact ⟨.firstSequence, rfl⟩
  · exact ⟨.countSequences, rfl⟩
  · rename_i a b
    rw [Bool.and_eq_true] at h
    exact ⟨.sameYear a.toNat b.toNat, by simp only [rowC, opC, numC, nat_of h.1, nat_of h.2]⟩
  · rename_i a b
    rw [Bool.and_eq_true] at h
    exact ⟨.explain a.toNat b.toNat, by simp only [rowC, opC, numC, nat_of h.1, nat_of h.2]⟩
  · exact ⟨.bestQuestion, rfl⟩
  · exact ⟨.listFacts, rfl⟩
  · cases h
theorem sh_step {c : Prop} [Decidable c] {m n k : Nat} {o : Option (Nat × Nat)} (ho : o = some (n, k) → k = 0) : (if c then some (m, 0) else o) = some (n, k) → k = 0 := fun h => by
  split at h
  · cases h; rfl
  · exact ho h
theorem shape_zero {p : Int} {n k : Nat} (h : PyWrsvgr.shape p = some (n, k)) : k = 0 := by
  unfold PyWrsvgr.shape at h
  revert h
  iterate 18 refine sh_step ?_
  intro h
  cases h
theorem call_split {l : List Int} {c : List (List Int)} {t : List Int} (h : PyFlat.call PyWrsvgr.shape l = some (c, t)) : ∃ r, c = [r] ∧ l = r ++ t := by
  unfold PyFlat.call at h
  split at h
  · cases h
  · rename_i p r
    cases hs : PyWrsvgr.shape p with
    | none => rw [hs] at h; cases h
    | some nk =>
      obtain ⟨n, k⟩ := nk
      have hk := shape_zero hs
      subst hk
      rw [hs] at h
      dsimp only at h
      by_cases c1 : r.length < n
      · rw [if_pos c1] at h; cases h
      · rw [if_neg c1] at h
        simp only [PyFlat.rows] at h
        cases h
        exact ⟨_, rfl, by simp⟩
theorem calls_split : ∀ (f : Nat) (l : List Int) (raw : List (List (List Int))), PyFlat.calls PyWrsvgr.shape f l = some raw → ∃ rs : List (List Int), raw = rs.map (fun r => [r]) ∧ l = rs.flatten
  | _, [], raw, h => by
    have : raw = [] := by
      cases h' : raw with
      | nil => rfl
      | cons a b => rw [h'] at h; simp [PyFlat.calls] at h
    subst this
    exact ⟨[], rfl, rfl⟩
  | 0, x :: l, raw, h => by simp [PyFlat.calls] at h
  | f + 1, x :: l, raw, h => by
    simp only [PyFlat.calls] at h
    cases hc : PyFlat.call PyWrsvgr.shape (x :: l) with
    | none => rw [hc] at h; cases h
    | some ct =>
      obtain ⟨c, t⟩ := ct
      rw [hc] at h
      dsimp only at h
      cases hr : PyFlat.calls PyWrsvgr.shape f t with
      | none => rw [hr] at h; cases h
      | some cs =>
        rw [hr] at h
        cases h
        obtain ⟨r, e1, e2⟩ := call_split hc
        obtain ⟨rs, e3, e4⟩ := calls_split f t cs hr
        exact ⟨r :: rs, by rw [e1, e3]; rfl, by rw [e2, e4]; rfl⟩
theorem rows_calls : ∀ (rs : List (List Int)), (rs.map fun r => [r]).all StratigraphyNeutral.asked1 = true → ∃ cs : List SCall, rs = cs.map rowC
  | [], _ => ⟨[], rfl⟩
  | r :: rs, h => by
    rw [List.map_cons, List.all_cons, Bool.and_eq_true] at h
    obtain ⟨c, hc⟩ := asked_row h.1
    obtain ⟨cs, hcs⟩ := rows_calls rs h.2
    have : r = rowC c := by simpa using hc
    exact ⟨c :: cs, by rw [this, hcs]; rfl⟩
theorem played_eq : ∀ (cs : List SCall) (s : Ses), SesOk s → PyFlat.told (PyFlat.played StratigraphyNeutral.step (toSt s) ((cs.map rowC).map fun r => [r])) = runM s cs
  | [], _, _ => rfl
  | c :: cs, s, O => by
    obtain ⟨h1, h2, h3⟩ := law_step O c
    have ih := played_eq cs _ h3
    have es : StratigraphyNeutral.step (toSt s) [rowC c] = ((StratigraphySpec.step (toSt s) c).1, encR (StratigraphySpec.step (toSt s) c).2) := by
      unfold StratigraphyNeutral.step
      rw [callOf_row]
    rw [List.map_cons, List.map_cons]
    show PyFlat.told ((StratigraphyNeutral.step (toSt s) [rowC c]).2 :: PyFlat.played StratigraphyNeutral.step (StratigraphyNeutral.step (toSt s) [rowC c]).1 _) = _
    rw [es]
    show PyFlat.told (encR (StratigraphySpec.step (toSt s) c).2 :: PyFlat.played StratigraphyNeutral.step (StratigraphySpec.step (toSt s) c).1 _) = _
    rw [← h1, ← h2]
    unfold PyFlat.told at ih ⊢
    rw [List.flatMap_cons, ih]
    rfl
def ses0 : Ses := ⟨0, []⟩
theorem ses0_ok : SesOk ses0 := ⟨⟨by decide, fun e he => (nomatch he), SG.cons_nil⟩, by decide, fun i e h => by simp [ses0] at h⟩
theorem asked_calls {l : List Int} (h : PyWrsvgr.answers_asked l = true) : ∃ cs : List SCall, l = flatC cs ∧ cs.length ≤ 60 ∧ PyWrsvgr.answers l = runM ses0 cs := by
  unfold PyWrsvgr.answers_asked at h
  cases hc : PyFlat.calls PyWrsvgr.shape l.length l with
  | none => rw [hc] at h; cases h
  | some raw =>
    rw [hc] at h
    dsimp only at h
    simp only [Bool.and_eq_true] at h
    obtain ⟨⟨⟨⟨g1, g2⟩, g3⟩, g4⟩, g5⟩ := h
    have hw : raw.map PyWrsvgr.whole = raw := by
      rw [show PyWrsvgr.whole = id from funext whole_id, List.map_id]
    rw [hw] at g4
    obtain ⟨rs, e1, e2⟩ := calls_split _ _ _ hc
    unfold StratigraphyNeutral.asked at g4
    rw [Bool.and_eq_true] at g4
    rw [e1] at g4
    obtain ⟨cs, e3⟩ := rows_calls rs g4.1
    refine ⟨cs, ?_, ?_, ?_⟩
    · rw [e2, e3]
      unfold flatC
      rw [List.flatMap_def]
    · have := of_decide_eq_true g2
      rw [e1, e3, List.length_map, List.length_map] at this
      exact this
    · unfold PyWrsvgr.answers PyWrsvgr.calls
      rw [hc]
      dsimp only
      rw [hw, e1, e3]
      exact played_eq cs ses0 ses0_ok
/-! how long an answer is -/
theorem tell_len {s : Ses} (O : SesOk s) (c : SCall) (hb : belowAll s.units c = true) : (tellM s c).length ≤ 400 := by
  have G := O.good
  have s12 : (anS s).strata.length ≤ 12 := (strata_ok G).2
  cases c with
  | harrisMatrix =>
    have hh : (anS s).harrisMatrix.length ≤ 144 := harris_len G
    have := flatMap_len 2 (fun p : Nat × Nat => [(p.1 : Int), (p.2 : Int)]) (fun c => Nat.le_refl 2) (anS s).harrisMatrix
    show (pairsM (anS s).harrisMatrix).length ≤ 400
    unfold pairsM
    rw [List.length_cons, List.length_cons]
    omega
  | firstSequence =>
    have := firstSeqOf_len (anS s) (anS s).strata.length (anS s).strata
    show (0 :: ((Stratigraphy.firstSequenceOf (anS s) (anS s).strata.length (anS s).strata).length : Int) :: encN (Stratigraphy.firstSequenceOf (anS s) (anS s).strata.length (anS s).strata)).length ≤ 400
    unfold encN
    rw [List.length_cons, List.length_cons, List.length_map]
    omega
  | listFacts =>
    have := flatMap_len 5 encF (fun c => Nat.le_refl 5) (act s.ents)
    have := O.alen
    show (listM s).length ≤ 400
    unfold listM
    rw [List.length_cons, List.length_cons]
    omega
  | bestQuestion =>
    show (askM s).length ≤ 400
    unfold askM
    split <;> simp
  | explain a b =>
    show (expM s a b).length ≤ 400
    unfold expM
    cases hc : Stratigraphy.strictChain (stepsOf (act s.ents)) a b with
    | none => simp
    | some L =>
      have V12 := O.good.V12
      have n12 := O.good.n12
      have ha : a < s.units := below_mem hb (by simp [unitsOf])
      have hb' : b < s.units := below_mem hb (by simp [unitsOf])
      rw [← SG.strict_eq V12 (show a < 12 by omega) (show b < 12 by omega)] at hc
      have := strictCh_mem_len (SG.bd_stepsOf V12) (pref_mem hc)
      simp only [encN, List.length_cons, List.length_map]
      omega
  | findYearRange i =>
    show (match s.ents[i - 1]? with | some e => fyrM s e.2.1 | none => []).length ≤ 400
    split
    · rename_i e _
      unfold fyrM
      split <;> simp
    · simp
  | positionRange u => simp [tellM, encN, posM]
  | _ => simp [tellM]
theorem fact_len {s : Ses} (O : SesOk s) (f : Fact) : (addFactM s f).2.length ≤ 400 := by
  unfold addFactM
  cases hc : SG.contrM (act s.ents) f with
  | none =>
    dsimp only
    split <;> simp
  | some L =>
    have := contr_len O.good.V12 hc
    simp only [encN, List.length_cons, List.length_map]
    omega
theorem total_len {s : Ses} (O : SesOk s) (c : SCall) : (totalM s c).2.length ≤ 400 := by
  unfold totalM
  cases hf : faultM s c with
  | some k => simp
  | none =>
    obtain ⟨g1, g2, g3⟩ := fault_none hf
    have ht := tell_len O c g2
    cases c with
    | addUnit =>
      show (addUnitM s).2.length ≤ 400
      unfold addUnitM
      split <;> simp
    | addAbove a b => exact fact_len O _
    | addSame a b => exact fact_len O _
    | addFind u x y => exact fact_len O _
    | addDate u x y => exact fact_len O _
    | retract i =>
      show (match s.ents[i - 1]? with | some e => retractM s (i - 1) e.2.1 | none => (s, [])).2.length ≤ 400
      split <;> simp [retractM]
    | _ => exact ht
end L2.SD

/-! B13: excavation.py, answers -/
set_option Elab.async false
set_option linter.all false
set_option maxRecDepth 100000
set_option maxHeartbeats 2000000
namespace L2.SD
open PySem PySem.Spec PyProof.Rows Evl
open Stratigraphy (Fact stepsOf)

def stepR (p : Ses × List Int) (c : SCall) : Ses × List Int := ((totalM p.1 c).1, p.2 ++ (((totalM p.1 c).2.length : Int) :: (totalM p.1 c).2))
def runP (cs : List SCall) (i : Nat) : Ses × List Int := (cs.take i).foldl stepR (ses0, [])
theorem run_fold : ∀ (cs : List SCall) (p : Ses × List Int), (cs.foldl stepR p).2 = p.2 ++ runM p.1 cs
  | [], p => by simp [runM]
  | c :: cs, p => by
    rw [List.foldl_cons, run_fold cs]
    show (p.2 ++ _) ++ runM (totalM p.1 c).1 cs = p.2 ++ (_ :: ((totalM p.1 c).2 ++ runM (totalM p.1 c).1 cs))
    simp
theorem runP_all (cs : List SCall) : (runP cs cs.length).2 = runM ses0 cs := by
  unfold runP
  rw [List.take_length, run_fold]
  rfl
theorem runP_succ {cs : List SCall} {i : Nat} {c : SCall} (h : cs[i]? = some c) : runP cs (i + 1) = stepR (runP cs i) c := by
  unfold runP
  rw [List.take_add_one, h, List.foldl_append]
  rfl
theorem runP_ok (cs : List SCall) : ∀ i, SesOk (runP cs i).1 ∧ (runP cs i).2.length ≤ i * 401
  | 0 => ⟨ses0_ok, by simp [runP]⟩
  | i + 1 => by
    obtain ⟨h1, h2⟩ := runP_ok cs i
    cases h : cs[i]? with
    | none =>
      have : runP cs (i + 1) = runP cs i := by
        unfold runP
        rw [List.take_add_one, h]
        simp
      rw [this]
      exact ⟨h1, by omega⟩
    | some c =>
      rw [runP_succ h]
      refine ⟨(law_step h1 c).2.2, ?_⟩
      have := total_len h1 c
      show ((runP cs i).2 ++ _).length ≤ _
      rw [List.length_append, List.length_cons]
      omega
theorem flat_split {cs : List SCall} {i : Nat} {c : SCall} (h : cs[i]? = some c) : flatC cs = flatC (cs.take i) ++ (opC c :: (numC c ++ flatC (cs.drop (i + 1)))) := by
  have e : cs = cs.take i ++ c :: cs.drop (i + 1) := by
    obtain ⟨hlt, hg⟩ := List.getElem?_eq_some_iff.mp h
    rw [← hg, ← List.drop_eq_getElem_cons hlt, List.take_append_drop]
  conv => lhs; rw [e]
  unfold flatC
  rw [List.flatMap_append, List.flatMap_cons]
  rfl
theorem flat_succ {cs : List SCall} {i : Nat} {c : SCall} (h : cs[i]? = some c) : (flatC (cs.take (i + 1))).length = (flatC (cs.take i)).length + 1 + (numC c).length := by
  rw [List.take_add_one, h]
  unfold flatC
  rw [List.flatMap_append, List.length_append]
  simp [rowC]
  omega
theorem arg_at (c : SCall) : atI (([0, 0, 2, 2, 3, 3, 1, 2, 1, 1, 1, 1, 0, 0, 0, 2, 2, 0, 0] : List Int).map V.int) (opC c) = some (.int ((numC c).length : Nat)) := by cases c <;> rfl
theorem cut_mid (pre m post : List V) (x : V) : cutV (pre ++ x :: (m ++ post)) (some ((pre.length + 1 : Nat) : Int)) (some ((pre.length + 1 + m.length : Nat) : Int)) = m := by
  unfold cutV
  rw [HT.sIx_nat, HT.sIx_nat]
  have hl : (pre ++ x :: (m ++ post)).length = pre.length + 1 + m.length + post.length := by simp; omega
  rw [hl, Nat.min_eq_left (by omega), Nat.min_eq_left (by omega)]
  have e : pre ++ x :: (m ++ post) = (pre ++ [x]) ++ (m ++ post) := by simp
  rw [e, List.drop_append_of_le_length (by simp), List.drop_of_length_le (by simp), List.nil_append]
  rw [show pre.length + 1 + m.length - (pre.length + 1) = m.length by omega, List.take_append_of_le_length (Nat.le_refl _), List.take_length]
/-! an answer is not what was answered before -/
theorem tell_head (s : Ses) (c : SCall) : tellM s c = [] ∨ ∃ x t, tellM s c = x :: t ∧ x ≤ 0 := by
  cases c with
  | findYearRange i =>
    show (match s.ents[i - 1]? with | some e => fyrM s e.2.1 | none => []) = [] ∨ ∃ x t, (match s.ents[i - 1]? with | some e => fyrM s e.2.1 | none => []) = x :: t ∧ x ≤ 0
    cases s.ents[i - 1]? with
    | none => exact .inl rfl
    | some e =>
      refine .inr ?_
      show ∃ x t, fyrM s e.2.1 = x :: t ∧ x ≤ 0
      unfold fyrM
      cases e.2.1 <;> exact ⟨_, _, rfl, by decide⟩
  | explain a b =>
    refine .inr ?_
    show ∃ x t, expM s a b = x :: t ∧ x ≤ 0
    unfold expM
    cases Stratigraphy.strictChain (stepsOf (act s.ents)) a b <;> exact ⟨_, _, rfl, by decide⟩
  | bestQuestion =>
    refine .inr ?_
    show ∃ x t, askM s = x :: t ∧ x ≤ 0
    unfold askM
    cases SG.bestM (anS s) <;> exact ⟨_, _, rfl, by decide⟩
  | addUnit => exact .inl rfl
  | addAbove _ _ => exact .inl rfl
  | addSame _ _ => exact .inl rfl
  | addFind _ _ _ => exact .inl rfl
  | addDate _ _ _ => exact .inl rfl
  | retract _ => exact .inl rfl
  | _ => exact .inr ⟨_, _, rfl, by decide⟩
theorem fact_head (s : Ses) (f : Fact) : ∃ x t, (addFactM s f).2 = x :: t ∧ (t = [] ∨ x ≤ 0) := by
  unfold addFactM
  cases SG.contrM (act s.ents) f with
  | some L => exact ⟨_, _, rfl, .inr (by decide)⟩
  | none =>
    dsimp only
    split <;> exact ⟨_, _, rfl, .inl rfl⟩
theorem total_head {s : Ses} (O : SesOk s) (c : SCall) : ∃ x t, (totalM s c).2 = x :: t ∧ (t = [] ∨ x ≤ 0) := by
  unfold totalM
  cases hf : faultM s c with
  | some k => exact ⟨_, _, rfl, .inl rfl⟩
  | none =>
    obtain ⟨g1, g2, g3⟩ := fault_none hf
    have th := tell_head s c
    cases c with
    | addUnit =>
      show ∃ x t, (addUnitM s).2 = x :: t ∧ (t = [] ∨ x ≤ 0)
      unfold addUnitM
      split <;> exact ⟨_, _, rfl, .inl rfl⟩
    | addAbove a b => exact fact_head s _
    | addSame a b => exact fact_head s _
    | addFind u x y => exact fact_head s _
    | addDate u x y => exact fact_head s _
    | retract i =>
      obtain ⟨f, he⟩ := fact_there O (right_pos (i := i) g1 rfl) g3
      show ∃ x t, (match s.ents[i - 1]? with | some e => retractM s (i - 1) e.2.1 | none => (s, [])).2 = x :: t ∧ (t = [] ∨ x ≤ 0)
      rw [he]
      exact ⟨_, _, rfl, .inl rfl⟩
    | findYearRange i =>
      obtain ⟨f, he⟩ := fact_there O (right_pos (i := i) g1 rfl) g3
      show ∃ x t, (match s.ents[i - 1]? with | some e => fyrM s e.2.1 | none => []) = x :: t ∧ (t = [] ∨ x ≤ 0)
      rw [he]
      show ∃ x t, fyrM s f = x :: t ∧ (t = [] ∨ x ≤ 0)
      unfold fyrM
      cases f <;> exact ⟨_, _, rfl, .inr (by decide)⟩
    | _ =>
      rcases th with th | ⟨x, t, e, h⟩
      · exact absurd th (by simp [tellM, pairsM, listM, askM, expM] <;> split <;> simp)
      · exact ⟨x, t, e, .inr h⟩
theorem outs_head (cs : List SCall) : ∀ i, (runP cs i).2 = [] ∨ ∃ x y t, (runP cs i).2 = x :: y :: t ∧ 1 ≤ x
  | 0 => .inl rfl
  | i + 1 => by
    have ih := outs_head cs i
    cases h : cs[i]? with
    | none =>
      have : runP cs (i + 1) = runP cs i := by
        unfold runP
        rw [List.take_add_one, h]
        simp
      rw [this]
      exact ih
    | some c =>
      rw [runP_succ h]
      obtain ⟨x, t, e, _⟩ := total_head (runP_ok cs i).1 c
      refine .inr ?_
      show ∃ x y t, (runP cs i).2 ++ _ = x :: y :: t ∧ 1 ≤ x
      rw [e]
      rcases ih with ih | ⟨x', y', t', e', h'⟩
      · rw [ih]
        exact ⟨_, x, t, rfl, by rw [List.length_cons]; omega⟩
      · rw [e']
        exact ⟨x', y', _, rfl, h'⟩
theorem outs_ne {cs : List SCall} {i : Nat} (c : SCall) : (totalM (runP cs i).1 c).2 ≠ (runP cs i).2 := fun z => by
  obtain ⟨x, t, e, h⟩ := total_head (runP_ok cs i).1 c
  rw [e] at z
  rcases outs_head cs i with ih | ⟨x', y', t', e', h'⟩
  · rw [ih] at z
    cases z
  · rw [e'] at z
    injection z with z1 z2
    subst z1
    rcases h with h | h
    · rw [h] at z2
      cases z2
    · omega
theorem ints_inj_v : ∀ {l m : List Int}, l.map V.int = m.map V.int → l = m
  | [], [], _ => rfl
  | [], _ :: _, h => by simp at h
  | _ :: _, [], h => by simp at h
  | x :: l, y :: m, h => by
    simp only [List.map_cons, List.cons.injEq, V.int.injEq] at h
    rw [h.1, ints_inj_v h.2]
/-- the session off a list -/
theorem ses_offL {CF CS : Addr} {H H' : Hp} {r fl p : Addr} {s : Ses} {xs : List V} (hp : H p = some (.lst xs)) (hne : fl ≠ p) (e : ExB p H H') (S : SesAt CF CS H r fl s) : SesAt CF CS H' r fl s := by
  obtain ⟨dx, hr, ws, hws, al⟩ := S
  refine ⟨dx, e _ _ hr fun z => ?_, ws, e _ _ hws hne, Paired.mapP al fun x c ⟨a, ea, d, ha⟩ => ⟨a, ea, d, e _ _ ha fun z => ?_⟩⟩
  · rw [z, hp] at hr
    exact nomatch (Option.some.inj hr)
  · rw [z, hp] at ha
    exact nomatch (Option.some.inj ha)
/-- what is no instance stays -/
def FrW (H H' : Hp) : Prop := ∀ x o, H x = some o → insK o = true → H' x = some o
theorem FrW.ex {H H1 H2 : Hp} (f : FrW H H1) (e : Ex H1 H2) : FrW H H2 := fun x o h k => e x o (f x o h k)
theorem FrW.frs {H H1 H2 : Hp} {fl : Addr} (f : FrW H H1) (h0 : H fl = none) (e : FrS fl H1 H2) : FrW H H2 := fun x o h k => e x o (f x o h k) (ne_of_none h h0) k
theorem FrW.exb {H H1 H2 : Hp} {p : Addr} (f : FrW H H1) (h0 : H p = none) (e : ExB p H1 H2) : FrW H H2 := fun x o h k => e x o (f x o h k) (ne_of_none h h0)
theorem FrW.sq {K : PySem.W.Frag} {H H' : Hp} {a : Addr} {xs : List V} (f : FrW H H') (h : SqL K H a xs) : SqL K H' a xs := by
  rcases h with (h | ⟨o, h⟩) | h
  · exact Or.inl (Or.inl (f a _ h rfl))
  · exact Or.inl (Or.inr ⟨o, f a _ h rfl⟩)
  · exact Or.inr h
theorem q_imp {α : Type} {args : α → List V} {fl : α → Addr} {pre : α → Hp → Prop} {post : α → V → Hp → Prop} {σ : St} {H : Hp} {ta : TA} {S : List V → Hp → Prop} {D : Ends} {tz : TS} {i : Nat} (ha : EaR ta σ H S)
    (hs : ∀ vs H1, Ex H H1 → S vs H1 → ∃ a, vs = args a ∧ pre a H1 ∧ ∀ v H', FrS (fl a) H1 H' → post a v H' → tz D (σ.set i (some v)) H') : tSeq (tAsg (tCall (spImp args fl pre post) [] E0 ta) (gName i)) tz D σ H :=
  ha H (Ex.refl H) _ fun vs H1 e1 s => by
    obtain ⟨a, g1, g2, g3⟩ := hs vs H1 e1 s
    exact ⟨a, by rw [List.append_nil]; exact g1, g2, g3⟩
def spTop (K : PySem.W.Frag) : Sp := fun vs H Q _ => ∃ (a : Addr) (cs : List SCall), vs = [.ref a] ∧ SqL K H a ((flatC cs).map V.int) ∧ cs.length ≤ 60 ∧ ∀ (H' : Hp) (p : Addr), H' p = some (.lst ((runM ses0 cs).map V.int)) → Q (.ref p) H'
abbrev s_answers : Stmt := topS 71
theorem sc_answers : FnScope ["calls", "session", "found", "at", "call", "end", "one"] ["calls"] (defScope s_answers) := ⟨rfl, rfl, rfl, by decide +kernel, rfl, by decide +kernel, by decide +kernel⟩
section
variable {P : Program} {w : World} {K : PySem.W.Frag} {mg : Str → Option Value} {base : Heap} {CF CO CS aA aU f : Addr} {fd : FuncData}
theorem ok_answers (F : Fun K "answers" "answers" s_answers f fd) (T : Txt K mg CF CO CS aA aU) (o_Session_init : OwnC P w K mg base "Session" CS 1 ["self"] (spSInit CF CS)) (o_answer : Own P w K mg base "answer" 10 ["session", "call", "numbers"] (spAnswer CF CS)) : FnOk P w K mg base CX0 11 f fd ["calls"] (spTop K) := by
  refine F.ok sc_answers (fun vs H Q E h => ?_) (fun cdv A outer s H vs Q E hr h => ?_)
  · obtain ⟨a, cs, rfl, _⟩ := h
    rfl
  · obtain ⟨a, cs, rfl, hS, h60, k⟩ := h
    refine ⟨_, (pss_cons (ps_par3 (i := 1) (j := 2) (l := 3) rfl sc_answers.nd rfl rfl rfl (by decide) (by decide) (by decide) rfl rfl rfl (pa_cons (pe_ownC0 o_Session_init (hr.mono (by decide)) rfl) (pa_cons (pe_lst pa_nil) (pa_cons pe_int pa_nil))) (by rfl))
      (pss_cons (ps_while PassesOwn.never (pt_cmpR op_lt (pv 3) (pe_callB call_len_seq (by rfl) T.len PySem.boot_len (pa_cons (pv 0) pa_nil)) (nomark _)) (pss_cons (ps_set (i := 4) sc_answers.nd rfl (.inl rfl) (pe_ix ix_list (pv 0) (pv 3) (fun _ _ => rfl)))
      (pss_cons (ps_set (i := 5) sc_answers.nd rfl (.inl rfl) (pe_op op_add (pe_op op_add (pv 3) pe_int) (pe_ix ix_tup (pe_gtup T.g_ARGUMENTS rfl) (pv 4) (fun _ _ => rfl))))
      (pss_cons (ps_set (i := 6) sc_answers.nd rfl (.inl rfl) (pe_own o_answer (hr.mono (by decide)) rfl (pa_cons (pv 1) (pa_cons (pv 4) (pa_cons (pe_slice sl_list (pv 0) (po_some (pe_op op_add (pv 3) pe_int)) (po_some (pv 5))) pa_nil)))))
      (pss_cons (ps_expr (pe_bm PySem.F.plainAttrs_list PySem.F.slot_list_append PySem.F.type_list_append mt_append (pv 2) (pa_cons (pe_callB call_len_seq (by rfl) T.len PySem.boot_len (pa_cons (pv 6) pa_nil)) pa_nil)))
      (pss_cons (ps_expr (pe_bm PySem.F.plainAttrs_list PySem.F.slot_list_extend PySem.F.type_list_extend mt_extend (pv 2) (pa_cons (pv 6) pa_nil)))
      (pss_one (ps_set (i := 3) sc_answers.nd rfl (.inl rfl) (pv 5)))))))))
      (pss_one (ps_ret (pv 2))))), ?_⟩
    -- session, found, at = (Session(), [], 0)
    intro x dx nx nd ne
    have e1 : Ex H (upd H dx (.own x)) := Ex.new nd
    have nx' : upd H dx (.own x) x = none := by rw [upd_ne (Ne.symm ne)]; exact nx
    have e2 : Ex (upd H dx (.own x)) (upd (upd H dx (.own x)) x (.ins CS dx [])) := Ex.new nx'
    refine ⟨x, dx, rfl, upd_same, fun fl H1 b1 hfl S1 => ⟨rfl, ?_⟩⟩
    have eH1 : Ex H H1 := ExB.ex0 (p := x) (e1.trans e2) nx b1
    have hfl0 : H fl = none := fresh_back (e1.trans e2) hfl
    refine ⟨Nat.zero_le _, fun pf hpf => ⟨_, _, _, rfl, ?_⟩⟩
    have e3 : Ex H1 (upd H1 pf (.lst [])) := Ex.new hpf
    have hpf0 : H pf = none := fresh_back eH1 hpf
    have nfp : fl ≠ pf := fun z => by
      obtain ⟨_, _, ws, hws, _⟩ := S1
      rw [z, hpf] at hws
      cases hws
    let at_ : Nat → Nat := fun i => (flatC (cs.take i)).length
    let W : Nat → St → Hp → Prop := fun m σ' H' => ∃ i, i ≤ cs.length ∧ m = cs.length - i ∧ FrW H H' ∧ SesAt CF CS H' x fl (runP cs i).1 ∧ LA Rint H' pf (runP cs i).2 ∧ ∃ a4 a5 a6, σ' = [some (.ref a), some (.ref x), some (.ref pf), some (.int (at_ i : Nat)), a4, a5, a6]
    refine q_while W cs.length ⟨0, Nat.zero_le _, rfl, fun y o h _ => (eH1.trans e3) _ _ h, S1.ex e3, ⟨[], upd_same, .nil⟩, none, none, none, rfl⟩ fun m σ' H' hw => ?_
    obtain ⟨i, hi, rfl, fw, S, L, a4, a5, a6, rfl⟩ := hw
    have hS' := fw.sq hS
    obtain ⟨O, hlen⟩ := runP_ok cs i
    have hat : decide (((at_ i : Nat) : Int) < (((flatC cs).map V.int).length : Int)) = decide (i < cs.length) := by
      rw [List.length_map]
      refine decide_eq_decide.mpr ?_
      by_cases c : i < cs.length
      · obtain ⟨cc, hcc⟩ : ∃ cc, cs[i]? = some cc := ⟨_, List.getElem?_eq_getElem c⟩
        have := congrArg List.length (flat_split hcc)
        rw [List.length_append, List.length_cons] at this
        show (((flatC (cs.take i)).length : Nat) : Int) < _ ↔ _
        constructor
        · exact fun _ => c
        · intro _; omega
      · have : i = cs.length := by omega
        show (((flatC (cs.take i)).length : Nat) : Int) < _ ↔ _
        rw [this, List.take_length]
        constructor
        · intro h; omega
        · intro h; omega
    refine ⟨decide (i < cs.length), et_is (t_I0 (ev_var rfl) (ev_len (xs := (flatC cs).map V.int) (ev_var rfl) hS')) hat, fun hb H2 e2 => ?_, fun hb H2 e2 => ?_⟩
    · have hlt := of_decide_eq_true hb
      obtain ⟨c, hc⟩ : ∃ c, cs[i]? = some c := ⟨_, List.getElem?_eq_getElem hlt⟩
      have hsp := flat_split hc
      have hsucc := flat_succ hc
      refine ⟨fun σ2 H2 => ∃ m', m' < cs.length - i ∧ W m' σ2 H2, fun _ _ h => h, ?_⟩
      have hS2 : ∀ H3, Ex H2 H3 → SqL K H3 a ((flatC cs).map V.int) := fun H3 e => ex_l (e2.trans e) hS'
      have hix : ((flatC cs).map V.int)[at_ i]? = some (.int (opC c)) := by
        rw [List.getElem?_map, hsp, List.getElem?_append_right (Nat.le_refl _)]
        simp [at_]
      refine q_asg (v := .int (opC c)) (ev_op (ev_var rfl) (ev_var rfl) (rv_ixL (hS2 _ (Ex.refl _)) (atI_nat hix))) fun H3 e3' => ?_
      refine q_asg (v := .int ((at_ i + 1 + (numC c).length : Nat) : Int)) (ev_is (ev_op2 (g := fun i j => .int (i + j)) (ev_op2 (g := fun i j => .int (i + j)) (ev_var rfl) ev_c) (ev_op (ta := tC (.ref aA)) ev_c (ev_var rfl) (rv_ixT (T.g_ARGUMENTS.2 H3) (arg_at c)))) (by show V.int (((at_ i : Nat) : Int) + 1 + ((numC c).length : Int)) = V.int ((at_ i + 1 + (numC c).length : Nat) : Int); congr 1)) fun H4 e4 => ?_
      have e24 := e3'.trans e4
      have hcut : cutV ((flatC cs).map V.int) (some ((at_ i + 1 : Nat) : Int)) (some ((at_ i + 1 + (numC c).length : Nat) : Int)) = (numC c).map V.int := by
        rw [hsp, List.map_append, List.map_cons, List.map_append]
        have := cut_mid ((flatC (cs.take i)).map V.int) ((numC c).map V.int) ((flatC (cs.drop (i + 1))).map V.int) (V.int (opC c))
        rw [List.length_map, List.length_map] at this
        exact this
      have hsl : EvL (tSl (rSlL K) (tVar 0) (tPart (tOp (rI0 fun i j => .int (i + j)) (tVar 3) (tC (.int 1)))) (tPart (tVar 5))) [some (.ref a), some (.ref x), some (.ref pf), some (.int (at_ i : Nat)), some (.int (opC c)), some (.int ((at_ i + 1 + (numC c).length : Nat) : Int)), a6] H4 ((numC c).map V.int) := by
        rw [← hcut]
        exact el_sl (ev_var rfl) (eo_some (ev_is (ev_op2 (g := fun i j => .int (i + j)) (ev_var rfl) ev_c) (by show V.int (((at_ i : Nat) : Int) + 1) = V.int ((at_ i + 1 : Nat) : Int); congr 1))) (eo_some (ev_var rfl)) (hS2 _ e24)
      have S4 := S.ex (e2.trans e24)
      have L4 := L.ex (keep := nlK) rob_int (e2.trans e24)
      have fw4 := fw.ex (e2.trans e24)
      refine q_imp (ear_cons (er_is (ev_var rfl)) stb_is (ear_cons (er_is (ev_var rfl)) stb_is (ear_1 (er_L hsl)))) fun us H5 e5 z => ?_
      obtain ⟨v1, r1, rfl, z1, v2, r2, rfl, z2, v3, rfl, p5, rfl, h5⟩ := z
      obtain rfl : v1 = .ref x := z1
      obtain rfl : v2 = .int (opC c) := z2
      refine ⟨(⟨⟨x, fl, (runP cs i).1⟩, .ref p5, c⟩ : CA), rfl, ⟨S4.ex e5, O, ⟨p5, _, rfl, h5, all_ints_mk _⟩⟩, fun v6 H6 fr6 post => ?_⟩
      obtain ⟨S6, R6⟩ := post
      have hstep := runP_succ hc
      have hS6 : SesAt CF CS H6 x fl (runP cs (i + 1)).1 := by rw [hstep]; exact S6
      have htl := total_len O c
      have L6 : LA Rint H6 pf (runP cs i).2 := by
        obtain ⟨ws, hws, al⟩ := L4.ex (keep := nlK) rob_int e5
        exact ⟨ws, fr6 _ _ hws (Ne.symm nfp) rfl, by rw [all_int al]; exact all_ints_mk _⟩
      have fw6 := (fw4.ex e5).frs hfl0 fr6
      obtain ⟨po, wo, rfl, hpo, alo⟩ := R6
      have hi' : i * 401 ≤ 60 * 401 := Nat.mul_le_mul_right _ (by omega)
      refine q_appB (A := Rint) (b := (((totalM (runP cs i).1 c).2.length : Nat) : Int)) rob_int L6 (ev_var rfl) (er_of (ev_lenR (A := Rint) (l := (totalM (runP cs i).1 c).2) (er_var rfl fun H' e => ⟨po, wo, rfl, e _ _ hpo, alo.ex (keep := nlK) rob_int e⟩)) fun _ _ => rfl) (by omega) fun H7 b7 L7 => ?_
      obtain ⟨wf6, hwf6, alf6⟩ := L6
      have hpp : po ≠ pf := fun z => by
        rw [z, hwf6] at hpo
        cases hpo
        rw [all_int alf6] at alo
        exact outs_ne c (ints_inj_v (all_int alo)).symm
      have S7 := ses_offL hwf6 nfp b7 hS6
      have fw7 := fw6.exb hpf0 b7
      have hpo7 := b7 _ _ hpo hpp
      obtain ⟨wf7, hwf7, alf7⟩ := L7
      refine s_extB (A := Rint) (bs := (runP cs i).2 ++ [(((totalM (runP cs i).1 c).2.length : Nat) : Int)]) rob_int ⟨wf7, hwf7, alf7⟩ (ev_var rfl) (cs := (totalM (runP cs i).1 c).2) (er_var rfl fun H' e => ⟨po, wo, rfl, e _ _ hpo7, by rw [all_int alo]; exact all_ints_mk _⟩) (by rw [List.length_append]; simp only [List.length_singleton]; omega) fun H8 b8 L8 => ?_
      have S8 := ses_offL hwf7 nfp b8 S7
      have fw8 := fw7.exb hpf0 b8
      refine s_asg (v := .int ((at_ i + 1 + (numC c).length : Nat) : Int)) (ev_var rfl) fun H9 e9 => ?_
      refine ⟨cs.length - (i + 1), by omega, i + 1, hlt, rfl, fw8.ex e9, S8.ex e9, ?_, some (.int (opC c)), some (.int ((at_ i + 1 + (numC c).length : Nat) : Int)), some (.ref po), ?_⟩
      · rw [hstep]
        have := L8.ex (keep := nlK) rob_int e9
        rw [List.append_assoc] at this
        exact this
      · have e : at_ (i + 1) = at_ i + 1 + (numC c).length := hsucc
        rw [e]
        rfl
    · have : i = cs.length := by have := of_decide_eq_false hb; omega
      subst this
      refine s_retR (er_is (ev_var rfl)) fun v H3 e3' q => ?_
      rw [show v = _ from q]
      obtain ⟨ws, hws, al⟩ := L
      rw [all_int al] at hws
      rw [runP_all] at hws
      exact k H3 pf ((e2.trans e3') _ _ hws)
end
end L2.SD

/-! E1: what the top has left, and the end. Printed by gen_end.py -/
set_option Elab.async false
set_option linter.all false
set_option maxRecDepth 100000
set_option maxHeartbeats 4000000
namespace L2.SD
open PySem PySem.Spec PyProof.Rows
open SG (anl)
/-- a def stands at f -/
def DefF (K : PySem.W.Frag) (x qual : Str) (st : Stmt) (f : Addr) : Prop := ∃ fd, Fun K x qual st f fd
theorem def_mk {K : PySem.W.Frag} {x qual : Str} {st : Stmt} {f : Addr} {oc : Value} {od an : Option Addr} {osl : Array (Option Value)} {kV doc pm cdv ct : Value} (l : K.lookup f = some ⟨oc, od, .func (PySem.W.fnOf x qual (defArgs st) (defBody st) (defScope st) .none kV doc pm an cdv ct), osl⟩)
    (c : PySem.W.codeIn K cdv qual = true) (k : PySem.W.keepIn K (.ref f) = true) : DefF K x qual st f := ⟨_, fun_mk l c k⟩
abbrev argL : List Int := [0, 0, 2, 2, 3, 3, 1, 2, 1, 1, 1, 1, 0, 0, 0, 2, 2, 0, 0]
theorem gtup_mk {K : PySem.W.Frag} {mg : Str → Option Value} {x : Str} {a : Addr} {l : List Int} {od : Option Addr} {it : Array Value} {n : Nat} {sl : Array (Option Value)} (h : mg x = some (.ref a)) (hl : K.lookup a = some ⟨.type "tuple", od, .seq it n, sl⟩) (hv : Vals (l.map V.int) it.toList) (hz : l.length ≤ 1000) : GTup K mg x a l :=
  ⟨h, fun H => Or.inr ⟨_, it, n, hl, rfl, rfl, by
    have e := hv.length
    rw [show it.size = it.toList.length from rfl, ← e, List.length_map]
    exact Nat.le_trans hz (by decide), hv⟩⟩

theorem all_mk {P : Program} {w : World} {K : PySem.W.Frag} {h : Heap} {mg : Str → Option Value} {fa CF CO CS aA aU f_Fact_init f_Fact_retract f_has_begin f_date_steps f_single_steps f_steps_of f_begin_of f_end_of f_next_states f_chains_from f_preferred f_any_chains f_strict_chains f_strict_chain f_against_above f_against_same f_against_begin f_against_end f_contradiction f_edges_of f_states_from f_Order_init f_Order_is_before f_Order_is_same f_Order_is_not_after f_Order_stratum f_Order_strata f_Order_earliest f_Order_latest f_Order_earlier_answer f_Order_same_year_answer f_earlier_ones f_later_ones f_position_range f_is_between f_harris_pairs f_first_sequence f_masks_of f_count_sequences f_spread f_undetermined f_is_settled f_left_open f_best_question f_Session_init f_Session_active f_Session_order f_Session_add_unit f_Session_add_fact f_Session_retract f_are_years f_are_right f_fault_of f_find_year_range f_told_pairs f_explain f_ask f_list_facts f_change f_about_units f_about_all f_answer f_answers : Addr} {tABOVE tSAME tFIND tDATE tFIRST_YEAR tLAST_YEAR tLONGEST tNO tYES tOPEN tOUT_OF_RANGE tNOT_THERE tCONTRADICTED tRETRACTED tTOO_MANY tMOST_UNITS tMOST_FACTS : Tok} {odARGUMENTS odUNITS : Option Addr} {itARGUMENTS itUNITS : Array Value} {nARGUMENTS nUNITS : Nat} {slARGUMENTS slUNITS : Array (Option Value)} (X : K.In h) (G : h.Ns mainGlobals mg) (hfa : mg "answers" = some (.ref fa))
    (aCF : PySem.W.nsIn K mainGlobals "Fact" = some (some (.ref CF)))
    (aCO : PySem.W.nsIn K mainGlobals "Order" = some (some (.ref CO)))
    (aCS : PySem.W.nsIn K mainGlobals "Session" = some (some (.ref CS)))
    (pgCF : PySem.W.plainGet K CF Str.empty = true)
    (hdCF : PySem.W.hasDictIn K CF = true)
    (poCF : PySem.W.plainOver K CF = true)
    (saCF : PySem.W.findIn K (.ref CF) "__setattr__" = some (some (.builtin "object.__setattr__")))
    (mkCF : PySem.W.makesIn K CF = true)
    (kcCF : PySem.W.keepIn K (.ref CF) = true)
    (pgCO : PySem.W.plainGet K CO Str.empty = true)
    (hdCO : PySem.W.hasDictIn K CO = true)
    (poCO : PySem.W.plainOver K CO = true)
    (saCO : PySem.W.findIn K (.ref CO) "__setattr__" = some (some (.builtin "object.__setattr__")))
    (mkCO : PySem.W.makesIn K CO = true)
    (kcCO : PySem.W.keepIn K (.ref CO) = true)
    (pgCS : PySem.W.plainGet K CS Str.empty = true)
    (hdCS : PySem.W.hasDictIn K CS = true)
    (poCS : PySem.W.plainOver K CS = true)
    (saCS : PySem.W.findIn K (.ref CS) "__setattr__" = some (some (.builtin "object.__setattr__")))
    (mkCS : PySem.W.makesIn K CS = true)
    (kcCS : PySem.W.keepIn K (.ref CS) = true)
    (nFi : PySem.W.findIn K (.ref CF) "own_id" = some none)
    (nFk : PySem.W.findIn K (.ref CF) "kind" = some none)
    (nF1 : PySem.W.findIn K (.ref CF) "first" = some none)
    (nF2 : PySem.W.findIn K (.ref CF) "second" = some none)
    (nF3 : PySem.W.findIn K (.ref CF) "third" = some none)
    (nFa : PySem.W.findIn K (.ref CF) "is_active" = some none)
    (nOc : PySem.W.findIn K (.ref CO) "count" = some none)
    (nOf : PySem.W.findIn K (.ref CO) "facts" = some none)
    (nOs : PySem.W.findIn K (.ref CO) "states" = some none)
    (nSu : PySem.W.findIn K (.ref CS) "units" = some none)
    (nSf : PySem.W.findIn K (.ref CS) "facts" = some none)
    (gABOVE : PySem.W.nsIn K mainGlobals "ABOVE" = some (some (.int 2 tABOVE)))
    (gSAME : PySem.W.nsIn K mainGlobals "SAME" = some (some (.int 3 tSAME)))
    (gFIND : PySem.W.nsIn K mainGlobals "FIND" = some (some (.int 4 tFIND)))
    (gDATE : PySem.W.nsIn K mainGlobals "DATE" = some (some (.int 5 tDATE)))
    (gFIRST_YEAR : PySem.W.nsIn K mainGlobals "FIRST_YEAR" = some (some (.int (-5000) tFIRST_YEAR)))
    (gLAST_YEAR : PySem.W.nsIn K mainGlobals "LAST_YEAR" = some (some (.int 2100 tLAST_YEAR)))
    (gLONGEST : PySem.W.nsIn K mainGlobals "LONGEST" = some (some (.int 48 tLONGEST)))
    (gNO : PySem.W.nsIn K mainGlobals "NO" = some (some (.int 0 tNO)))
    (gYES : PySem.W.nsIn K mainGlobals "YES" = some (some (.int 1 tYES)))
    (gOPEN : PySem.W.nsIn K mainGlobals "OPEN" = some (some (.int 2 tOPEN)))
    (gOUT_OF_RANGE : PySem.W.nsIn K mainGlobals "OUT_OF_RANGE" = some (some (.int (-1) tOUT_OF_RANGE)))
    (gNOT_THERE : PySem.W.nsIn K mainGlobals "NOT_THERE" = some (some (.int (-3) tNOT_THERE)))
    (gCONTRADICTED : PySem.W.nsIn K mainGlobals "CONTRADICTED" = some (some (.int (-4) tCONTRADICTED)))
    (gRETRACTED : PySem.W.nsIn K mainGlobals "RETRACTED" = some (some (.int (-8) tRETRACTED)))
    (gTOO_MANY : PySem.W.nsIn K mainGlobals "TOO_MANY" = some (some (.int (-9) tTOO_MANY)))
    (gMOST_UNITS : PySem.W.nsIn K mainGlobals "MOST_UNITS" = some (some (.int 12 tMOST_UNITS)))
    (gMOST_FACTS : PySem.W.nsIn K mainGlobals "MOST_FACTS" = some (some (.int 40 tMOST_FACTS)))
    (b_len : PySem.W.nsIn K mainGlobals "len" = some none)
    (b_range : PySem.W.nsIn K mainGlobals "range" = some none)
    (b_min : PySem.W.nsIn K mainGlobals "min" = some none)
    (b_max : PySem.W.nsIn K mainGlobals "max" = some none)
    (b_sum : PySem.W.nsIn K mainGlobals "sum" = some none)
    (b_any : PySem.W.nsIn K mainGlobals "any" = some none)
    (b_all : PySem.W.nsIn K mainGlobals "all" = some none)
    (b_list : PySem.W.nsIn K mainGlobals "list" = some none)
    (b_enumerate : PySem.W.nsIn K mainGlobals "enumerate" = some none)
    (gARGUMENTS : PySem.W.nsIn K mainGlobals "ARGUMENTS" = some (some (.ref aA)))
    (lARGUMENTS : K.lookup aA = some ⟨.type "tuple", odARGUMENTS, .seq itARGUMENTS nARGUMENTS, slARGUMENTS⟩)
    (vARGUMENTS : Vals (argL.map V.int) itARGUMENTS.toList)
    (gUNITS : PySem.W.nsIn K mainGlobals "UNITS" = some (some (.ref aU)))
    (lUNITS : K.lookup aU = some ⟨.type "tuple", odUNITS, .seq itUNITS nUNITS, slUNITS⟩)
    (vUNITS : Vals (UNI.map V.int) itUNITS.toList)
    (a_Fact_init : PySem.W.findIn K (.ref CF) "__init__" = some (some (.ref f_Fact_init)))
    (i_Fact_init : PySem.W.isFn K (.ref f_Fact_init) = true)
    (d_Fact_init : DefF K "__init__" "Fact.__init__" s_Fact_init f_Fact_init)
    (a_Fact_retract : PySem.W.findIn K (.ref CF) "retract" = some (some (.ref f_Fact_retract)))
    (i_Fact_retract : PySem.W.isFn K (.ref f_Fact_retract) = true)
    (d_Fact_retract : DefF K "retract" "Fact.retract" s_Fact_retract f_Fact_retract)
    (a_has_begin : PySem.W.nsIn K mainGlobals "has_begin" = some (some (.ref f_has_begin)))
    (d_has_begin : DefF K "has_begin" "has_begin" s_has_begin f_has_begin)
    (a_date_steps : PySem.W.nsIn K mainGlobals "date_steps" = some (some (.ref f_date_steps)))
    (d_date_steps : DefF K "date_steps" "date_steps" s_date_steps f_date_steps)
    (a_single_steps : PySem.W.nsIn K mainGlobals "single_steps" = some (some (.ref f_single_steps)))
    (d_single_steps : DefF K "single_steps" "single_steps" s_single_steps f_single_steps)
    (a_steps_of : PySem.W.nsIn K mainGlobals "steps_of" = some (some (.ref f_steps_of)))
    (d_steps_of : DefF K "steps_of" "steps_of" s_steps_of f_steps_of)
    (a_begin_of : PySem.W.nsIn K mainGlobals "begin_of" = some (some (.ref f_begin_of)))
    (d_begin_of : DefF K "begin_of" "begin_of" s_begin_of f_begin_of)
    (a_end_of : PySem.W.nsIn K mainGlobals "end_of" = some (some (.ref f_end_of)))
    (d_end_of : DefF K "end_of" "end_of" s_end_of f_end_of)
    (a_next_states : PySem.W.nsIn K mainGlobals "next_states" = some (some (.ref f_next_states)))
    (d_next_states : DefF K "next_states" "next_states" s_next_states f_next_states)
    (a_chains_from : PySem.W.nsIn K mainGlobals "chains_from" = some (some (.ref f_chains_from)))
    (d_chains_from : DefF K "chains_from" "chains_from" s_chains_from f_chains_from)
    (a_preferred : PySem.W.nsIn K mainGlobals "preferred" = some (some (.ref f_preferred)))
    (d_preferred : DefF K "preferred" "preferred" s_preferred f_preferred)
    (a_any_chains : PySem.W.nsIn K mainGlobals "any_chains" = some (some (.ref f_any_chains)))
    (d_any_chains : DefF K "any_chains" "any_chains" s_any_chains f_any_chains)
    (a_strict_chains : PySem.W.nsIn K mainGlobals "strict_chains" = some (some (.ref f_strict_chains)))
    (d_strict_chains : DefF K "strict_chains" "strict_chains" s_strict_chains f_strict_chains)
    (a_strict_chain : PySem.W.nsIn K mainGlobals "strict_chain" = some (some (.ref f_strict_chain)))
    (d_strict_chain : DefF K "strict_chain" "strict_chain" s_strict_chain f_strict_chain)
    (a_against_above : PySem.W.nsIn K mainGlobals "against_above" = some (some (.ref f_against_above)))
    (d_against_above : DefF K "against_above" "against_above" s_against_above f_against_above)
    (a_against_same : PySem.W.nsIn K mainGlobals "against_same" = some (some (.ref f_against_same)))
    (d_against_same : DefF K "against_same" "against_same" s_against_same f_against_same)
    (a_against_begin : PySem.W.nsIn K mainGlobals "against_begin" = some (some (.ref f_against_begin)))
    (d_against_begin : DefF K "against_begin" "against_begin" s_against_begin f_against_begin)
    (a_against_end : PySem.W.nsIn K mainGlobals "against_end" = some (some (.ref f_against_end)))
    (d_against_end : DefF K "against_end" "against_end" s_against_end f_against_end)
    (a_contradiction : PySem.W.nsIn K mainGlobals "contradiction" = some (some (.ref f_contradiction)))
    (d_contradiction : DefF K "contradiction" "contradiction" s_contradiction f_contradiction)
    (a_edges_of : PySem.W.nsIn K mainGlobals "edges_of" = some (some (.ref f_edges_of)))
    (d_edges_of : DefF K "edges_of" "edges_of" s_edges_of f_edges_of)
    (a_states_from : PySem.W.nsIn K mainGlobals "states_from" = some (some (.ref f_states_from)))
    (d_states_from : DefF K "states_from" "states_from" s_states_from f_states_from)
    (a_Order_init : PySem.W.findIn K (.ref CO) "__init__" = some (some (.ref f_Order_init)))
    (i_Order_init : PySem.W.isFn K (.ref f_Order_init) = true)
    (d_Order_init : DefF K "__init__" "Order.__init__" s_Order_init f_Order_init)
    (a_Order_is_before : PySem.W.findIn K (.ref CO) "is_before" = some (some (.ref f_Order_is_before)))
    (i_Order_is_before : PySem.W.isFn K (.ref f_Order_is_before) = true)
    (d_Order_is_before : DefF K "is_before" "Order.is_before" s_Order_is_before f_Order_is_before)
    (a_Order_is_same : PySem.W.findIn K (.ref CO) "is_same" = some (some (.ref f_Order_is_same)))
    (i_Order_is_same : PySem.W.isFn K (.ref f_Order_is_same) = true)
    (d_Order_is_same : DefF K "is_same" "Order.is_same" s_Order_is_same f_Order_is_same)
    (a_Order_is_not_after : PySem.W.findIn K (.ref CO) "is_not_after" = some (some (.ref f_Order_is_not_after)))
    (i_Order_is_not_after : PySem.W.isFn K (.ref f_Order_is_not_after) = true)
    (d_Order_is_not_after : DefF K "is_not_after" "Order.is_not_after" s_Order_is_not_after f_Order_is_not_after)
    (a_Order_stratum : PySem.W.findIn K (.ref CO) "stratum" = some (some (.ref f_Order_stratum)))
    (i_Order_stratum : PySem.W.isFn K (.ref f_Order_stratum) = true)
    (d_Order_stratum : DefF K "stratum" "Order.stratum" s_Order_stratum f_Order_stratum)
    (a_Order_strata : PySem.W.findIn K (.ref CO) "strata" = some (some (.ref f_Order_strata)))
    (i_Order_strata : PySem.W.isFn K (.ref f_Order_strata) = true)
    (d_Order_strata : DefF K "strata" "Order.strata" s_Order_strata f_Order_strata)
    (a_Order_earliest : PySem.W.findIn K (.ref CO) "earliest" = some (some (.ref f_Order_earliest)))
    (i_Order_earliest : PySem.W.isFn K (.ref f_Order_earliest) = true)
    (d_Order_earliest : DefF K "earliest" "Order.earliest" s_Order_earliest f_Order_earliest)
    (a_Order_latest : PySem.W.findIn K (.ref CO) "latest" = some (some (.ref f_Order_latest)))
    (i_Order_latest : PySem.W.isFn K (.ref f_Order_latest) = true)
    (d_Order_latest : DefF K "latest" "Order.latest" s_Order_latest f_Order_latest)
    (a_Order_earlier_answer : PySem.W.findIn K (.ref CO) "earlier_answer" = some (some (.ref f_Order_earlier_answer)))
    (i_Order_earlier_answer : PySem.W.isFn K (.ref f_Order_earlier_answer) = true)
    (d_Order_earlier_answer : DefF K "earlier_answer" "Order.earlier_answer" s_Order_earlier_answer f_Order_earlier_answer)
    (a_Order_same_year_answer : PySem.W.findIn K (.ref CO) "same_year_answer" = some (some (.ref f_Order_same_year_answer)))
    (i_Order_same_year_answer : PySem.W.isFn K (.ref f_Order_same_year_answer) = true)
    (d_Order_same_year_answer : DefF K "same_year_answer" "Order.same_year_answer" s_Order_same_year_answer f_Order_same_year_answer)
    (a_earlier_ones : PySem.W.nsIn K mainGlobals "earlier_ones" = some (some (.ref f_earlier_ones)))
    (d_earlier_ones : DefF K "earlier_ones" "earlier_ones" s_earlier_ones f_earlier_ones)
    (a_later_ones : PySem.W.nsIn K mainGlobals "later_ones" = some (some (.ref f_later_ones)))
    (d_later_ones : DefF K "later_ones" "later_ones" s_later_ones f_later_ones)
    (a_position_range : PySem.W.nsIn K mainGlobals "position_range" = some (some (.ref f_position_range)))
    (d_position_range : DefF K "position_range" "position_range" s_position_range f_position_range)
    (a_is_between : PySem.W.nsIn K mainGlobals "is_between" = some (some (.ref f_is_between)))
    (d_is_between : DefF K "is_between" "is_between" s_is_between f_is_between)
    (a_harris_pairs : PySem.W.nsIn K mainGlobals "harris_pairs" = some (some (.ref f_harris_pairs)))
    (d_harris_pairs : DefF K "harris_pairs" "harris_pairs" s_harris_pairs f_harris_pairs)
    (a_first_sequence : PySem.W.nsIn K mainGlobals "first_sequence" = some (some (.ref f_first_sequence)))
    (d_first_sequence : DefF K "first_sequence" "first_sequence" s_first_sequence f_first_sequence)
    (a_masks_of : PySem.W.nsIn K mainGlobals "masks_of" = some (some (.ref f_masks_of)))
    (d_masks_of : DefF K "masks_of" "masks_of" s_masks_of f_masks_of)
    (a_count_sequences : PySem.W.nsIn K mainGlobals "count_sequences" = some (some (.ref f_count_sequences)))
    (d_count_sequences : DefF K "count_sequences" "count_sequences" s_count_sequences f_count_sequences)
    (a_spread : PySem.W.nsIn K mainGlobals "spread" = some (some (.ref f_spread)))
    (d_spread : DefF K "spread" "spread" s_spread f_spread)
    (a_undetermined : PySem.W.nsIn K mainGlobals "undetermined" = some (some (.ref f_undetermined)))
    (d_undetermined : DefF K "undetermined" "undetermined" s_undetermined f_undetermined)
    (a_is_settled : PySem.W.nsIn K mainGlobals "is_settled" = some (some (.ref f_is_settled)))
    (d_is_settled : DefF K "is_settled" "is_settled" s_is_settled f_is_settled)
    (a_left_open : PySem.W.nsIn K mainGlobals "left_open" = some (some (.ref f_left_open)))
    (d_left_open : DefF K "left_open" "left_open" s_left_open f_left_open)
    (a_best_question : PySem.W.nsIn K mainGlobals "best_question" = some (some (.ref f_best_question)))
    (d_best_question : DefF K "best_question" "best_question" s_best_question f_best_question)
    (a_Session_init : PySem.W.findIn K (.ref CS) "__init__" = some (some (.ref f_Session_init)))
    (i_Session_init : PySem.W.isFn K (.ref f_Session_init) = true)
    (d_Session_init : DefF K "__init__" "Session.__init__" s_Session_init f_Session_init)
    (a_Session_active : PySem.W.findIn K (.ref CS) "active" = some (some (.ref f_Session_active)))
    (i_Session_active : PySem.W.isFn K (.ref f_Session_active) = true)
    (d_Session_active : DefF K "active" "Session.active" s_Session_active f_Session_active)
    (a_Session_order : PySem.W.findIn K (.ref CS) "order" = some (some (.ref f_Session_order)))
    (i_Session_order : PySem.W.isFn K (.ref f_Session_order) = true)
    (d_Session_order : DefF K "order" "Session.order" s_Session_order f_Session_order)
    (a_Session_add_unit : PySem.W.findIn K (.ref CS) "add_unit" = some (some (.ref f_Session_add_unit)))
    (i_Session_add_unit : PySem.W.isFn K (.ref f_Session_add_unit) = true)
    (d_Session_add_unit : DefF K "add_unit" "Session.add_unit" s_Session_add_unit f_Session_add_unit)
    (a_Session_add_fact : PySem.W.findIn K (.ref CS) "add_fact" = some (some (.ref f_Session_add_fact)))
    (i_Session_add_fact : PySem.W.isFn K (.ref f_Session_add_fact) = true)
    (d_Session_add_fact : DefF K "add_fact" "Session.add_fact" s_Session_add_fact f_Session_add_fact)
    (a_Session_retract : PySem.W.findIn K (.ref CS) "retract" = some (some (.ref f_Session_retract)))
    (i_Session_retract : PySem.W.isFn K (.ref f_Session_retract) = true)
    (d_Session_retract : DefF K "retract" "Session.retract" s_Session_retract f_Session_retract)
    (a_are_years : PySem.W.nsIn K mainGlobals "are_years" = some (some (.ref f_are_years)))
    (d_are_years : DefF K "are_years" "are_years" s_are_years f_are_years)
    (a_are_right : PySem.W.nsIn K mainGlobals "are_right" = some (some (.ref f_are_right)))
    (d_are_right : DefF K "are_right" "are_right" s_are_right f_are_right)
    (a_fault_of : PySem.W.nsIn K mainGlobals "fault_of" = some (some (.ref f_fault_of)))
    (d_fault_of : DefF K "fault_of" "fault_of" s_fault_of f_fault_of)
    (a_find_year_range : PySem.W.nsIn K mainGlobals "find_year_range" = some (some (.ref f_find_year_range)))
    (d_find_year_range : DefF K "find_year_range" "find_year_range" s_find_year_range f_find_year_range)
    (a_told_pairs : PySem.W.nsIn K mainGlobals "told_pairs" = some (some (.ref f_told_pairs)))
    (d_told_pairs : DefF K "told_pairs" "told_pairs" s_told_pairs f_told_pairs)
    (a_explain : PySem.W.nsIn K mainGlobals "explain" = some (some (.ref f_explain)))
    (d_explain : DefF K "explain" "explain" s_explain f_explain)
    (a_ask : PySem.W.nsIn K mainGlobals "ask" = some (some (.ref f_ask)))
    (d_ask : DefF K "ask" "ask" s_ask f_ask)
    (a_list_facts : PySem.W.nsIn K mainGlobals "list_facts" = some (some (.ref f_list_facts)))
    (d_list_facts : DefF K "list_facts" "list_facts" s_list_facts f_list_facts)
    (a_change : PySem.W.nsIn K mainGlobals "change" = some (some (.ref f_change)))
    (d_change : DefF K "change" "change" s_change f_change)
    (a_about_units : PySem.W.nsIn K mainGlobals "about_units" = some (some (.ref f_about_units)))
    (d_about_units : DefF K "about_units" "about_units" s_about_units f_about_units)
    (a_about_all : PySem.W.nsIn K mainGlobals "about_all" = some (some (.ref f_about_all)))
    (d_about_all : DefF K "about_all" "about_all" s_about_all f_about_all)
    (a_answer : PySem.W.nsIn K mainGlobals "answer" = some (some (.ref f_answer)))
    (d_answer : DefF K "answer" "answer" s_answer f_answer)
    (a_answers : PySem.W.nsIn K mainGlobals "answers" = some (some (.ref f_answers)))
    (d_answers : DefF K "answers" "answers" s_answers f_answers) :
    ∃ fd : FuncData, (∀ (s : Shared) (us : List Value), us.length = (["calls"] : List Str).length → BindsTo s fd ⟨us, []⟩ ((["calls"] : List Str).zip us)) ∧ ∀ base : Heap, K.In base → base.Ns mainGlobals mg → FnOk P w K mg base CX0 11 fa fd ["calls"] (spTop K) := by
  have e := hfa.symm.trans (PySem.W.mg_of X G a_answers)
  cases e
  have T : Txt K mg CF CO CS aA aU := { cF := ⟨pgCF, hdCF, poCF, saCF⟩, cO := ⟨pgCO, hdCO, poCO, saCO⟩, cS := ⟨pgCS, hdCS, poCS, saCS⟩, nFi := nFi, nFk := nFk, nF1 := nF1, nF2 := nF2, nF3 := nF3, nFa := nFa, nOc := nOc, nOf := nOf, nOs := nOs, nSu := nSu, nSf := nSf, g_ABOVE := ⟨_, PySem.W.mg_of X G gABOVE⟩, g_SAME := ⟨_, PySem.W.mg_of X G gSAME⟩, g_FIND := ⟨_, PySem.W.mg_of X G gFIND⟩, g_DATE := ⟨_, PySem.W.mg_of X G gDATE⟩, g_FIRST_YEAR := ⟨_, PySem.W.mg_of X G gFIRST_YEAR⟩, g_LAST_YEAR := ⟨_, PySem.W.mg_of X G gLAST_YEAR⟩, g_LONGEST := ⟨_, PySem.W.mg_of X G gLONGEST⟩, g_NO := ⟨_, PySem.W.mg_of X G gNO⟩, g_YES := ⟨_, PySem.W.mg_of X G gYES⟩, g_OPEN := ⟨_, PySem.W.mg_of X G gOPEN⟩, g_OUT_OF_RANGE := ⟨_, PySem.W.mg_of X G gOUT_OF_RANGE⟩, g_NOT_THERE := ⟨_, PySem.W.mg_of X G gNOT_THERE⟩, g_CONTRADICTED := ⟨_, PySem.W.mg_of X G gCONTRADICTED⟩, g_RETRACTED := ⟨_, PySem.W.mg_of X G gRETRACTED⟩, g_TOO_MANY := ⟨_, PySem.W.mg_of X G gTOO_MANY⟩, g_MOST_UNITS := ⟨_, PySem.W.mg_of X G gMOST_UNITS⟩, g_MOST_FACTS := ⟨_, PySem.W.mg_of X G gMOST_FACTS⟩, g_ARGUMENTS := gtup_mk (PySem.W.mg_of X G gARGUMENTS) lARGUMENTS vARGUMENTS (by decide), g_UNITS := gtup_mk (PySem.W.mg_of X G gUNITS) lUNITS vUNITS (by decide), len := PySem.W.mg_none_of X G b_len, range := PySem.W.mg_none_of X G b_range, min := PySem.W.mg_none_of X G b_min, max := PySem.W.mg_none_of X G b_max, sum := PySem.W.mg_none_of X G b_sum, any := PySem.W.mg_none_of X G b_any, all := PySem.W.mg_none_of X G b_all, list := PySem.W.mg_none_of X G b_list, enumerate := PySem.W.mg_none_of X G b_enumerate }
  obtain ⟨fd_Fact_init, F_Fact_init⟩ := d_Fact_init
  obtain ⟨fd_Fact_retract, F_Fact_retract⟩ := d_Fact_retract
  obtain ⟨fd_has_begin, F_has_begin⟩ := d_has_begin
  obtain ⟨fd_date_steps, F_date_steps⟩ := d_date_steps
  obtain ⟨fd_single_steps, F_single_steps⟩ := d_single_steps
  obtain ⟨fd_steps_of, F_steps_of⟩ := d_steps_of
  obtain ⟨fd_begin_of, F_begin_of⟩ := d_begin_of
  obtain ⟨fd_end_of, F_end_of⟩ := d_end_of
  obtain ⟨fd_next_states, F_next_states⟩ := d_next_states
  obtain ⟨fd_chains_from, F_chains_from⟩ := d_chains_from
  obtain ⟨fd_preferred, F_preferred⟩ := d_preferred
  obtain ⟨fd_any_chains, F_any_chains⟩ := d_any_chains
  obtain ⟨fd_strict_chains, F_strict_chains⟩ := d_strict_chains
  obtain ⟨fd_strict_chain, F_strict_chain⟩ := d_strict_chain
  obtain ⟨fd_against_above, F_against_above⟩ := d_against_above
  obtain ⟨fd_against_same, F_against_same⟩ := d_against_same
  obtain ⟨fd_against_begin, F_against_begin⟩ := d_against_begin
  obtain ⟨fd_against_end, F_against_end⟩ := d_against_end
  obtain ⟨fd_contradiction, F_contradiction⟩ := d_contradiction
  obtain ⟨fd_edges_of, F_edges_of⟩ := d_edges_of
  obtain ⟨fd_states_from, F_states_from⟩ := d_states_from
  obtain ⟨fd_Order_init, F_Order_init⟩ := d_Order_init
  obtain ⟨fd_Order_is_before, F_Order_is_before⟩ := d_Order_is_before
  obtain ⟨fd_Order_is_same, F_Order_is_same⟩ := d_Order_is_same
  obtain ⟨fd_Order_is_not_after, F_Order_is_not_after⟩ := d_Order_is_not_after
  obtain ⟨fd_Order_stratum, F_Order_stratum⟩ := d_Order_stratum
  obtain ⟨fd_Order_strata, F_Order_strata⟩ := d_Order_strata
  obtain ⟨fd_Order_earliest, F_Order_earliest⟩ := d_Order_earliest
  obtain ⟨fd_Order_latest, F_Order_latest⟩ := d_Order_latest
  obtain ⟨fd_Order_earlier_answer, F_Order_earlier_answer⟩ := d_Order_earlier_answer
  obtain ⟨fd_Order_same_year_answer, F_Order_same_year_answer⟩ := d_Order_same_year_answer
  obtain ⟨fd_earlier_ones, F_earlier_ones⟩ := d_earlier_ones
  obtain ⟨fd_later_ones, F_later_ones⟩ := d_later_ones
  obtain ⟨fd_position_range, F_position_range⟩ := d_position_range
  obtain ⟨fd_is_between, F_is_between⟩ := d_is_between
  obtain ⟨fd_harris_pairs, F_harris_pairs⟩ := d_harris_pairs
  obtain ⟨fd_first_sequence, F_first_sequence⟩ := d_first_sequence
  obtain ⟨fd_masks_of, F_masks_of⟩ := d_masks_of
  obtain ⟨fd_count_sequences, F_count_sequences⟩ := d_count_sequences
  obtain ⟨fd_spread, F_spread⟩ := d_spread
  obtain ⟨fd_undetermined, F_undetermined⟩ := d_undetermined
  obtain ⟨fd_is_settled, F_is_settled⟩ := d_is_settled
  obtain ⟨fd_left_open, F_left_open⟩ := d_left_open
  obtain ⟨fd_best_question, F_best_question⟩ := d_best_question
  obtain ⟨fd_Session_init, F_Session_init⟩ := d_Session_init
  obtain ⟨fd_Session_active, F_Session_active⟩ := d_Session_active
  obtain ⟨fd_Session_order, F_Session_order⟩ := d_Session_order
  obtain ⟨fd_Session_add_unit, F_Session_add_unit⟩ := d_Session_add_unit
  obtain ⟨fd_Session_add_fact, F_Session_add_fact⟩ := d_Session_add_fact
  obtain ⟨fd_Session_retract, F_Session_retract⟩ := d_Session_retract
  obtain ⟨fd_are_years, F_are_years⟩ := d_are_years
  obtain ⟨fd_are_right, F_are_right⟩ := d_are_right
  obtain ⟨fd_fault_of, F_fault_of⟩ := d_fault_of
  obtain ⟨fd_find_year_range, F_find_year_range⟩ := d_find_year_range
  obtain ⟨fd_told_pairs, F_told_pairs⟩ := d_told_pairs
  obtain ⟨fd_explain, F_explain⟩ := d_explain
  obtain ⟨fd_ask, F_ask⟩ := d_ask
  obtain ⟨fd_list_facts, F_list_facts⟩ := d_list_facts
  obtain ⟨fd_change, F_change⟩ := d_change
  obtain ⟨fd_about_units, F_about_units⟩ := d_about_units
  obtain ⟨fd_about_all, F_about_all⟩ := d_about_all
  obtain ⟨fd_answer, F_answer⟩ := d_answer
  obtain ⟨fd_answers, F_answers⟩ := d_answers
  have b_Fact_init : Binds K fd_Fact_init ["self", "own_id", "kind", "first", "second", "third"] [] := F_Fact_init.binds (ps := ["self", "own_id", "kind", "first", "second", "third"]) fun _ _ _ _ _ _ us hl => match us, hl with | [_, _, _, _, _, _], _ => rfl
  have b_Fact_retract : Binds K fd_Fact_retract ["self"] [] := F_Fact_retract.binds (ps := ["self"]) fun _ _ _ _ _ _ us hl => match us, hl with | [_], _ => rfl
  have b_has_begin : Binds K fd_has_begin ["fact"] [] := F_has_begin.binds (ps := ["fact"]) fun _ _ _ _ _ _ us hl => match us, hl with | [_], _ => rfl
  have b_date_steps : Binds K fd_date_steps ["facts"] [] := F_date_steps.binds (ps := ["facts"]) fun _ _ _ _ _ _ us hl => match us, hl with | [_], _ => rfl
  have b_single_steps : Binds K fd_single_steps ["facts"] [] := F_single_steps.binds (ps := ["facts"]) fun _ _ _ _ _ _ us hl => match us, hl with | [_], _ => rfl
  have b_steps_of : Binds K fd_steps_of ["facts"] [] := F_steps_of.binds (ps := ["facts"]) fun _ _ _ _ _ _ us hl => match us, hl with | [_], _ => rfl
  have b_begin_of : Binds K fd_begin_of ["facts", "unit"] [] := F_begin_of.binds (ps := ["facts", "unit"]) fun _ _ _ _ _ _ us hl => match us, hl with | [_, _], _ => rfl
  have b_end_of : Binds K fd_end_of ["facts", "unit"] [] := F_end_of.binds (ps := ["facts", "unit"]) fun _ _ _ _ _ _ us hl => match us, hl with | [_, _], _ => rfl
  have b_next_states : Binds K fd_next_states ["steps", "layers", "found", "length"] [] := F_next_states.binds (ps := ["steps", "layers", "found", "length"]) fun _ _ _ _ _ _ us hl => match us, hl with | [_, _, _, _], _ => rfl
  have b_chains_from : Binds K fd_chains_from ["steps", "start"] [] := F_chains_from.binds (ps := ["steps", "start"]) fun _ _ _ _ _ _ us hl => match us, hl with | [_, _], _ => rfl
  have b_preferred : Binds K fd_preferred ["chains"] [] := F_preferred.binds (ps := ["chains"]) fun _ _ _ _ _ _ us hl => match us, hl with | [_], _ => rfl
  have b_any_chains : Binds K fd_any_chains ["found", "unit"] [] := F_any_chains.binds (ps := ["found", "unit"]) fun _ _ _ _ _ _ us hl => match us, hl with | [_, _], _ => rfl
  have b_strict_chains : Binds K fd_strict_chains ["found", "unit"] [] := F_strict_chains.binds (ps := ["found", "unit"]) fun _ _ _ _ _ _ us hl => match us, hl with | [_, _], _ => rfl
  have b_strict_chain : Binds K fd_strict_chain ["facts", "one", "other"] [] := F_strict_chain.binds (ps := ["facts", "one", "other"]) fun _ _ _ _ _ _ us hl => match us, hl with | [_, _, _], _ => rfl
  have b_against_above : Binds K fd_against_above ["steps", "upper", "lower"] [] := F_against_above.binds (ps := ["steps", "upper", "lower"]) fun _ _ _ _ _ _ us hl => match us, hl with | [_, _, _], _ => rfl
  have b_against_same : Binds K fd_against_same ["steps", "one", "other"] [] := F_against_same.binds (ps := ["steps", "one", "other"]) fun _ _ _ _ _ _ us hl => match us, hl with | [_, _, _], _ => rfl
  have b_against_begin : Binds K fd_against_begin ["facts", "steps", "unit", "year"] [] := F_against_begin.binds (ps := ["facts", "steps", "unit", "year"]) fun _ _ _ _ _ _ us hl => match us, hl with | [_, _, _, _], _ => rfl
  have b_against_end : Binds K fd_against_end ["facts", "steps", "unit", "year"] [] := F_against_end.binds (ps := ["facts", "steps", "unit", "year"]) fun _ _ _ _ _ _ us hl => match us, hl with | [_, _, _, _], _ => rfl
  have b_contradiction : Binds K fd_contradiction ["facts", "kind", "first", "second", "third"] [] := F_contradiction.binds (ps := ["facts", "kind", "first", "second", "third"]) fun _ _ _ _ _ _ us hl => match us, hl with | [_, _, _, _, _], _ => rfl
  have b_edges_of : Binds K fd_edges_of ["facts"] [] := F_edges_of.binds (ps := ["facts"]) fun _ _ _ _ _ _ us hl => match us, hl with | [_], _ => rfl
  have b_states_from : Binds K fd_states_from ["edges", "start"] [] := F_states_from.binds (ps := ["edges", "start"]) fun _ _ _ _ _ _ us hl => match us, hl with | [_, _], _ => rfl
  have b_Order_init : Binds K fd_Order_init ["self", "count", "facts"] [] := F_Order_init.binds (ps := ["self", "count", "facts"]) fun _ _ _ _ _ _ us hl => match us, hl with | [_, _, _], _ => rfl
  have b_Order_is_before : Binds K fd_Order_is_before ["self", "one", "other"] [] := F_Order_is_before.binds (ps := ["self", "one", "other"]) fun _ _ _ _ _ _ us hl => match us, hl with | [_, _, _], _ => rfl
  have b_Order_is_same : Binds K fd_Order_is_same ["self", "one", "other"] [] := F_Order_is_same.binds (ps := ["self", "one", "other"]) fun _ _ _ _ _ _ us hl => match us, hl with | [_, _, _], _ => rfl
  have b_Order_is_not_after : Binds K fd_Order_is_not_after ["self", "one", "other"] [] := F_Order_is_not_after.binds (ps := ["self", "one", "other"]) fun _ _ _ _ _ _ us hl => match us, hl with | [_, _, _], _ => rfl
  have b_Order_stratum : Binds K fd_Order_stratum ["self", "unit"] [] := F_Order_stratum.binds (ps := ["self", "unit"]) fun _ _ _ _ _ _ us hl => match us, hl with | [_, _], _ => rfl
  have b_Order_strata : Binds K fd_Order_strata ["self"] [] := F_Order_strata.binds (ps := ["self"]) fun _ _ _ _ _ _ us hl => match us, hl with | [_], _ => rfl
  have b_Order_earliest : Binds K fd_Order_earliest ["self", "unit"] [] := F_Order_earliest.binds (ps := ["self", "unit"]) fun _ _ _ _ _ _ us hl => match us, hl with | [_, _], _ => rfl
  have b_Order_latest : Binds K fd_Order_latest ["self", "unit"] [] := F_Order_latest.binds (ps := ["self", "unit"]) fun _ _ _ _ _ _ us hl => match us, hl with | [_, _], _ => rfl
  have b_Order_earlier_answer : Binds K fd_Order_earlier_answer ["self", "one", "other"] [] := F_Order_earlier_answer.binds (ps := ["self", "one", "other"]) fun _ _ _ _ _ _ us hl => match us, hl with | [_, _, _], _ => rfl
  have b_Order_same_year_answer : Binds K fd_Order_same_year_answer ["self", "one", "other"] [] := F_Order_same_year_answer.binds (ps := ["self", "one", "other"]) fun _ _ _ _ _ _ us hl => match us, hl with | [_, _, _], _ => rfl
  have b_earlier_ones : Binds K fd_earlier_ones ["order", "strata", "unit"] [] := F_earlier_ones.binds (ps := ["order", "strata", "unit"]) fun _ _ _ _ _ _ us hl => match us, hl with | [_, _, _], _ => rfl
  have b_later_ones : Binds K fd_later_ones ["order", "strata", "unit"] [] := F_later_ones.binds (ps := ["order", "strata", "unit"]) fun _ _ _ _ _ _ us hl => match us, hl with | [_, _, _], _ => rfl
  have b_position_range : Binds K fd_position_range ["order", "unit"] [] := F_position_range.binds (ps := ["order", "unit"]) fun _ _ _ _ _ _ us hl => match us, hl with | [_, _], _ => rfl
  have b_is_between : Binds K fd_is_between ["order", "strata", "one", "other"] [] := F_is_between.binds (ps := ["order", "strata", "one", "other"]) fun _ _ _ _ _ _ us hl => match us, hl with | [_, _, _, _], _ => rfl
  have b_harris_pairs : Binds K fd_harris_pairs ["order"] [] := F_harris_pairs.binds (ps := ["order"]) fun _ _ _ _ _ _ us hl => match us, hl with | [_], _ => rfl
  have b_first_sequence : Binds K fd_first_sequence ["order"] [] := F_first_sequence.binds (ps := ["order"]) fun _ _ _ _ _ _ us hl => match us, hl with | [_], _ => rfl
  have b_masks_of : Binds K fd_masks_of ["order", "strata"] [] := F_masks_of.binds (ps := ["order", "strata"]) fun _ _ _ _ _ _ us hl => match us, hl with | [_, _], _ => rfl
  have b_count_sequences : Binds K fd_count_sequences ["order"] [] := F_count_sequences.binds (ps := ["order"]) fun _ _ _ _ _ _ us hl => match us, hl with | [_], _ => rfl
  have b_spread : Binds K fd_spread ["ways", "masks", "done"] [] := F_spread.binds (ps := ["ways", "masks", "done"]) fun _ _ _ _ _ _ us hl => match us, hl with | [_, _, _], _ => rfl
  have b_undetermined : Binds K fd_undetermined ["order"] [] := F_undetermined.binds (ps := ["order"]) fun _ _ _ _ _ _ us hl => match us, hl with | [_], _ => rfl
  have b_is_settled : Binds K fd_is_settled ["order", "pair", "one", "other"] [] := F_is_settled.binds (ps := ["order", "pair", "one", "other"]) fun _ _ _ _ _ _ us hl => match us, hl with | [_, _, _, _], _ => rfl
  have b_left_open : Binds K fd_left_open ["order", "pairs", "one", "other"] [] := F_left_open.binds (ps := ["order", "pairs", "one", "other"]) fun _ _ _ _ _ _ us hl => match us, hl with | [_, _, _, _], _ => rfl
  have b_best_question : Binds K fd_best_question ["order"] [] := F_best_question.binds (ps := ["order"]) fun _ _ _ _ _ _ us hl => match us, hl with | [_], _ => rfl
  have b_Session_init : Binds K fd_Session_init ["self"] [] := F_Session_init.binds (ps := ["self"]) fun _ _ _ _ _ _ us hl => match us, hl with | [_], _ => rfl
  have b_Session_active : Binds K fd_Session_active ["self"] [] := F_Session_active.binds (ps := ["self"]) fun _ _ _ _ _ _ us hl => match us, hl with | [_], _ => rfl
  have b_Session_order : Binds K fd_Session_order ["self"] [] := F_Session_order.binds (ps := ["self"]) fun _ _ _ _ _ _ us hl => match us, hl with | [_], _ => rfl
  have b_Session_add_unit : Binds K fd_Session_add_unit ["self"] [] := F_Session_add_unit.binds (ps := ["self"]) fun _ _ _ _ _ _ us hl => match us, hl with | [_], _ => rfl
  have b_Session_add_fact : Binds K fd_Session_add_fact ["self", "kind", "first", "second", "third"] [] := F_Session_add_fact.binds (ps := ["self", "kind", "first", "second", "third"]) fun _ _ _ _ _ _ us hl => match us, hl with | [_, _, _, _, _], _ => rfl
  have b_Session_retract : Binds K fd_Session_retract ["self", "fact"] [] := F_Session_retract.binds (ps := ["self", "fact"]) fun _ _ _ _ _ _ us hl => match us, hl with | [_, _], _ => rfl
  have b_are_years : Binds K fd_are_years ["first", "last"] [] := F_are_years.binds (ps := ["first", "last"]) fun _ _ _ _ _ _ us hl => match us, hl with | [_, _], _ => rfl
  have b_are_right : Binds K fd_are_right ["call", "numbers"] [] := F_are_right.binds (ps := ["call", "numbers"]) fun _ _ _ _ _ _ us hl => match us, hl with | [_, _], _ => rfl
  have b_fault_of : Binds K fd_fault_of ["session", "call", "numbers"] [] := F_fault_of.binds (ps := ["session", "call", "numbers"]) fun _ _ _ _ _ _ us hl => match us, hl with | [_, _, _], _ => rfl
  have b_find_year_range : Binds K fd_find_year_range ["session", "number"] [] := F_find_year_range.binds (ps := ["session", "number"]) fun _ _ _ _ _ _ us hl => match us, hl with | [_, _], _ => rfl
  have b_told_pairs : Binds K fd_told_pairs ["pairs"] [] := F_told_pairs.binds (ps := ["pairs"]) fun _ _ _ _ _ _ us hl => match us, hl with | [_], _ => rfl
  have b_explain : Binds K fd_explain ["session", "one", "other"] [] := F_explain.binds (ps := ["session", "one", "other"]) fun _ _ _ _ _ _ us hl => match us, hl with | [_, _, _], _ => rfl
  have b_ask : Binds K fd_ask ["session"] [] := F_ask.binds (ps := ["session"]) fun _ _ _ _ _ _ us hl => match us, hl with | [_], _ => rfl
  have b_list_facts : Binds K fd_list_facts ["session"] [] := F_list_facts.binds (ps := ["session"]) fun _ _ _ _ _ _ us hl => match us, hl with | [_], _ => rfl
  have b_change : Binds K fd_change ["session", "call", "numbers"] [] := F_change.binds (ps := ["session", "call", "numbers"]) fun _ _ _ _ _ _ us hl => match us, hl with | [_, _, _], _ => rfl
  have b_about_units : Binds K fd_about_units ["session", "call", "numbers"] [] := F_about_units.binds (ps := ["session", "call", "numbers"]) fun _ _ _ _ _ _ us hl => match us, hl with | [_, _, _], _ => rfl
  have b_about_all : Binds K fd_about_all ["session", "call"] [] := F_about_all.binds (ps := ["session", "call"]) fun _ _ _ _ _ _ us hl => match us, hl with | [_, _], _ => rfl
  have b_answer : Binds K fd_answer ["session", "call", "numbers"] [] := F_answer.binds (ps := ["session", "call", "numbers"]) fun _ _ _ _ _ _ us hl => match us, hl with | [_, _, _], _ => rfl
  have b_answers : Binds K fd_answers ["calls"] [] := F_answers.binds (ps := ["calls"]) fun _ _ _ _ _ _ us hl => match us, hl with | [_], _ => rfl
  refine ⟨fd_answers, fun s us hu => ?_, fun base _ _ => ?_⟩
  · have hbd : bindArgs fd_answers ⟨us, []⟩ = pure ((["calls"] : List Str).zip us) := by
      obtain ⟨oc, od, kV, doc, pm, an, cdv, ct, osl, rfl, lk, hcd⟩ := F_answers.ex
      match us, hu with | [_], _ => rfl
    exact .of_eq hbd
  · have o_Fact_init : OwnC P w K mg base "Fact" CF 1 ["self", "own_id", "kind", "first", "second", "third"] (spFInit CF) := ⟨PySem.W.mg_of X G aCF, f_Fact_init, fd_Fact_init, ⟨mkCF, a_Fact_init, i_Fact_init, kcCF⟩, b_Fact_init, ok_Fact_init F_Fact_init T ⟩
    have o_Fact_retract : OwnM P w K mg base CF "retract" 1 ["self"] (spFRet CF) := ⟨T.cF, f_Fact_retract, fd_Fact_retract, ⟨a_Fact_retract, i_Fact_retract, F_Fact_retract.kp⟩, b_Fact_retract, ok_Fact_retract F_Fact_retract T ⟩
    have o_has_begin : Own P w K mg base "has_begin" 1 ["fact"] (spHas CF) := ⟨f_has_begin, fd_has_begin, PySem.W.mg_of X G a_has_begin, F_has_begin.kp, b_has_begin, ok_has_begin F_has_begin T ⟩
    have o_date_steps : Own P w K mg base "date_steps" 2 ["facts"] (spFS CF fun es => es.flatMap (dateOf es)) := ⟨f_date_steps, fd_date_steps, PySem.W.mg_of X G a_date_steps, F_date_steps.kp, b_date_steps, ok_date_steps F_date_steps T (o_has_begin := o_has_begin)⟩
    have o_single_steps : Own P w K mg base "single_steps" 1 ["facts"] (spFS CF fun es => es.flatMap SG.sglOf) := ⟨f_single_steps, fd_single_steps, PySem.W.mg_of X G a_single_steps, F_single_steps.kp, b_single_steps, ok_single_steps F_single_steps T ⟩
    have o_steps_of : Own P w K mg base "steps_of" 3 ["facts"] (spFS CF Stratigraphy.stepsOf) := ⟨f_steps_of, fd_steps_of, PySem.W.mg_of X G a_steps_of, F_steps_of.kp, b_steps_of, ok_steps_of F_steps_of T (o_date_steps := o_date_steps) (o_single_steps := o_single_steps)⟩
    have o_begin_of : Own P w K mg base "begin_of" 2 ["facts", "unit"] (spYr CF fun es u y => SG.EarlyP es (fun x => x = u) y) := ⟨f_begin_of, fd_begin_of, PySem.W.mg_of X G a_begin_of, F_begin_of.kp, b_begin_of, ok_begin_of F_begin_of T (o_has_begin := o_has_begin)⟩
    have o_end_of : Own P w K mg base "end_of" 1 ["facts", "unit"] (spYr CF fun es u y => SG.LateP es (fun x => x = u) y) := ⟨f_end_of, fd_end_of, PySem.W.mg_of X G a_end_of, F_end_of.kp, b_end_of, ok_end_of F_end_of T ⟩
    have o_next_states : Own P w K mg base "next_states" 1 ["steps", "layers", "found", "length"] (spNext P w) := ⟨f_next_states, fd_next_states, PySem.W.mg_of X G a_next_states, F_next_states.kp, b_next_states, ok_next_states F_next_states T ⟩
    have o_chains_from : Own P w K mg base "chains_from" 2 ["steps", "start"] (spChains P w) := ⟨f_chains_from, fd_chains_from, PySem.W.mg_of X G a_chains_from, F_chains_from.kp, b_chains_from, ok_chains_from F_chains_from T (o_next_states := o_next_states)⟩
    have o_preferred : Own P w K mg base "preferred" 1 ["chains"] spPref := ⟨f_preferred, fd_preferred, PySem.W.mg_of X G a_preferred, F_preferred.kp, b_preferred, ok_preferred F_preferred T ⟩
    have o_any_chains : Own P w K mg base "any_chains" 1 ["found", "unit"] (spOn P w SG.anyCh) := ⟨f_any_chains, fd_any_chains, PySem.W.mg_of X G a_any_chains, F_any_chains.kp, b_any_chains, ok_any_chains F_any_chains T ⟩
    have o_strict_chains : Own P w K mg base "strict_chains" 1 ["found", "unit"] (spOn P w SG.strictCh) := ⟨f_strict_chains, fd_strict_chains, PySem.W.mg_of X G a_strict_chains, F_strict_chains.kp, b_strict_chains, ok_strict_chains F_strict_chains T ⟩
    have o_strict_chain : Own P w K mg base "strict_chain" 4 ["facts", "one", "other"] (spStrict CF) := ⟨f_strict_chain, fd_strict_chain, PySem.W.mg_of X G a_strict_chain, F_strict_chain.kp, b_strict_chain, ok_strict_chain F_strict_chain T (o_chains_from := o_chains_from) (o_preferred := o_preferred) (o_steps_of := o_steps_of) (o_strict_chains := o_strict_chains)⟩
    have o_against_above : Own P w K mg base "against_above" 3 ["steps", "upper", "lower"] (spAg fun S a b => SG.anyCh (SG.chainsFrom S a) b) := ⟨f_against_above, fd_against_above, PySem.W.mg_of X G a_against_above, F_against_above.kp, b_against_above, ok_against_above F_against_above T (o_any_chains := o_any_chains) (o_chains_from := o_chains_from)⟩
    have o_against_same : Own P w K mg base "against_same" 3 ["steps", "one", "other"] (spAg fun S a b => SG.strictCh (SG.chainsFrom S a) b ++ SG.strictCh (SG.chainsFrom S b) a) := ⟨f_against_same, fd_against_same, PySem.W.mg_of X G a_against_same, F_against_same.kp, b_against_same, ok_against_same F_against_same T (o_chains_from := o_chains_from) (o_strict_chains := o_strict_chains)⟩
    have o_against_begin : Own P w K mg base "against_begin" 3 ["facts", "steps", "unit", "year"] (spAgB CF) := ⟨f_against_begin, fd_against_begin, PySem.W.mg_of X G a_against_begin, F_against_begin.kp, b_against_begin, ok_against_begin F_against_begin T (o_any_chains := o_any_chains) (o_chains_from := o_chains_from)⟩
    have o_against_end : Own P w K mg base "against_end" 3 ["facts", "steps", "unit", "year"] (spAgE CF) := ⟨f_against_end, fd_against_end, PySem.W.mg_of X G a_against_end, F_against_end.kp, b_against_end, ok_against_end F_against_end T (o_any_chains := o_any_chains) (o_chains_from := o_chains_from) (o_has_begin := o_has_begin)⟩
    have o_contradiction : Own P w K mg base "contradiction" 4 ["facts", "kind", "first", "second", "third"] (spCon CF) := ⟨f_contradiction, fd_contradiction, PySem.W.mg_of X G a_contradiction, F_contradiction.kp, b_contradiction, ok_contradiction F_contradiction T (o_against_above := o_against_above) (o_against_begin := o_against_begin) (o_against_end := o_against_end) (o_against_same := o_against_same) (o_preferred := o_preferred) (o_steps_of := o_steps_of)⟩
    have o_edges_of : Own P w K mg base "edges_of" 4 ["facts"] (spEdges CF P w) := ⟨f_edges_of, fd_edges_of, PySem.W.mg_of X G a_edges_of, F_edges_of.kp, b_edges_of, ok_edges_of F_edges_of T (o_steps_of := o_steps_of)⟩
    have o_states_from : Own P w K mg base "states_from" 1 ["edges", "start"] (spStates P w) := ⟨f_states_from, fd_states_from, PySem.W.mg_of X G a_states_from, F_states_from.kp, b_states_from, ok_states_from F_states_from T ⟩
    have o_Order_init : OwnC P w K mg base "Order" CO 5 ["self", "count", "facts"] (spOInit CF CO P w) := ⟨PySem.W.mg_of X G aCO, f_Order_init, fd_Order_init, ⟨mkCO, a_Order_init, i_Order_init, kcCO⟩, b_Order_init, ok_Order_init F_Order_init T (o_edges_of := o_edges_of) (o_states_from := o_states_from)⟩
    have o_Order_is_before : OwnM P w K mg base CO "is_before" 1 ["self", "one", "other"] (spO2 CF CO P w (PB fun an => an.isEarlier)) := ⟨T.cO, f_Order_is_before, fd_Order_is_before, ⟨a_Order_is_before, i_Order_is_before, F_Order_is_before.kp⟩, b_Order_is_before, ok_is_before F_Order_is_before T ⟩
    have o_Order_is_same : OwnM P w K mg base CO "is_same" 1 ["self", "one", "other"] (spO2 CF CO P w (PB fun an => an.sameStratum)) := ⟨T.cO, f_Order_is_same, fd_Order_is_same, ⟨a_Order_is_same, i_Order_is_same, F_Order_is_same.kp⟩, b_Order_is_same, ok_is_same F_Order_is_same T ⟩
    have o_Order_is_not_after : OwnM P w K mg base CO "is_not_after" 2 ["self", "one", "other"] (spO2 CF CO P w (PB SG.notAfter)) := ⟨T.cO, f_Order_is_not_after, fd_Order_is_not_after, ⟨a_Order_is_not_after, i_Order_is_not_after, F_Order_is_not_after.kp⟩, b_Order_is_not_after, ok_is_not_after F_Order_is_not_after T (o_Order_is_before := o_Order_is_before) (o_Order_is_same := o_Order_is_same)⟩
    have o_Order_stratum : OwnM P w K mg base CO "stratum" 2 ["self", "unit"] (spO1 CF CO P w (PI1 fun an u => (an.stratumOf u : Nat))) := ⟨T.cO, f_Order_stratum, fd_Order_stratum, ⟨a_Order_stratum, i_Order_stratum, F_Order_stratum.kp⟩, b_Order_stratum, ok_stratum F_Order_stratum T (o_Order_is_same := o_Order_is_same)⟩
    have o_Order_strata : OwnM P w K mg base CO "strata" 3 ["self"] (spO0 CF CO P w fun n es v H => LR Rnat (anl n es).strata v H) := ⟨T.cO, f_Order_strata, fd_Order_strata, ⟨a_Order_strata, i_Order_strata, F_Order_strata.kp⟩, b_Order_strata, ok_strata F_Order_strata T (o_Order_stratum := o_Order_stratum)⟩
    have o_Order_earliest : OwnM P w K mg base CO "earliest" 3 ["self", "unit"] (spO1 CF CO P w (PI1 earlyOf)) := ⟨T.cO, f_Order_earliest, fd_Order_earliest, ⟨a_Order_earliest, i_Order_earliest, F_Order_earliest.kp⟩, b_Order_earliest, ok_earliest F_Order_earliest T (o_Order_is_not_after := o_Order_is_not_after) (o_begin_of := o_begin_of)⟩
    have o_Order_latest : OwnM P w K mg base CO "latest" 3 ["self", "unit"] (spO1 CF CO P w (PI1 lateOf)) := ⟨T.cO, f_Order_latest, fd_Order_latest, ⟨a_Order_latest, i_Order_latest, F_Order_latest.kp⟩, b_Order_latest, ok_latest F_Order_latest T (o_Order_is_not_after := o_Order_is_not_after) (o_end_of := o_end_of)⟩
    have o_Order_earlier_answer : OwnM P w K mg base CO "earlier_answer" 3 ["self", "one", "other"] (spO2 CF CO P w (PI2 earlierA)) := ⟨T.cO, f_Order_earlier_answer, fd_Order_earlier_answer, ⟨a_Order_earlier_answer, i_Order_earlier_answer, F_Order_earlier_answer.kp⟩, b_Order_earlier_answer, ok_earlier_answer F_Order_earlier_answer T (o_Order_is_before := o_Order_is_before) (o_Order_is_not_after := o_Order_is_not_after)⟩
    have o_Order_same_year_answer : OwnM P w K mg base CO "same_year_answer" 4 ["self", "one", "other"] (spO2 CF CO P w (PI2 fun an => an.sameYear)) := ⟨T.cO, f_Order_same_year_answer, fd_Order_same_year_answer, ⟨a_Order_same_year_answer, i_Order_same_year_answer, F_Order_same_year_answer.kp⟩, b_Order_same_year_answer, ok_same_year_answer F_Order_same_year_answer T (o_Order_earliest := o_Order_earliest) (o_Order_is_same := o_Order_is_same) (o_Order_latest := o_Order_latest)⟩
    have o_earlier_ones : Own P w K mg base "earlier_ones" 2 ["order", "strata", "unit"] (sE CF CO P w) := ⟨f_earlier_ones, fd_earlier_ones, PySem.W.mg_of X G a_earlier_ones, F_earlier_ones.kp, b_earlier_ones, ok_earlier_ones F_earlier_ones T (o_Order_is_before := o_Order_is_before)⟩
    have o_later_ones : Own P w K mg base "later_ones" 2 ["order", "strata", "unit"] (sL CF CO P w) := ⟨f_later_ones, fd_later_ones, PySem.W.mg_of X G a_later_ones, F_later_ones.kp, b_later_ones, ok_later_ones F_later_ones T (o_Order_is_before := o_Order_is_before)⟩
    have o_position_range : Own P w K mg base "position_range" 4 ["order", "unit"] (sPos CF CO P w) := ⟨f_position_range, fd_position_range, PySem.W.mg_of X G a_position_range, F_position_range.kp, b_position_range, ok_position_range F_position_range T (o_Order_strata := o_Order_strata) (o_Order_stratum := o_Order_stratum) (o_earlier_ones := o_earlier_ones) (o_later_ones := o_later_ones)⟩
    have o_is_between : Own P w K mg base "is_between" 2 ["order", "strata", "one", "other"] (sBt CF CO P w) := ⟨f_is_between, fd_is_between, PySem.W.mg_of X G a_is_between, F_is_between.kp, b_is_between, ok_is_between F_is_between T (o_Order_is_before := o_Order_is_before)⟩
    have o_harris_pairs : Own P w K mg base "harris_pairs" 4 ["order"] (sHar CF CO P w) := ⟨f_harris_pairs, fd_harris_pairs, PySem.W.mg_of X G a_harris_pairs, F_harris_pairs.kp, b_harris_pairs, ok_harris_pairs F_harris_pairs T (o_Order_is_before := o_Order_is_before) (o_Order_strata := o_Order_strata) (o_is_between := o_is_between)⟩
    have o_first_sequence : Own P w K mg base "first_sequence" 4 ["order"] (sFir CF CO P w) := ⟨f_first_sequence, fd_first_sequence, PySem.W.mg_of X G a_first_sequence, F_first_sequence.kp, b_first_sequence, ok_first_sequence F_first_sequence T (o_Order_strata := o_Order_strata) (o_earlier_ones := o_earlier_ones)⟩
    have o_masks_of : Own P w K mg base "masks_of" 2 ["order", "strata"] (spM CF CO P w) := ⟨f_masks_of, fd_masks_of, PySem.W.mg_of X G a_masks_of, F_masks_of.kp, b_masks_of, ok_masks_of F_masks_of T (o_Order_is_before := o_Order_is_before)⟩
    have o_spread : Own P w K mg base "spread" 1 ["ways", "masks", "done"] spSpread := ⟨f_spread, fd_spread, PySem.W.mg_of X G a_spread, F_spread.kp, b_spread, ok_spread F_spread T ⟩
    have o_count_sequences : Own P w K mg base "count_sequences" 4 ["order"] (sCnt CF CO P w) := ⟨f_count_sequences, fd_count_sequences, PySem.W.mg_of X G a_count_sequences, F_count_sequences.kp, b_count_sequences, ok_count_sequences F_count_sequences T (o_Order_strata := o_Order_strata) (o_masks_of := o_masks_of) (o_spread := o_spread)⟩
    have o_undetermined : Own P w K mg base "undetermined" 4 ["order"] (spO0 CF CO P w fun n es v H => LR Rpr (anl n es).undeterminedPairs v H) := ⟨f_undetermined, fd_undetermined, PySem.W.mg_of X G a_undetermined, F_undetermined.kp, b_undetermined, ok_undetermined F_undetermined T (o_Order_is_before := o_Order_is_before) (o_Order_strata := o_Order_strata)⟩
    have o_is_settled : Own P w K mg base "is_settled" 3 ["order", "pair", "one", "other"] (spSet CF CO P w) := ⟨f_is_settled, fd_is_settled, PySem.W.mg_of X G a_is_settled, F_is_settled.kp, b_is_settled, ok_is_settled F_is_settled T (o_Order_is_not_after := o_Order_is_not_after)⟩
    have o_left_open : Own P w K mg base "left_open" 4 ["order", "pairs", "one", "other"] (spLeft CF CO P w) := ⟨f_left_open, fd_left_open, PySem.W.mg_of X G a_left_open, F_left_open.kp, b_left_open, ok_left_open F_left_open T (o_is_settled := o_is_settled)⟩
    have o_best_question : Own P w K mg base "best_question" 5 ["order"] (sBest CF CO P w) := ⟨f_best_question, fd_best_question, PySem.W.mg_of X G a_best_question, F_best_question.kp, b_best_question, ok_best_question F_best_question T (o_left_open := o_left_open) (o_undetermined := o_undetermined)⟩
    have o_Session_init : OwnC P w K mg base "Session" CS 1 ["self"] (spSInit CF CS) := ⟨PySem.W.mg_of X G aCS, f_Session_init, fd_Session_init, ⟨mkCS, a_Session_init, i_Session_init, kcCS⟩, b_Session_init, ok_Session_init F_Session_init T ⟩
    have o_Session_active : OwnM P w K mg base CS "active" 1 ["self"] (sActive CF CS) := ⟨T.cS, f_Session_active, fd_Session_active, ⟨a_Session_active, i_Session_active, F_Session_active.kp⟩, b_Session_active, ok_Session_active F_Session_active T ⟩
    have o_Session_order : OwnM P w K mg base CS "order" 7 ["self"] (sOrder CF CO CS P w) := ⟨T.cS, f_Session_order, fd_Session_order, ⟨a_Session_order, i_Session_order, F_Session_order.kp⟩, b_Session_order, ok_Session_order F_Session_order T (o_Order_init := o_Order_init) (o_Session_active := o_Session_active)⟩
    have o_Session_add_unit : OwnM P w K mg base CS "add_unit" 1 ["self"] (spAddUnit CF CS) := ⟨T.cS, f_Session_add_unit, fd_Session_add_unit, ⟨a_Session_add_unit, i_Session_add_unit, F_Session_add_unit.kp⟩, b_Session_add_unit, ok_add_unit F_Session_add_unit T ⟩
    have o_Session_add_fact : OwnM P w K mg base CS "add_fact" 5 ["self", "kind", "first", "second", "third"] (spAddFact CF CS) := ⟨T.cS, f_Session_add_fact, fd_Session_add_fact, ⟨a_Session_add_fact, i_Session_add_fact, F_Session_add_fact.kp⟩, b_Session_add_fact, ok_add_fact F_Session_add_fact T (o_Fact_init := o_Fact_init) (o_Session_active := o_Session_active) (o_contradiction := o_contradiction)⟩
    have o_Session_retract : OwnM P w K mg base CS "retract" 2 ["self", "fact"] (spRetract CF CS) := ⟨T.cS, f_Session_retract, fd_Session_retract, ⟨a_Session_retract, i_Session_retract, F_Session_retract.kp⟩, b_Session_retract, ok_Session_retract F_Session_retract T (o_Fact_retract := o_Fact_retract)⟩
    have o_are_years : Own P w K mg base "are_years" 1 ["first", "last"] spYears := ⟨f_are_years, fd_are_years, PySem.W.mg_of X G a_are_years, F_are_years.kp, b_are_years, ok_are_years F_are_years T ⟩
    have o_are_right : Own P w K mg base "are_right" 2 ["call", "numbers"] spRight := ⟨f_are_right, fd_are_right, PySem.W.mg_of X G a_are_right, F_are_right.kp, b_are_right, ok_are_right F_are_right T (o_are_years := o_are_years)⟩
    have o_fault_of : Own P w K mg base "fault_of" 3 ["session", "call", "numbers"] (spFault CF CS) := ⟨f_fault_of, fd_fault_of, PySem.W.mg_of X G a_fault_of, F_fault_of.kp, b_fault_of, ok_fault_of F_fault_of T (o_are_right := o_are_right)⟩
    have o_find_year_range : Own P w K mg base "find_year_range" 8 ["session", "number"] (spFyr CF CS) := ⟨f_find_year_range, fd_find_year_range, PySem.W.mg_of X G a_find_year_range, F_find_year_range.kp, b_find_year_range, ok_find_year_range F_find_year_range T (o_Order_latest := o_Order_latest) (o_Session_order := o_Session_order)⟩
    have o_told_pairs : Own P w K mg base "told_pairs" 1 ["pairs"] spTold := ⟨f_told_pairs, fd_told_pairs, PySem.W.mg_of X G a_told_pairs, F_told_pairs.kp, b_told_pairs, ok_told_pairs F_told_pairs T ⟩
    have o_explain : Own P w K mg base "explain" 5 ["session", "one", "other"] (spExp CF CS) := ⟨f_explain, fd_explain, PySem.W.mg_of X G a_explain, F_explain.kp, b_explain, ok_explain F_explain T (o_Session_active := o_Session_active) (o_strict_chain := o_strict_chain)⟩
    have o_ask : Own P w K mg base "ask" 8 ["session"] (sAsk CF CS) := ⟨f_ask, fd_ask, PySem.W.mg_of X G a_ask, F_ask.kp, b_ask, ok_ask F_ask T (o_Session_order := o_Session_order) (o_best_question := o_best_question)⟩
    have o_list_facts : Own P w K mg base "list_facts" 2 ["session"] (sList CF CS) := ⟨f_list_facts, fd_list_facts, PySem.W.mg_of X G a_list_facts, F_list_facts.kp, b_list_facts, ok_list_facts F_list_facts T (o_Session_active := o_Session_active)⟩
    have o_change : Own P w K mg base "change" 6 ["session", "call", "numbers"] (spChange CF CS) := ⟨f_change, fd_change, PySem.W.mg_of X G a_change, F_change.kp, b_change, ok_change F_change T (o_Session_add_fact := o_Session_add_fact) (o_Session_add_unit := o_Session_add_unit) (o_Session_retract := o_Session_retract)⟩
    have o_about_units : Own P w K mg base "about_units" 8 ["session", "call", "numbers"] (spAU CF CS) := ⟨f_about_units, fd_about_units, PySem.W.mg_of X G a_about_units, F_about_units.kp, b_about_units, ok_about_units F_about_units T (o_Order_earlier_answer := o_Order_earlier_answer) (o_Order_earliest := o_Order_earliest) (o_Order_latest := o_Order_latest) (o_Order_same_year_answer := o_Order_same_year_answer) (o_Order_stratum := o_Order_stratum) (o_Session_order := o_Session_order) (o_position_range := o_position_range)⟩
    have o_about_all : Own P w K mg base "about_all" 9 ["session", "call"] (spAA CF CS) := ⟨f_about_all, fd_about_all, PySem.W.mg_of X G a_about_all, F_about_all.kp, b_about_all, ok_about_all F_about_all T (o_Session_order := o_Session_order) (o_ask := o_ask) (o_count_sequences := o_count_sequences) (o_first_sequence := o_first_sequence) (o_harris_pairs := o_harris_pairs) (o_list_facts := o_list_facts) (o_told_pairs := o_told_pairs)⟩
    have o_answer : Own P w K mg base "answer" 10 ["session", "call", "numbers"] (spAnswer CF CS) := ⟨f_answer, fd_answer, PySem.W.mg_of X G a_answer, F_answer.kp, b_answer, ok_answer F_answer T (o_about_all := o_about_all) (o_about_units := o_about_units) (o_change := o_change) (o_explain := o_explain) (o_fault_of := o_fault_of) (o_find_year_range := o_find_year_range)⟩
    exact ok_answers F_answers T (o_Session_init := o_Session_init) (o_answer := o_answer)
end L2.SD
open PySem PySem.W PyProof.Rows
set_option maxRecDepth 100000 in
set_option maxHeartbeats 8000000 in
theorem PySem.Challenge.cw_strataproofs_s01_answers_holds : PySem.Challenge.rw_strataproofs_s01_answers.Holds := by
  w_on; k_headS; (case hw => exact ⟨[.list [.int 1]], by decide +kernel, by decide +kernel⟩)
  k_fillS
  refine L2.walk_specK (r := PySem.Challenge.rw_strataproofs_s01_answers) (k := 11) (CX := L2.CX0) (ps := ["calls"]) (sp := L2.SD.spTop) (by decide +kernel) rfl rfl ⟨rfl, by decide, by decide⟩ (fun w h Y => PySem.W.kIn_of Y) ?F ?S (fun _ _ _ _ z => z)
  case F =>
    intro w mg fa h Y KX G hmg
    refine' L2.SD.all_mk KX G hmg ?aCF ?aCO ?aCS ?pgCF ?hdCF ?poCF ?saCF ?mkCF ?kcCF ?pgCO ?hdCO ?poCO ?saCO ?mkCO ?kcCO ?pgCS ?hdCS ?poCS ?saCS ?mkCS ?kcCS ?nFi ?nFk ?nF1 ?nF2 ?nF3 ?nFa ?nOc ?nOf ?nOs ?nSu ?nSf ?gABOVE ?gSAME ?gFIND ?gDATE ?gFIRST_YEAR ?gLAST_YEAR ?gLONGEST ?gNO ?gYES ?gOPEN ?gOUT_OF_RANGE ?gNOT_THERE ?gCONTRADICTED ?gRETRACTED ?gTOO_MANY ?gMOST_UNITS ?gMOST_FACTS ?b_len ?b_range ?b_min ?b_max ?b_sum ?b_any ?b_all ?b_list ?b_enumerate ?gARGUMENTS ?lARGUMENTS ?vARGUMENTS ?gUNITS ?lUNITS ?vUNITS ?a_Fact_init ?i_Fact_init ?d_Fact_init ?a_Fact_retract ?i_Fact_retract ?d_Fact_retract ?a_has_begin ?d_has_begin ?a_date_steps ?d_date_steps ?a_single_steps ?d_single_steps ?a_steps_of ?d_steps_of ?a_begin_of ?d_begin_of ?a_end_of ?d_end_of ?a_next_states ?d_next_states ?a_chains_from ?d_chains_from ?a_preferred ?d_preferred ?a_any_chains ?d_any_chains ?a_strict_chains ?d_strict_chains ?a_strict_chain ?d_strict_chain ?a_against_above ?d_against_above ?a_against_same ?d_against_same ?a_against_begin ?d_against_begin ?a_against_end ?d_against_end ?a_contradiction ?d_contradiction ?a_edges_of ?d_edges_of ?a_states_from ?d_states_from ?a_Order_init ?i_Order_init ?d_Order_init ?a_Order_is_before ?i_Order_is_before ?d_Order_is_before ?a_Order_is_same ?i_Order_is_same ?d_Order_is_same ?a_Order_is_not_after ?i_Order_is_not_after ?d_Order_is_not_after ?a_Order_stratum ?i_Order_stratum ?d_Order_stratum ?a_Order_strata ?i_Order_strata ?d_Order_strata ?a_Order_earliest ?i_Order_earliest ?d_Order_earliest ?a_Order_latest ?i_Order_latest ?d_Order_latest ?a_Order_earlier_answer ?i_Order_earlier_answer ?d_Order_earlier_answer ?a_Order_same_year_answer ?i_Order_same_year_answer ?d_Order_same_year_answer ?a_earlier_ones ?d_earlier_ones ?a_later_ones ?d_later_ones ?a_position_range ?d_position_range ?a_is_between ?d_is_between ?a_harris_pairs ?d_harris_pairs ?a_first_sequence ?d_first_sequence ?a_masks_of ?d_masks_of ?a_count_sequences ?d_count_sequences ?a_spread ?d_spread ?a_undetermined ?d_undetermined ?a_is_settled ?d_is_settled ?a_left_open ?d_left_open ?a_best_question ?d_best_question ?a_Session_init ?i_Session_init ?d_Session_init ?a_Session_active ?i_Session_active ?d_Session_active ?a_Session_order ?i_Session_order ?d_Session_order ?a_Session_add_unit ?i_Session_add_unit ?d_Session_add_unit ?a_Session_add_fact ?i_Session_add_fact ?d_Session_add_fact ?a_Session_retract ?i_Session_retract ?d_Session_retract ?a_are_years ?d_are_years ?a_are_right ?d_are_right ?a_fault_of ?d_fault_of ?a_find_year_range ?d_find_year_range ?a_told_pairs ?d_told_pairs ?a_explain ?d_explain ?a_ask ?d_ask ?a_list_facts ?d_list_facts ?a_change ?d_change ?a_about_units ?d_about_units ?a_about_all ?d_about_all ?a_answer ?d_answer ?a_answers ?d_answers
    (case aCF => k_is)
    (case aCO => k_is)
    (case aCS => k_is)
    (case pgCF => k_is)
    (case hdCF => k_is)
    (case poCF => k_is)
    (case saCF => k_is)
    (case mkCF => k_is)
    (case kcCF => k_is)
    (case pgCO => k_is)
    (case hdCO => k_is)
    (case poCO => k_is)
    (case saCO => k_is)
    (case mkCO => k_is)
    (case kcCO => k_is)
    (case pgCS => k_is)
    (case hdCS => k_is)
    (case poCS => k_is)
    (case saCS => k_is)
    (case mkCS => k_is)
    (case kcCS => k_is)
    (case nFi => k_is)
    (case nFk => k_is)
    (case nF1 => k_is)
    (case nF2 => k_is)
    (case nF3 => k_is)
    (case nFa => k_is)
    (case nOc => k_is)
    (case nOf => k_is)
    (case nOs => k_is)
    (case nSu => k_is)
    (case nSf => k_is)
    (case gABOVE => k_is)
    (case gSAME => k_is)
    (case gFIND => k_is)
    (case gDATE => k_is)
    (case gFIRST_YEAR => k_is)
    (case gLAST_YEAR => k_is)
    (case gLONGEST => k_is)
    (case gNO => k_is)
    (case gYES => k_is)
    (case gOPEN => k_is)
    (case gOUT_OF_RANGE => k_is)
    (case gNOT_THERE => k_is)
    (case gCONTRADICTED => k_is)
    (case gRETRACTED => k_is)
    (case gTOO_MANY => k_is)
    (case gMOST_UNITS => k_is)
    (case gMOST_FACTS => k_is)
    (case b_len => k_is)
    (case b_range => k_is)
    (case b_min => k_is)
    (case b_max => k_is)
    (case b_sum => k_is)
    (case b_any => k_is)
    (case b_all => k_is)
    (case b_list => k_is)
    (case b_enumerate => k_is)
    (case gARGUMENTS => k_is)
    (case lARGUMENTS => k_is)
    (case vARGUMENTS => repeat (first | exact .nil | refine .cons ⟨_, rfl⟩ ?_))
    (case gUNITS => k_is)
    (case lUNITS => k_is)
    (case vUNITS => repeat (first | exact .nil | refine .cons ⟨_, rfl⟩ ?_))
    (case a_Fact_init => k_is)
    (case i_Fact_init => k_is)
    (case d_Fact_init => exact L2.SD.def_mk (by k_is) (by k_is) (by k_is))
    (case a_Fact_retract => k_is)
    (case i_Fact_retract => k_is)
    (case d_Fact_retract => exact L2.SD.def_mk (by k_is) (by k_is) (by k_is))
    (case a_has_begin => k_is)
    (case d_has_begin => exact L2.SD.def_mk (by k_is) (by k_is) (by k_is))
    (case a_date_steps => k_is)
    (case d_date_steps => exact L2.SD.def_mk (by k_is) (by k_is) (by k_is))
    (case a_single_steps => k_is)
    (case d_single_steps => exact L2.SD.def_mk (by k_is) (by k_is) (by k_is))
    (case a_steps_of => k_is)
    (case d_steps_of => exact L2.SD.def_mk (by k_is) (by k_is) (by k_is))
    (case a_begin_of => k_is)
    (case d_begin_of => exact L2.SD.def_mk (by k_is) (by k_is) (by k_is))
    (case a_end_of => k_is)
    (case d_end_of => exact L2.SD.def_mk (by k_is) (by k_is) (by k_is))
    (case a_next_states => k_is)
    (case d_next_states => exact L2.SD.def_mk (by k_is) (by k_is) (by k_is))
    (case a_chains_from => k_is)
    (case d_chains_from => exact L2.SD.def_mk (by k_is) (by k_is) (by k_is))
    (case a_preferred => k_is)
    (case d_preferred => exact L2.SD.def_mk (by k_is) (by k_is) (by k_is))
    (case a_any_chains => k_is)
    (case d_any_chains => exact L2.SD.def_mk (by k_is) (by k_is) (by k_is))
    (case a_strict_chains => k_is)
    (case d_strict_chains => exact L2.SD.def_mk (by k_is) (by k_is) (by k_is))
    (case a_strict_chain => k_is)
    (case d_strict_chain => exact L2.SD.def_mk (by k_is) (by k_is) (by k_is))
    (case a_against_above => k_is)
    (case d_against_above => exact L2.SD.def_mk (by k_is) (by k_is) (by k_is))
    (case a_against_same => k_is)
    (case d_against_same => exact L2.SD.def_mk (by k_is) (by k_is) (by k_is))
    (case a_against_begin => k_is)
    (case d_against_begin => exact L2.SD.def_mk (by k_is) (by k_is) (by k_is))
    (case a_against_end => k_is)
    (case d_against_end => exact L2.SD.def_mk (by k_is) (by k_is) (by k_is))
    (case a_contradiction => k_is)
    (case d_contradiction => exact L2.SD.def_mk (by k_is) (by k_is) (by k_is))
    (case a_edges_of => k_is)
    (case d_edges_of => exact L2.SD.def_mk (by k_is) (by k_is) (by k_is))
    (case a_states_from => k_is)
    (case d_states_from => exact L2.SD.def_mk (by k_is) (by k_is) (by k_is))
    (case a_Order_init => k_is)
    (case i_Order_init => k_is)
    (case d_Order_init => exact L2.SD.def_mk (by k_is) (by k_is) (by k_is))
    (case a_Order_is_before => k_is)
    (case i_Order_is_before => k_is)
    (case d_Order_is_before => exact L2.SD.def_mk (by k_is) (by k_is) (by k_is))
    (case a_Order_is_same => k_is)
    (case i_Order_is_same => k_is)
    (case d_Order_is_same => exact L2.SD.def_mk (by k_is) (by k_is) (by k_is))
    (case a_Order_is_not_after => k_is)
    (case i_Order_is_not_after => k_is)
    (case d_Order_is_not_after => exact L2.SD.def_mk (by k_is) (by k_is) (by k_is))
    (case a_Order_stratum => k_is)
    (case i_Order_stratum => k_is)
    (case d_Order_stratum => exact L2.SD.def_mk (by k_is) (by k_is) (by k_is))
    (case a_Order_strata => k_is)
    (case i_Order_strata => k_is)
    (case d_Order_strata => exact L2.SD.def_mk (by k_is) (by k_is) (by k_is))
    (case a_Order_earliest => k_is)
    (case i_Order_earliest => k_is)
    (case d_Order_earliest => exact L2.SD.def_mk (by k_is) (by k_is) (by k_is))
    (case a_Order_latest => k_is)
    (case i_Order_latest => k_is)
    (case d_Order_latest => exact L2.SD.def_mk (by k_is) (by k_is) (by k_is))
    (case a_Order_earlier_answer => k_is)
    (case i_Order_earlier_answer => k_is)
    (case d_Order_earlier_answer => exact L2.SD.def_mk (by k_is) (by k_is) (by k_is))
    (case a_Order_same_year_answer => k_is)
    (case i_Order_same_year_answer => k_is)
    (case d_Order_same_year_answer => exact L2.SD.def_mk (by k_is) (by k_is) (by k_is))
    (case a_earlier_ones => k_is)
    (case d_earlier_ones => exact L2.SD.def_mk (by k_is) (by k_is) (by k_is))
    (case a_later_ones => k_is)
    (case d_later_ones => exact L2.SD.def_mk (by k_is) (by k_is) (by k_is))
    (case a_position_range => k_is)
    (case d_position_range => exact L2.SD.def_mk (by k_is) (by k_is) (by k_is))
    (case a_is_between => k_is)
    (case d_is_between => exact L2.SD.def_mk (by k_is) (by k_is) (by k_is))
    (case a_harris_pairs => k_is)
    (case d_harris_pairs => exact L2.SD.def_mk (by k_is) (by k_is) (by k_is))
    (case a_first_sequence => k_is)
    (case d_first_sequence => exact L2.SD.def_mk (by k_is) (by k_is) (by k_is))
    (case a_masks_of => k_is)
    (case d_masks_of => exact L2.SD.def_mk (by k_is) (by k_is) (by k_is))
    (case a_count_sequences => k_is)
    (case d_count_sequences => exact L2.SD.def_mk (by k_is) (by k_is) (by k_is))
    (case a_spread => k_is)
    (case d_spread => exact L2.SD.def_mk (by k_is) (by k_is) (by k_is))
    (case a_undetermined => k_is)
    (case d_undetermined => exact L2.SD.def_mk (by k_is) (by k_is) (by k_is))
    (case a_is_settled => k_is)
    (case d_is_settled => exact L2.SD.def_mk (by k_is) (by k_is) (by k_is))
    (case a_left_open => k_is)
    (case d_left_open => exact L2.SD.def_mk (by k_is) (by k_is) (by k_is))
    (case a_best_question => k_is)
    (case d_best_question => exact L2.SD.def_mk (by k_is) (by k_is) (by k_is))
    (case a_Session_init => k_is)
    (case i_Session_init => k_is)
    (case d_Session_init => exact L2.SD.def_mk (by k_is) (by k_is) (by k_is))
    (case a_Session_active => k_is)
    (case i_Session_active => k_is)
    (case d_Session_active => exact L2.SD.def_mk (by k_is) (by k_is) (by k_is))
    (case a_Session_order => k_is)
    (case i_Session_order => k_is)
    (case d_Session_order => exact L2.SD.def_mk (by k_is) (by k_is) (by k_is))
    (case a_Session_add_unit => k_is)
    (case i_Session_add_unit => k_is)
    (case d_Session_add_unit => exact L2.SD.def_mk (by k_is) (by k_is) (by k_is))
    (case a_Session_add_fact => k_is)
    (case i_Session_add_fact => k_is)
    (case d_Session_add_fact => exact L2.SD.def_mk (by k_is) (by k_is) (by k_is))
    (case a_Session_retract => k_is)
    (case i_Session_retract => k_is)
    (case d_Session_retract => exact L2.SD.def_mk (by k_is) (by k_is) (by k_is))
    (case a_are_years => k_is)
    (case d_are_years => exact L2.SD.def_mk (by k_is) (by k_is) (by k_is))
    (case a_are_right => k_is)
    (case d_are_right => exact L2.SD.def_mk (by k_is) (by k_is) (by k_is))
    (case a_fault_of => k_is)
    (case d_fault_of => exact L2.SD.def_mk (by k_is) (by k_is) (by k_is))
    (case a_find_year_range => k_is)
    (case d_find_year_range => exact L2.SD.def_mk (by k_is) (by k_is) (by k_is))
    (case a_told_pairs => k_is)
    (case d_told_pairs => exact L2.SD.def_mk (by k_is) (by k_is) (by k_is))
    (case a_explain => k_is)
    (case d_explain => exact L2.SD.def_mk (by k_is) (by k_is) (by k_is))
    (case a_ask => k_is)
    (case d_ask => exact L2.SD.def_mk (by k_is) (by k_is) (by k_is))
    (case a_list_facts => k_is)
    (case d_list_facts => exact L2.SD.def_mk (by k_is) (by k_is) (by k_is))
    (case a_change => k_is)
    (case d_change => exact L2.SD.def_mk (by k_is) (by k_is) (by k_is))
    (case a_about_units => k_is)
    (case d_about_units => exact L2.SD.def_mk (by k_is) (by k_is) (by k_is))
    (case a_about_all => k_is)
    (case d_about_all => exact L2.SD.def_mk (by k_is) (by k_is) (by k_is))
    (case a_answer => k_is)
    (case d_answer => exact L2.SD.def_mk (by k_is) (by k_is) (by k_is))
    (case a_answers => k_is)
    (case d_answers => exact L2.SD.def_mk (by k_is) (by k_is) (by k_is))
  case S =>
    intro K H xs a hO hwi hask hx
    cases hx with
    | cons h1 h2 =>
      cases h2
      cases h1 with
      | lst hs ha =>
        have e := L2.ints_dw a.1 _ ha
        subst e
        have hq : PyWrsvgr.answers_asked a.1 = true := hask
        obtain ⟨cs, e1, e2, e3⟩ := L2.SD.asked_calls hq
        refine ⟨_, cs, rfl, by rw [← e1]; exact hs, e2, fun H' p hp => ?_⟩
        rw [← e3] at hp
        exact .lst (L2.SqL.of hp) (L2.dw_ints _)
#print axioms PySem.Challenge.cw_strataproofs_s01_answers_holds
