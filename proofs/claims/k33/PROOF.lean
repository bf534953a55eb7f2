import PyProof.Rows.All
import Wide.All
import OpenK.AllK
import Wide.FinOn
import PyProof.NoPylong
import PyProof.Fits
import HandS.ForMost
import HandS.Star
import HandS.Deep
import HandS.Defaults
import HandS.IsInst
import HandS.Conv
import HandS.Flow
import HandS.Style
import HandS.TupAny
import HandS.Steps
import HandS.EndBits
import Flt.Len
import KE.KStateDown
import Lean
import HandS.Base
import HandS.Call
import HandS.Ends
import HandS.More
import HandS.Words
import HandS.WordsExc
import HandS.Head0
import HandS.Head1
import HandS.Head2
import HandS.HeadEnd
import HandS.HeadHook1
import HandS.HeadHook2
import HandS.HeadHook3
import HandS.HeadHook4
import PySem.Challenge.RW_waitwords_k33_whole_steps_in_any_order
set_option Elab.async false
set_option linter.all false
set_option maxRecDepth 100000
set_option maxHeartbeats 0
namespace WW
/-! ### kinds, readings, numbered readings -/
inductive Kd where
  | pl (c : Nat)
  | nd (b : Bool) (x y : Kd)
  deriving DecidableEq
def Kd.size : Kd → Nat
  | .pl _ => 1
  | .nd _ x y => x.size + y.size
def Kd.deep : Kd → Nat
  | .pl _ => 1
  | .nd _ x y => 1 + max x.deep y.deep
/-- its letters are letters -/
def Kd.Ok : Kd → Prop
  | .pl c => 97 ≤ c ∧ c ≤ 122
  | .nd _ x y => x.Ok ∧ y.Ok
theorem Kd.size_pos : ∀ k : Kd, 1 ≤ k.size
  | .pl _ => Nat.le_refl 1
  | .nd _ x y => by have := x.size_pos; show 1 ≤ x.size + y.size; omega
theorem Kd.deep_le : ∀ k : Kd, k.deep ≤ k.size
  | .pl _ => Nat.le_refl 1
  | .nd _ x y => by
    have h1 := x.deep_le
    have h2 := y.deep_le
    have h3 := x.size_pos
    have h4 := y.size_pos
    show 1 + max x.deep y.deep ≤ x.size + y.size
    omega
inductive Tr where
  | wd
  | pr (b : Bool) (l r : Tr)
  | gv (b : Bool) (k : Kd) (p : Tr)
  deriving DecidableEq
namespace Tr
def width : Tr → Nat
  | wd => 1
  | pr _ l r => l.width + r.width
  | gv _ _ p => p.width - 1
def count : Tr → Nat
  | wd => 1
  | pr _ l r => 1 + l.count + r.count
  | gv _ _ p => 1 + p.count
def WF : Tr → Prop
  | wd => True
  | pr _ l r => l.WF ∧ r.WF
  | gv _ _ p => p.WF ∧ 2 ≤ p.width
/-- its given kinds keep a bound, are right -/
def Gk (n : Nat) : Tr → Prop
  | wd => True
  | pr _ l r => l.Gk n ∧ r.Gk n
  | gv _ k p => (k.Ok ∧ k.size ≤ n) ∧ p.Gk n
def givens : Tr → List Kd
  | wd => []
  | pr _ l r => l.givens ++ r.givens
  | gv _ k p => k :: p.givens
theorem count_pos (t : Tr) : 1 ≤ t.count := by cases t <;> simp only [count] <;> omega
theorem width_pos : ∀ {t : Tr}, t.WF → 1 ≤ t.width
  | wd, _ => Nat.le_refl 1
  | pr _ l r, h => by have := width_pos h.1; show 1 ≤ l.width + r.width; omega
  | gv _ _ p, h => by have := h.2; show 1 ≤ p.width - 1; omega
theorem width_le : ∀ {t : Tr}, t.width ≤ t.count
  | wd => Nat.le_refl 1
  | pr _ l r => by have h1 := width_le (t := l); have h2 := width_le (t := r); show l.width + r.width ≤ 1 + l.count + r.count; omega
  | gv _ _ p => by have h1 := width_le (t := p); show p.width - 1 ≤ 1 + p.count; omega
theorem Gk.mono {n m : Nat} (hnm : n ≤ m) : ∀ {t : Tr}, t.Gk n → t.Gk m
  | wd, _ => trivial
  | pr _ l r, h => ⟨h.1.mono hnm, h.2.mono hnm⟩
  | gv _ k p, h => ⟨⟨h.1.1, Nat.le_trans h.1.2 hnm⟩, h.2.mono hnm⟩
theorem givens_ok {n : Nat} : ∀ {t : Tr}, t.Gk n → ∀ k ∈ t.givens, k.Ok ∧ k.size ≤ n
  | wd, _, k, hk => by cases hk
  | pr _ l r, h, k, hk => by
    rcases List.mem_append.mp hk with e | e
    · exact givens_ok h.1 k e
    · exact givens_ok h.2 k e
  | gv _ k' p, h, k, hk => by
    rcases List.mem_cons.mp hk with e | e
    · rw [e]; exact h.1
    · exact givens_ok h.2 k e
theorem givens_len : ∀ t : Tr, t.givens.length ≤ t.count
  | wd => Nat.zero_le _
  | pr _ l r => by
    have h1 := givens_len l
    have h2 := givens_len r
    show (l.givens ++ r.givens).length ≤ 1 + l.count + r.count
    rw [List.length_append]; omega
  | gv _ k p => by
    have h1 := givens_len p
    show (k :: p.givens).length ≤ 1 + p.count
    rw [List.length_cons]; omega

/-- q for the i-th word that is free -/
def put : Tr → Nat → Tr → Tr
  | wd, _, q => q
  | pr b l r, i, q => if i < l.width then pr b (l.put i q) r else pr b l (r.put (i - l.width) q)
  | gv b k p, i, q => gv b k (p.put (if b then i else i + 1) q)
theorem put_width : ∀ {t : Tr} {i : Nat} {q : Tr}, t.WF → i < t.width → 1 ≤ q.width → (t.put i q).width + 1 = t.width + q.width
  | wd, i, q, _, _, _ => by show q.width + 1 = 1 + q.width; omega
  | pr b l r, i, q, h, hi, hq => by
    have hi' : i < l.width + r.width := hi
    unfold put
    by_cases c : i < l.width
    · rw [if_pos c]
      have := put_width (q := q) h.1 c hq
      show (l.put i q).width + r.width + 1 = l.width + r.width + q.width
      omega
    · rw [if_neg c]
      have := put_width (q := q) h.2 (show i - l.width < r.width by omega) hq
      show l.width + (r.put (i - l.width) q).width + 1 = l.width + r.width + q.width
      omega
  | gv b k p, i, q, h, hi, hq => by
    have hi' : i < p.width - 1 := hi
    have h2 := h.2
    have hj : (if b then i else i + 1) < p.width := by cases b <;> simp <;> omega
    have := put_width (q := q) h.1 hj hq
    show (p.put (if b then i else i + 1) q).width - 1 + 1 = p.width - 1 + q.width
    omega
theorem put_wf : ∀ {t : Tr} {i : Nat} {q : Tr}, t.WF → i < t.width → q.WF → (t.put i q).WF
  | wd, i, q, _, _, hq => hq
  | pr b l r, i, q, h, hi, hq => by
    have hi' : i < l.width + r.width := hi
    unfold put
    by_cases c : i < l.width
    · rw [if_pos c]; exact ⟨put_wf h.1 c hq, h.2⟩
    · rw [if_neg c]; exact ⟨h.1, put_wf h.2 (by omega) hq⟩
  | gv b k p, i, q, h, hi, hq => by
    have hi' : i < p.width - 1 := hi
    have h2 := h.2
    have hj : (if b then i else i + 1) < p.width := by cases b <;> simp <;> omega
    have e := put_width (q := q) h.1 hj (width_pos hq)
    have := width_pos hq
    exact ⟨put_wf h.1 hj hq, by omega⟩
theorem put_count : ∀ {t : Tr} {i : Nat} {q : Tr}, (t.put i q).count + 1 = t.count + q.count
  | wd, i, q => by show q.count + 1 = 1 + q.count; omega
  | pr b l r, i, q => by
    unfold put
    by_cases c : i < l.width
    · rw [if_pos c]
      have := put_count (t := l) (i := i) (q := q)
      show 1 + (l.put i q).count + r.count + 1 = 1 + l.count + r.count + q.count
      omega
    · rw [if_neg c]
      have := put_count (t := r) (i := i - l.width) (q := q)
      show 1 + l.count + (r.put (i - l.width) q).count + 1 = 1 + l.count + r.count + q.count
      omega
  | gv b k p, i, q => by
    have := put_count (t := p) (i := if b then i else i + 1) (q := q)
    show 1 + (p.put (if b then i else i + 1) q).count + 1 = 1 + p.count + q.count
    omega
theorem put_gk {n : Nat} : ∀ {t : Tr} {i : Nat} {q : Tr}, t.Gk n → q.Gk n → (t.put i q).Gk n
  | wd, i, q, _, hq => hq
  | pr b l r, i, q, h, hq => by
    unfold put
    by_cases c : i < l.width
    · rw [if_pos c]; exact ⟨put_gk h.1 hq, h.2⟩
    · rw [if_neg c]; exact ⟨h.1, put_gk h.2 hq⟩
  | gv b k p, i, q, h, hq => ⟨h.1, put_gk h.2 hq⟩
/-- within what was put -/
theorem put_in : ∀ {t : Tr} {i j : Nat} {q c : Tr}, t.WF → i < t.width → q.WF → j < q.width → (t.put i q).put (i + j) c = t.put i (q.put j c)
  | wd, i, j, q, c, _, hi, _, _ => by
    have hi' : i < 1 := hi
    show q.put (i + j) c = q.put j c
    rw [show i + j = j by omega]
  | pr b l r, i, j, q, c, h, hi, hq, hj => by
    have hi' : i < l.width + r.width := hi
    by_cases e : i < l.width
    · have w := put_width (q := q) h.1 e (width_pos hq)
      have ih := put_in (c := c) h.1 e hq hj
      rw [put, if_pos e, put, if_pos (by omega), ih, put, if_pos e]
    · have ih := put_in (c := c) h.2 (show i - l.width < r.width by omega) hq hj
      rw [put, if_neg e, put, if_neg (by omega), put, if_neg e, show i + j - l.width = i - l.width + j by omega, ih]
  | gv b k p, i, j, q, c, h, hi, hq, hj => by
    have hi' : i < p.width - 1 := hi
    have h2 := h.2
    have hk : (if b then i else i + 1) < p.width := by cases b <;> simp <;> omega
    have ih := put_in (c := c) h.1 hk hq hj
    have ex : (if b then i + j else i + j + 1) = (if b then i else i + 1) + j := by cases b <;> simp <;> omega
    rw [put, put, put, ex, ih]
/-- two words: the one ahead -/
theorem put_two : ∀ {t : Tr} {i j : Nat} {q c : Tr}, t.WF → i < j → j < t.width → q.WF → c.WF → (t.put j c).put i q = (t.put i q).put (j + q.width - 1) c
  | wd, i, j, q, c, _, hij, hj, _, _ => by
    have hj' : j < 1 := hj
    omega
  | pr b l r, i, j, q, c, h, hij, hj, hq, hc => by
    have hj' : j < l.width + r.width := hj
    have hqw := width_pos hq
    have hcw := width_pos hc
    by_cases e : j < l.width
    · have w1 := put_width (q := c) h.1 e hcw
      have w2 := put_width (q := q) h.1 (show i < l.width by omega) hqw
      have ih := put_two h.1 hij e hq hc
      rw [put, if_pos e, put, if_pos (by omega), ih, put, if_pos (by omega), put, if_pos (by omega)]
    · by_cases e2 : i < l.width
      · have w2 := put_width (q := q) h.1 e2 hqw
        rw [put, if_neg e, put, if_pos e2, put, if_pos e2, put, if_neg (by omega), show j + q.width - 1 - (l.put i q).width = j - l.width by omega]
      · have ih := put_two h.2 (show i - l.width < j - l.width by omega) (by omega) hq hc
        rw [put, if_neg e, put, if_neg e2, put, if_neg e2, put, if_neg (by omega), ih, show j + q.width - 1 - l.width = j - l.width + q.width - 1 by omega]
  | gv b k p, i, j, q, c, h, hij, hj, hq, hc => by
    have hj' : j < p.width - 1 := hj
    have h2 := h.2
    have hqw := width_pos hq
    have hk : (if b then j else j + 1) < p.width := by cases b <;> simp <;> omega
    have hlt : (if b then i else i + 1) < (if b then j else j + 1) := by cases b <;> simp <;> omega
    have ih := put_two h.1 hlt hk hq hc
    have ex : (if b then j + q.width - 1 else j + q.width - 1 + 1) = (if b then j else j + 1) + q.width - 1 := by cases b <;> simp <;> omega
    rw [put, put, put, put, ex, ih]

/-! ### steps -/
inductive Step : Tr → Tr → Prop where
  | bh (k : Kd) (p q : Tr) : Step (pr true (gv true k p) q) (p.put (p.width - 1) q)
  | ah (k : Kd) (p q : Tr) : Step (pr false q (gv false k p)) (p.put 0 q)
  | l {b : Bool} {l l' r : Tr} : Step l l' → Step (pr b l r) (pr b l' r)
  | r {b : Bool} {l r r' : Tr} : Step r r' → Step (pr b l r) (pr b l r')
  | g {b : Bool} {k : Kd} {p p' : Tr} : Step p p' → Step (gv b k p) (gv b k p')
theorem Step.width {t u : Tr} (s : Step t u) : t.WF → u.width = t.width ∧ u.WF := by
  induction s with
  | bh k p q =>
    intro h
    have hp : p.WF := h.1.1
    have h2 : 2 ≤ p.width := h.1.2
    have w := put_width (i := p.width - 1) (q := q) hp (by omega) (width_pos h.2)
    refine ⟨?_, put_wf hp (by omega) h.2⟩
    show (p.put (p.width - 1) q).width = p.width - 1 + q.width
    omega
  | ah k p q =>
    intro h
    have hp : p.WF := h.2.1
    have h2 : 2 ≤ p.width := h.2.2
    have w := put_width (i := 0) (q := q) hp (by omega) (width_pos h.1)
    refine ⟨?_, put_wf hp (by omega) h.1⟩
    show (p.put 0 q).width = q.width + (p.width - 1)
    omega
  | @l b l l' r s ih =>
    intro h
    have e := ih h.1
    refine ⟨?_, e.2, h.2⟩
    show l'.width + r.width = l.width + r.width
    rw [e.1]
  | @r b l r r' s ih =>
    intro h
    have e := ih h.2
    refine ⟨?_, h.1, e.2⟩
    show l.width + r'.width = l.width + r.width
    rw [e.1]
  | @g b k p p' s ih =>
    intro h
    have e := ih h.1
    refine ⟨?_, e.2, ?_⟩
    · show p'.width - 1 = p.width - 1
      rw [e.1]
    · rw [e.1]; exact h.2
theorem Step.count {t u : Tr} (s : Step t u) : u.count + 3 = t.count := by
  induction s with
  | bh k p q =>
    have := put_count (t := p) (i := p.width - 1) (q := q)
    show (p.put (p.width - 1) q).count + 3 = 1 + (1 + p.count) + q.count
    omega
  | ah k p q =>
    have := put_count (t := p) (i := 0) (q := q)
    show (p.put 0 q).count + 3 = 1 + q.count + (1 + p.count)
    omega
  | @l b l l' r s ih => show 1 + l'.count + r.count + 3 = 1 + l.count + r.count; omega
  | @r b l r r' s ih => show 1 + l.count + r'.count + 3 = 1 + l.count + r.count; omega
  | @g b k p p' s ih => show 1 + p'.count + 3 = 1 + p.count; omega
theorem Step.gk {n : Nat} {t u : Tr} (s : Step t u) : t.Gk n → u.Gk n := by
  induction s with
  | bh k p q => exact fun h => put_gk h.1.2 h.2
  | ah k p q => exact fun h => put_gk h.2.2 h.1
  | l s ih => exact fun h => ⟨ih h.1, h.2⟩
  | r s ih => exact fun h => ⟨h.1, ih h.2⟩
  | g s ih => exact fun h => ⟨h.1, ih h.2⟩
theorem step_what {q q' : Tr} (s : Step q q') : ∀ {p : Tr} {i : Nat}, Step (p.put i q) (p.put i q')
  | wd, i => s
  | pr b l r, i => by
    unfold put
    by_cases c : i < l.width
    · rw [if_pos c, if_pos c]; exact .l (step_what s)
    · rw [if_neg c, if_neg c]; exact .r (step_what s)
  | gv b k p, i => .g (step_what s)
theorem step_where {p p' : Tr} (s : Step p p') : ∀ {i : Nat} {q : Tr}, p.WF → i < p.width → q.WF → Step (p.put i q) (p'.put i q) := by
  induction s with
  | bh k a c =>
    intro i q h hi hq
    have ha : a.WF := h.1.1
    have h2 : 2 ≤ a.width := h.1.2
    have hi' : i < a.width - 1 + c.width := hi
    by_cases e : i < (gv true k a).width
    · have e' : i < a.width - 1 := e
      have w := put_width (q := q) ha (show i < a.width by omega) (width_pos hq)
      have := width_pos hq
      rw [put, if_pos e, put, if_pos rfl]
      have z := put_two (i := i) (j := a.width - 1) ha e' (by omega) hq h.2
      rw [z, show a.width - 1 + q.width - 1 = (a.put i q).width - 1 by omega]
      exact .bh k _ _
    · have e' : ¬ i < a.width - 1 := e
      have z := put_in (i := a.width - 1) (j := i - (a.width - 1)) (c := q) ha (by omega) h.2 (by omega)
      rw [show a.width - 1 + (i - (a.width - 1)) = i by omega] at z
      rw [put, if_neg e, z]
      exact .bh k _ _
  | ah k a c =>
    intro i q h hi hq
    have ha : a.WF := h.2.1
    have h2 : 2 ≤ a.width := h.2.2
    have hi' : i < c.width + (a.width - 1) := hi
    by_cases e : i < c.width
    · have z := put_in (i := 0) (j := i) (c := q) ha (by omega) h.1 e
      rw [Nat.zero_add] at z
      rw [put, if_pos e, z]
      exact .ah k _ _
    · have z := put_two (i := 0) (j := i - c.width + 1) ha (by omega) (by omega) h.1 hq
      rw [show i - c.width + 1 + c.width - 1 = i by omega] at z
      rw [put, if_neg e, put, if_neg Bool.false_ne_true, ← z]
      exact .ah k _ _
  | @l b l l' r s ih =>
    intro i q h hi hq
    have hi' : i < l.width + r.width := hi
    have e := s.width h.1
    unfold put
    rw [e.1]
    by_cases c : i < l.width
    · rw [if_pos c, if_pos c]; exact .l (ih h.1 c hq)
    · rw [if_neg c, if_neg c]; exact .l s
  | @r b l r r' s ih =>
    intro i q h hi hq
    have hi' : i < l.width + r.width := hi
    unfold put
    by_cases c : i < l.width
    · rw [if_pos c, if_pos c]; exact .r s
    · rw [if_neg c, if_neg c]; exact .r (ih h.2 (by omega) hq)
  | @g b k p p' s ih =>
    intro i q h hi hq
    have hi' : i < p.width - 1 := hi
    have h2 := h.2
    exact .g (ih h.1 (by cases b <;> simp <;> omega) hq)
theorem Step.one_of {b : Bool} {k : Kd} {p u : Tr} (s : Step (gv b k p) u) : ∃ p', u = gv b k p' ∧ Step p p' := by
  cases s with
  | g s => exact ⟨_, rfl, s⟩
/-- two steps out of one reading meet behind one step each -/
theorem diamond : ∀ {t a b : Tr}, t.WF → Step t a → Step t b → a = b ∨ ∃ c, Step a c ∧ Step b c := by
  intro t a b h sa
  induction sa generalizing b with
  | bh k p q =>
    intro sb
    have hp : p.WF := h.1.1
    have h2 : 2 ≤ p.width := h.1.2
    cases sb with
    | bh => exact .inl rfl
    | l s =>
      obtain ⟨p', rfl, s0⟩ := s.one_of
      refine .inr ⟨p'.put (p'.width - 1) q, ?_, .bh k p' q⟩
      rw [(s0.width hp).1]
      exact step_where s0 hp (by omega) h.2
    | r s => exact .inr ⟨_, step_what s, .bh k p _⟩
  | ah k p q =>
    intro sb
    have hp : p.WF := h.2.1
    have h2 : 2 ≤ p.width := h.2.2
    cases sb with
    | ah => exact .inl rfl
    | r s =>
      obtain ⟨p', rfl, s0⟩ := s.one_of
      exact .inr ⟨p'.put 0 q, step_where s0 hp (by omega) h.1, .ah k p' q⟩
    | l s => exact .inr ⟨_, step_what s, .ah k p _⟩
  | @l b l l' r s ih =>
    intro sb
    cases sb with
    | bh k p q =>
      obtain ⟨p', rfl, s0⟩ := s.one_of
      have hp : p.WF := h.1.1
      have h2 : 2 ≤ p.width := h.1.2
      refine .inr ⟨p'.put (p'.width - 1) r, .bh k p' r, ?_⟩
      rw [(s0.width hp).1]
      exact step_where s0 hp (by omega) h.2
    | ah k p q => exact .inr ⟨_, .ah k p _, step_what s⟩
    | l s2 =>
      rcases ih h.1 s2 with e | ⟨c, c1, c2⟩
      · exact .inl (by rw [e])
      · exact .inr ⟨_, .l c1, .l c2⟩
    | r s2 => exact .inr ⟨_, .r s2, .l s⟩
  | @r b l r r' s ih =>
    intro sb
    cases sb with
    | bh k p q => exact .inr ⟨_, .bh k p _, step_what s⟩
    | ah k p q =>
      obtain ⟨p', rfl, s0⟩ := s.one_of
      have hp : p.WF := h.2.1
      have h2 : 2 ≤ p.width := h.2.2
      exact .inr ⟨p'.put 0 l, .ah k p' l, step_where s0 hp (by omega) h.1⟩
    | l s2 => exact .inr ⟨_, .l s2, .r s⟩
    | r s2 =>
      rcases ih h.2 s2 with e | ⟨c, c1, c2⟩
      · exact .inl (by rw [e])
      · exact .inr ⟨_, .r c1, .r c2⟩
  | @g b k p p' s ih =>
    intro sb
    obtain ⟨p2, rfl, s2⟩ := sb.one_of
    rcases ih h.1 s2 with e | ⟨c, c1, c2⟩
    · exact .inl (by rw [e])
    · exact .inr ⟨_, .g c1, .g c2⟩
def Nf (t : Tr) : Prop := ∀ u, ¬ Step t u
def Steps : Nat → Tr → Tr → Prop
  | 0, t, u => t = u
  | n + 1, t, u => ∃ s, Step t s ∧ Steps n s u
theorem Steps.trans : ∀ {n m : Nat} {t u v : Tr}, Steps n t u → Steps m u v → Steps (n + m) t v
  | 0, m, t, u, v, e, h => by
    have e' : t = u := e
    rw [e', Nat.zero_add]; exact h
  | n + 1, m, t, u, v, h, h2 => by
    obtain ⟨s, h0, h1⟩ := h
    rw [show n + 1 + m = n + m + 1 by omega]
    exact ⟨s, h0, Steps.trans h1 h2⟩
theorem Steps.one {t u : Tr} (s : Step t u) : Steps 1 t u := ⟨u, s, rfl⟩
theorem Steps.wf : ∀ {n : Nat} {t u : Tr}, Steps n t u → t.WF → u.WF ∧ u.width = t.width
  | 0, t, u, e, h => by
    have e' : t = u := e
    rw [← e']; exact ⟨h, rfl⟩
  | n + 1, t, u, ⟨s, h0, h1⟩, h => by
    have a := h0.width h
    have b := Steps.wf h1 a.2
    exact ⟨b.1, b.2.trans a.1⟩
theorem Steps.count : ∀ {n : Nat} {t u : Tr}, Steps n t u → u.count + 3 * n = t.count
  | 0, t, u, e => by
    have e' : t = u := e
    rw [e']; omega
  | n + 1, t, u, ⟨s, h0, h1⟩ => by
    have a := h0.count
    have b := Steps.count h1
    omega
theorem Steps.gk {m : Nat} : ∀ {n : Nat} {t u : Tr}, Steps n t u → t.Gk m → u.Gk m
  | 0, t, u, e, h => by
    have e' : t = u := e
    rw [← e']; exact h
  | n + 1, t, u, ⟨s, h0, h1⟩, h => Steps.gk h1 (h0.gk h)
theorem Steps.l {b : Bool} {r : Tr} : ∀ {n : Nat} {t u : Tr}, Steps n t u → Steps n (pr b t r) (pr b u r)
  | 0, t, u, e => by
    have e' : t = u := e
    rw [e']; exact rfl
  | n + 1, t, u, ⟨s, h0, h1⟩ => ⟨_, .l h0, Steps.l h1⟩
theorem Steps.r {b : Bool} {l : Tr} : ∀ {n : Nat} {t u : Tr}, Steps n t u → Steps n (pr b l t) (pr b l u)
  | 0, t, u, e => by
    have e' : t = u := e
    rw [e']; exact rfl
  | n + 1, t, u, ⟨s, h0, h1⟩ => ⟨_, .r h0, Steps.r h1⟩
theorem Steps.g {b : Bool} {k : Kd} : ∀ {n : Nat} {t u : Tr}, Steps n t u → Steps n (gv b k t) (gv b k u)
  | 0, t, u, e => by
    have e' : t = u := e
    rw [e']; exact rfl
  | n + 1, t, u, ⟨s, h0, h1⟩ => ⟨_, .g h0, Steps.g h1⟩
theorem walk_any : ∀ {n : Nat} {t u t1 : Tr}, t.WF → Steps n t u → Nf u → Step t t1 → ∃ m, n = m + 1 ∧ Steps m t1 u
  | 0, t, u, t1, h, e, hu, s => by
    have e' : t = u := e
    rw [e'] at s
    exact absurd s (hu _)
  | n + 1, t, u, t1, h, ⟨t0, h0, h1⟩, hu, s => by
    refine ⟨n, rfl, ?_⟩
    rcases diamond h h0 s with e | ⟨c, c1, c2⟩
    · rw [← e]; exact h1
    · obtain ⟨m, em, hm⟩ := walk_any (h0.width h).2 h1 hu c1
      rw [em]
      exact ⟨c, c2, hm⟩
/-- the short form is one, whatever the order -/
theorem short_one : ∀ {n m : Nat} {t u v : Tr}, t.WF → Steps n t u → Nf u → Steps m t v → Nf v → u = v
  | n, 0, t, u, v, h, a, hu, e, hv => by
    have e' : t = v := e
    cases n with
    | zero =>
      have e2 : t = u := a
      rw [← e2, e']
    | succ n =>
      obtain ⟨s, h0, _⟩ := a
      rw [e'] at h0
      exact absurd h0 (hv _)
  | n, m + 1, t, u, v, h, a, hu, ⟨s, h0, h1⟩, hv => by
    obtain ⟨k, _, hk⟩ := walk_any h a hu h0
    exact short_one (h0.width h).2 hk hu h1 hv
end Tr
end WW
namespace WW
namespace Tr
/-! ### places -/
def red : Tr → Bool
  | pr true (gv true _ _) _ => true
  | pr false _ (gv false _ _) => true
  | _ => false
/-- the places at which a step can be made -/
def places : Tr → List (List Nat)
  | wd => []
  | pr b l r => (if (pr b l r).red then [[]] else []) ++ (l.places.map (1 :: ·) ++ r.places.map (2 :: ·))
  | gv _ _ p => p.places.map (2 :: ·)
/-- the part at a place -/
def sub : Tr → List Nat → Option Tr
  | t, [] => some t
  | pr _ l _, 1 :: s => l.sub s
  | pr _ _ r, 2 :: s => r.sub s
  | gv _ _ p, 2 :: s => p.sub s
  | _, _ => none
def putAt : Tr → List Nat → Tr → Tr
  | _, [], o => o
  | pr b l r, 1 :: s, o => pr b (l.putAt s o) r
  | pr b l r, 2 :: s, o => pr b l (r.putAt s o)
  | gv b k p, 2 :: s, o => gv b k (p.putAt s o)
  | t, _, _ => t
/-- the step at the whole -/
def made : Tr → Tr
  | pr true (gv true _ p) q => p.put (p.width - 1) q
  | pr false q (gv false _ p) => p.put 0 q
  | t => t
def stepAt (t : Tr) (s : List Nat) : Tr := t.putAt s ((t.sub s).getD t).made
/-- the places of the words that are free -/
def words : Tr → List (List Nat)
  | wd => [[]]
  | pr _ l r => l.words.map (1 :: ·) ++ r.words.map (2 :: ·)
  | gv b _ p => if b then (p.words.map (2 :: ·)).dropLast else (p.words.map (2 :: ·)).tail
theorem red_of : ∀ {t : Tr}, t.red = true → (∃ k p q, t = pr true (gv true k p) q) ∨ ∃ k p q, t = pr false q (gv false k p)
  | wd, h => by cases h
  | gv _ _ _, h => by cases h
  | pr true (gv true k p) q, _ => .inl ⟨k, p, q, rfl⟩
  | pr false q (gv false k p), _ => .inr ⟨k, p, q, rfl⟩
  | pr true wd _, h => by cases h
  | pr true (pr _ _ _) _, h => by cases h
  | pr true (gv false _ _) _, h => by cases h
  | pr false _ wd, h => by cases h
  | pr false _ (pr _ _ _), h => by cases h
  | pr false _ (gv true _ _), h => by cases h
theorem step_made {t : Tr} (h : t.red = true) : Step t t.made := by
  rcases red_of h with ⟨k, p, q, rfl⟩ | ⟨k, p, q, rfl⟩
  · exact .bh k p q
  · exact .ah k p q
theorem red_pos {t : Tr} (h : t.red = true) : t ≠ wd := by
  intro e; rw [e] at h; cases h
theorem mem_places_pr {b : Bool} {l r : Tr} {s : List Nat} (h : s ∈ (pr b l r).places) : (s = [] ∧ (pr b l r).red = true) ∨ (∃ s', s = 1 :: s' ∧ s' ∈ l.places) ∨ ∃ s', s = 2 :: s' ∧ s' ∈ r.places := by
  rw [places] at h
  rcases List.mem_append.mp h with h | h
  · by_cases c : (pr b l r).red = true
    · rw [if_pos c] at h
      exact .inl ⟨List.mem_singleton.mp h, c⟩
    · rw [if_neg c] at h
      cases h
  · rcases List.mem_append.mp h with h | h
    · obtain ⟨s', h1, h2⟩ := List.mem_map.mp h
      exact .inr (.inl ⟨s', h2.symm, h1⟩)
    · obtain ⟨s', h1, h2⟩ := List.mem_map.mp h
      exact .inr (.inr ⟨s', h2.symm, h1⟩)
theorem mem_places_gv {b : Bool} {k : Kd} {p : Tr} {s : List Nat} (h : s ∈ (gv b k p).places) : ∃ s', s = 2 :: s' ∧ s' ∈ p.places := by
  rw [places] at h
  obtain ⟨s', h1, h2⟩ := List.mem_map.mp h
  exact ⟨s', h2.symm, h1⟩
/-- a told place: a part stands there, a step can be made -/
theorem sub_of : ∀ {t : Tr} {s : List Nat}, s ∈ t.places → ∃ u, t.sub s = some u ∧ u.red = true ∧ Step t (t.putAt s u.made) ∧ s.length < t.count ∧ (t.WF → u.WF) ∧ (∀ n, t.Gk n → u.Gk n) ∧ u.count ≤ t.count
  | wd, s, h => by cases h
  | pr b l r, s, h => by
    rcases mem_places_pr h with ⟨rfl, c⟩ | ⟨s', rfl, h'⟩ | ⟨s', rfl, h'⟩
    · exact ⟨_, rfl, c, step_made c, count_pos _, fun z => z, fun _ z => z, Nat.le_refl _⟩
    · obtain ⟨u, e, c, st, hl, w, g, cc⟩ := sub_of h'
      refine ⟨u, e, c, .l st, ?_, fun z => w z.1, fun n z => g n z.1, ?_⟩
      · show s'.length + 1 < 1 + l.count + r.count
        omega
      · show u.count ≤ 1 + l.count + r.count
        omega
    · obtain ⟨u, e, c, st, hl, w, g, cc⟩ := sub_of h'
      refine ⟨u, e, c, .r st, ?_, fun z => w z.2, fun n z => g n z.2, ?_⟩
      · show s'.length + 1 < 1 + l.count + r.count
        omega
      · show u.count ≤ 1 + l.count + r.count
        omega
  | gv b k p, s, h => by
    obtain ⟨s', rfl, h'⟩ := mem_places_gv h
    obtain ⟨u, e, c, st, hl, w, g, cc⟩ := sub_of h'
    refine ⟨u, e, c, .g st, ?_, fun z => w z.1, fun n z => g n z.2, ?_⟩
    · show s'.length + 1 < 1 + p.count
      omega
    · show u.count ≤ 1 + p.count
      omega
theorem step_at {t : Tr} {s : List Nat} (h : s ∈ t.places) : Step t (t.stepAt s) := by
  obtain ⟨u, e, _, st, _⟩ := sub_of h
  unfold stepAt
  rw [e]
  exact st
theorem nf_of : ∀ {t : Tr}, t.places = [] → Nf t := by
  intro t h u s
  induction s with
  | bh k p q =>
    have e : ([] : List Nat) ∈ (pr true (gv true k p) q).places := by
      rw [places]
      exact List.mem_append.mpr (.inl (List.mem_singleton.mpr rfl))
    rw [h] at e; cases e
  | ah k p q =>
    have e : ([] : List Nat) ∈ (pr false q (gv false k p)).places := by
      rw [places]
      exact List.mem_append.mpr (.inl (List.mem_singleton.mpr rfl))
    rw [h] at e; cases e
  | @l b l l' r s ih =>
    rw [places] at h
    have h1 := (List.append_eq_nil_iff.mp h).2
    have h2 := (List.append_eq_nil_iff.mp h1).1
    exact ih (List.map_eq_nil_iff.mp h2)
  | @r b l r r' s ih =>
    rw [places] at h
    have h1 := (List.append_eq_nil_iff.mp h).2
    have h2 := (List.append_eq_nil_iff.mp h1).2
    exact ih (List.map_eq_nil_iff.mp h2)
  | @g b k p p' s ih =>
    rw [places] at h
    exact ih (List.map_eq_nil_iff.mp h)
theorem places_two : ∀ {t : Tr} {s : List Nat}, s ∈ t.places → ∀ x ∈ s, x = 1 ∨ x = 2
  | wd, s, h => by cases h
  | pr b l r, s, h => by
    rcases mem_places_pr h with ⟨rfl, c⟩ | ⟨s', rfl, h'⟩ | ⟨s', rfl, h'⟩
    · intro x hx; cases hx
    · intro x hx
      rcases List.mem_cons.mp hx with e | hx
      · exact .inl e
      · exact places_two h' x hx
    · intro x hx
      rcases List.mem_cons.mp hx with e | hx
      · exact .inr e
      · exact places_two h' x hx
  | gv b k p, s, h => by
    obtain ⟨s', rfl, h'⟩ := mem_places_gv h
    intro x hx
    rcases List.mem_cons.mp hx with e | hx
    · exact .inr e
    · exact places_two h' x hx
theorem places_short {t : Tr} {s : List Nat} (h : s ∈ t.places) : s.length < t.count ∧ ∀ x ∈ s, x = 1 ∨ x = 2 := by
  obtain ⟨u, _, _, _, e, _⟩ := sub_of h
  exact ⟨e, places_two h⟩
theorem places_len : ∀ t : Tr, t.places.length ≤ t.count
  | wd => Nat.zero_le _
  | pr b l r => by
    have h1 := places_len l
    have h2 := places_len r
    rw [places, List.length_append, List.length_append, List.length_map, List.length_map]
    have : (if (pr b l r).red = true then ([[]] : List (List Nat)) else []).length ≤ 1 := by split <;> simp
    show _ ≤ 1 + l.count + r.count
    omega
  | gv b k p => by
    have h1 := places_len p
    rw [places, List.length_map]
    show _ ≤ 1 + p.count
    omega
theorem words_len : ∀ {t : Tr}, t.words.length = t.width
  | wd => rfl
  | pr b l r => by
    rw [words, List.length_append, List.length_map, List.length_map, words_len, words_len]
    rfl
  | gv b k p => by
    rw [words]
    cases b
    · rw [if_neg Bool.false_ne_true, List.length_tail, List.length_map, words_len]
      rfl
    · rw [if_pos rfl, List.length_dropLast, List.length_map, words_len]
      rfl
/-- by place and by number -/
theorem words_put : ∀ {t : Tr} {i : Nat} {s : List Nat}, t.words[i]? = some s → (∀ q, t.putAt s q = t.put i q) ∧ t.sub s = some wd ∧ s.length < t.count
  | wd, i, s, h => by
    cases i with
    | zero =>
      have e : [] = s := Option.some.inj h
      rw [← e]
      exact ⟨fun _ => rfl, rfl, Nat.lt_succ_self 0⟩
    | succ i => cases h
  | pr b l r, i, s, h => by
    rw [words, List.getElem?_append, List.length_map, words_len] at h
    by_cases c : i < l.width
    · rw [if_pos c, List.getElem?_map] at h
      cases e : l.words[i]? with
      | none => rw [e] at h; cases h
      | some s' =>
        rw [e] at h
        have e2 : 1 :: s' = s := Option.some.inj h
        rw [← e2]
        have ih := words_put e
        refine ⟨fun q => ?_, ih.2.1, ?_⟩
        · rw [put, if_pos c, ← ih.1 q]; rfl
        · have := ih.2.2
          show s'.length + 1 < 1 + l.count + r.count
          omega
    · rw [if_neg c, List.getElem?_map] at h
      cases e : r.words[i - l.width]? with
      | none => rw [e] at h; cases h
      | some s' =>
        rw [e] at h
        have e2 : 2 :: s' = s := Option.some.inj h
        rw [← e2]
        have ih := words_put e
        refine ⟨fun q => ?_, ih.2.1, ?_⟩
        · rw [put, if_neg c, ← ih.1 q]; rfl
        · have := ih.2.2
          show s'.length + 1 < 1 + l.count + r.count
          omega
  | gv b k p, i, s, h => by
    have key : ∃ s', s = 2 :: s' ∧ p.words[if b then i else i + 1]? = some s' := by
      rw [words] at h
      cases b
      · rw [if_neg Bool.false_ne_true, List.getElem?_tail, List.getElem?_map] at h
        rw [if_neg Bool.false_ne_true]
        cases e : p.words[i + 1]? with
        | none => rw [e] at h; cases h
        | some s' => rw [e] at h; exact ⟨s', (Option.some.inj h).symm, rfl⟩
      · rw [if_pos rfl, List.getElem?_dropLast] at h
        rw [if_pos rfl]
        by_cases c : i < (List.map (fun x => 2 :: x) p.words).length - 1
        · rw [if_pos c, List.getElem?_map] at h
          cases e : p.words[i]? with
          | none => rw [e] at h; cases h
          | some s' => rw [e] at h; exact ⟨s', (Option.some.inj h).symm, rfl⟩
        · rw [if_neg c] at h; cases h
    obtain ⟨s', rfl, e⟩ := key
    have ih := words_put e
    refine ⟨fun q => ?_, ih.2.1, ?_⟩
    · rw [put, ← ih.1 q]; rfl
    · have := ih.2.2
      show s'.length + 1 < 1 + p.count
      omega
theorem words_two {t : Tr} {s : List Nat} (h : s ∈ t.words) : ∀ x ∈ s, x = 1 ∨ x = 2 := by
  induction t generalizing s with
  | wd =>
    have e : s = [] := List.mem_singleton.mp h
    rw [e]; intro x hx; cases hx
  | pr b l r ihl ihr =>
    rw [words] at h
    rcases List.mem_append.mp h with h | h
    · obtain ⟨s', h1, rfl⟩ := List.mem_map.mp h
      intro x hx
      rcases List.mem_cons.mp hx with e | hx
      · exact .inl e
      · exact ihl h1 x hx
    · obtain ⟨s', h1, rfl⟩ := List.mem_map.mp h
      intro x hx
      rcases List.mem_cons.mp hx with e | hx
      · exact .inr e
      · exact ihr h1 x hx
  | gv b k p ih =>
    have h' : s ∈ p.words.map (2 :: ·) := by
      rw [words] at h
      cases b
      · rw [if_neg Bool.false_ne_true] at h
        exact List.mem_of_mem_tail h
      · rw [if_pos rfl] at h
        exact List.dropLast_subset _ h
    obtain ⟨s', h1, rfl⟩ := List.mem_map.mp h'
    intro x hx
    rcases List.mem_cons.mp hx with e | hx
    · exact .inr e
    · exact ih h1 x hx
end Tr
end WW
namespace WW
/-- a reading with numbers: at each word its own, at each give that of the word it takes -/
inductive Mr where
  | wd (n : Nat)
  | pr (b : Bool) (l r : Mr)
  | gv (b : Bool) (k : Kd) (p : Mr) (t : Nat)
namespace Mr
def bare : Mr → Tr
  | wd _ => .wd
  | pr b l r => .pr b l.bare r.bare
  | gv b k p _ => .gv b k p.bare
/-- the numbers of its row -/
def free : Mr → List Nat
  | wd n => [n]
  | pr _ l r => l.free ++ r.free
  | gv b _ p _ => if b then p.free.dropLast else p.free.tail
/-- x is the number of a word -/
def Mem (x : Nat) : Mr → Prop
  | wd n => x = n
  | pr _ l r => l.Mem x ∨ r.Mem x
  | gv _ _ p _ => p.Mem x
def Good : Mr → Prop
  | wd _ => True
  | pr _ l r => (l.Good ∧ r.Good) ∧ ∀ x, l.Mem x → ¬ r.Mem x
  | gv b _ p t => p.Good ∧ ∃ f, f ≠ [] ∧ p.free = if b then f ++ [t] else t :: f
def swap : Mr → Nat → Mr → Mr
  | wd n, m, q => if n = m then q else wd n
  | pr b l r, m, q => pr b (l.swap m q) (r.swap m q)
  | gv b k p t, m, q => gv b k (p.swap m q) t
def made : Mr → Mr
  | pr true (gv true _ p t) q => p.swap t q
  | pr false q (gv false _ p t) => p.swap t q
  | m => m
def stepAt : Mr → List Nat → Mr
  | m, [] => m.made
  | pr b l r, 1 :: s => pr b (l.stepAt s) r
  | pr b l r, 2 :: s => pr b l (r.stepAt s)
  | gv b k p t, 2 :: s => gv b k (p.stepAt s) t
  | m, _ => m
theorem free_gv {b : Bool} {k : Kd} {p : Mr} {t : Nat} {f : List Nat} (h : p.free = if b then f ++ [t] else t :: f) : (gv b k p t).free = f := by
  show (if b then p.free.dropLast else p.free.tail) = f
  rw [h]
  cases b <;> simp
theorem free_len : ∀ {m : Mr}, m.Good → m.free.length = m.bare.width ∧ m.bare.WF
  | wd _, _ => ⟨rfl, trivial⟩
  | pr b l r, h => by
    have h1 := free_len h.1.1
    have h2 := free_len h.1.2
    refine ⟨?_, h1.2, h2.2⟩
    show (l.free ++ r.free).length = l.bare.width + r.bare.width
    rw [List.length_append, h1.1, h2.1]
  | gv b k p t, h => by
    obtain ⟨hp, f, hf, e⟩ := h
    have h1 := free_len hp
    have hl : p.free.length = f.length + 1 := by rw [e]; cases b <;> simp
    have hfl : 1 ≤ f.length := by
      cases f with
      | nil => exact absurd rfl hf
      | cons _ _ => simp
    refine ⟨?_, h1.2, by omega⟩
    rw [free_gv e]
    show f.length = p.bare.width - 1
    omega
theorem free_mem : ∀ {m : Mr} {x : Nat}, m.Good → x ∈ m.free → m.Mem x
  | wd n, x, _, h => List.mem_singleton.mp h
  | pr b l r, x, g, h => by
    rcases List.mem_append.mp h with h | h
    · exact .inl (free_mem g.1.1 h)
    · exact .inr (free_mem g.1.2 h)
  | gv b k p t, x, g, h => by
    obtain ⟨hp, f, hf, e⟩ := g
    rw [free_gv e] at h
    have h2 : x ∈ p.free := by
      rw [e]
      cases b
      · exact List.mem_cons_of_mem _ h
      · exact List.mem_append_left _ h
    exact free_mem (m := p) hp h2
theorem swap_out : ∀ {m : Mr} {n : Nat} {q : Mr}, ¬ m.Mem n → m.swap n q = m
  | wd k, n, q, h => by
    have h' : ¬ n = k := h
    unfold swap
    rw [if_neg (fun e => h' e.symm)]
  | pr b l r, n, q, h => by
    unfold swap
    rw [swap_out (m := l) (fun e => h (.inl e)), swap_out (m := r) (fun e => h (.inr e))]
  | gv b k p t, n, q, h => by
    unfold swap
    rw [swap_out (m := p) h]
theorem swap_mem : ∀ {m : Mr} {n x : Nat} {q : Mr}, (m.swap n q).Mem x → m.Mem x ∨ q.Mem x
  | wd k, n, x, q, h => by
    unfold swap at h
    by_cases e : k = n
    · rw [if_pos e] at h; exact .inr h
    · rw [if_neg e] at h; exact .inl h
  | pr b l r, n, x, q, h => by
    rcases (show (l.swap n q).Mem x ∨ (r.swap n q).Mem x from h) with h | h
    · rcases swap_mem h with h | h
      · exact .inl (.inl h)
      · exact .inr h
    · rcases swap_mem h with h | h
      · exact .inl (.inr h)
      · exact .inr h
  | gv b k p t, n, x, q, h => by
    rcases swap_mem (m := p) h with h | h
    · exact .inl h
    · exact .inr h
theorem swap_ok : ∀ {m : Mr} {n i : Nat} {q : Mr}, m.Good → q.Good → m.free[i]? = some n → (∀ x, m.Mem x → ¬ q.Mem x) →
    (m.swap n q).bare = m.bare.put i q.bare ∧ (m.swap n q).free = m.free.take i ++ q.free ++ m.free.drop (i + 1) ∧ (m.swap n q).Good
  | wd k, n, i, q, _, hq, h, _ => by
    cases i with
    | zero =>
      have e : k = n := Option.some.inj h
      unfold swap
      rw [if_pos e]
      refine ⟨rfl, ?_, hq⟩
      show q.free = [] ++ q.free ++ []
      simp
    | succ i => simp [free] at h
  | pr b l r, n, i, q, g, hq, h, hd => by
    have gl := free_len g.1.1
    have h' : (l.free ++ r.free)[i]? = some n := h
    rw [List.getElem?_append] at h'
    by_cases c : i < l.free.length
    · rw [if_pos c] at h'
      have hm : l.Mem n := free_mem g.1.1 (List.mem_of_getElem? h')
      have hr : r.swap n q = r := swap_out (g.2 n hm)
      have ih := swap_ok g.1.1 hq h' fun x hx => hd x (.inl hx)
      unfold swap
      rw [hr]
      refine ⟨?_, ?_, ⟨ih.2.2, g.1.2⟩, fun x hx hx2 => ?_⟩
      · show Tr.pr b (l.swap n q).bare r.bare = (Tr.pr b l.bare r.bare).put i q.bare
        rw [Tr.put, if_pos (by omega), ih.1]
      · show (l.swap n q).free ++ r.free = (l.free ++ r.free).take i ++ q.free ++ (l.free ++ r.free).drop (i + 1)
        rw [ih.2.1, List.take_append_of_le_length (by omega), List.drop_append_of_le_length (by omega)]
        simp only [List.append_assoc]
      · rcases swap_mem hx with hx | hx
        · exact g.2 x hx hx2
        · exact hd x (.inr hx2) hx
    · rw [if_neg c] at h'
      have hm : r.Mem n := free_mem g.1.2 (List.mem_of_getElem? h')
      have hl : l.swap n q = l := swap_out fun z => g.2 n z hm
      have ih := swap_ok g.1.2 hq h' fun x hx => hd x (.inr hx)
      unfold swap
      rw [hl]
      refine ⟨?_, ?_, ⟨g.1.1, ih.2.2⟩, fun x hx hx2 => ?_⟩
      · show Tr.pr b l.bare (r.swap n q).bare = (Tr.pr b l.bare r.bare).put i q.bare
        rw [Tr.put, if_neg (by omega), ih.1, gl.1]
      · show l.free ++ (r.swap n q).free = (l.free ++ r.free).take i ++ q.free ++ (l.free ++ r.free).drop (i + 1)
        rw [ih.2.1, List.take_append, List.drop_append, List.take_of_length_le (show l.free.length ≤ i by omega), List.drop_eq_nil_of_le (show l.free.length ≤ i + 1 by omega), List.nil_append, show i + 1 - l.free.length = i - l.free.length + 1 by omega]
        simp only [List.append_assoc]
      · rcases swap_mem hx2 with hx2 | hx2
        · exact g.2 x hx hx2
        · exact hd x (.inl hx) hx2
  | gv b k p t, n, i, q, g, hq, h, hd => by
    obtain ⟨hp, f, hf, e⟩ := g
    rw [free_gv e] at h ⊢
    have hi := (List.getElem?_eq_some_iff.mp h).1
    have hql : 1 ≤ q.free.length := by
      have := free_len hq
      have := Tr.width_pos this.2
      omega
    have hne : f.take i ++ q.free ++ f.drop (i + 1) ≠ [] := fun z => by
      have := congrArg List.length z
      rw [List.length_append, List.length_append, List.length_nil] at this
      omega
    cases b with
    | true =>
      rw [if_pos rfl] at e
      have h' : p.free[i]? = some n := by
        rw [e, List.getElem?_append_left hi]
        exact h
      have ih := swap_ok hp hq h' fun x hx => hd x hx
      have ef : (p.swap n q).free = (f.take i ++ q.free ++ f.drop (i + 1)) ++ [t] := by
        rw [ih.2.1, e, List.take_append_of_le_length (by omega), List.drop_append_of_le_length (by omega), List.append_assoc, List.append_assoc, List.append_assoc]
      refine ⟨?_, ?_, ih.2.2, _, hne, by rw [if_pos rfl]; exact ef⟩
      · show Tr.gv true k (p.swap n q).bare = (Tr.gv true k p.bare).put i q.bare
        rw [Tr.put, if_pos rfl, ih.1]
      · exact free_gv (b := true) (by rw [if_pos rfl]; exact ef)
    | false =>
      rw [if_neg Bool.false_ne_true] at e
      have h' : p.free[i + 1]? = some n := by
        rw [e, List.getElem?_cons_succ]
        exact h
      have ih := swap_ok hp hq h' fun x hx => hd x hx
      have ef : (p.swap n q).free = t :: (f.take i ++ q.free ++ f.drop (i + 1)) := by
        rw [ih.2.1, e]
        simp
      refine ⟨?_, ?_, ih.2.2, _, hne, by rw [if_neg Bool.false_ne_true]; exact ef⟩
      · show Tr.gv false k (p.swap n q).bare = (Tr.gv false k p.bare).put i q.bare
        rw [Tr.put, if_neg Bool.false_ne_true, ih.1]
      · exact free_gv (b := false) (by rw [if_neg Bool.false_ne_true]; exact ef)
theorem bare_red : ∀ {m : Mr}, m.bare.red = true → (∃ k p t q, m = pr true (gv true k p t) q) ∨ ∃ k p t q, m = pr false q (gv false k p t)
  | wd _, h => by cases h
  | gv _ _ _ _, h => by cases h
  | pr true (gv true k p t) q, _ => .inl ⟨k, p, t, q, rfl⟩
  | pr false q (gv false k p t), _ => .inr ⟨k, p, t, q, rfl⟩
  | pr true (wd _) _, h => by cases h
  | pr true (pr _ _ _) _, h => by cases h
  | pr true (gv false _ _ _) _, h => by cases h
  | pr false _ (wd _), h => by cases h
  | pr false _ (pr _ _ _), h => by cases h
  | pr false _ (gv true _ _ _), h => by cases h
/-- a step of a numbered reading is one of the reading, and keeps what holds -/
theorem made_ok {m : Mr} (g : m.Good) (h : m.bare.red = true) : m.made.bare = m.bare.made ∧ m.made.free = m.free ∧ m.made.Good ∧ ∀ x, m.made.Mem x → m.Mem x := by
  rcases bare_red h with ⟨k, p, t, q, rfl⟩ | ⟨k, p, t, q, rfl⟩
  · obtain ⟨⟨⟨hp, f, hf, e⟩, hq⟩, hd⟩ := g
    rw [if_pos rfl] at e
    have fl := free_len hp
    have hl : p.free.length = f.length + 1 := by rw [e]; simp
    have hi : p.free[f.length]? = some t := by rw [e]; simp
    have s := swap_ok hp hq hi fun x hx => hd x hx
    refine ⟨?_, ?_, s.2.2, fun x hx => ?_⟩
    · show (p.swap t q).bare = p.bare.put (p.bare.width - 1) q.bare
      rw [s.1, ← fl.1, hl]
      rfl
    · show (p.swap t q).free = (gv true k p t).free ++ q.free
      rw [s.2.1, free_gv (b := true) (by rw [if_pos rfl]; exact e), e]
      simp
    · rcases swap_mem (show (p.swap t q).Mem x from hx) with hx | hx
      · exact .inl hx
      · exact .inr hx
  · obtain ⟨⟨hq, ⟨hp, f, hf, e⟩⟩, hd⟩ := g
    rw [if_neg Bool.false_ne_true] at e
    have hi : p.free[0]? = some t := by rw [e]; rfl
    have s := swap_ok hp hq hi fun x hx hx2 => hd x hx2 hx
    refine ⟨?_, ?_, s.2.2, fun x hx => ?_⟩
    · show (p.swap t q).bare = p.bare.put 0 q.bare
      rw [s.1]
    · show (p.swap t q).free = q.free ++ (gv false k p t).free
      rw [s.2.1, free_gv (b := false) (by rw [if_neg Bool.false_ne_true]; exact e), e]
      simp
    · rcases swap_mem (show (p.swap t q).Mem x from hx) with hx | hx
      · exact .inr hx
      · exact .inl hx
theorem putAt_one {b : Bool} {l r o : Tr} {s : List Nat} : (Tr.pr b l r).putAt (1 :: s) o = .pr b (l.putAt s o) r := rfl
theorem stepAt_nil (t : Tr) : t.stepAt [] = t.made := by
  unfold Tr.stepAt
  cases t <;> rfl
theorem stepAt_l {b : Bool} {l r u : Tr} {s : List Nat} (h : l.sub s = some u) : (Tr.pr b l r).stepAt (1 :: s) = .pr b (l.stepAt s) r := by
  unfold Tr.stepAt
  show (Tr.pr b l r).putAt (1 :: s) ((l.sub s).getD _).made = _
  rw [h]
  rfl
theorem stepAt_r {b : Bool} {l r u : Tr} {s : List Nat} (h : r.sub s = some u) : (Tr.pr b l r).stepAt (2 :: s) = .pr b l (r.stepAt s) := by
  unfold Tr.stepAt
  show (Tr.pr b l r).putAt (2 :: s) ((r.sub s).getD _).made = _
  rw [h]
  rfl
theorem stepAt_g {b : Bool} {k : Kd} {p u : Tr} {s : List Nat} (h : p.sub s = some u) : (Tr.gv b k p).stepAt (2 :: s) = .gv b k (p.stepAt s) := by
  unfold Tr.stepAt
  show (Tr.gv b k p).putAt (2 :: s) ((p.sub s).getD _).made = _
  rw [h]
  rfl
theorem mstep_nil (m : Mr) : m.stepAt [] = m.made := by cases m <;> rfl
theorem step_ok : ∀ {m : Mr} {s : List Nat}, m.Good → s ∈ m.bare.places → (m.stepAt s).bare = m.bare.stepAt s ∧ (m.stepAt s).free = m.free ∧ (m.stepAt s).Good ∧ ∀ x, (m.stepAt s).Mem x → m.Mem x
  | wd _, s, _, h => by cases h
  | pr b l r, s, g, h => by
    rcases Tr.mem_places_pr (show s ∈ (Tr.pr b l.bare r.bare).places from h) with ⟨rfl, c⟩ | ⟨s', rfl, h'⟩ | ⟨s', rfl, h'⟩
    · rw [mstep_nil, stepAt_nil]
      exact made_ok g c
    · have ih := step_ok g.1.1 h'
      obtain ⟨u, eu, _⟩ := Tr.sub_of h'
      refine ⟨?_, ?_, ⟨⟨ih.2.2.1, g.1.2⟩, fun x hx hx2 => g.2 x (ih.2.2.2 x hx) hx2⟩, fun x hx => ?_⟩
      · show Tr.pr b (l.stepAt s').bare r.bare = (Tr.pr b l.bare r.bare).stepAt (1 :: s')
        rw [stepAt_l eu, ih.1]
      · show (l.stepAt s').free ++ r.free = l.free ++ r.free
        rw [ih.2.1]
      · rcases hx with hx | hx
        · exact .inl (ih.2.2.2 x hx)
        · exact .inr hx
    · have ih := step_ok g.1.2 h'
      obtain ⟨u, eu, _⟩ := Tr.sub_of h'
      refine ⟨?_, ?_, ⟨⟨g.1.1, ih.2.2.1⟩, fun x hx hx2 => g.2 x hx (ih.2.2.2 x hx2)⟩, fun x hx => ?_⟩
      · show Tr.pr b l.bare (r.stepAt s').bare = (Tr.pr b l.bare r.bare).stepAt (2 :: s')
        rw [stepAt_r eu, ih.1]
      · show l.free ++ (r.stepAt s').free = l.free ++ r.free
        rw [ih.2.1]
      · rcases hx with hx | hx
        · exact .inl hx
        · exact .inr (ih.2.2.2 x hx)
  | gv b k p t, s, g, h => by
    obtain ⟨s', rfl, h'⟩ := Tr.mem_places_gv (show s ∈ (Tr.gv b k p.bare).places from h)
    obtain ⟨hp, f, hf, e⟩ := g
    have ih := step_ok hp h'
    obtain ⟨u, eu, _⟩ := Tr.sub_of h'
    refine ⟨?_, ?_, ⟨ih.2.2.1, f, hf, by rw [ih.2.1]; exact e⟩, fun x hx => ih.2.2.2 x hx⟩
    · show Tr.gv b k (p.stepAt s').bare = (Tr.gv b k p.bare).stepAt (2 :: s')
      rw [stepAt_g eu, ih.1]
    · rw [free_gv e]
      exact free_gv (by rw [ih.2.1]; exact e)
end Mr
/-! ### numbering -/
namespace Tr
def leaves : Tr → Nat
  | wd => 1
  | pr _ l r => l.leaves + r.leaves
  | gv _ _ p => p.leaves
/-- the taken one of a list -/
def pick (b : Bool) (f : List Nat) : Nat := if b then f.getLast?.getD 0 else f.head?.getD 0
def mark : Tr → Nat → Mr × List Nat
  | wd, n => (.wd n, [n])
  | pr b l r, n => (.pr b (l.mark n).1 (r.mark (n + l.leaves)).1, (l.mark n).2 ++ (r.mark (n + l.leaves)).2)
  | gv b k p, n => (.gv b k (p.mark n).1 (pick b (p.mark n).2), (p.mark n).2.filter (fun x => decide (x ≠ pick b (p.mark n).2)))
theorem leaves_le : ∀ t : Tr, t.leaves ≤ t.count
  | wd => Nat.le_refl 1
  | pr _ l r => by have h1 := l.leaves_le; have h2 := r.leaves_le; show l.leaves + r.leaves ≤ 1 + l.count + r.count; omega
  | gv _ _ p => by have h1 := p.leaves_le; show p.leaves ≤ 1 + p.count; omega
theorem filter_last {f : List Nat} {t : Nat} (h : (f ++ [t]).Pairwise (· < ·)) : (f ++ [t]).filter (fun x => decide (x ≠ t)) = f := by
  rw [List.filter_append]
  have h1 : f.filter (fun x => decide (x ≠ t)) = f := by
    refine List.filter_eq_self.mpr fun x hx => ?_
    have := (List.pairwise_append.mp h).2.2 x hx t (List.mem_singleton.mpr rfl)
    exact decide_eq_true (by omega)
  rw [h1]
  simp
theorem filter_head {f : List Nat} {t : Nat} (h : (t :: f).Pairwise (· < ·)) : (t :: f).filter (fun x => decide (x ≠ t)) = f := by
  have h1 : f.filter (fun x => decide (x ≠ t)) = f := by
    refine List.filter_eq_self.mpr fun x hx => ?_
    have := (List.pairwise_cons.mp h).1 x hx
    exact decide_eq_true (by omega)
  rw [List.filter_cons, if_neg (by simp), h1]
theorem mark_ok : ∀ {t : Tr} {n : Nat}, t.WF → (t.mark n).1.Good ∧ (t.mark n).1.bare = t ∧ (t.mark n).1.free = (t.mark n).2 ∧ (t.mark n).2.Pairwise (· < ·) ∧ (∀ x, (t.mark n).1.Mem x → n ≤ x ∧ x < n + t.leaves)
  | wd, n, _ => by
    refine ⟨trivial, rfl, rfl, List.pairwise_singleton _ _, fun x hx => ?_⟩
    have hx' : x = n := hx
    show n ≤ x ∧ x < n + 1
    omega
  | pr b l r, n, h => by
    have h1 := mark_ok (n := n) h.1
    have h2 := mark_ok (n := n + l.leaves) h.2
    refine ⟨⟨⟨h1.1, h2.1⟩, fun x hx hx2 => ?_⟩, ?_, ?_, ?_, fun x hx => ?_⟩
    · have a := h1.2.2.2.2 x hx
      have c := h2.2.2.2.2 x hx2
      omega
    · show Tr.pr b (l.mark n).1.bare (r.mark (n + l.leaves)).1.bare = _
      rw [h1.2.1, h2.2.1]
    · show (l.mark n).1.free ++ (r.mark (n + l.leaves)).1.free = _
      rw [h1.2.2.1, h2.2.2.1]
      rfl
    · refine List.pairwise_append.mpr ⟨h1.2.2.2.1, h2.2.2.2.1, fun x hx y hy => ?_⟩
      rw [← h1.2.2.1] at hx
      rw [← h2.2.2.1] at hy
      have a := h1.2.2.2.2 x (Mr.free_mem h1.1 hx)
      have c := h2.2.2.2.2 y (Mr.free_mem h2.1 hy)
      omega
    · show n ≤ x ∧ x < n + (l.leaves + r.leaves)
      rcases hx with hx | hx
      · have := h1.2.2.2.2 x hx
        omega
      · have := h2.2.2.2.2 x hx
        omega
  | gv b k p, n, h => by
    have h1 := mark_ok (n := n) h.1
    have hl := Mr.free_len h1.1
    rw [h1.2.1, h1.2.2.1] at hl
    have h2 := h.2
    have key : ∃ f, f ≠ [] ∧ (p.mark n).2 = (if b then f ++ [pick b (p.mark n).2] else pick b (p.mark n).2 :: f) ∧ (p.mark n).2.filter (fun x => decide (x ≠ pick b (p.mark n).2)) = f := by
      have pw := h1.2.2.2.1
      have hll := hl.1
      revert pw hll
      generalize (p.mark n).2 = L
      intro pw hll
      cases b with
      | true =>
        have hne : L ≠ [] := fun z => by rw [z, List.length_nil] at hll; omega
        have e1 : L.dropLast ++ [L.getLast hne] = L := List.dropLast_concat_getLast hne
        have e2 : pick true L = L.getLast hne := by
          unfold pick
          rw [if_pos rfl, List.getLast?_eq_getLast hne]
          rfl
        refine ⟨L.dropLast, fun z => ?_, ?_, ?_⟩
        · have := congrArg List.length z
          rw [List.length_dropLast, List.length_nil] at this
          omega
        · rw [if_pos rfl, e2, e1]
        · rw [e2]
          have pw2 := pw
          rw [← e1] at pw2
          have := filter_last pw2
          rw [e1] at this
          exact this
      | false =>
        cases L with
        | nil => rw [List.length_nil] at hll; omega
        | cons t f =>
          refine ⟨f, fun z => ?_, rfl, filter_head pw⟩
          rw [z, List.length_cons, List.length_nil] at hll
          omega
    obtain ⟨f, hf, e, ef⟩ := key
    have e' : (p.mark n).1.free = if b then f ++ [pick b (p.mark n).2] else pick b (p.mark n).2 :: f := h1.2.2.1.trans e
    refine ⟨⟨h1.1, f, hf, e'⟩, ?_, ?_, ?_, fun x hx => h1.2.2.2.2 x hx⟩
    · show Tr.gv b k (p.mark n).1.bare = _
      rw [h1.2.1]
    · rw [show ((gv b k p).mark n).1 = Mr.gv b k (p.mark n).1 (pick b (p.mark n).2) from rfl, Mr.free_gv e']
      exact ef.symm
    · exact h1.2.2.2.1.filter _
end Tr
end WW
namespace WW
open PySem PySem.Spec PyProof.Rows L2
/-! ### the text by places -/
def top (i : Nat) : Stmt := PySem.Challenge.pw_waitwords_k33_whole_steps_in_any_order.main.body.getD i (.Pass ⟨0, 0, 0, 0⟩)
def n_is_letter : List Str := ["text"]
theorem sc_is_letter : FnScope n_is_letter ["text"] (defScope (top 11)) := ⟨rfl, rfl, rfl, by decide +kernel, rfl, by decide +kernel, by decide +kernel⟩
def n_wrong_part : List Str := ["kind", "wrong"]
theorem sc_wrong_part : FnScope n_wrong_part ["kind"] (defScope (top 12)) := ⟨rfl, rfl, rfl, by decide +kernel, rfl, by decide +kernel, by decide +kernel⟩
def n_checked_kind : List Str := ["kind", "wrong"]
theorem sc_checked_kind : FnScope n_checked_kind ["kind"] (defScope (top 13)) := ⟨rfl, rfl, rfl, by decide +kernel, rfl, by decide +kernel, by decide +kernel⟩
def n_single : List Str := ["kind"]
theorem sc_single : FnScope n_single ["kind"] (defScope (top 14)) := ⟨rfl, rfl, rfl, by decide +kernel, rfl, by decide +kernel, by decide +kernel⟩
def n_is_single : List Str := ["kind"]
theorem sc_is_single : FnScope n_is_single ["kind"] (defScope (top 15)) := ⟨rfl, rfl, rfl, by decide +kernel, rfl, by decide +kernel, by decide +kernel⟩
def n_given_kinds : List Str := ["reading"]
theorem sc_given_kinds : FnScope n_given_kinds ["reading"] (defScope (top 19)) := ⟨rfl, rfl, rfl, by decide +kernel, rfl, by decide +kernel, by decide +kernel⟩
def n_checked_width : List Str := ["reading", "one", "found"]
theorem sc_checked_width : FnScope n_checked_width ["reading"] (defScope (top 20)) := ⟨rfl, rfl, rfl, by decide +kernel, rfl, by decide +kernel, by decide +kernel⟩
def n_check_single_kinds : List Str := ["kinds", "kind"]
theorem sc_check_single_kinds : FnScope n_check_single_kinds ["kinds"] (defScope (top 21)) := ⟨rfl, rfl, rfl, by decide +kernel, rfl, by decide +kernel, by decide +kernel⟩
def n_check_shapes : List Str := ["readings", "reading", "kind", "kinds"]
theorem sc_check_shapes : FnScope n_check_shapes ["readings"] (defScope (top 22)) := ⟨rfl, rfl, rfl, by decide +kernel, rfl, by decide +kernel, by decide +kernel⟩
def n_word_places : List Str := ["reading", "ones", "inner", "place"]
theorem sc_word_places : FnScope n_word_places ["reading"] (defScope (top 23)) := ⟨rfl, rfl, rfl, by decide +kernel, rfl, by decide +kernel, by decide +kernel⟩
def n_part_at : List Str := ["reading", "place", "at"]
theorem sc_part_at : FnScope n_part_at ["reading", "place"] (defScope (top 24)) := ⟨rfl, rfl, rfl, by decide +kernel, rfl, by decide +kernel, by decide +kernel⟩
def n_put_at : List Str := ["reading", "place", "other", "parts"]
theorem sc_put_at : FnScope n_put_at ["reading", "place", "other"] (defScope (top 25)) := ⟨rfl, rfl, rfl, by decide +kernel, rfl, by decide +kernel, by decide +kernel⟩
def n_can_step : List Str := ["reading"]
theorem sc_can_step : FnScope n_can_step ["reading"] (defScope (top 26)) := ⟨rfl, rfl, rfl, by decide +kernel, rfl, by decide +kernel, by decide +kernel⟩
def n_step_made : List Str := ["reading", "part"]
theorem sc_step_made : FnScope n_step_made ["reading"] (defScope (top 27)) := ⟨rfl, rfl, rfl, by decide +kernel, rfl, by decide +kernel, by decide +kernel⟩
def n_step_places : List Str := ["reading", "found", "at", "place"]
theorem sc_step_places : FnScope n_step_places ["reading"] (defScope (top 28)) := ⟨rfl, rfl, rfl, by decide +kernel, rfl, by decide +kernel, by decide +kernel⟩
def n_short_of : List Str := ["reading", "whole"]
theorem sc_short_of : FnScope n_short_of ["reading"] (defScope (top 29)) := ⟨rfl, rfl, rfl, by decide +kernel, rfl, by decide +kernel, by decide +kernel⟩
def n_is_short : List Str := ["reading"]
theorem sc_is_short : FnScope n_is_short ["reading"] (defScope (top 30)) := ⟨rfl, rfl, rfl, by decide +kernel, rfl, by decide +kernel, by decide +kernel⟩
def n_steps : List Str := ["reading"]
theorem sc_steps : FnScope n_steps ["reading"] (defScope (top 31)) := ⟨rfl, rfl, rfl, by decide +kernel, rfl, by decide +kernel, by decide +kernel⟩
def n_after_step : List Str := ["reading", "place"]
theorem sc_after_step : FnScope n_after_step ["reading", "place"] (defScope (top 32)) := ⟨rfl, rfl, rfl, by decide +kernel, rfl, by decide +kernel, by decide +kernel⟩
def n_shortened : List Str := ["reading"]
theorem sc_shortened : FnScope n_shortened ["reading"] (defScope (top 33)) := ⟨rfl, rfl, rfl, by decide +kernel, rfl, by decide +kernel, by decide +kernel⟩
def n_pool : List Str := ["_law_script", "_law_spot", "_law_cell", "_law_pool_here", "_law_signs"]
theorem sc_pool : FnScope n_pool ["_law_script", "_law_spot"] (defScope (top 35)) := ⟨rfl, rfl, rfl, by decide +kernel, rfl, by decide +kernel, by decide +kernel⟩
def n_pick : List Str := ["_law_pool_here", "_law_many", "_law_figure", "_law_blend"]
theorem sc_pick : FnScope n_pick ["_law_pool_here", "_law_many"] (defScope (top 36)) := ⟨rfl, rfl, rfl, by decide +kernel, rfl, by decide +kernel, by decide +kernel⟩
def n_shape : List Str := ["_law_pool_here", "_law_most", "_law_cut", "_law_left", "_law_right_here"]
theorem sc_shape : FnScope n_shape ["_law_pool_here", "_law_most"] (defScope (top 37)) := ⟨rfl, rfl, rfl, by decide +kernel, rfl, by decide +kernel, by decide +kernel⟩
def n_size : List Str := ["_law_shape_here"]
theorem sc_size : FnScope n_size ["_law_shape_here"] (defScope (top 38)) := ⟨rfl, rfl, rfl, by decide +kernel, rfl, by decide +kernel, by decide +kernel⟩
def n_deep : List Str := ["_law_shape_here"]
theorem sc_deep : FnScope n_deep ["_law_shape_here"] (defScope (top 39)) := ⟨rfl, rfl, rfl, by decide +kernel, rfl, by decide +kernel, by decide +kernel⟩
def n_within : List Str := ["_law_shapes", "_law_sizes", "_law_shape_here"]
theorem sc_within : FnScope n_within ["_law_shapes"] (defScope (top 40)) := ⟨rfl, rfl, rfl, by decide +kernel, rfl, by decide +kernel, by decide +kernel⟩
def n_wide : List Str := ["_law_tree"]
theorem sc_wide : FnScope n_wide ["_law_tree"] (defScope (top 41)) := ⟨rfl, rfl, rfl, by decide +kernel, rfl, by decide +kernel, by decide +kernel⟩
def n_count : List Str := ["_law_tree"]
theorem sc_count : FnScope n_count ["_law_tree"] (defScope (top 42)) := ⟨rfl, rfl, rfl, by decide +kernel, rfl, by decide +kernel, by decide +kernel⟩
def n_shown : List Str := ["_law_lane", "_law_tree", "_law_tight", "_law_found", "_law_inner", "_law_cut", "_law_left", "_law_right_here"]
theorem sc_shown : FnScope n_shown ["_law_lane", "_law_tree", "_law_tight"] (defScope (top 43)) := ⟨rfl, rfl, rfl, by decide +kernel, rfl, by decide +kernel, by decide +kernel⟩
def n_put : List Str := ["_law_tree", "_law_spot", "_law_more", "_law_cut"]
theorem sc_put : FnScope n_put ["_law_tree", "_law_spot", "_law_more"] (defScope (top 44)) := ⟨rfl, rfl, rfl, by decide +kernel, rfl, by decide +kernel, by decide +kernel⟩
def n_eta : List Str := ["_law_tree", "_law_shape_here"]
theorem sc_eta : FnScope n_eta ["_law_tree", "_law_shape_here"] (defScope (top 45)) := ⟨rfl, rfl, rfl, by decide +kernel, rfl, by decide +kernel, by decide +kernel⟩
def n_given : List Str := ["_law_way", "_law_lane", "_law_tree", "_law_shape_here"]
theorem sc_given : FnScope n_given ["_law_way", "_law_lane", "_law_tree", "_law_shape_here"] (defScope (top 46)) := ⟨rfl, rfl, rfl, by decide +kernel, rfl, by decide +kernel, by decide +kernel⟩
def n_grown : List Str := ["_law_pool_here", "_law_made_here", "_law_lane", "_law_tree", "_law_shape_here", "_law_way", "_law_spot", "_law_word", "_law_extra", "_law_longer"]
theorem sc_grown : FnScope n_grown ["_law_pool_here", "_law_made_here"] (defScope (top 47)) := ⟨rfl, rfl, rfl, by decide +kernel, rfl, by decide +kernel, by decide +kernel⟩
def n_made : List Str := ["_law_pool_here", "_law_turns", "_law_shape_here", "_law_made_here", "_law_turn", "_law_longer"]
theorem sc_made : FnScope n_made ["_law_pool_here", "_law_turns"] (defScope (top 48)) := ⟨rfl, rfl, rfl, by decide +kernel, rfl, by decide +kernel, by decide +kernel⟩
def n_wild : List Str := ["_law_pool_here", "_law_wide_here", "_law_room", "_law_way", "_law_spare", "_law_cut", "_law_less", "_law_rest", "_law_inner", "_law_right_here", "_law_left"]
theorem sc_wild : FnScope n_wild ["_law_pool_here", "_law_wide_here", "_law_room"] (defScope (top 49)) := ⟨rfl, rfl, rfl, by decide +kernel, rfl, by decide +kernel, by decide +kernel⟩
def n_marked : List Str := ["_law_tree", "_law_count_here", "_law_inner", "_law_free", "_law_taken", "_law_left", "_law_right_here", "_law_number"]
theorem sc_marked : FnScope n_marked ["_law_tree", "_law_count_here"] (defScope (top 50)) := ⟨rfl, rfl, rfl, by decide +kernel, rfl, by decide +kernel, by decide +kernel⟩
def n_swapped : List Str := ["_law_mark", "_law_number", "_law_more"]
theorem sc_swapped : FnScope n_swapped ["_law_mark", "_law_number", "_law_more"] (defScope (top 51)) := ⟨rfl, rfl, rfl, by decide +kernel, rfl, by decide +kernel, by decide +kernel⟩
def n_bare : List Str := ["_law_mark"]
theorem sc_bare : FnScope n_bare ["_law_mark"] (defScope (top 52)) := ⟨rfl, rfl, rfl, by decide +kernel, rfl, by decide +kernel, by decide +kernel⟩
def n_paths : List Str := ["_law_tree", "_law_gives", "_law_found", "_law_spot", "_law_path"]
theorem sc_paths : FnScope n_paths ["_law_tree"] (defScope (top 53)) := ⟨rfl, rfl, rfl, by decide +kernel, rfl, by decide +kernel, by decide +kernel⟩
def n_stepped : List Str := ["_law_mark", "_law_path", "_law_spot"]
theorem sc_stepped : FnScope n_stepped ["_law_mark", "_law_path"] (defScope (top 54)) := ⟨rfl, rfl, rfl, by decide +kernel, rfl, by decide +kernel, by decide +kernel⟩
def n_short : List Str := ["_law_tree", "_law_mark", "_law_turn", "_law_paths_here"]
theorem sc_short : FnScope n_short ["_law_tree"] (defScope (top 55)) := ⟨rfl, rfl, rfl, by decide +kernel, rfl, by decide +kernel, by decide +kernel⟩
def n_same : List Str := ["_law_answer", "_law_due", "_law_alike", "_law_spot"]
theorem sc_same : FnScope n_same ["_law_answer", "_law_due"] (defScope (top 56)) := ⟨rfl, rfl, rfl, by decide +kernel, rfl, by decide +kernel, by decide +kernel⟩
def n_spoil : List Str := ["_law_thing", "_law_part"]
theorem sc_spoil : FnScope n_spoil ["_law_thing"] (defScope (top 58)) := ⟨rfl, rfl, rfl, by decide +kernel, rfl, by decide +kernel, by decide +kernel⟩
def n_walk : List Str := ["_law_pool_here", "_law_tree", "_law_mode", "_law_mark", "_law_here", "_law_turn", "_law_due", "_law_answer", "_law_spots", "_law_path", "_law_handed"]
theorem sc_walk : FnScope n_walk ["_law_pool_here", "_law_tree", "_law_mode"] (defScope (top 59)) := ⟨rfl, rfl, rfl, by decide +kernel, rfl, by decide +kernel, by decide +kernel⟩
def n_steps_right : List Str := ["_law_tree", "_law_mark", "_law_path", "_law_due"]
theorem sc_steps_right : FnScope n_steps_right ["_law_tree"] (defScope (top 60)) := ⟨rfl, rfl, rfl, by decide +kernel, rfl, by decide +kernel, by decide +kernel⟩
def n_right : List Str := ["_law_pool_here", "_law_tree", "_law_wide_here", "_law_due", "_law_mode", "_law_walk_here"]
theorem sc_right : FnScope n_right ["_law_pool_here"] (defScope (top 61)) := ⟨rfl, rfl, rfl, by decide +kernel, rfl, by decide +kernel, by decide +kernel⟩
def n_law : List Str := ["_law_script", "_law_spot", "_law_pool_here"]
theorem sc_law : FnScope n_law ["_law_script"] (defScope (top 62)) := ⟨rfl, rfl, rfl, by decide +kernel, rfl, by decide +kernel, by decide +kernel⟩
/-! ### what the top has left -/
structure Ent (K : PySem.W.Frag) (mg : Str → Option Value) (x : Str) (i : Nat) (dvs : List V) where
  f : Addr
  fd : FuncData
  F : FunD K x x (defArgs (top i)) (defBody (top i)) (defScope (top i)) dvs [] f fd
  m : mg x = some (.ref f)
structure Top (w : World) (K : PySem.W.Frag) (mg : Str → Option Value) where
  is_letter : Ent K mg "is_letter" 11 []
  wrong_part : Ent K mg "wrong_part" 12 []
  checked_kind : Ent K mg "checked_kind" 13 []
  single : Ent K mg "single" 14 []
  is_single : Ent K mg "is_single" 15 []
  given_kinds : Ent K mg "given_kinds" 19 []
  checked_width : Ent K mg "checked_width" 20 []
  check_single_kinds : Ent K mg "check_single_kinds" 21 []
  check_shapes : Ent K mg "check_shapes" 22 []
  word_places : Ent K mg "word_places" 23 []
  part_at : Ent K mg "part_at" 24 []
  put_at : Ent K mg "put_at" 25 []
  can_step : Ent K mg "can_step" 26 []
  step_made : Ent K mg "step_made" 27 []
  step_places : Ent K mg "step_places" 28 []
  short_of : Ent K mg "short_of" 29 []
  is_short : Ent K mg "is_short" 30 []
  steps : Ent K mg "steps" 31 []
  after_step : Ent K mg "after_step" 32 []
  shortened : Ent K mg "shortened" 33 []
  pool : Ent K mg "_law_pool" 35 []
  pick : Ent K mg "_law_pick" 36 []
  shape : Ent K mg "_law_shape" 37 []
  size : Ent K mg "_law_size" 38 []
  deep : Ent K mg "_law_deep" 39 []
  within : Ent K mg "_law_within" 40 []
  wide : Ent K mg "_law_wide" 41 []
  count : Ent K mg "_law_count" 42 []
  shown : Ent K mg "_law_shown" 43 [.bl false]
  put : Ent K mg "_law_put" 44 []
  eta : Ent K mg "_law_eta" 45 []
  given : Ent K mg "_law_given" 46 []
  grown : Ent K mg "_law_grown" 47 []
  made : Ent K mg "_law_made" 48 []
  wild : Ent K mg "_law_wild" 49 []
  marked : Ent K mg "_law_marked" 50 []
  swapped : Ent K mg "_law_swapped" 51 []
  bare : Ent K mg "_law_bare" 52 []
  paths : Ent K mg "_law_paths" 53 []
  stepped : Ent K mg "_law_stepped" 54 []
  short : Ent K mg "_law_short" 55 []
  same : Ent K mg "_law_same" 56 []
  spoil : Ent K mg "_law_spoil" 58 []
  walk : Ent K mg "_law_walk" 59 []
  steps_right : Ent K mg "_law_steps_right" 60 []
  right : Ent K mg "_law_right" 61 []
  law : Ent K mg "law" 62 []
  z_len : mg "len" = none
  z_list : mg "list" = none
  z_tuple : mg "tuple" = none
  z_isinstance : mg "isinstance" = none
  z_int : mg "int" = none
  z_str : mg "str" = none
  z_bool : mg "bool" = none
  z_range : mg "range" = none
  z_max : mg "max" = none
  z_min : mg "min" = none
  z_sum : mg "sum" = none
  z_abs : mg "abs" = none
  tkLETTERS : Tok
  mLETTERS : mg "LETTERS" = some (.str "abcdefghijklmnopqrstuvwxyz" tkLETTERS)
  aPAIRS : Addr
  mPAIRS : mg "PAIRS" = some (.ref aPAIRS)
  sPAIRS : ∀ H, SqT K H aPAIRS [.str "behind", .str "ahead"]
  aGIVES : Addr
  mGIVES : mg "GIVES" = some (.ref aGIVES)
  sGIVES : ∀ H, SqT K H aGIVES [.str "givebehind", .str "giveahead"]
  aTURNS : Addr
  mTURNS : mg "TURNS" = some (.ref aTURNS)
  esTURNS : Array DictEntry
  nTURNS : Nat
  turnsD : KDict K w aTURNS esTURNS nTURNS
  turnsB : ∃ u, PySem.W.nsIn K aTURNS "behind" = some (some u)
  turnsA : ∃ u, PySem.W.nsIn K aTURNS "ahead" = some (some u)
section
variable {w : World} {K : PySem.W.Frag} {mg : Str → Option Value}
theorem b_is_letter (T : Top w K mg) : Binds K T.is_letter.fd ["text"] [] := T.is_letter.F.bindsN fun _ _ _ _ _ _ us hl => match us, hl with | [_], _ => rfl
theorem b_wrong_part (T : Top w K mg) : Binds K T.wrong_part.fd ["kind"] [] := T.wrong_part.F.bindsN fun _ _ _ _ _ _ us hl => match us, hl with | [_], _ => rfl
theorem b_checked_kind (T : Top w K mg) : Binds K T.checked_kind.fd ["kind"] [] := T.checked_kind.F.bindsN fun _ _ _ _ _ _ us hl => match us, hl with | [_], _ => rfl
theorem b_single (T : Top w K mg) : Binds K T.single.fd ["kind"] [] := T.single.F.bindsN fun _ _ _ _ _ _ us hl => match us, hl with | [_], _ => rfl
theorem b_is_single (T : Top w K mg) : Binds K T.is_single.fd ["kind"] [] := T.is_single.F.bindsN fun _ _ _ _ _ _ us hl => match us, hl with | [_], _ => rfl
theorem b_given_kinds (T : Top w K mg) : Binds K T.given_kinds.fd ["reading"] [] := T.given_kinds.F.bindsN fun _ _ _ _ _ _ us hl => match us, hl with | [_], _ => rfl
theorem b_checked_width (T : Top w K mg) : Binds K T.checked_width.fd ["reading"] [] := T.checked_width.F.bindsN fun _ _ _ _ _ _ us hl => match us, hl with | [_], _ => rfl
theorem b_check_single_kinds (T : Top w K mg) : Binds K T.check_single_kinds.fd ["kinds"] [] := T.check_single_kinds.F.bindsN fun _ _ _ _ _ _ us hl => match us, hl with | [_], _ => rfl
theorem b_check_shapes (T : Top w K mg) : Binds K T.check_shapes.fd ["readings"] [] := T.check_shapes.F.bindsN fun _ _ _ _ _ _ us hl => match us, hl with | [_], _ => rfl
theorem b_word_places (T : Top w K mg) : Binds K T.word_places.fd ["reading"] [] := T.word_places.F.bindsN fun _ _ _ _ _ _ us hl => match us, hl with | [_], _ => rfl
theorem b_part_at (T : Top w K mg) : Binds K T.part_at.fd ["reading", "place"] [] := T.part_at.F.bindsN fun _ _ _ _ _ _ us hl => match us, hl with | [_, _], _ => rfl
theorem b_put_at (T : Top w K mg) : Binds K T.put_at.fd ["reading", "place", "other"] [] := T.put_at.F.bindsN fun _ _ _ _ _ _ us hl => match us, hl with | [_, _, _], _ => rfl
theorem b_can_step (T : Top w K mg) : Binds K T.can_step.fd ["reading"] [] := T.can_step.F.bindsN fun _ _ _ _ _ _ us hl => match us, hl with | [_], _ => rfl
theorem b_step_made (T : Top w K mg) : Binds K T.step_made.fd ["reading"] [] := T.step_made.F.bindsN fun _ _ _ _ _ _ us hl => match us, hl with | [_], _ => rfl
theorem b_step_places (T : Top w K mg) : Binds K T.step_places.fd ["reading"] [] := T.step_places.F.bindsN fun _ _ _ _ _ _ us hl => match us, hl with | [_], _ => rfl
theorem b_short_of (T : Top w K mg) : Binds K T.short_of.fd ["reading"] [] := T.short_of.F.bindsN fun _ _ _ _ _ _ us hl => match us, hl with | [_], _ => rfl
theorem b_is_short (T : Top w K mg) : Binds K T.is_short.fd ["reading"] [] := T.is_short.F.bindsN fun _ _ _ _ _ _ us hl => match us, hl with | [_], _ => rfl
theorem b_steps (T : Top w K mg) : Binds K T.steps.fd ["reading"] [] := T.steps.F.bindsN fun _ _ _ _ _ _ us hl => match us, hl with | [_], _ => rfl
theorem b_after_step (T : Top w K mg) : Binds K T.after_step.fd ["reading", "place"] [] := T.after_step.F.bindsN fun _ _ _ _ _ _ us hl => match us, hl with | [_, _], _ => rfl
theorem b_shortened (T : Top w K mg) : Binds K T.shortened.fd ["reading"] [] := T.shortened.F.bindsN fun _ _ _ _ _ _ us hl => match us, hl with | [_], _ => rfl
theorem b_pool (T : Top w K mg) : Binds K T.pool.fd ["_law_script", "_law_spot"] [] := T.pool.F.bindsN fun _ _ _ _ _ _ us hl => match us, hl with | [_, _], _ => rfl
theorem b_pick (T : Top w K mg) : Binds K T.pick.fd ["_law_pool_here", "_law_many"] [] := T.pick.F.bindsN fun _ _ _ _ _ _ us hl => match us, hl with | [_, _], _ => rfl
theorem b_shape (T : Top w K mg) : Binds K T.shape.fd ["_law_pool_here", "_law_most"] [] := T.shape.F.bindsN fun _ _ _ _ _ _ us hl => match us, hl with | [_, _], _ => rfl
theorem b_size (T : Top w K mg) : Binds K T.size.fd ["_law_shape_here"] [] := T.size.F.bindsN fun _ _ _ _ _ _ us hl => match us, hl with | [_], _ => rfl
theorem b_deep (T : Top w K mg) : Binds K T.deep.fd ["_law_shape_here"] [] := T.deep.F.bindsN fun _ _ _ _ _ _ us hl => match us, hl with | [_], _ => rfl
theorem b_within (T : Top w K mg) : Binds K T.within.fd ["_law_shapes"] [] := T.within.F.bindsN fun _ _ _ _ _ _ us hl => match us, hl with | [_], _ => rfl
theorem b_wide (T : Top w K mg) : Binds K T.wide.fd ["_law_tree"] [] := T.wide.F.bindsN fun _ _ _ _ _ _ us hl => match us, hl with | [_], _ => rfl
theorem b_count (T : Top w K mg) : Binds K T.count.fd ["_law_tree"] [] := T.count.F.bindsN fun _ _ _ _ _ _ us hl => match us, hl with | [_], _ => rfl
theorem b_put (T : Top w K mg) : Binds K T.put.fd ["_law_tree", "_law_spot", "_law_more"] [] := T.put.F.bindsN fun _ _ _ _ _ _ us hl => match us, hl with | [_, _, _], _ => rfl
theorem b_eta (T : Top w K mg) : Binds K T.eta.fd ["_law_tree", "_law_shape_here"] [] := T.eta.F.bindsN fun _ _ _ _ _ _ us hl => match us, hl with | [_, _], _ => rfl
theorem b_given (T : Top w K mg) : Binds K T.given.fd ["_law_way", "_law_lane", "_law_tree", "_law_shape_here"] [] := T.given.F.bindsN fun _ _ _ _ _ _ us hl => match us, hl with | [_, _, _, _], _ => rfl
theorem b_grown (T : Top w K mg) : Binds K T.grown.fd ["_law_pool_here", "_law_made_here"] [] := T.grown.F.bindsN fun _ _ _ _ _ _ us hl => match us, hl with | [_, _], _ => rfl
theorem b_made (T : Top w K mg) : Binds K T.made.fd ["_law_pool_here", "_law_turns"] [] := T.made.F.bindsN fun _ _ _ _ _ _ us hl => match us, hl with | [_, _], _ => rfl
theorem b_wild (T : Top w K mg) : Binds K T.wild.fd ["_law_pool_here", "_law_wide_here", "_law_room"] [] := T.wild.F.bindsN fun _ _ _ _ _ _ us hl => match us, hl with | [_, _, _], _ => rfl
theorem b_marked (T : Top w K mg) : Binds K T.marked.fd ["_law_tree", "_law_count_here"] [] := T.marked.F.bindsN fun _ _ _ _ _ _ us hl => match us, hl with | [_, _], _ => rfl
theorem b_swapped (T : Top w K mg) : Binds K T.swapped.fd ["_law_mark", "_law_number", "_law_more"] [] := T.swapped.F.bindsN fun _ _ _ _ _ _ us hl => match us, hl with | [_, _, _], _ => rfl
theorem b_bare (T : Top w K mg) : Binds K T.bare.fd ["_law_mark"] [] := T.bare.F.bindsN fun _ _ _ _ _ _ us hl => match us, hl with | [_], _ => rfl
theorem b_paths (T : Top w K mg) : Binds K T.paths.fd ["_law_tree"] [] := T.paths.F.bindsN fun _ _ _ _ _ _ us hl => match us, hl with | [_], _ => rfl
theorem b_stepped (T : Top w K mg) : Binds K T.stepped.fd ["_law_mark", "_law_path"] [] := T.stepped.F.bindsN fun _ _ _ _ _ _ us hl => match us, hl with | [_, _], _ => rfl
theorem b_short (T : Top w K mg) : Binds K T.short.fd ["_law_tree"] [] := T.short.F.bindsN fun _ _ _ _ _ _ us hl => match us, hl with | [_], _ => rfl
theorem b_same (T : Top w K mg) : Binds K T.same.fd ["_law_answer", "_law_due"] [] := T.same.F.bindsN fun _ _ _ _ _ _ us hl => match us, hl with | [_, _], _ => rfl
theorem b_spoil (T : Top w K mg) : Binds K T.spoil.fd ["_law_thing"] [] := T.spoil.F.bindsN fun _ _ _ _ _ _ us hl => match us, hl with | [_], _ => rfl
theorem b_walk (T : Top w K mg) : Binds K T.walk.fd ["_law_pool_here", "_law_tree", "_law_mode"] [] := T.walk.F.bindsN fun _ _ _ _ _ _ us hl => match us, hl with | [_, _, _], _ => rfl
theorem b_steps_right (T : Top w K mg) : Binds K T.steps_right.fd ["_law_tree"] [] := T.steps_right.F.bindsN fun _ _ _ _ _ _ us hl => match us, hl with | [_], _ => rfl
theorem b_right (T : Top w K mg) : Binds K T.right.fd ["_law_pool_here"] [] := T.right.F.bindsN fun _ _ _ _ _ _ us hl => match us, hl with | [_], _ => rfl
theorem b_law (T : Top w K mg) : Binds K T.law.fd ["_law_script"] [] := T.law.F.bindsN fun _ _ _ _ _ _ us hl => match us, hl with | [_], _ => rfl
end
end WW
namespace WW
open PySem PySem.Spec PyProof.Rows L2
/-! ### texts -/
def SB : Bool → Str
  | true => "behind"
  | false => "ahead"
def SG : Bool → Str
  | true => "givebehind"
  | false => "giveahead"
/-! ### what stands for a kind, a reading, a numbered reading -/
def RepK (H : Hp) : Kd → V → Prop
  | .pl c, v => ∃ a, v = .ref a ∧ H a = some (.tup [.str "plain", .str ⟨#[c]⟩])
  | .nd b x y, v => ∃ a u w, v = .ref a ∧ H a = some (.tup [.str (SB b), u, w]) ∧ RepK H x u ∧ RepK H y w
def RepT (H : Hp) : Tr → V → Prop
  | .wd, v => ∃ a, v = .ref a ∧ H a = some (.tup [.str "word"])
  | .pr b l r, v => ∃ a u w, v = .ref a ∧ H a = some (.tup [.str (SB b), u, w]) ∧ RepT H l u ∧ RepT H r w
  | .gv b k p, v => ∃ a u w, v = .ref a ∧ H a = some (.tup [.str (SG b), u, w]) ∧ RepK H k u ∧ RepT H p w
/-- tuples are kept -/
def KT (H H' : Hp) : Prop := ∀ a xs, H a = some (.tup xs) → H' a = some (.tup xs)
theorem KT.refl (H : Hp) : KT H H := fun _ _ h => h
theorem KT.trans {H H1 H2 : Hp} (a : KT H H1) (b : KT H1 H2) : KT H H2 := fun x xs h => b x xs (a x xs h)
theorem KT.of {H H' : Hp} (s : Same H H') : KT H H' := fun a xs h => s a _ h
theorem same_new {H : Hp} {p : Addr} {o : HO} (h : H p = none) : Same H (upd H p o) := fun b x e => by
  rw [upd_ne (ne_of_none e h)]
  exact e
theorem kt_new {H : Hp} {p : Addr} {o : HO} (h : H p = none) : KT H (upd H p o) := .of (same_new h)
theorem kt_lst {H : Hp} {p : Addr} {xs : List V} {o : HO} (h : H p = some (.lst xs)) : KT H (upd H p o) := fun a ys e => by
  rw [upd_ne (fun z => by rw [z, h] at e; cases e)]
  exact e
theorem RepK.mono {H H' : Hp} (s : KT H H') : ∀ {k : Kd} {v : V}, RepK H k v → RepK H' k v
  | .pl _, _, ⟨a, e, h⟩ => ⟨a, e, s _ _ h⟩
  | .nd _ _ _, _, ⟨a, u, w, e, h, h1, h2⟩ => ⟨a, u, w, e, s _ _ h, RepK.mono s h1, RepK.mono s h2⟩
theorem RepT.mono {H H' : Hp} (s : KT H H') : ∀ {t : Tr} {v : V}, RepT H t v → RepT H' t v
  | .wd, _, ⟨a, e, h⟩ => ⟨a, e, s _ _ h⟩
  | .pr _ _ _, _, ⟨a, u, w, e, h, h1, h2⟩ => ⟨a, u, w, e, s _ _ h, RepT.mono s h1, RepT.mono s h2⟩
  | .gv _ _ _, _, ⟨a, u, w, e, h, h1, h2⟩ => ⟨a, u, w, e, s _ _ h, RepK.mono s h1, RepT.mono s h2⟩
/-- all but the object at p is kept -/
def SameB (p : Addr) (H H' : Hp) : Prop := ∀ b o, b ≠ p → H b = some o → H' b = some o
theorem SameB.refl (p : Addr) (H : Hp) : SameB p H H := fun _ _ _ h => h
theorem SameB.trans {p : Addr} {H H1 H2 : Hp} (a : SameB p H H1) (b : SameB p H1 H2) : SameB p H H2 := fun x o n h => b x o n (a x o n h)
theorem SameB.of {p : Addr} {H H' : Hp} (s : Same H H') : SameB p H H' := fun b o _ h => s b o h
theorem SameB.kt {p : Addr} {H H' : Hp} {xs : List V} (s : SameB p H H') (h : H p = some (.lst xs)) : KT H H' := fun a ys e => s a _ (fun z => by rw [z, h] at e; cases e) e
theorem sameB_upd {p : Addr} {H : Hp} {o : HO} : SameB p H (upd H p o) := fun b x n e => by
  rw [upd_ne n]
  exact e
/-! ### items -/
section
variable {α : Type}
theorem at0 {x : α} {r : List α} : atI (x :: r) 0 = some x := atI_nat (j := 0) rfl
theorem at1 {x y : α} {r : List α} : atI (x :: y :: r) 1 = some y := atI_nat (j := 1) rfl
theorem at2 {x y z : α} {r : List α} : atI (x :: y :: z :: r) 2 = some z := atI_nat (j := 2) rfl
theorem at3 {x y z u : α} {r : List α} : atI (x :: y :: z :: u :: r) 3 = some u := atI_nat (j := 3) rfl
end
/-! ### short readings -/
section
variable {K : PySem.W.Frag} {σ : L2.St} {H : Hp} {i : Nat} {a p : Addr} {xs r : List V} {v : V} {ta tb : TE} {s lit : Str} {b : Bool} {k : Int}
theorem val_ix (ha : Val ta σ H (.ref a)) (h1 : H a = some (.tup xs)) (hk : atI xs k = some v) : Val (tOp (rIxT K) ta (tC (.int k))) σ H v :=
  val_op ha val_c fun Q q => ⟨a, xs, k, v, rfl, rfl, SqT.of h1, hk, q⟩
theorem val_ixL (ha : Val ta σ H (.ref a)) (h1 : H a = some (.lst xs)) (hk : atI xs k = some v) : Val (tOp (rIxL K) ta (tC (.int k))) σ H v :=
  val_op ha val_c fun Q q => ⟨a, xs, k, v, rfl, rfl, SqL.of h1, hk, q⟩
theorem ans_tag (h0 : σ[i]? = some (some (.ref a))) (h1 : H a = some (.tup (.str s :: r))) (hb : decide (V.str s = V.str lit) = b) :
    Ans (tTest (tOp rEq (tOp (rIxT K) (tVar i) (tC (.int 0))) (tC (.str lit)))) σ H b := ans_eq (val_ix (val_var h0) h1 at0) val_c rfl hb
theorem ans_in (ha : Val ta σ H v) (hp : SqT K H p xs) (f1 : flatV v = true) (f2 : xs.all flatV = true) (hb : inV v xs = b) : Ans (tTest (tOp (rIn K false) ta (tC (.ref p)))) σ H b :=
  ans_cmp ha val_c fun Q q => ⟨p, xs, rfl, Or.inr hp, f1, f2, by
    show Q (.bl (if false = true then !inV v xs else inV v xs)) H
    rw [if_neg Bool.false_ne_true, hb]
    exact q⟩
theorem ans_intag (h0 : σ[i]? = some (some (.ref a))) (h1 : H a = some (.tup (.str s :: r))) (hp : SqT K H p xs) (f2 : xs.all flatV = true) (hb : inV (.str s) xs = b) :
    Ans (tTest (tOp (rIn K false) (tOp (rIxT K) (tVar i) (tC (.int 0))) (tC (.ref p)))) σ H b := ans_in (val_ix (val_var h0) h1 at0) hp rfl f2 hb
theorem sq_skip {c : TT} {t1 u : TS} {D : Ends} (h : Ans c σ H false) (q : u D σ H) : tSeq (tIfS c t1 tNext) u D σ H := st_no (D := { D with nx := u D }) h q
theorem sq_no {c : TT} {t1 t2 u : TS} {D : Ends} (h : Ans c σ H false) (q : t2 { D with nx := u D } σ H) : tSeq (tIfS c t1 t2) u D σ H := st_no (D := { D with nx := u D }) h q
theorem sq_yes {c : TT} {t1 t2 u : TS} {D : Ends} (h : Ans c σ H true) (q : t1 { D with nx := u D } σ H) : tSeq (tIfS c t1 t2) u D σ H := st_yes (D := { D with nx := u D }) h q
theorem sq_asg {te : TE} {u : TS} {D : Ends} (q : te σ H fun x H1 => u D (σ.set i (some x)) H1) : tSeq (tAsg te (gName i)) u D σ H := q
theorem sq_set {te : TE} {u : TS} {D : Ends} (h : Val te σ H v) (q : u D (σ.set i (some v)) H) : tSeq (tAsg te (gName i)) u D σ H := h _ q
theorem sq_drop {te : TE} {u : TS} {D : Ends} (q : te σ H fun _ H1 => u D σ H1) : tSeq (tDrop te) u D σ H := q
theorem sq_yesH {c : TT} {t1 t2 u : TS} {D : Ends} {PH : Hp → Prop} (h : AnsH c σ H true PH) (q : ∀ H', PH H' → t1 { D with nx := u D } σ H') : tSeq (tIfS c t1 t2) u D σ H := st_yesH (D := { D with nx := u D }) h q
theorem sq_skipH {c : TT} {t1 u : TS} {D : Ends} {PH : Hp → Prop} (h : AnsH c σ H false PH) (q : ∀ H', PH H' → u D σ H') : tSeq (tIfS c t1 tNext) u D σ H := st_noH (D := { D with nx := u D }) h q
theorem sq_noH {c : TT} {t1 t2 u : TS} {D : Ends} {PH : Hp → Prop} (h : AnsH c σ H false PH) (q : ∀ H', PH H' → t2 { D with nx := u D } σ H') : tSeq (tIfS c t1 t2) u D σ H := st_noH (D := { D with nx := u D }) h q
end
/-! ### own rules -/
section
variable {X : Cx}
/-- ** with a written exponent; the base of less than 2^20 bits -/
def CPowB (i j : Int) : Prop := 0 ≤ j ∧ (Builtin.Int.intBits i : Int) * j ≤ 2 ^ 27
theorem op_powB : OpR X (binaryOp .Pow) (rI CPowB fun i j => .int (i ^ j.toNat)) := opI fun _ _ _ _ _ _ _ hc q => pow_int hc.1 hc.2 q
/-- x is True, x is False, whatever plain x is -/
def rIsAny : R2 := fun x y H Q => ∃ b : Bool, y = .bl b ∧ (∀ a, x ≠ .ref a) ∧ Q (.bl (decide (x = .bl b))) H
theorem op_isB : OpR X (compareOp .Is) rIsAny := by
  intro pins s σ H x y v u Q I rx ry h
  obtain ⟨b, rfl, hx, q⟩ := h
  cases (show u = Value.bool b from ry)
  by_cases e : x = .bl b
  · subst e
    cases (show v = Value.bool b from rx)
    exact wpAny_is_self rfl ⟨.bl true, H, I, rfl, by simpa using q⟩
  · refine wpAny_is_other ?_ ?_ ⟨.bl false, H, I, rfl, by simpa [e] using q⟩
    · cases x with
      | ref a => exact absurd rfl (hx a)
      | non => cases rx; rfl
      | bl c => cases rx; rfl
      | int i => obtain ⟨t, rfl⟩ := rx; rfl
      | str i => obtain ⟨t, rfl⟩ := rx; rfl
      | byt i => obtain ⟨t, rfl⟩ := rx; rfl
      | flt i => obtain ⟨t, rfl⟩ := rx; rfl
      | ty i => cases rx; rfl
    · intro z
      rw [z] at rx
      have e1 := rx.abs
      exact e (Option.some.inj e1).symm
/-! .. with the written part named (within a comprehension) -/
theorem pa_starK {K : PySem.W.Frag} {e : Expr} {es : List Expr} {te : TE} {t : TA} {p : Pos} (hK : X.K = K) (he : PE X e te) (hr : PA X es t) (hs : starEach (.Starred e p :: es) X.env = (true, eval e X.env) :: starEach es X.env := by rfl) :
    PA X (.Starred e p :: es) (StX.tStar K te t) := by
  subst hK
  exact StX.pa_star he hr hs
theorem ix_listK {K : PySem.W.Frag} (hK : X.K = K) : IxR X (rIxL K) := by
  subst hK
  exact ix_list
theorem ix_tupK {K : PySem.W.Frag} (hK : X.K = K) : IxR X (rIxT K) := by
  subst hK
  exact ix_tup
theorem ix_seqK {K : PySem.W.Frag} (hK : X.K = K) : IxR X (rIx K) := by
  subst hK
  exact ix_seq
theorem pi_listK {K : PySem.W.Frag} {tg l : Expr} {tl : TE} (hK : X.K = K) (hl : PE X l tl) : PI X tg l (iList K tl) := by
  subst hK
  exact pi_list hl
end
end WW
namespace WW
open PySem PySem.Spec PyProof.Rows L2
section
variable {P : Program} {w : World} {K : PySem.W.Frag} {mg : Str → Option Value} {base : Heap}
/-! ### is_letter -/
theorem mem_letters : ∀ c : Nat, 97 ≤ c → c ≤ 122 → c ∈ (Str.ofString "abcdefghijklmnopqrstuvwxyz").cps.toList := by
  intro c h1 h2
  have e : (Str.ofString "abcdefghijklmnopqrstuvwxyz").cps.toList = (List.range 26).map (97 + ·) := by decide +kernel
  rw [e]
  exact List.mem_map.mpr ⟨c - 97, List.mem_range.mpr (by omega), by omega⟩
def spIsLetter : Sp := fun vs H Q _ => ∃ c : Nat, vs = [.str ⟨#[c]⟩] ∧ 97 ≤ c ∧ c ≤ 122 ∧ Q (.bl true) H
theorem ok_is_letter (T : Top w K mg) : FnOk P w K mg base CX0 1 T.is_letter.f T.is_letter.fd ["text"] spIsLetter := by
  refine T.is_letter.F.ok sc_is_letter (fun vs H Q E h => ?_) (fun cdv A outer s H vs Q E hr h => ⟨_, PSs.nox (pss_one (ps_ret (pe_and (pe_cmpR op_eq (pe_callB call_len_str rfl T.z_len PySem.boot_len (pa_cons (pv 0) pa_nil)) pe_int (nomark _)) (pe_one (pe_cmpR op_inS (pv 0) (pe_glob (v := .str "abcdefghijklmnopqrstuvwxyz") rfl T.mLETTERS ⟨_, rfl⟩) (by rfl)))))), ?_⟩)
  · obtain ⟨c, rfl, _⟩ := h
    rfl
  · obtain ⟨c, rfl, h1, h2, q⟩ := h
    refine ⟨_, rfl, _, rfl, by show 1 ≤ sizeLine; decide, rfl, true, ?_, iteT ⟨_, rfl, c, _, rfl, rfl, ?_⟩⟩
    · rfl
    · rw [decide_eq_true (mem_letters c h1 h2)]
      exact q

theorem itY {c A B : Prop} [Decidable c] (h : c) (q : A) : if c then A else B := by
  rw [if_pos h]
  exact q
theorem itN {c A B : Prop} [Decidable c] (h : ¬ c) (q : B) : if c then A else B := by
  rw [if_neg h]
  exact q
theorem fn_never {k : Nat} {f : Addr} {fd : FuncData} {ps : List Str} {sp : Sp} (no : ∀ vs H Q E, ¬ sp vs H Q E) : FnOk P w K mg base CX0 k f fd ps sp :=
  ⟨fun vs H Q E h => absurd h (no vs H Q E), fun A outer s H args us vs Q E _ _ _ _ h => absurd h (no vs H Q E)⟩
theorem Kd.deep_pos (k : Kd) : 1 ≤ k.deep := by cases k <;> simp only [Kd.deep] <;> omega
/-! ### wrong_part .. is_single -/
def spWrong (n : Nat) : Sp := fun vs H Q _ => ∃ v k, vs = [v] ∧ RepK H k v ∧ k.Ok ∧ k.deep ≤ n ∧ Q .non H
theorem ok_wrong_part (T : Top w K mg) : ∀ n, FnOk P w K mg base CX0 (n + 1) T.wrong_part.f T.wrong_part.fd ["kind"] (spWrong n)
  | 0 => fn_never fun vs H Q E ⟨v, k, _, _, _, h, _⟩ => by
    have := k.deep_pos
    omega
  | n + 1 => by
    have G_is_letter : FnOk P w K mg base CX0 _ _ _ _ _ := ok_is_letter T
    have G_wrong_part := ok_wrong_part T n
    refine T.wrong_part.F.ok sc_wrong_part (fun vs H Q E h => ?_) (fun cdv A outer s H vs Q E hr h => ⟨_, PSs.nox (pss_cons (ps_if (pt_cmpR op_eq (pe_ix ix_tup (pv 0) pe_int (fun _ _ => rfl)) pe_str (nomark _)) (pss_one (ps_ret (pe_ifExp (pt_val (pe_call G_is_letter (hr.mono (by omega)) rfl T.is_letter.m T.is_letter.F.kp (b_is_letter T) .nil pass0 (pa_cons (pe_ix ix_tup (pv 0) pe_int (fun _ _ => rfl)) pa_nil))) pe_non (pv 0)))) pss_nil)
    (pss_cons (ps_if (pt_cmpR (op_notIn_kd T.turnsD) (pe_ix ix_tup (pv 0) pe_int (fun _ _ => rfl)) (pe_glob (v := .ref T.aTURNS) rfl T.mTURNS rfl) (by rfl)) (pss_one (ps_ret (pv 0))) pss_nil)
    (pss_cons (ps_set (i := 1) sc_wrong_part.nd rfl (Or.inl rfl) (pe_call G_wrong_part (hr.mono (by omega)) rfl T.wrong_part.m T.wrong_part.F.kp (b_wrong_part T) .nil pass0 (pa_cons (pe_ix ix_tup (pv 0) pe_int (fun _ _ => rfl)) pa_nil)))
    (pss_one (ps_ret (pe_ifExp (pt_cmpR op_isN (pv 1) pe_non (nomark _)) (pe_call G_wrong_part (hr.mono (by omega)) rfl T.wrong_part.m T.wrong_part.F.kp (b_wrong_part T) .nil pass0 (pa_cons (pe_ix ix_tup (pv 0) pe_int (fun _ _ => rfl)) pa_nil)) (pv 1))))))), ?_⟩)
    · obtain ⟨v, k, rfl, _⟩ := h
      rfl
    · obtain ⟨v, k, rfl, hk, ho, hd, q⟩ := h
      cases k with
      | pl c =>
        obtain ⟨a, rfl, h⟩ := hk
        refine sq_yes (ans_tag rfl h rfl) ?_
        exact val_ix (val_var rfl) h at1 _ ⟨c, rfl, ho.1, ho.2, true, rfl, iteT q⟩
      | nd b x y =>
        obtain ⟨a, u, z, rfl, h, hx, hy⟩ := hk
        have hd' : 1 + max x.deep y.deep ≤ n + 1 := hd
        refine sq_skip (ans_tag rfl h (by cases b <;> rfl)) ?_
        have hT : ∃ u, PySem.W.nsIn K T.aTURNS (SB b) = some (some u) := by
          cases b
          · exact T.turnsA
          · exact T.turnsB
        obtain ⟨t, ht⟩ := hT
        refine sq_skip (ans_cmp (val_ix (val_var rfl) h at0) val_c fun Q q => ⟨_, _, rfl, rfl, ht, q⟩) ?_
        refine val_ix (val_var rfl) h at1 _ ⟨_, x, rfl, hx, ho.1, by omega, ?_⟩
        refine ⟨_, rfl, rfl, _, rfl, itY rfl ?_⟩
        exact val_ix (val_var rfl) h at2 _ ⟨_, y, rfl, hy, ho.2, by omega, q⟩
def spChecked (n : Nat) : Sp := fun vs H Q _ => ∃ v k, vs = [v] ∧ RepK H k v ∧ k.Ok ∧ k.deep ≤ n ∧ Q v H
theorem ok_checked_kind (T : Top w K mg) (n : Nat) : FnOk P w K mg base CX0 (n + 2) T.checked_kind.f T.checked_kind.fd ["kind"] (spChecked n) := by
  have G_wrong_part : FnOk P w K mg base CX0 _ _ _ _ _ := ok_wrong_part T n
  refine T.checked_kind.F.ok sc_checked_kind (fun vs H Q E h => ?_) (fun cdv A outer s H vs Q E hr h => ⟨_, PSs.nox (pss_cons (ps_set (i := 1) sc_checked_kind.nd rfl (Or.inl rfl) (pe_call G_wrong_part (hr.mono (by omega)) rfl T.wrong_part.m T.wrong_part.F.kp (b_wrong_part T) .nil pass0 (pa_cons (pv 0) pa_nil)))
    (pss_cons (ps_if (pt_cmpR op_notN (pv 1) pe_non (nomark _)) (pss_one ps_never) pss_nil)
    (pss_one (ps_ret (pv 0))))), ?_⟩)
  · obtain ⟨v, k, rfl, _⟩ := h
    rfl
  · obtain ⟨v, k, rfl, hk, ho, hd, q⟩ := h
    refine ⟨_, rfl, _, k, rfl, hk, ho, hd, ?_⟩
    refine sq_skip (ans_notN (val_var rfl) rfl) ?_
    exact ⟨_, rfl, q⟩
def spSingle (n : Nat) : Sp := fun vs H Q _ => ∃ v k, vs = [v] ∧ RepK H k v ∧ k.Ok ∧ k.deep ≤ n ∧ Q (.bl true) H
theorem ok_single (T : Top w K mg) : ∀ n, FnOk P w K mg base CX0 n T.single.f T.single.fd ["kind"] (spSingle n)
  | 0 => fn_never fun vs H Q E ⟨v, k, _, _, _, h, _⟩ => by
    have := k.deep_pos
    omega
  | n + 1 => by
    have G_single := ok_single T n
    refine T.single.F.ok sc_single (fun vs H Q E h => ?_) (fun cdv A outer s H vs Q E hr h => ⟨_, PSs.nox (pss_cons (ps_if (pt_cmpR op_eq (pe_ix ix_tup (pv 0) pe_int (fun _ _ => rfl)) pe_str (nomark _)) (pss_one (ps_ret pe_bl)) pss_nil)
    (pss_one (ps_ret (pe_and (pe_cmpR op_ne (pe_ix ix_tup (pv 0) pe_int (fun _ _ => rfl)) pe_str (nomark _)) (pe_and (pe_call G_single (hr.mono (by omega)) rfl T.single.m T.single.F.kp (b_single T) .nil pass0 (pa_cons (pe_ix ix_tup (pv 0) pe_int (fun _ _ => rfl)) pa_nil)) (pe_one (pe_call G_single (hr.mono (by omega)) rfl T.single.m T.single.F.kp (b_single T) .nil pass0 (pa_cons (pe_ix ix_tup (pv 0) pe_int (fun _ _ => rfl)) pa_nil)))))))), ?_⟩)
    · obtain ⟨v, k, rfl, _⟩ := h
      rfl
    · obtain ⟨v, k, rfl, hk, ho, hd, q⟩ := h
      cases k with
      | pl c =>
        obtain ⟨a, rfl, h⟩ := hk
        refine sq_yes (ans_tag rfl h rfl) ?_
        exact q
      | nd b x y =>
        obtain ⟨a, u, z, rfl, h, hx, hy⟩ := hk
        have hd' : 1 + max x.deep y.deep ≤ n + 1 := hd
        refine sq_skip (ans_tag rfl h (by cases b <;> rfl)) ?_
        refine val_ix (val_var rfl) h at0 _ ⟨rfl, true, by cases b <;> rfl, itY rfl ?_⟩
        refine val_ix (val_var rfl) h at1 _ ⟨_, x, rfl, hx, ho.1, by omega, true, rfl, itY rfl ?_⟩
        exact val_ix (val_var rfl) h at2 _ ⟨_, y, rfl, hy, ho.2, by omega, q⟩
theorem ok_is_single (T : Top w K mg) (n : Nat) : FnOk P w K mg base CX0 (n + 3) T.is_single.f T.is_single.fd ["kind"] (spSingle n) := by
  have G_single : FnOk P w K mg base CX0 _ _ _ _ _ := ok_single T n
  have G_checked_kind : FnOk P w K mg base CX0 _ _ _ _ _ := ok_checked_kind T n
  refine T.is_single.F.ok sc_is_single (fun vs H Q E h => ?_) (fun cdv A outer s H vs Q E hr h => ⟨_, PSs.nox (pss_one (ps_ret (pe_call G_single (hr.mono (by omega)) rfl T.single.m T.single.F.kp (b_single T) .nil pass0 (pa_cons (pe_call G_checked_kind (hr.mono (by omega)) rfl T.checked_kind.m T.checked_kind.F.kp (b_checked_kind T) .nil pass0 (pa_cons (pv 0) pa_nil)) pa_nil)))), ?_⟩)
  · obtain ⟨v, k, rfl, _⟩ := h
    rfl
  · obtain ⟨v, k, rfl, hk, ho, hd, q⟩ := h
    exact ⟨_, rfl, _, k, rfl, hk, ho, hd, _, k, rfl, hk, ho, hd, q⟩
end
end WW
namespace WW
open PySem PySem.Spec PyProof.Rows L2
/-! ### lists of kinds -/
def AllK (H : Hp) : List V → List Kd → Prop
  | [], [] => True
  | v :: vs, k :: ks => RepK H k v ∧ AllK H vs ks
  | _, _ => False
theorem AllK.mono {H H' : Hp} (s : KT H H') : ∀ {vs : List V} {ks : List Kd}, AllK H vs ks → AllK H' vs ks
  | [], [], _ => trivial
  | _ :: _, _ :: _, h => ⟨h.1.mono s, AllK.mono s h.2⟩
  | [], _ :: _, h => h.elim
  | _ :: _, [], h => h.elim
theorem AllK.append {H : Hp} : ∀ {vs ws : List V} {ks ls : List Kd}, AllK H vs ks → AllK H ws ls → AllK H (vs ++ ws) (ks ++ ls)
  | [], _, [], _, _, h => h
  | _ :: _, _, _ :: _, _, h, g => ⟨h.1, AllK.append h.2 g⟩
  | [], _, _ :: _, _, h, _ => h.elim
  | _ :: _, _, [], _, h, _ => h.elim
theorem AllK.length {H : Hp} : ∀ {vs : List V} {ks : List Kd}, AllK H vs ks → vs.length = ks.length
  | [], [], _ => rfl
  | _ :: _, _ :: _, h => congrArg Nat.succ h.2.length
  | [], _ :: _, h => h.elim
  | _ :: _, [], h => h.elim
theorem AllK.get {H : Hp} : ∀ {vs : List V} {ks : List Kd} {i : Nat} {v : V}, AllK H vs ks → vs[i]? = some v → ∃ k, ks[i]? = some k ∧ RepK H k v
  | [], _, _, _, _, e => by simp at e
  | v :: vs, k :: ks, 0, x, h, e => by
    have e' : v = x := by simpa using e
    exact ⟨k, rfl, e' ▸ h.1⟩
  | v :: vs, k :: ks, i + 1, x, h, e => by
    obtain ⟨k', e1, e2⟩ := AllK.get (i := i) h.2 (by simpa using e)
    exact ⟨k', by simpa using e1, e2⟩
  | _ :: _, [], _, _, h, _ => h.elim
theorem AllK.take {H : Hp} : ∀ {vs : List V} {ks : List Kd} (n : Nat), AllK H vs ks → AllK H (vs.take n) (ks.take n)
  | _, _, 0, _ => trivial
  | [], [], _ + 1, _ => trivial
  | _ :: _, _ :: _, n + 1, h => ⟨h.1, AllK.take n h.2⟩
  | [], _ :: _, _, h => h.elim
  | _ :: _, [], _, h => h.elim
theorem AllK.drop {H : Hp} : ∀ {vs : List V} {ks : List Kd} (n : Nat), AllK H vs ks → AllK H (vs.drop n) (ks.drop n)
  | _, _, 0, h => h
  | [], [], _ + 1, _ => trivial
  | _ :: _, _ :: _, n + 1, h => AllK.drop n h.2
  | [], _ :: _, _, h => h.elim
  | _ :: _, [], _, h => h.elim
theorem Same.mut {H H1 : Hp} {p : Addr} {o : HO} (s : Same H H1) (h : H p = none) : Same H (upd H1 p o) := fun b x e => by
  rw [upd_ne (ne_of_none e h)]
  exact s b x e
theorem fresh_of {H H' : Hp} {p : Addr} (s : Same H H') (h : H' p = none) : H p = none := s.free h
theorem sz {n : Nat} (h : n ≤ 1000) : n ≤ sizeLine := Nat.le_of_lt (small1000 h)
theorem toI {Q : VK} {i j : Int} {H : Hp} (e : i = j) (q : Q (.int j) H) : Q (.int i) H := e ▸ q
theorem toB {Q : VK} {i j : Bool} {H : Hp} (e : i = j) (q : Q (.bl j) H) : Q (.bl i) H := e ▸ q
section
variable {P : Program} {w : World} {K : PySem.W.Frag} {mg : Str → Option Value} {base : Heap}
/-- x[0] in ("givebehind", "giveahead") -/
theorem ans_gv {σ : L2.St} {H : Hp} {i : Nat} {a : Addr} {r : List V} {s : Str} {b : Bool} (h0 : σ[i]? = some (some (.ref a))) (h1 : H a = some (.tup (.str s :: r))) (hb : inV (.str s) [.str "givebehind", .str "giveahead"] = b) :
    AnsH (tTest (tOp (rIn K false) (tOp (rIxT K) (tVar i) (tC (.int 0))) (tTup (tCons (tC (.str "givebehind")) (tCons (tC (.str "giveahead")) tNil))))) σ H b (Same H) := by
  intro Q q
  exact ans_in2 (val_ix (val_var h0) h1 at0) rfl rfl rfl hb Q fun H' ⟨p, hp, e⟩ => q H' (by rw [e]; exact same_new hp)
/-! ### size, deep -/
def spSize (n : Nat) : Sp := fun vs H Q _ => ∃ v k, vs = [v] ∧ RepK H k v ∧ k.deep ≤ n ∧ Q (.int (k.size : Nat)) H
theorem ok_size (T : Top w K mg) : ∀ n, FnOk P w K mg base CX0 n T.size.f T.size.fd ["_law_shape_here"] (spSize n)
  | 0 => fn_never fun vs H Q E ⟨v, k, _, _, h, _⟩ => by
    have := k.deep_pos
    omega
  | n + 1 => by
    have G_size := ok_size T n
    refine T.size.F.ok sc_size (fun vs H Q E h => ?_) (fun cdv A outer s H vs Q E hr h => ⟨_, PSs.nox (pss_one (ps_ret (pe_ifExp (pt_cmpR op_eq (pe_ix ix_tup (pv 0) pe_int (fun _ _ => rfl)) pe_str (nomark _)) pe_int (pe_op op_add (pe_call G_size (hr.mono (by omega)) rfl T.size.m T.size.F.kp (b_size T) .nil pass0 (pa_cons (pe_ix ix_tup (pv 0) pe_int (fun _ _ => rfl)) pa_nil)) (pe_call G_size (hr.mono (by omega)) rfl T.size.m T.size.F.kp (b_size T) .nil pass0 (pa_cons (pe_ix ix_tup (pv 0) pe_int (fun _ _ => rfl)) pa_nil)))))), ?_⟩)
    · obtain ⟨v, k, rfl, _⟩ := h
      rfl
    · obtain ⟨v, k, rfl, hk, hd, q⟩ := h
      cases k with
      | pl c =>
        obtain ⟨a, rfl, h⟩ := hk
        exact (ans_tag rfl h rfl) _ (iteT q)
      | nd b x y =>
        obtain ⟨a, u, z, rfl, h, hx, hy⟩ := hk
        have hd' : 1 + max x.deep y.deep ≤ n + 1 := hd
        refine (ans_tag rfl h (by cases b <;> rfl)) _ (iteF ?_)
        refine val_ix (val_var rfl) h at1 _ ⟨_, x, rfl, hx, by omega, ?_⟩
        refine val_ix (val_var rfl) h at2 _ ⟨_, y, rfl, hy, by omega, _, _, rfl, rfl, ?_⟩
        have e : ((x.size : Nat) : Int) + ((y.size : Nat) : Int) = (((Kd.nd b x y).size : Nat) : Int) := by
          show _ = ((x.size + y.size : Nat) : Int)
          omega
        exact toI (Q := Q) e q
def spDeep (n : Nat) : Sp := fun vs H Q _ => ∃ v k, vs = [v] ∧ RepK H k v ∧ k.deep ≤ n ∧ Q (.int (k.deep : Nat)) H
theorem ok_deep (T : Top w K mg) : ∀ n, FnOk P w K mg base CX0 n T.deep.f T.deep.fd ["_law_shape_here"] (spDeep n)
  | 0 => fn_never fun vs H Q E ⟨v, k, _, _, h, _⟩ => by
    have := k.deep_pos
    omega
  | n + 1 => by
    have G_deep := ok_deep T n
    refine T.deep.F.ok sc_deep (fun vs H Q E h => ?_) (fun cdv A outer s H vs Q E hr h => ⟨_, PSs.nox (pss_one (ps_ret (pe_ifExp (pt_cmpR op_eq (pe_ix ix_tup (pv 0) pe_int (fun _ _ => rfl)) pe_str (nomark _)) pe_int (pe_op op_add pe_int (pe_callB (call_max2 rfl) rfl T.z_max (by decide +kernel) (pa_cons (pe_call G_deep (hr.mono (by omega)) rfl T.deep.m T.deep.F.kp (b_deep T) .nil pass0 (pa_cons (pe_ix ix_tup (pv 0) pe_int (fun _ _ => rfl)) pa_nil)) (pa_cons (pe_call G_deep (hr.mono (by omega)) rfl T.deep.m T.deep.F.kp (b_deep T) .nil pass0 (pa_cons (pe_ix ix_tup (pv 0) pe_int (fun _ _ => rfl)) pa_nil)) pa_nil))))))), ?_⟩)
    · obtain ⟨v, k, rfl, _⟩ := h
      rfl
    · obtain ⟨v, k, rfl, hk, hd, q⟩ := h
      cases k with
      | pl c =>
        obtain ⟨a, rfl, h⟩ := hk
        exact (ans_tag rfl h rfl) _ (iteT q)
      | nd b x y =>
        obtain ⟨a, u, z, rfl, h, hx, hy⟩ := hk
        have hd' : 1 + max x.deep y.deep ≤ n + 1 := hd
        refine (ans_tag rfl h (by cases b <;> rfl)) _ (iteF ?_)
        refine val_ix (val_var rfl) h at1 _ ⟨_, x, rfl, hx, by omega, ?_⟩
        refine val_ix (val_var rfl) h at2 _ ⟨_, y, rfl, hy, by omega, _, _, rfl, _, _, rfl, rfl, ?_⟩
        have e : (1 : Int) + (if ((y.deep : Nat) : Int) > ((x.deep : Nat) : Int) then ((y.deep : Nat) : Int) else ((x.deep : Nat) : Int)) = (((Kd.nd b x y).deep : Nat) : Int) := by
          show _ = ((1 + max x.deep y.deep : Nat) : Int)
          split <;> omega
        exact toI (Q := Q) e q
/-! ### wide, count -/
def spWide (n : Nat) : Sp := fun vs H Q _ => ∃ v t, vs = [v] ∧ RepT H t v ∧ t.WF ∧ t.count ≤ n ∧ ∀ H', Same H H' → Q (.int (t.width : Nat)) H'
theorem ok_wide (T : Top w K mg) : ∀ n, FnOk P w K mg base CX0 n T.wide.f T.wide.fd ["_law_tree"] (spWide n)
  | 0 => fn_never fun vs H Q E ⟨v, t, _, _, _, h, _⟩ => by
    have := t.count_pos
    omega
  | n + 1 => by
    have G_wide := ok_wide T n
    refine T.wide.F.ok sc_wide (fun vs H Q E h => ?_) (fun cdv A outer s H vs Q E hr h => ⟨_, PSs.nox (pss_cons (ps_if (pt_cmpR op_eq (pe_ix ix_tup (pv 0) pe_int (fun _ _ => rfl)) pe_str (nomark _)) (pss_one (ps_ret pe_int)) pss_nil)
    (pss_cons (ps_if (pt_cmpR op_in_seq (pe_ix ix_tup (pv 0) pe_int (fun _ _ => rfl)) (pe_tup (pa_cons pe_str (pa_cons pe_str pa_nil))) (by rfl)) (pss_one (ps_ret (pe_op op_sub (pe_call G_wide (hr.mono (by omega)) rfl T.wide.m T.wide.F.kp (b_wide T) .nil pass0 (pa_cons (pe_ix ix_tup (pv 0) pe_int (fun _ _ => rfl)) pa_nil)) pe_int))) pss_nil)
    (pss_one (ps_ret (pe_op op_add (pe_call G_wide (hr.mono (by omega)) rfl T.wide.m T.wide.F.kp (b_wide T) .nil pass0 (pa_cons (pe_ix ix_tup (pv 0) pe_int (fun _ _ => rfl)) pa_nil)) (pe_call G_wide (hr.mono (by omega)) rfl T.wide.m T.wide.F.kp (b_wide T) .nil pass0 (pa_cons (pe_ix ix_tup (pv 0) pe_int (fun _ _ => rfl)) pa_nil))))))), ?_⟩)
    · obtain ⟨v, t, rfl, _⟩ := h
      rfl
    · obtain ⟨v, t, rfl, ht, hw, hc, q⟩ := h
      cases t with
      | wd =>
        obtain ⟨a, rfl, h⟩ := ht
        refine sq_yes (ans_tag rfl h rfl) ?_
        exact q H (Same.refl H)
      | pr b l r =>
        obtain ⟨a, u, z, rfl, h, hl, hr'⟩ := ht
        have hc' : 1 + l.count + r.count ≤ n + 1 := hc
        refine sq_skip (ans_tag rfl h (by cases b <;> rfl)) ?_
        refine sq_skipH (ans_gv rfl h (by cases b <;> rfl)) fun H1 s1 => ?_
        refine val_ix (val_var rfl) (s1 _ _ h) at1 _ ⟨_, l, rfl, hl.mono (.of s1), hw.1, by omega, fun H2 s2 => ?_⟩
        refine val_ix (val_var rfl) (s2 _ _ (s1 _ _ h)) at2 _ ⟨_, r, rfl, hr'.mono (.of (s1.trans s2)), hw.2, by omega, fun H3 s3 => ?_⟩
        refine ⟨_, _, rfl, rfl, ?_⟩
        have e : ((l.width : Nat) : Int) + ((r.width : Nat) : Int) = (((Tr.pr b l r).width : Nat) : Int) := by
          show _ = ((l.width + r.width : Nat) : Int)
          omega
        exact toI (Q := Q) e (q H3 (s1.trans (s2.trans s3)))
      | gv b k p =>
        obtain ⟨a, u, z, rfl, h, hk, hp⟩ := ht
        have hc' : 1 + p.count ≤ n + 1 := hc
        have h2 := hw.2
        refine sq_skip (ans_tag rfl h (by cases b <;> rfl)) ?_
        refine sq_yesH (ans_gv rfl h (by cases b <;> rfl)) fun H1 s1 => ?_
        refine val_ix (val_var rfl) (s1 _ _ h) at2 _ ⟨_, p, rfl, hp.mono (.of s1), hw.1, by omega, fun H2 s2 => ?_⟩
        refine ⟨_, _, rfl, rfl, ?_⟩
        have e : ((p.width : Nat) : Int) - 1 = (((Tr.gv b k p).width : Nat) : Int) := by
          show _ = ((p.width - 1 : Nat) : Int)
          omega
        exact toI (Q := Q) e (q H2 (s1.trans s2))
def spCount (n : Nat) : Sp := fun vs H Q _ => ∃ v t, vs = [v] ∧ RepT H t v ∧ t.count ≤ n ∧ ∀ H', Same H H' → Q (.int (t.count : Nat)) H'
theorem ok_count (T : Top w K mg) : ∀ n, FnOk P w K mg base CX0 n T.count.f T.count.fd ["_law_tree"] (spCount n)
  | 0 => fn_never fun vs H Q E ⟨v, t, _, _, h, _⟩ => by
    have := t.count_pos
    omega
  | n + 1 => by
    have G_count := ok_count T n
    refine T.count.F.ok sc_count (fun vs H Q E h => ?_) (fun cdv A outer s H vs Q E hr h => ⟨_, PSs.nox (pss_cons (ps_if (pt_cmpR op_eq (pe_ix ix_tup (pv 0) pe_int (fun _ _ => rfl)) pe_str (nomark _)) (pss_one (ps_ret pe_int)) pss_nil)
    (pss_cons (ps_if (pt_cmpR op_in_seq (pe_ix ix_tup (pv 0) pe_int (fun _ _ => rfl)) (pe_tup (pa_cons pe_str (pa_cons pe_str pa_nil))) (by rfl)) (pss_one (ps_ret (pe_op op_add pe_int (pe_call G_count (hr.mono (by omega)) rfl T.count.m T.count.F.kp (b_count T) .nil pass0 (pa_cons (pe_ix ix_tup (pv 0) pe_int (fun _ _ => rfl)) pa_nil))))) pss_nil)
    (pss_one (ps_ret (pe_op op_add (pe_op op_add pe_int (pe_call G_count (hr.mono (by omega)) rfl T.count.m T.count.F.kp (b_count T) .nil pass0 (pa_cons (pe_ix ix_tup (pv 0) pe_int (fun _ _ => rfl)) pa_nil))) (pe_call G_count (hr.mono (by omega)) rfl T.count.m T.count.F.kp (b_count T) .nil pass0 (pa_cons (pe_ix ix_tup (pv 0) pe_int (fun _ _ => rfl)) pa_nil))))))), ?_⟩)
    · obtain ⟨v, t, rfl, _⟩ := h
      rfl
    · obtain ⟨v, t, rfl, ht, hc, q⟩ := h
      cases t with
      | wd =>
        obtain ⟨a, rfl, h⟩ := ht
        refine sq_yes (ans_tag rfl h rfl) ?_
        exact q H (Same.refl H)
      | pr b l r =>
        obtain ⟨a, u, z, rfl, h, hl, hr'⟩ := ht
        have hc' : 1 + l.count + r.count ≤ n + 1 := hc
        refine sq_skip (ans_tag rfl h (by cases b <;> rfl)) ?_
        refine sq_skipH (ans_gv rfl h (by cases b <;> rfl)) fun H1 s1 => ?_
        refine val_ix (val_var rfl) (s1 _ _ h) at1 _ ⟨_, l, rfl, hl.mono (.of s1), by omega, fun H2 s2 => ?_⟩
        refine ⟨_, _, rfl, rfl, ?_⟩
        refine val_ix (val_var rfl) (s2 _ _ (s1 _ _ h)) at2 _ ⟨_, r, rfl, hr'.mono (.of (s1.trans s2)), by omega, fun H3 s3 => ?_⟩
        refine ⟨_, _, rfl, rfl, ?_⟩
        have e : (1 : Int) + ((l.count : Nat) : Int) + ((r.count : Nat) : Int) = (((Tr.pr b l r).count : Nat) : Int) := by
          show _ = ((1 + l.count + r.count : Nat) : Int)
          omega
        exact toI (Q := Q) e (q H3 (s1.trans (s2.trans s3)))
      | gv b k p =>
        obtain ⟨a, u, z, rfl, h, hk, hp⟩ := ht
        have hc' : 1 + p.count ≤ n + 1 := hc
        refine sq_skip (ans_tag rfl h (by cases b <;> rfl)) ?_
        refine sq_yesH (ans_gv rfl h (by cases b <;> rfl)) fun H1 s1 => ?_
        refine val_ix (val_var rfl) (s1 _ _ h) at2 _ ⟨_, p, rfl, hp.mono (.of s1), by omega, fun H2 s2 => ?_⟩
        refine ⟨_, _, rfl, rfl, ?_⟩
        have e : (1 : Int) + ((p.count : Nat) : Int) = (((Tr.gv b k p).count : Nat) : Int) := by
          show _ = ((1 + p.count : Nat) : Int)
          omega
        exact toI (Q := Q) e (q H2 (s1.trans s2))
/-! ### checked_width, given_kinds, can_step -/
def spCw (n : Nat) : Sp := fun vs H Q _ => ∃ v t, vs = [v] ∧ RepT H t v ∧ t.WF ∧ t.count ≤ n ∧ Q (.int (t.width : Nat)) H
theorem ok_checked_width (T : Top w K mg) : ∀ n, FnOk P w K mg base CX0 n T.checked_width.f T.checked_width.fd ["reading"] (spCw n)
  | 0 => fn_never fun vs H Q E ⟨v, t, _, _, _, h, _⟩ => by
    have := t.count_pos
    omega
  | n + 1 => by
    have G_checked_width := ok_checked_width T n
    refine T.checked_width.F.ok sc_checked_width (fun vs H Q E h => ?_) (fun cdv A outer s H vs Q E hr h => ⟨_, PSs.nox (pss_cons (ps_if (pt_cmpR op_eq (pe_ix ix_tup (pv 0) pe_int (fun _ _ => rfl)) pe_str (nomark _)) (pss_one (ps_ret pe_int)) pss_nil)
    (pss_cons (ps_if (pt_cmpR op_in_seq (pe_ix ix_tup (pv 0) pe_int (fun _ _ => rfl)) (pe_glob (v := .ref T.aPAIRS) rfl T.mPAIRS rfl) (by rfl)) (pss_cons (ps_set (i := 1) sc_checked_width.nd rfl (Or.inl rfl) (pe_call G_checked_width (hr.mono (by omega)) rfl T.checked_width.m T.checked_width.F.kp (b_checked_width T) .nil pass0 (pa_cons (pe_ix ix_tup (pv 0) pe_int (fun _ _ => rfl)) pa_nil)))
    (pss_one (ps_ret (pe_op op_add (pv 1) (pe_call G_checked_width (hr.mono (by omega)) rfl T.checked_width.m T.checked_width.F.kp (b_checked_width T) .nil pass0 (pa_cons (pe_ix ix_tup (pv 0) pe_int (fun _ _ => rfl)) pa_nil)))))) pss_nil)
    (pss_cons (ps_set (i := 2) sc_checked_width.nd rfl (Or.inl rfl) (pe_ifExp (pt_cmpR op_in_seq (pe_ix ix_tup (pv 0) pe_int (fun _ _ => rfl)) (pe_glob (v := .ref T.aGIVES) rfl T.mGIVES rfl) (by rfl)) (pe_op op_sub (pe_call G_checked_width (hr.mono (by omega)) rfl T.checked_width.m T.checked_width.F.kp (b_checked_width T) .nil pass0 (pa_cons (pe_ix ix_tup (pv 0) pe_int (fun _ _ => rfl)) pa_nil)) pe_int) pe_int))
    (pss_cons (ps_if (pt_cmpR op_lt (pv 2) pe_int (nomark _)) (pss_one ps_never) pss_nil)
    (pss_one (ps_ret (pv 2))))))), ?_⟩)
    · obtain ⟨v, t, rfl, _⟩ := h
      rfl
    · obtain ⟨v, t, rfl, ht, hw, hc, q⟩ := h
      cases t with
      | wd =>
        obtain ⟨a, rfl, h⟩ := ht
        refine sq_yes (ans_tag rfl h rfl) ?_
        exact q
      | pr b l r =>
        obtain ⟨a, u, z, rfl, h, hl, hr'⟩ := ht
        have hc' : 1 + l.count + r.count ≤ n + 1 := hc
        refine sq_skip (ans_tag rfl h (by cases b <;> rfl)) ?_
        refine sq_yes (ans_intag rfl h (T.sPAIRS H) rfl (by cases b <;> rfl)) ?_
        refine sq_asg (val_ix (val_var rfl) h at1 _ ⟨_, l, rfl, hl, hw.1, by omega, ?_⟩)
        refine ⟨_, rfl, val_ix (val_var rfl) h at2 _ ⟨_, r, rfl, hr', hw.2, by omega, _, _, rfl, rfl, ?_⟩⟩
        have e : ((l.width : Nat) : Int) + ((r.width : Nat) : Int) = (((Tr.pr b l r).width : Nat) : Int) := by
          show _ = ((l.width + r.width : Nat) : Int)
          omega
        exact toI (Q := Q) e q
      | gv b k p =>
        obtain ⟨a, u, z, rfl, h, hk, hp⟩ := ht
        have hc' : 1 + p.count ≤ n + 1 := hc
        have h2 := hw.2
        refine sq_skip (ans_tag rfl h (by cases b <;> rfl)) ?_
        refine sq_skip (ans_intag rfl h (T.sPAIRS H) rfl (by cases b <;> rfl)) ?_
        refine sq_asg (ans_intag rfl h (T.sGIVES H) rfl (by cases b <;> rfl) _ (iteT ?_))
        refine val_ix (val_var rfl) h at2 _ ⟨_, p, rfl, hp, hw.1, by omega, _, _, rfl, rfl, ?_⟩
        have e : ((p.width : Nat) : Int) - 1 = (((Tr.gv b k p).width : Nat) : Int) := by
          show _ = ((p.width - 1 : Nat) : Int)
          omega
        refine sq_skip (ans_cmp (val_var rfl) val_c fun Q q => ⟨_, _, rfl, rfl, ?_⟩) ⟨_, rfl, toI (Q := Q) e q⟩
        exact toB (Q := Q) (decide_eq_false (show ¬ ((p.width : Nat) : Int) - 1 < 1 by omega)) q
/-- a new list of the kinds ks -/
def NewK (H : Hp) (ks : List Kd) (Q : VK) : Prop := ∀ (r : Addr) (H' : Hp) (us : List V), Same H H' → H r = none → H' r = some (.lst us) → AllK H' us ks → Q (.ref r) H'
def spGivens (n : Nat) : Sp := fun vs H Q _ => ∃ v t, vs = [v] ∧ RepT H t v ∧ t.count ≤ n ∧ t.count ≤ 100 ∧ NewK H t.givens Q
theorem ok_given_kinds (T : Top w K mg) : ∀ n, FnOk P w K mg base CX0 n T.given_kinds.f T.given_kinds.fd ["reading"] (spGivens n)
  | 0 => fn_never fun vs H Q E ⟨v, t, _, _, h, _⟩ => by
    have := t.count_pos
    omega
  | n + 1 => by
    have G_given_kinds := ok_given_kinds T n
    refine T.given_kinds.F.ok sc_given_kinds (fun vs H Q E h => ?_) (fun cdv A outer s H vs Q E hr h => ⟨_, PSs.nox (pss_cons (ps_if (pt_cmpR op_in_seq (pe_ix ix_tup (pv 0) pe_int (fun _ _ => rfl)) (pe_glob (v := .ref T.aPAIRS) rfl T.mPAIRS rfl) (by rfl)) (pss_one (ps_ret (pe_op op_cat (pe_call G_given_kinds (hr.mono (by omega)) rfl T.given_kinds.m T.given_kinds.F.kp (b_given_kinds T) .nil pass0 (pa_cons (pe_ix ix_tup (pv 0) pe_int (fun _ _ => rfl)) pa_nil)) (pe_call G_given_kinds (hr.mono (by omega)) rfl T.given_kinds.m T.given_kinds.F.kp (b_given_kinds T) .nil pass0 (pa_cons (pe_ix ix_tup (pv 0) pe_int (fun _ _ => rfl)) pa_nil))))) pss_nil)
    (pss_one (ps_ret (pe_ifExp (pt_cmpR op_in_seq (pe_ix ix_tup (pv 0) pe_int (fun _ _ => rfl)) (pe_glob (v := .ref T.aGIVES) rfl T.mGIVES rfl) (by rfl)) (pe_lst (pa_cons (pe_ix ix_tup (pv 0) pe_int (fun _ _ => rfl)) (StX.pa_star (pe_call G_given_kinds (hr.mono (by omega)) rfl T.given_kinds.m T.given_kinds.F.kp (b_given_kinds T) .nil pass0 (pa_cons (pe_ix ix_tup (pv 0) pe_int (fun _ _ => rfl)) pa_nil)) pa_nil))) (pe_lst pa_nil))))), ?_⟩)
    · obtain ⟨v, t, rfl, _⟩ := h
      rfl
    · obtain ⟨v, t, rfl, ht, hc, hc1, q⟩ := h
      cases t with
      | wd =>
        obtain ⟨a, rfl, h⟩ := ht
        refine sq_skip (ans_intag rfl h (T.sPAIRS H) rfl rfl) ?_
        refine ans_intag rfl h (T.sGIVES H) rfl rfl _ (iteF ?_)
        exact ⟨Nat.zero_le _, fun p hp => q p _ [] (same_new hp) hp upd_same trivial⟩
      | pr b l r =>
        obtain ⟨a, u, z, rfl, h, hl, hr'⟩ := ht
        have hc' : 1 + l.count + r.count ≤ n + 1 := hc
        have hc2 : 1 + l.count + r.count ≤ 100 := hc1
        refine sq_yes (ans_intag rfl h (T.sPAIRS H) rfl (by cases b <;> rfl)) ?_
        refine val_ix (val_var rfl) h at1 _ ⟨_, l, rfl, hl, by omega, by omega, fun r1 H1 us s1 n1 e1 a1 => ?_⟩
        refine val_ix (val_var rfl) (s1 _ _ h) at2 _ ⟨_, r, rfl, hr'.mono (.of s1), by omega, by omega, fun r2 H2 ws s2 n2 e2 a2 => ?_⟩
        have z1 := a1.length
        have z2 := a2.length
        have z3 := l.givens_len
        have z4 := r.givens_len
        refine ⟨r1, r2, us, ws, rfl, rfl, s2 _ _ e1, e2, sz (by omega), fun p hp => ?_⟩
        have s3 := (s1.trans s2).trans (same_new (o := .lst (us ++ ws)) hp)
        exact q p _ (us ++ ws) s3 (fresh_of (s1.trans s2) hp) upd_same (AllK.mono (kt_new hp) ((a1.mono (.of s2)).append a2))
      | gv b k p =>
        obtain ⟨a, u, z, rfl, h, hk, hp⟩ := ht
        have hc' : 1 + p.count ≤ n + 1 := hc
        have hc2 : 1 + p.count ≤ 100 := hc1
        refine sq_skip (ans_intag rfl h (T.sPAIRS H) rfl (by cases b <;> rfl)) ?_
        refine ans_intag rfl h (T.sGIVES H) rfl (by cases b <;> rfl) _ (iteT ?_)
        refine val_ix (val_var rfl) h at1 _ (val_ix (val_var rfl) h at2 _ ⟨_, p, rfl, hp, by omega, by omega, fun r1 H1 us s1 n1 e1 a1 => ?_⟩)
        have z1 := a1.length
        have z3 := p.givens_len
        refine ⟨r1, us, rfl, .inr (.of e1), ?_, fun r2 n2 => ?_⟩
        · show (u :: (us ++ [])).length ≤ sizeLine
          rw [List.length_cons, List.length_append, List.length_nil]
          exact sz (by omega)
        · rw [List.append_nil]
          exact q r2 _ (u :: us) (s1.trans (same_new n2)) (fresh_of s1 n2) upd_same ⟨hk.mono (.of (s1.trans (same_new n2))), a1.mono (kt_new n2)⟩
def spCan : Sp := fun vs H Q _ => ∃ v t, vs = [v] ∧ RepT H t v ∧ Q (.bl t.red) H
theorem rep_tag {H : Hp} {t : Tr} {v : V} (h : RepT H t v) : ∃ a s r, v = .ref a ∧ H a = some (.tup (.str s :: r)) ∧ (∀ b, decide (V.str s = V.str (SG b)) = match t with
    | .gv c _ _ => decide (c = b)
    | _ => false) := by
  cases t with
  | wd =>
    obtain ⟨a, e, h⟩ := h
    exact ⟨a, _, _, e, h, fun b => by cases b <;> rfl⟩
  | pr c l r =>
    obtain ⟨a, u, z, e, h, _⟩ := h
    exact ⟨a, _, _, e, h, fun b => by cases b <;> cases c <;> rfl⟩
  | gv c l r =>
    obtain ⟨a, u, z, e, h, _⟩ := h
    exact ⟨a, _, _, e, h, fun b => by cases b <;> cases c <;> rfl⟩
theorem ok_can_step (T : Top w K mg) : FnOk P w K mg base CX0 1 T.can_step.f T.can_step.fd ["reading"] spCan := by
  refine T.can_step.F.ok sc_can_step (fun vs H Q E h => ?_) (fun cdv A outer s H vs Q E hr h => ⟨_, PSs.nox (pss_cons (ps_if (pt_cmpR op_eq (pe_ix ix_tup (pv 0) pe_int (fun _ _ => rfl)) pe_str (nomark _)) (pss_one (ps_ret (pe_cmpR op_eq (pe_ix ix_tup (pe_ix ix_tup (pv 0) pe_int (fun _ _ => rfl)) pe_int (fun _ _ => rfl)) pe_str (nomark _)))) pss_nil)
    (pss_one (ps_ret (pe_and (pe_cmpR op_eq (pe_ix ix_tup (pv 0) pe_int (fun _ _ => rfl)) pe_str (nomark _)) (pe_one (pe_cmpR op_eq (pe_ix ix_tup (pe_ix ix_tup (pv 0) pe_int (fun _ _ => rfl)) pe_int (fun _ _ => rfl)) pe_str (nomark _))))))), ?_⟩)
  · obtain ⟨v, t, rfl, _⟩ := h
    rfl
  · obtain ⟨v, t, rfl, ht, q⟩ := h
    cases t with
    | wd =>
      obtain ⟨a, rfl, h⟩ := ht
      refine sq_skip (ans_tag rfl h rfl) ?_
      refine val_ix (val_var rfl) h at0 _ ⟨rfl, _, rfl, itN (by decide +kernel) ?_⟩
      exact q
    | gv b k p =>
      obtain ⟨a, u, z, rfl, h, _⟩ := ht
      refine sq_skip (ans_tag rfl h (by cases b <;> rfl)) ?_
      refine val_ix (val_var rfl) h at0 _ ⟨rfl, false, by cases b <;> rfl, iteF ?_⟩
      exact q
    | pr b l r =>
      obtain ⟨a, u, z, rfl, h, hl, hr'⟩ := ht
      cases b with
      | true =>
        refine sq_yes (ans_tag rfl h rfl) ?_
        obtain ⟨c, s', rr, rfl, hc, hb⟩ := rep_tag hl
        have e : decide (V.str s' = V.str "givebehind") = (Tr.pr true l r).red := by
          refine (hb true).trans ?_
          cases l with
          | wd => rfl
          | pr _ _ _ => rfl
          | gv c _ _ => cases c <;> rfl
        refine val_ix (val_ix (val_var rfl) h at1) hc at0 _ ⟨rfl, ?_⟩
        exact toB (Q := Q) e q
      | false =>
        refine sq_skip (ans_tag rfl h rfl) ?_
        obtain ⟨c, s', rr, rfl, hc, hb⟩ := rep_tag hr'
        have e : decide (V.str s' = V.str "giveahead") = (Tr.pr false l r).red := by
          refine (hb false).trans ?_
          cases r with
          | wd => rfl
          | pr _ _ _ => rfl
          | gv c _ _ => cases c <;> rfl
        refine val_ix (val_var rfl) h at0 _ ⟨rfl, true, rfl, iteT ?_⟩
        refine val_ix (val_ix (val_var rfl) h at2) hc at0 _ ⟨rfl, ?_⟩
        exact toB (Q := Q) e q
end
end WW
namespace WW
open PySem PySem.Spec PyProof.Rows L2
/-! ### lists of places -/
def nlist (s : List Nat) : List V := s.map fun n : Nat => V.int (n : Int)
theorem nlist_len (s : List Nat) : (nlist s).length = s.length := List.length_map _
def AllP (N : Addr → Prop) (H : Hp) : List V → List (List Nat) → Prop
  | [], [] => True
  | v :: vs, s :: ps => (∃ a, v = .ref a ∧ N a ∧ H a = some (.lst (nlist s))) ∧ AllP N H vs ps
  | _, _ => False
section
variable {N M : Addr → Prop} {H H' : Hp}
theorem AllP.mono (s : Same H H') : ∀ {vs : List V} {ps : List (List Nat)}, AllP N H vs ps → AllP N H' vs ps
  | [], [], _ => trivial
  | _ :: _, _ :: _, ⟨⟨a, e, n, h⟩, t⟩ => ⟨⟨a, e, n, s _ _ h⟩, AllP.mono s t⟩
  | [], _ :: _, h => h.elim
  | _ :: _, [], h => h.elim
theorem AllP.imp (f : ∀ a, N a → M a) : ∀ {vs : List V} {ps : List (List Nat)}, AllP N H vs ps → AllP M H vs ps
  | [], [], _ => trivial
  | _ :: _, _ :: _, ⟨⟨a, e, n, h⟩, t⟩ => ⟨⟨a, e, f a n, h⟩, AllP.imp f t⟩
  | [], _ :: _, h => h.elim
  | _ :: _, [], h => h.elim
theorem AllP.upd {F : Addr} {o : HO} (f : ∀ a, N a → a ≠ F) : ∀ {vs : List V} {ps : List (List Nat)}, AllP N H vs ps → AllP N (L2.upd H F o) vs ps
  | [], [], _ => trivial
  | _ :: _, _ :: _, ⟨⟨a, e, n, h⟩, t⟩ => ⟨⟨a, e, n, by rw [upd_ne (f a n)]; exact h⟩, AllP.upd f t⟩
  | [], _ :: _, h => h.elim
  | _ :: _, [], h => h.elim
theorem AllP.append : ∀ {vs ws : List V} {ps qs : List (List Nat)}, AllP N H vs ps → AllP N H ws qs → AllP N H (vs ++ ws) (ps ++ qs)
  | [], _, [], _, _, h => h
  | _ :: _, _, _ :: _, _, h, g => ⟨h.1, AllP.append h.2 g⟩
  | [], _, _ :: _, _, h, _ => h.elim
  | _ :: _, _, [], _, h, _ => h.elim
theorem AllP.length : ∀ {vs : List V} {ps : List (List Nat)}, AllP N H vs ps → vs.length = ps.length
  | [], [], _ => rfl
  | _ :: _, _ :: _, h => congrArg Nat.succ h.2.length
  | [], _ :: _, h => h.elim
  | _ :: _, [], h => h.elim
theorem AllP.get : ∀ {vs : List V} {ps : List (List Nat)} {i : Nat} {v : V}, AllP N H vs ps → vs[i]? = some v → ∃ s a, ps[i]? = some s ∧ v = .ref a ∧ N a ∧ H a = some (.lst (nlist s))
  | [], _, _, _, _, e => by simp at e
  | v :: vs, s :: ps, 0, x, ⟨⟨a, e1, e2, e3⟩, _⟩, e => by
    have e' : v = x := by simpa using e
    exact ⟨s, a, rfl, e' ▸ e1, e2, e3⟩
  | v :: vs, s :: ps, i + 1, x, h, e => by
    obtain ⟨s', a, e1, e2⟩ := AllP.get (i := i) h.2 (by simpa using e)
    exact ⟨s', a, by simpa using e1, e2⟩
  | _ :: _, [], _, _, h, _ => h.elim
theorem AllP.take : ∀ {vs : List V} {ps : List (List Nat)} (n : Nat), AllP N H vs ps → AllP N H (vs.take n) (ps.take n)
  | _, _, 0, _ => trivial
  | [], [], _ + 1, _ => trivial
  | _ :: _, _ :: _, n + 1, h => ⟨h.1, AllP.take n h.2⟩
  | [], _ :: _, _, h => h.elim
  | _ :: _, [], _, h => h.elim
theorem AllP.drop : ∀ {vs : List V} {ps : List (List Nat)} (n : Nat), AllP N H vs ps → AllP N H (vs.drop n) (ps.drop n)
  | _, _, 0, h => h
  | [], [], _ + 1, _ => trivial
  | _ :: _, _ :: _, n + 1, h => AllP.drop n h.2
  | [], _ :: _, _, h => h.elim
  | _ :: _, [], _, h => h.elim
end
/-- a new list of new lists -/
def NewP (H : Hp) (ps : List (List Nat)) (Q : VK) : Prop := ∀ (r : Addr) (H' : Hp) (us : List V), Same H H' → H r = none → H' r = some (.lst us) → AllP (fun a => H a = none) H' us ps → Q (.ref r) H'
theorem fr_ne {H : Hp} {a F : Addr} {o : HO} (h : H a = none) (g : H F = some o) : a ≠ F := fun e => by rw [e, g] at h; cases h
theorem cut_last (xs : List V) : cutV xs none (some (-1)) = xs.dropLast := by
  unfold cutV
  rw [HT.sIx_none, List.drop_zero, List.dropLast_eq_take, Nat.sub_zero]
  congr 1
  have h := HT.clip_eq (-1) xs.length xs.length
  rw [if_pos (by decide)] at h
  omega
theorem cut_tail (xs : List V) : cutV xs (some 1) none = xs.drop 1 := by
  unfold cutV
  rw [show HT.sIx xs.length 0 (some 1) = min 1 xs.length from HT.sIx_nat xs.length 0 1, HT.sIx_none]
  cases xs with
  | nil => rfl
  | cons x r =>
    rw [show min 1 (x :: r).length = 1 by
      rw [List.length_cons]
      omega]
    show (List.take ((x :: r).length - 1) r) = r
    rw [List.length_cons, Nat.add_sub_cancel]
    exact List.take_length
/-- [[h] + s for s in a list of places], by what its element makes -/
theorem lc_pre {K : PySem.W.Frag} {σ : L2.St} {i h : Nat} {te : TE} {N : Addr → Prop} {H1 : Hp} {a D : Addr} {us : List V} {ps : List (List Nat)} {Qd : Hp → Prop} (hi : i < σ.length)
    (he : ∀ (b : Addr) (s : List Nat) (H : Hp) (Q : VK), H b = some (.lst (nlist s)) → s.length ≤ 900 → (∀ p H', Same H H' → H p = none → H' p = some (.lst (nlist (h :: s))) → Q (.ref p) H') → te ((wipe σ [i]).set i (some (.ref b))) H Q)
    (ha : H1 a = some (.lst us)) (hp : AllP N H1 us ps) (hD : H1 D = none) (hl : ps.length ≤ 900) (hs : ∀ s ∈ ps, s.length ≤ 900)
    (q : ∀ H' vs, Same H1 H' → H' D = some (.lst vs) → AllP (fun b => H1 b = none ∧ b ≠ D) H' vs (ps.map (h :: ·)) → Qd H') :
    ∃ W : Nat → Nat → Hp → Prop, (∃ m, W 0 m (upd H1 D (.lst []))) ∧ ∀ i' m H, W i' m H →
      ((Itl K a).stop i' H ∧ Qd H) ∨ ((Itl K a).go i' H ∧ ∃ Nx : Hp → Prop, (∀ H', Nx H' → ∃ m', m' < m ∧ W (i' + 1) m' H') ∧ ∀ x H', (Itl K a).yld i' H x H' → gName i x (wipe σ [i]) H' fun σ2 H2 => wipe σ2 [i] = wipe σ [i] ∧ tYes σ2 H2 fun b H3 =>
        if b = true then te σ2 H3 fun y H4 => ∃ acc, H4 D = some (.lst acc) ∧ acc.length < sizeLine ∧ Nx (upd H4 D (.lst (acc ++ [y]))) else Nx H3) := by
  have z := hp.length
  refine lc_list (K := K) (a := a) (xs := us) (fun j H => Same H1 H ∧ ∃ acc, H D = some (.lst acc) ∧ AllP (fun b => H1 b = none ∧ b ≠ D) H acc ((ps.take j).map (h :: ·))) ⟨same_new hD, [], upd_same, trivial⟩ (fun j H _ hP => .of (hP.1 _ _ ha)) (fun j x H hx hP => ?_) (fun H hP => ?_)
  · obtain ⟨s1, acc, hacc, al⟩ := hP
    obtain ⟨s, b, hps, rfl, _, hb⟩ := hp.get hx
    have hj : j < ps.length := (List.getElem?_eq_some_iff.mp hps).1
    refine ⟨?_, ?_⟩
    · show List.set (List.set (List.set σ i none) i (some (V.ref b))) i none = List.set σ i none
      rw [List.set_set, List.set_set]
    · refine he b s H _ (s1 _ _ hb) (hs s (List.mem_of_getElem? hps)) fun p H' s2 hp2 e2 => ?_
      have pD : p ≠ D := fr_ne hp2 hacc
      have hal := al.length
      refine ⟨acc, s2 _ _ hacc, ?_, Same.mut (s1.trans s2) hD, acc ++ [.ref p], upd_same, ?_⟩
      · rw [hal, List.length_map, List.length_take]
        exact small1000 (by omega)
      · rw [List.take_add_one, hps, List.map_append]
        refine AllP.upd (fun c hc => hc.2) ((al.mono s2).append ?_)
        exact ⟨⟨p, rfl, ⟨fresh_of s1 hp2, pD⟩, e2⟩, trivial⟩
  · obtain ⟨s1, acc, hacc, al⟩ := hP
    rw [z, List.take_length] at al
    exact q H acc s1 hacc al
theorem el_star {K : PySem.W.Frag} {σ : L2.St} {i h : Nat} {th : TE} (hi : i < σ.length) (hth : ∀ x H (Q : VK), Q (.int h) H → th ((wipe σ [i]).set i (some x)) H Q) :
    ∀ (b : Addr) (s : List Nat) (H : Hp) (Q : VK), H b = some (.lst (nlist s)) → s.length ≤ 900 → (∀ p H', Same H H' → H p = none → H' p = some (.lst (nlist (h :: s))) → Q (.ref p) H') → tLst (tCons th (StX.tStar K (tVar i) tNil)) ((wipe σ [i]).set i (some (.ref b))) H Q := by
  intro b s H Q hb hs q
  refine hth _ _ _ ⟨.ref b, ?_, b, nlist s, rfl, .inr (.of hb), ?_, fun p hp => ?_⟩
  · exact List.getElem?_set_self (by rw [wipe_length]; exact hi)
  · show (V.int h :: (nlist s ++ [])).length ≤ sizeLine
    rw [List.length_cons, List.length_append, List.length_nil, nlist_len]
    exact sz (by omega)
  · rw [List.append_nil]
    exact q p _ (same_new hp) hp upd_same
theorem el_cat {σ : L2.St} {i h : Nat} {th : TE} (hi : i < σ.length) (hth : ∀ x H (Q : VK), Q (.int h) H → th ((wipe σ [i]).set i (some x)) H Q) :
    ∀ (b : Addr) (s : List Nat) (H : Hp) (Q : VK), H b = some (.lst (nlist s)) → s.length ≤ 900 → (∀ p H', Same H H' → H p = none → H' p = some (.lst (nlist (h :: s))) → Q (.ref p) H') → tOp rCat (tLst (tCons th tNil)) (tVar i) ((wipe σ [i]).set i (some (.ref b))) H Q := by
  intro b s H Q hb hs q
  refine hth _ _ _ ⟨(by show 1 ≤ sizeLine; decide), fun p hp => ⟨.ref b, ?_, p, b, [.int h], nlist s, rfl, rfl, upd_same, ?_, ?_, fun r hr => ?_⟩⟩
  · exact List.getElem?_set_self (by rw [wipe_length]; exact hi)
  · rw [upd_ne (ne_of_none hb hp)]
    exact hb
  · rw [nlist_len]
    show 1 + s.length ≤ sizeLine
    exact sz (by omega)
  · exact q r _ ((same_new hp).trans (same_new hr)) (fresh_of (same_new hp) hr) upd_same
section
variable {P : Program} {w : World} {K : PySem.W.Frag} {mg : Str → Option Value} {base : Heap}
/-! ### word_places -/
def spWords (n : Nat) : Sp := fun vs H Q _ => ∃ v t, vs = [v] ∧ RepT H t v ∧ t.count ≤ n ∧ t.count ≤ 100 ∧ NewP H t.words Q
theorem words_short {t : Tr} (h : t.count ≤ 100) : t.words.length ≤ 900 ∧ ∀ s ∈ t.words, s.length ≤ 900 := by
  have h1 := t.width_le
  refine ⟨by rw [Tr.words_len]; omega, fun s hs => ?_⟩
  obtain ⟨i, hi, e⟩ := List.getElem_of_mem hs
  have := (Tr.words_put (t := t) (i := i) (s := s) (by rw [List.getElem?_eq_getElem hi, e])).2.2
  omega
theorem ok_word_places (T : Top w K mg) : ∀ n, FnOk P w K mg base CX0 n T.word_places.f T.word_places.fd ["reading"] (spWords n)
  | 0 => fn_never fun vs H Q E ⟨v, t, _, _, h, _⟩ => by
    have := t.count_pos
    omega
  | n + 1 => by
    have G_word_places := ok_word_places T n
    refine T.word_places.F.ok sc_word_places (fun vs H Q E h => ?_) (fun cdv A outer s H vs Q E hr h => ⟨_, PSs.nox (pss_cons (ps_if (pt_cmpR op_eq (pe_ix ix_tup (pv 0) pe_int (fun _ _ => rfl)) pe_str (nomark _)) (pss_one (ps_ret (pe_lst (pa_cons (pe_lst pa_nil) pa_nil)))) pss_nil)
    (pss_cons (ps_if (pt_cmpR op_in_seq (pe_ix ix_tup (pv 0) pe_int (fun _ _ => rfl)) (pe_glob (v := .ref T.aPAIRS) rfl T.mPAIRS rfl) (by rfl)) (pss_cons (ps_setLc (i := 1) (own := [("place", 3)]) (g := gName 3) rfl sc_word_places.nd rfl rfl (sw_true rfl rfl rfl (by decide +kernel)) (pi_list (pe_call G_word_places (hr.mono (by omega)) rfl T.word_places.m T.word_places.F.kp (b_word_places T) .nil pass0 (pa_cons (pe_ix ix_tup (pv 0) pe_int (fun _ _ => rfl)) pa_nil))) (blkOk_by (own := [("place", 3)]) (N := n_word_places) (sc := defScope (top 23)) (by decide +kernel)) (fun _ _ _ _ _ => pg_name (i := 3) sc_word_places.nd rfl (Or.inl rfl)) (fun _ _ _ _ _ => pts_nil) (fun _ _ _ _ _ => (pe_lst (pa_cons pe_int (pa_starK (K := K) rfl (pv 3) pa_nil)))))
    (pss_one (ps_ret (pe_op op_cat (pv 1) (pe_lc (own := [("place", 3)]) (g := gName 3) rfl sc_word_places.nd (pi_list (pe_call G_word_places (hr.mono (by omega)) rfl T.word_places.m T.word_places.F.kp (b_word_places T) .nil pass0 (pa_cons (pe_ix ix_tup (pv 0) pe_int (fun _ _ => rfl)) pa_nil))) (blkOk_by (own := [("place", 3)]) (N := n_word_places) (sc := defScope (top 23)) (by decide +kernel)) (fun _ _ _ _ _ => pg_name (i := 3) sc_word_places.nd rfl (Or.inl rfl)) (fun _ _ _ _ _ => pts_nil) (fun _ _ _ _ _ => (pe_lst (pa_cons pe_int (pa_starK (K := K) rfl (pv 3) pa_nil))))))))) pss_nil)
    (pss_cons (ps_setLc (i := 2) (own := [("place", 3)]) (g := gName 3) rfl sc_word_places.nd rfl rfl (sw_true rfl rfl rfl (by decide +kernel)) (pi_list (pe_call G_word_places (hr.mono (by omega)) rfl T.word_places.m T.word_places.F.kp (b_word_places T) .nil pass0 (pa_cons (pe_ix ix_tup (pv 0) pe_int (fun _ _ => rfl)) pa_nil))) (blkOk_by (own := [("place", 3)]) (N := n_word_places) (sc := defScope (top 23)) (by decide +kernel)) (fun _ _ _ _ _ => pg_name (i := 3) sc_word_places.nd rfl (Or.inl rfl)) (fun _ _ _ _ _ => pts_nil) (fun _ _ _ _ _ => (pe_lst (pa_cons pe_int (pa_starK (K := K) rfl (pv 3) pa_nil)))))
    (pss_one (ps_ret (pe_ifExp (pt_cmpR op_eq (pe_ix ix_tup (pv 0) pe_int (fun _ _ => rfl)) pe_str (nomark _)) (pe_slice sl_list (pv 2) po_none (po_some (pe_un un_neg pe_int))) (pe_slice sl_list (pv 2) (po_some pe_int) po_none))))))), ?_⟩)
    · obtain ⟨v, t, rfl, _⟩ := h
      rfl
    · obtain ⟨v, t, rfl, ht, hc, hc1, q⟩ := h
      cases t with
      | wd =>
        obtain ⟨a, rfl, h⟩ := ht
        refine sq_yes (ans_tag rfl h rfl) ?_
        refine ⟨Nat.zero_le _, fun p hp => ⟨(by show 1 ≤ sizeLine; decide), fun r hr' => ?_⟩⟩
        exact q r _ [.ref p] ((same_new hp).trans (same_new hr')) (fresh_of (same_new hp) hr') upd_same ⟨⟨p, rfl, hp, by rw [upd_ne (ne_of_none upd_same hr')]; exact upd_same⟩, trivial⟩
      | pr b l r =>
        obtain ⟨a, u, z, rfl, h, hl, hr'⟩ := ht
        have hc' : 1 + l.count + r.count ≤ n + 1 := hc
        have hc2 : 1 + l.count + r.count ≤ 100 := hc1
        have wl := words_short (t := l) (by omega)
        have wr := words_short (t := r) (by omega)
        refine sq_skip (ans_tag rfl h (by cases b <;> rfl)) ?_
        refine sq_yes (ans_intag rfl h (T.sPAIRS H) rfl (by cases b <;> rfl)) ?_
        refine sq_asg (val_ix (val_var rfl) h at1 _ ⟨_, l, rfl, hl, by omega, by omega, fun r1 H1 us s1 n1 e1 a1 => ⟨r1, rfl, ⟨us, .of e1⟩, fun D hD => ?_⟩⟩)
        refine lc_pre (h := 1) (by exact (by decide : 3 < 4)) (el_star (by exact (by decide : 3 < 4)) fun _ _ _ q => q) e1 a1 hD wl.1 wl.2 fun H2 vs s2 e2 a2 => ?_
        have t2 := s1.trans s2
        refine ⟨_, rfl, val_ix (val_var rfl) (t2 _ _ h) at2 _ ⟨_, r, rfl, hr'.mono (.of t2), by omega, by omega, fun r3 H3 us3 s3 n3 e3 a3 => ⟨r3, rfl, ⟨us3, .of e3⟩, fun D4 hD4 => ?_⟩⟩⟩
        refine lc_pre (h := 2) (by exact (by decide : 3 < 4)) (el_star (by exact (by decide : 3 < 4)) fun _ _ _ q => q) e3 a3 hD4 wr.1 wr.2 fun H4 ws s4 e4 a4 => ?_
        have t3 := s3.trans s4
        have z2 := a2.length
        have z4 := a4.length
        rw [List.length_map] at z2 z4
        refine ⟨D, D4, vs, ws, rfl, rfl, t3 _ _ e2, e4, sz (by have := wl.1; have := wr.1; have h1 := l.width_le; have h2 := r.width_le; rw [Tr.words_len] at z2 z4; omega), fun p hp => ?_⟩
        have t4 := t2.trans t3
        refine q p _ (vs ++ ws) (t4.trans (same_new hp)) (fresh_of t4 hp) upd_same ?_
        refine AllP.mono (same_new hp) (((a2.mono t3).imp fun b hb => fresh_of s1 hb.1).append (a4.imp fun b hb => fresh_of (t2.trans s3) hb.1))
      | gv b k p =>
        obtain ⟨a, u, z, rfl, h, hk, hp⟩ := ht
        have hc' : 1 + p.count ≤ n + 1 := hc
        have hc2 : 1 + p.count ≤ 100 := hc1
        have wp := words_short (t := p) (by omega)
        refine sq_skip (ans_tag rfl h (by cases b <;> rfl)) ?_
        refine sq_skip (ans_intag rfl h (T.sPAIRS H) rfl (by cases b <;> rfl)) ?_
        refine sq_asg (val_ix (val_var rfl) h at2 _ ⟨_, p, rfl, hp, by omega, by omega, fun r1 H1 us s1 n1 e1 a1 => ⟨r1, rfl, ⟨us, .of e1⟩, fun D hD => ?_⟩⟩)
        refine lc_pre (h := 2) (by exact (by decide : 3 < 4)) (el_star (by exact (by decide : 3 < 4)) fun _ _ _ q => q) e1 a1 hD wp.1 wp.2 fun H2 vs s2 e2 a2 => ?_
        have t2 := s1.trans s2
        cases b with
        | true =>
          refine ans_tag rfl (t2 _ _ h) rfl _ (iteT ?_)
          refine ⟨_, rfl, 1, rfl, _, rfl, D, vs, rfl, .of e2, fun c hc => ?_⟩
          rw [cut_last]
          refine q c _ _ (t2.trans (same_new hc)) (fresh_of t2 hc) upd_same (AllP.mono (same_new hc) ?_)
          show AllP (fun a => H a = none) H2 vs.dropLast (p.words.map (2 :: ·)).dropLast
          rw [List.dropLast_eq_take, List.dropLast_eq_take, a2.length]
          exact AllP.take _ (a2.imp fun b hb => fresh_of s1 hb.1)
        | false =>
          refine ans_tag rfl (t2 _ _ h) rfl _ (iteF ?_)
          refine ⟨_, rfl, 1, rfl, D, vs, rfl, .of e2, fun c hc => ?_⟩
          rw [cut_tail]
          refine q c _ _ (t2.trans (same_new hc)) (fresh_of t2 hc) upd_same (AllP.mono (same_new hc) ?_)
          show AllP (fun a => H a = none) H2 (vs.drop 1) (p.words.map (2 :: ·)).tail
          rw [← List.drop_one]
          exact AllP.drop _ (a2.imp fun b hb => fresh_of s1 hb.1)
end
end WW
namespace WW
open PySem PySem.Spec PyProof.Rows L2
theorem sub_nil (t : Tr) : t.sub [] = some t := by cases t <;> rfl
theorem putAt_nil (t o : Tr) : t.putAt [] o = o := by cases t <;> rfl
theorem sub_cons {t r : Tr} {c : Nat} {s : List Nat} (h : t.sub (c :: s) = some r) : (∃ b l z, t = .pr b l z ∧ c = 1 ∧ l.sub s = some r) ∨ (∃ b l z, t = .pr b l z ∧ c = 2 ∧ z.sub s = some r) ∨ ∃ b k p, t = .gv b k p ∧ c = 2 ∧ p.sub s = some r := by
  cases t with
  | wd => simp [Tr.sub] at h
  | pr b l z =>
    by_cases e1 : c = 1
    · subst e1
      exact .inl ⟨b, l, z, rfl, rfl, h⟩
    · by_cases e2 : c = 2
      · subst e2
        exact .inr (.inl ⟨b, l, z, rfl, rfl, h⟩)
      · simp [Tr.sub, e1, e2] at h
  | gv b k p =>
    by_cases e2 : c = 2
    · subst e2
      exact .inr (.inr ⟨b, k, p, rfl, rfl, h⟩)
    · simp [Tr.sub, e2] at h
section
variable {P : Program} {w : World} {K : PySem.W.Frag} {mg : Str → Option Value} {base : Heap}
/-! ### part_at -/
def spPart : Sp := fun vs H Q _ => ∃ v t a s u, vs = [v, .ref a] ∧ RepT H t v ∧ H a = some (.lst (nlist s)) ∧ t.sub s = some u ∧ ∀ v', RepT H u v' → Q v' H
theorem ok_part_at (T : Top w K mg) : FnOk P w K mg base CX0 1 T.part_at.f T.part_at.fd ["reading", "place"] spPart := by
  refine T.part_at.F.ok sc_part_at (fun vs H Q E h => ?_) (fun cdv A outer s H vs Q E hr h => ⟨_, PSs.nox (pss_cons (ps_for PassesOwn.never rfl (pi_list (pv 1)) (pg_name (i := 2) sc_part_at.nd rfl (Or.inl rfl)) (pss_one (ps_set (i := 0) sc_part_at.nd rfl (Or.inl rfl) (pe_ix ix_tup (pv 0) (pv 2) (fun _ _ => rfl)))))
    (pss_one (ps_ret (pv 0)))), ?_⟩)
  · obtain ⟨v, t, a, s, u, rfl, _⟩ := h
    rfl
  · obtain ⟨v, t, a, s, u, rfl, ht, hs, hu, q⟩ := h
    refine ⟨_, rfl, a, rfl, ⟨_, .of hs⟩, ?_⟩
    refine for_list (xs := nlist s) (fun i σ H' => H' = H ∧ ∃ v r y, σ = [some v, some (.ref a), y] ∧ RepT H r v ∧ r.sub (s.drop i) = some u) ⟨rfl, v, t, none, rfl, ht, hu⟩ (fun i σ H' _ hP => by rw [hP.1]; exact .of hs) (fun i x σ H' hx hP => ?_) (fun σ H' hP => ?_)
    · obtain ⟨rfl, v, r, y, rfl, hr', hru⟩ := hP
      rw [nlist, List.getElem?_map] at hx
      cases e : s[i]? with
      | none => rw [e] at hx; cases hx
      | some c =>
        rw [e] at hx
        have ex : V.int (c : Int) = x := Option.some.inj hx
        subst ex
        have hi : i < s.length := (List.getElem?_eq_some_iff.mp e).1
        have ed : s.drop i = c :: s.drop (i + 1) := by
          rw [List.drop_eq_getElem_cons hi]
          rw [List.getElem?_eq_getElem hi] at e
          rw [Option.some.inj e]
        rw [ed] at hru
        rcases sub_cons hru with ⟨b, l, z, rfl, rfl, h⟩ | ⟨b, l, z, rfl, rfl, h⟩ | ⟨b, k, p, rfl, rfl, h⟩
        · obtain ⟨a', y1, y2, rfl, ha, h1, h2⟩ := hr'
          exact ⟨_, rfl, _, rfl, a', _, 1, y1, rfl, rfl, .of ha, at1, rfl, y1, l, _, rfl, h1, h⟩
        · obtain ⟨a', y1, y2, rfl, ha, h1, h2⟩ := hr'
          exact ⟨_, rfl, _, rfl, a', _, 2, y2, rfl, rfl, .of ha, at2, rfl, y2, z, _, rfl, h2, h⟩
        · obtain ⟨a', y1, y2, rfl, ha, h1, h2⟩ := hr'
          exact ⟨_, rfl, _, rfl, a', _, 2, y2, rfl, rfl, .of ha, at2, rfl, y2, p, _, rfl, h2, h⟩
    · obtain ⟨rfl, v, r, y, rfl, hr', hru⟩ := hP
      rw [nlist_len, List.drop_length, sub_nil] at hru
      have e : r = u := Option.some.inj hru
      subst e
      exact ⟨_, rfl, q v hr'⟩
/-! ### put_at -/
theorem val_len {σ : L2.St} {H : Hp} {ta : TE} {p : Addr} {ys : List V} (ha : Val ta σ H (.ref p)) (h : H p = some (.lst ys)) : Val (tCB (fun xs H Q => ∃ p ys, xs = [.ref p] ∧ (SqL K H p ys ∨ SqT K H p ys) ∧ Q (.int ys.length) H) (tCons ta tNil)) σ H (.int (ys.length : Nat)) := by
  intro Q q
  refine ha _ ?_
  exact ⟨p, ys, rfl, .inl (.of h), q⟩
def spPutAt (n : Nat) : Sp := fun vs H Q _ => ∃ v t a s z o, vs = [v, .ref a, z] ∧ RepT H t v ∧ H a = some (.lst (nlist s)) ∧ RepT H o z ∧ (∃ u, t.sub s = some u) ∧ s.length < n ∧ ∀ v' H', Same H H' → RepT H' (t.putAt s o) v' → Q v' H'
theorem ok_put_at (T : Top w K mg) : ∀ n, FnOk P w K mg base CX0 n T.put_at.f T.put_at.fd ["reading", "place", "other"] (spPutAt n)
  | 0 => fn_never fun vs H Q E ⟨v, t, a, s, z, o, _, _, _, _, _, h, _⟩ => by omega
  | n + 1 => by
    have G_put_at := ok_put_at T n
    refine T.put_at.F.ok sc_put_at (fun vs H Q E h => ?_) (fun cdv A outer s H vs Q E hr h => ⟨_, PSs.nox (pss_cons (ps_if (pt_cmpR op_eq (pe_callB call_len_seq rfl T.z_len PySem.boot_len (pa_cons (pv 1) pa_nil)) pe_int (nomark _)) (pss_one (ps_ret (pv 2))) pss_nil)
    (pss_cons (ps_set (i := 3) sc_put_at.nd rfl (Or.inl rfl) (pe_callTy call_list_of rfl T.z_list (by decide +kernel) (pa_cons (pv 0) pa_nil)))
    (pss_cons (ps_asg (pe_call G_put_at (hr.mono (by omega)) rfl T.put_at.m T.put_at.F.kp (b_put_at T) .nil pass0 (pa_cons (pe_ix ix_list (pv 3) (pe_ix ix_list (pv 1) pe_int (fun _ _ => rfl)) (fun _ _ => rfl)) (pa_cons (pe_slice sl_list (pv 1) (po_some pe_int) po_none) (pa_cons (pv 2) pa_nil)))) (pg_sub (pv 3) (pe_ix ix_list (pv 1) pe_int (fun _ _ => rfl)) set_list))
    (pss_one (ps_ret (pe_callTy call_tuple_of rfl T.z_tuple (by decide +kernel) (pa_cons (pv 3) pa_nil))))))), ?_⟩)
    · obtain ⟨v, t, a, s, z, o, rfl, _⟩ := h
      rfl
    · obtain ⟨v, t, a, s, z, o, rfl, ht, hs, ho, ⟨u, hu⟩, hn, q⟩ := h
      cases s with
      | nil =>
        refine sq_yes (ans_eq (val_len (val_var rfl) hs) val_c rfl rfl) ?_
        exact ⟨_, rfl, q z H (Same.refl H) (by rw [putAt_nil]; exact ho)⟩
      | cons c s =>
        refine sq_skip (ans_eq (val_len (val_var rfl) hs) val_c rfl ?_) ?_
        · refine decide_eq_false fun e => ?_
          have e2 := V.int.inj e
          rw [nlist_len, List.length_cons] at e2
          omega
        have hn' : s.length + 1 < n + 1 := hn
        obtain ⟨a0, xs, y, r, rfl, h0, hy, hr0, hru, hl, qq⟩ : ∃ (a0 : Addr) (xs : List V) (y : V) (r : Tr), v = .ref a0 ∧ H a0 = some (.tup xs) ∧ xs[c]? = some y ∧ RepT H r y ∧ r.sub s = some u ∧ xs.length = 3 ∧
            (∀ v' H' p, Same H H' → RepT H' (r.putAt s o) v' → H' p = some (.tup (xs.set c v')) → Q (.ref p) H') := by
          rcases sub_cons hu with ⟨b, l, r, rfl, rfl, h⟩ | ⟨b, l, r, rfl, rfl, h⟩ | ⟨b, k, p, rfl, rfl, h⟩
          · obtain ⟨a', y1, y2, rfl, ha, h1, h2⟩ := ht
            exact ⟨a', _, y1, l, rfl, ha, rfl, h1, h, rfl, fun v' H' p s hv hp => q _ H' s ⟨p, v', y2, rfl, hp, hv, h2.mono (.of s)⟩⟩
          · obtain ⟨a', y1, y2, rfl, ha, h1, h2⟩ := ht
            exact ⟨a', _, y2, r, rfl, ha, rfl, h2, h, rfl, fun v' H' p s hv hp => q _ H' s ⟨p, y1, v', rfl, hp, h1.mono (.of s), hv⟩⟩
          · obtain ⟨a', y1, y2, rfl, ha, h1, h2⟩ := ht
            exact ⟨a', _, y2, p, rfl, ha, rfl, h2, h, rfl, fun v' H' p s hv hp => q _ H' s ⟨p, y1, v', rfl, hp, h1.mono (.of s), hv⟩⟩
        refine sq_asg ⟨_, rfl, a0, xs, rfl, .inr (.of h0), fun l hl0 => ?_⟩
        have s1 := same_new (o := .lst xs) hl0
        have ea : (upd H l (.lst xs)) a = some (.lst (nlist (c :: s))) := s1 _ _ hs
        have hc : c < 3 := by
          have := (List.getElem?_eq_some_iff.mp hy).1
          omega
        refine ⟨_, rfl, ⟨_, rfl, a, _, 0, _, rfl, rfl, .of ea, at0, l, xs, c, y, rfl, rfl, .of upd_same, atI_nat hy, ?_⟩⟩
        refine ⟨_, rfl, 1, rfl, a, _, rfl, .of ea, fun b hb => ?_⟩
        rw [cut_tail]
        have s2 := same_new (o := .lst (nlist s)) hb
        refine ⟨_, rfl, y, r, b, s, z, o, rfl, hr0.mono (.of (s1.trans s2)), upd_same, ho.mono (.of (s1.trans s2)), ⟨u, hru⟩, by omega, fun v' H' s3 hv => ?_⟩
        have t3 := s2.trans s3
        have el : H' l = some (.lst xs) := t3 _ _ upd_same
        refine ⟨_, rfl, ⟨_, rfl, a, _, 0, _, rfl, rfl, .of (t3 _ _ ea), at0, l, xs, c, c, rfl, rfl, el, ?_, ?_⟩⟩
        · unfold ixN
          rw [if_pos (by omega), if_pos (by omega)]
          congr 1
        refine ⟨_, rfl, l, _, rfl, .inl ⟨.of upd_same, fun p hp => ?_⟩⟩
        have k4 : KT H' (upd (upd H' l (.lst (xs.set c v'))) p (.tup (xs.set c v'))) := (kt_lst el).trans (kt_new hp)
        exact qq v' _ p ((Same.mut (s1.trans t3) hl0).trans (same_new hp)) (hv.mono k4) upd_same
end
end WW
namespace WW
open PySem PySem.Spec PyProof.Rows L2
theorem at_last {α : Type} {xs : List α} {v : α} (h : xs[xs.length - 1]? = some v) : atI xs (-1) = some v := by
  have hl := (List.getElem?_eq_some_iff.mp h).1
  have e : xs = xs.dropLast ++ [v] := by
    have h2 : xs ≠ [] := fun z => by
      rw [z] at hl
      exact absurd hl (Nat.not_lt_zero _)
    have h3 := (List.dropLast_concat_getLast h2).symm
    have h4 : xs.getLast h2 = v := by
      rw [List.getLast_eq_getElem]
      rw [List.getElem?_eq_getElem hl] at h
      exact Option.some.inj h
    rw [h4] at h3
    exact h3
  rw [e]
  exact atI_last _ _
theorem AllP.at {N : Addr → Prop} {H : Hp} {us : List V} {ps : List (List Nat)} {i : Nat} {s : List Nat} (h : AllP N H us ps) (e : ps[i]? = some s) : ∃ a, us[i]? = some (.ref a) ∧ N a ∧ H a = some (.lst (nlist s)) := by
  have hi := (List.getElem?_eq_some_iff.mp e).1
  have hl := h.length
  have hu : us[i]? = some (us[i]'(by omega)) := List.getElem?_eq_getElem (by omega)
  obtain ⟨s', a, e1, e2, e3, e4⟩ := h.get hu
  rw [e] at e1
  have e5 : s = s' := Option.some.inj e1
  rw [← e5] at e4
  exact ⟨a, by rw [hu, e2], e3, e4⟩
theorem sq_for {wi : TI} {g : TG} {tb u : TS} {D : Ends} {σ : L2.St} {H : Hp} (q : wi σ H fun J H1 => ∃ W : Nat → Nat → L2.St → Hp → Prop, (∃ m, W 0 m σ H1) ∧ ∀ i m σ H, W i m σ H →
  (J.stop i H ∧ ({ D with nx := u D } : Ends).nx σ H) ∨ (J.go i H ∧ ∃ N : L2.St → Hp → Prop, (∀ σ' H', N σ' H' → ∃ m', m' < m ∧ W (i + 1) m' σ' H') ∧ ∀ x H', J.yld i H x H' → g x σ H' fun σ2 H2 => tb { ({ D with nx := u D } : Ends) with nx := N, ct := N, bk := ({ D with nx := u D } : Ends).nx } σ2 H2)) : tSeq (tFor wi g tb) u D σ H := q
theorem nx_of {f : L2.St → Hp → Prop} {rt : VK} {bk ct : L2.St → Hp → Prop} {σ : L2.St} {H : Hp} (q : f σ H) : ({ nx := f, rt := rt, bk := bk, ct := ct } : Ends).nx σ H := q
theorem found0 {tc : TE} {σ : L2.St} {H : Hp} {Q : VK} {b : Bool} (hc : ∀ Q' : VK, Q' (.bl b) H → tc σ H Q')
    (q : ∀ F H1 acc, Same H H1 → H F = none → H1 F = some (.lst acc) → AllP (fun a => H a = none ∧ a ≠ F) H1 acc (if b = true then [[]] else []) → Q (.ref F) H1) :
    tIf (tB tc) (tLst (tCons (tLst tNil) tNil)) (tLst tNil) σ H Q := by
  refine hc _ ⟨b, rfl, ?_⟩
  cases b with
  | true =>
    refine itY rfl ⟨Nat.zero_le _, fun p hp => ⟨(by show 1 ≤ sizeLine; decide), fun F hF => ?_⟩⟩
    have ne : p ≠ F := ne_of_none upd_same hF
    exact q F _ [.ref p] ((same_new hp).trans (same_new hF)) (fresh_of (same_new hp) hF) upd_same ⟨⟨p, rfl, ⟨hp, ne⟩, by rw [upd_ne ne]; exact upd_same⟩, trivial⟩
  | false =>
    refine itN Bool.false_ne_true ⟨Nat.zero_le _, fun F hF => ?_⟩
    exact q F _ [] (same_new hF) hF upd_same trivial
section
variable {P : Program} {w : World} {K : PySem.W.Frag} {mg : Str → Option Value} {base : Heap}
/-! ### step_made -/
def spMade : Sp := fun vs H Q _ => ∃ v t, vs = [v] ∧ RepT H t v ∧ t.red = true ∧ t.WF ∧ t.count ≤ 100 ∧ ∀ v' H', Same H H' → RepT H' t.made v' → Q v' H'
theorem ok_step_made (T : Top w K mg) : FnOk P w K mg base CX0 102 T.step_made.f T.step_made.fd ["reading"] spMade := by
  have G_word_places : FnOk P w K mg base CX0 _ _ _ _ _ := ok_word_places T 100
  have G_put_at : FnOk P w K mg base CX0 _ _ _ _ _ := ok_put_at T 101
  refine T.step_made.F.ok sc_step_made (fun vs H Q E h => ?_) (fun cdv A outer s H vs Q E hr h => ⟨_, PSs.nox (pss_cons (ps_if (pt_cmpR op_eq (pe_ix ix_tup (pv 0) pe_int (fun _ _ => rfl)) pe_str (nomark _)) (pss_cons (ps_set (i := 1) sc_step_made.nd rfl (Or.inl rfl) (pe_ix ix_tup (pe_ix ix_tup (pv 0) pe_int (fun _ _ => rfl)) pe_int (fun _ _ => rfl)))
    (pss_one (ps_ret (pe_call G_put_at (hr.mono (by omega)) rfl T.put_at.m T.put_at.F.kp (b_put_at T) .nil pass0 (pa_cons (pv 1) (pa_cons (pe_ix ix_list (pe_call G_word_places (hr.mono (by omega)) rfl T.word_places.m T.word_places.F.kp (b_word_places T) .nil pass0 (pa_cons (pv 1) pa_nil)) (pe_un un_neg pe_int) (fun _ _ => rfl)) (pa_cons (pe_ix ix_tup (pv 0) pe_int (fun _ _ => rfl)) pa_nil))))))) pss_nil)
    (pss_cons (ps_set (i := 1) sc_step_made.nd rfl (Or.inl rfl) (pe_ix ix_tup (pe_ix ix_tup (pv 0) pe_int (fun _ _ => rfl)) pe_int (fun _ _ => rfl)))
    (pss_one (ps_ret (pe_call G_put_at (hr.mono (by omega)) rfl T.put_at.m T.put_at.F.kp (b_put_at T) .nil pass0 (pa_cons (pv 1) (pa_cons (pe_ix ix_list (pe_call G_word_places (hr.mono (by omega)) rfl T.word_places.m T.word_places.F.kp (b_word_places T) .nil pass0 (pa_cons (pv 1) pa_nil)) pe_int (fun _ _ => rfl)) (pa_cons (pe_ix ix_tup (pv 0) pe_int (fun _ _ => rfl)) pa_nil)))))))), ?_⟩)
  · obtain ⟨v, t, rfl, _⟩ := h
    rfl
  · obtain ⟨v, t, rfl, ht, hred, hw, hc, q⟩ := h
    rcases Tr.red_of hred with ⟨k, p, r, rfl⟩ | ⟨k, p, r, rfl⟩
    · obtain ⟨a, u, z, rfl, h, ⟨a2, k2, p2, rfl, h2, hk, hp⟩, hz⟩ := ht
      have hc' : 1 + (1 + p.count) + r.count ≤ 100 := hc
      have hwp : p.WF := hw.1.1
      have hw2 : 2 ≤ p.width := hw.1.2
      refine sq_yes (ans_tag rfl h rfl) ?_
      refine sq_set (val_ix (val_ix (val_var rfl) h at1) h2 at2) ?_
      refine ⟨_, rfl, ⟨_, rfl, _, p, rfl, hp, by omega, by omega, fun r1 H1 us s1 n1 e1 a1 => ⟨1, rfl, ?_⟩⟩⟩
      have hl := a1.length
      rw [Tr.words_len] at hl
      have hwl : p.words.length = p.width := Tr.words_len
      have hsl : p.words[p.width - 1]? = some (p.words[p.width - 1]'(by omega)) := List.getElem?_eq_getElem (by omega)
      obtain ⟨b, hb1, hb2, hb3⟩ := a1.at hsl
      have wp := Tr.words_put hsl
      refine ⟨r1, us, _, .ref b, rfl, rfl, .of e1, at_last (by rw [hl]; exact hb1), ?_⟩
      refine val_ix (val_var rfl) (s1 _ _ h) at2 _ ⟨_, p, b, _, _, r, rfl, hp.mono (.of s1), hb3, hz.mono (.of s1), ⟨_, wp.2.1⟩, by have := wp.2.2; omega, fun v' H' s2 hv => q v' H' (s1.trans s2) ?_⟩
      rw [wp.1] at hv
      exact hv
    · obtain ⟨a, u, z, rfl, h, hz, ⟨a2, k2, p2, rfl, h2, hk, hp⟩⟩ := ht
      have hc' : 1 + r.count + (1 + p.count) ≤ 100 := hc
      have hwp : p.WF := hw.2.1
      have hw2 : 2 ≤ p.width := hw.2.2
      refine sq_skip (ans_tag rfl h rfl) ?_
      refine sq_set (val_ix (val_ix (val_var rfl) h at2) h2 at2) ?_
      refine ⟨_, rfl, ⟨_, rfl, _, p, rfl, hp, by omega, by omega, fun r1 H1 us s1 n1 e1 a1 => ?_⟩⟩
      have hwl : p.words.length = p.width := Tr.words_len
      have hsl : p.words[0]? = some (p.words[0]'(by omega)) := List.getElem?_eq_getElem (by omega)
      obtain ⟨b, hb1, hb2, hb3⟩ := a1.at hsl
      have wp := Tr.words_put hsl
      refine ⟨r1, us, _, .ref b, rfl, rfl, .of e1, atI_nat (j := 0) hb1, ?_⟩
      refine val_ix (val_var rfl) (s1 _ _ h) at1 _ ⟨_, p, b, _, _, r, rfl, hp.mono (.of s1), hb3, hz.mono (.of s1), ⟨_, wp.2.1⟩, by have := wp.2.2; omega, fun v' H' s2 hv => q v' H' (s1.trans s2) ?_⟩
      rw [wp.1] at hv
      exact hv
/-! ### step_places -/
def spPlaces (n : Nat) : Sp := fun vs H Q _ => ∃ v t, vs = [v] ∧ RepT H t v ∧ t.count ≤ n ∧ t.count ≤ 100 ∧ NewP H t.places Q
theorem places_small {t : Tr} (h : t.count ≤ 100) : t.places.length ≤ 900 ∧ ∀ s ∈ t.places, s.length ≤ 900 :=
  ⟨by have := t.places_len; omega, fun s hs => by have := (Tr.places_short hs).1; omega⟩
theorem ok_step_places (T : Top w K mg) : ∀ n, FnOk P w K mg base CX0 (n + 1) T.step_places.f T.step_places.fd ["reading"] (spPlaces n)
  | 0 => fn_never fun vs H Q E ⟨v, t, _, _, h, _⟩ => by
    have := t.count_pos
    omega
  | n + 1 => by
    have G_step_places := ok_step_places T n
    have G_can_step : FnOk P w K mg base CX0 _ _ _ _ _ := ok_can_step T
    refine T.step_places.F.ok sc_step_places (fun vs H Q E h => ?_) (fun cdv A outer s H vs Q E hr h => ⟨_, PSs.nox (pss_cons (ps_if (pt_cmpR op_eq (pe_ix ix_tup (pv 0) pe_int (fun _ _ => rfl)) pe_str (nomark _)) (pss_one (ps_ret (pe_lst pa_nil))) pss_nil)
    (pss_cons (ps_set (i := 1) sc_step_places.nd rfl (Or.inl rfl) (pe_ifExp (pt_val (pe_call G_can_step (hr.mono (by omega)) rfl T.can_step.m T.can_step.F.kp (b_can_step T) .nil pass0 (pa_cons (pv 0) pa_nil))) (pe_lst (pa_cons (pe_lst pa_nil) pa_nil)) (pe_lst pa_nil)))
    (pss_cons (ps_for PassesOwn.never rfl (pi_tup (pe_ifExp (pt_cmpR op_in_seq (pe_ix ix_tup (pv 0) pe_int (fun _ _ => rfl)) (pe_glob (v := .ref T.aPAIRS) rfl T.mPAIRS rfl) (by rfl)) (pe_tup (pa_cons pe_int (pa_cons pe_int pa_nil))) (pe_tup (pa_cons pe_int pa_nil)))) (pg_name (i := 2) sc_step_places.nd rfl (Or.inr rfl)) (pss_one (ps_expr (pe_bm PySem.F.plainAttrs_list PySem.F.slot_list_extend PySem.F.type_list_extend mt_extend (pv 1) (pa_cons (pe_lc (own := [("place", 3)]) (g := gName 3) rfl sc_step_places.nd (pi_list (pe_call G_step_places (hr.mono (by omega)) rfl T.step_places.m T.step_places.F.kp (b_step_places T) .nil pass0 (pa_cons (pe_ix ix_tup (pv 0) (pv 2) (fun _ _ => rfl)) pa_nil))) (blkOk_by (own := [("place", 3)]) (N := n_step_places) (sc := defScope (top 28)) (by decide +kernel)) (fun _ _ _ _ _ => pg_name (i := 3) sc_step_places.nd rfl (Or.inl rfl)) (fun _ _ _ _ _ => pts_nil) (fun _ _ _ _ _ => (pe_lst (pa_cons (pv 2) (pa_starK (K := K) rfl (pv 3) pa_nil))))) pa_nil)))))
    (pss_one (ps_ret (pv 1)))))), ?_⟩)
    · obtain ⟨v, t, rfl, _⟩ := h
      rfl
    · obtain ⟨v, t, rfl, ht, hc, hc1, q⟩ := h
      cases t with
      | wd =>
        obtain ⟨a, rfl, h⟩ := ht
        refine sq_yes (ans_tag rfl h rfl) ?_
        exact ⟨Nat.zero_le _, fun p hp => q p _ [] (same_new hp) hp upd_same trivial⟩
      | pr b l r =>
        have ht0 := ht
        obtain ⟨a, u, z, rfl, h, hl, hr'⟩ := ht
        have hc' : 1 + l.count + r.count ≤ n + 1 := hc
        have hc2 : 1 + l.count + r.count ≤ 100 := hc1
        refine sq_skip (ans_tag rfl h (by cases b <;> rfl)) ?_
        refine sq_asg (found0 (b := (Tr.pr b l r).red) (fun Q' q' => ⟨_, rfl, _, _, rfl, ht0, q'⟩) fun F H0 acc0 s0 nF e0 a0 => ?_)
        refine sq_for (ans_intag rfl (s0 _ _ h) (T.sPAIRS H0) rfl (by cases b <;> rfl) _ (iteT ⟨(by show 2 ≤ sizeLine; decide), fun tp htp => ⟨tp, rfl, ⟨_, .of upd_same⟩, ?_⟩⟩))
        refine for_tup (xs := [.int 1, .int 2]) (fun j σ H' => Same H H' ∧ H' tp = some (.tup [.int 1, .int 2]) ∧ ∃ acc y, σ = [some (.ref a), some (.ref F), y, none] ∧ H' F = some (.lst acc) ∧
            AllP (fun c => H c = none ∧ c ≠ F) H' acc ((if (Tr.pr b l r).red = true then [[]] else []) ++ (if j = 0 then [] else if j = 1 then l.places.map (1 :: ·) else l.places.map (1 :: ·) ++ r.places.map (2 :: ·))))
          ⟨s0.trans (same_new htp), upd_same, acc0, none, rfl, ?_, ?_⟩ (fun i σ H' _ hP => .of hP.2.1) (fun j x σ H' hx hP => ?_) (fun σ H' hP => ?_)
        · rw [upd_ne (ne_of_none e0 htp)]
          exact e0
        · rw [if_pos rfl, List.append_nil]
          exact a0.mono (same_new htp)
        · obtain ⟨s1, e1, acc, y, rfl, eF, al⟩ := hP
          obtain ⟨c, v, t, rfl, hat, hv, hcn, hc3, hpl⟩ : ∃ (c : Nat) (v : V) (t : Tr), x = .int (c : Int) ∧ [V.str (SB b), u, z][c]? = some v ∧ RepT H t v ∧ t.count ≤ n ∧ t.count ≤ 100 ∧
              ((if j + 1 = 0 then [] else if j + 1 = 1 then l.places.map (1 :: ·) else l.places.map (1 :: ·) ++ r.places.map (2 :: ·)) = (if j = 0 then [] else if j = 1 then l.places.map (1 :: ·) else l.places.map (1 :: ·) ++ r.places.map (2 :: ·)) ++ t.places.map (c :: ·)) := by
            match j, hx with
            | 0, hx =>
              have e : V.int 1 = x := Option.some.inj hx
              exact ⟨1, u, l, e.symm, rfl, hl, by omega, by omega, rfl⟩
            | 1, hx =>
              have e : V.int 2 = x := Option.some.inj hx
              exact ⟨2, z, r, e.symm, rfl, hr', by omega, by omega, rfl⟩
            | j + 2, hx => simp at hx
          have ps := places_small (t := t) (by omega)
          rw [hpl]
          refine ⟨_, rfl, .inl ⟨rfl, _, .of eF⟩, ⟨_, rfl, _, rfl, a, _, _, v, rfl, rfl, .of (s1 _ _ h), atI_nat hat, _, t, rfl, hv.mono (.of s1), hcn, by omega, fun r1 H1 us s2 n1 e2 a2 => ⟨r1, rfl, ⟨us, .of e2⟩, fun D hD => ?_⟩⟩⟩
          refine lc_pre (h := c) (by exact (by decide : 3 < 4)) (el_star (by exact (by decide : 3 < 4)) fun x H Q q => ⟨_, rfl, q⟩) e2 a2 hD ps.1 ps.2 fun H2 ws s3 e3 a3 => ?_
          have t3 := s2.trans s3
          have z1 := al.length
          have z3 := a3.length
          rw [List.length_map] at z3
          have lim : acc.length ≤ 400 := by
            rw [z1, List.length_append]
            have h1 := l.places_len
            have h2 := r.places_len
            have h3 : (if (Tr.pr b l r).red = true then ([[]] : List (List Nat)) else []).length ≤ 1 := by split <;> simp
            have h4 : (if j = 0 then [] else if j = 1 then l.places.map (1 :: ·) else l.places.map (1 :: ·) ++ r.places.map (2 :: ·)).length ≤ l.places.length + r.places.length := by
              split
              · simp
              · split
                · rw [List.length_map]; omega
                · rw [List.length_append, List.length_map, List.length_map]; omega
            omega
          have hpl2 := t.places_len
          refine ⟨F, D, acc, ws, rfl, rfl, t3 _ _ eF, e3, sz (by omega), Same.mut (s1.trans t3) nF, ?_, acc ++ ws, _, rfl, upd_same, ?_⟩
          · rw [upd_ne (ne_of e1 eF (by intro z; cases z))]
            exact t3 _ _ e1
          · rw [← List.append_assoc]
            refine ((al.mono t3).upd fun c hc => hc.2).append (AllP.upd (fun c hc => hc.2) (a3.imp fun c hc => ⟨?_, ?_⟩))
            · exact fresh_of (s1.trans s2) hc.1
            · exact fr_ne hc.1 (s2 _ _ eF)
        · obtain ⟨s1, e1, acc, y, rfl, eF, al⟩ := hP
          refine ⟨_, rfl, q F H' acc s1 nF eF ?_⟩
          exact al.imp fun c hc => hc.1
      | gv b k p =>
        have ht0 := ht
        obtain ⟨a, u, z, rfl, h, hk, hp⟩ := ht
        have hc' : 1 + p.count ≤ n + 1 := hc
        have hc2 : 1 + p.count ≤ 100 := hc1
        refine sq_skip (ans_tag rfl h (by cases b <;> rfl)) ?_
        refine sq_asg (found0 (b := false) (fun Q' q' => ⟨_, rfl, _, _, rfl, ht0, q'⟩) fun F H0 acc0 s0 nF e0 a0 => ?_)
        refine sq_for (ans_intag rfl (s0 _ _ h) (T.sPAIRS H0) rfl (by cases b <;> rfl) _ (iteF ⟨(by show 1 ≤ sizeLine; decide), fun tp htp => ⟨tp, rfl, ⟨_, .of upd_same⟩, ?_⟩⟩))
        have ps := places_small (t := p) (by omega)
        refine for_tup (xs := [.int 2]) (fun j σ H' => Same H H' ∧ H' tp = some (.tup [.int 2]) ∧ ∃ acc y, σ = [some (.ref a), some (.ref F), y, none] ∧ H' F = some (.lst acc) ∧ AllP (fun c => H c = none ∧ c ≠ F) H' acc (if j = 0 then [] else p.places.map (2 :: ·)))
          ⟨s0.trans (same_new htp), upd_same, acc0, none, rfl, ?_, ?_⟩ (fun i σ H' _ hP => .of hP.2.1) (fun j x σ H' hx hP => ?_) (fun σ H' hP => ?_)
        · rw [upd_ne (ne_of_none e0 htp)]
          exact e0
        · exact a0.mono (same_new htp)
        · obtain ⟨s1, e1, acc, y, rfl, eF, al⟩ := hP
          match j, hx with
          | 0, hx =>
            have ex : V.int 2 = x := Option.some.inj hx
            subst ex
            have z0 := al.length
            refine ⟨_, rfl, .inl ⟨rfl, _, .of eF⟩, ⟨_, rfl, _, rfl, a, _, 2, z, rfl, rfl, .of (s1 _ _ h), at2, _, p, rfl, hp.mono (.of s1), by omega, by omega, fun r1 H1 us s2 n1 e2 a2 => ⟨r1, rfl, ⟨us, .of e2⟩, fun D hD => ?_⟩⟩⟩
            refine lc_pre (h := 2) (by exact (by decide : 3 < 4)) (el_star (by exact (by decide : 3 < 4)) fun x H Q q => ⟨_, rfl, q⟩) e2 a2 hD ps.1 ps.2 fun H2 ws s3 e3 a3 => ?_
            have t3 := s2.trans s3
            have z3 := a3.length
            rw [List.length_map] at z3
            have hz : acc = [] := List.eq_nil_of_length_eq_zero z0
            subst hz
            refine ⟨F, D, [], ws, rfl, rfl, t3 _ _ eF, e3, by rw [List.length_nil]; exact sz (by have := ps.1; omega), Same.mut (s1.trans t3) nF, ?_, ws, _, rfl, upd_same, ?_⟩
            · rw [upd_ne (ne_of e1 eF (by intro z; cases z))]
              exact t3 _ _ e1
            · refine AllP.upd (fun c hc => hc.2) (a3.imp fun c hc => ⟨?_, ?_⟩)
              · exact fresh_of (s1.trans s2) hc.1
              · exact fr_ne hc.1 (s2 _ _ eF)
          | j + 1, hx => simp at hx
        · obtain ⟨s1, e1, acc, y, rfl, eF, al⟩ := hP
          refine ⟨_, rfl, q F H' acc s1 nF eF ?_⟩
          exact al.imp fun c hc => hc.1
/-! ### short_of -/
/-- a short reading to which it comes -/
def ShortOf (t u : Tr) : Prop := u.places = [] ∧ ∃ m, Tr.Steps m t u
def spShort (n : Nat) : Sp := fun vs H Q _ => ∃ v t, vs = [v] ∧ RepT H t v ∧ t.WF ∧ t.count ≤ n ∧ t.count ≤ 100 ∧ ∀ v' H' u, Same H H' → RepT H' u v' → ShortOf t u → Q v' H'
theorem ok_short_of (T : Top w K mg) : ∀ n, FnOk P w K mg base CX0 (n + 102) T.short_of.f T.short_of.fd ["reading"] (spShort n)
  | 0 => fn_never fun vs H Q E ⟨v, t, _, _, _, h, _⟩ => by
    have := t.count_pos
    omega
  | n + 1 => by
    have G_short_of := ok_short_of T n
    have G_can_step : FnOk P w K mg base CX0 _ _ _ _ _ := ok_can_step T
    have G_step_made : FnOk P w K mg base CX0 _ _ _ _ _ := ok_step_made T
    refine T.short_of.F.ok sc_short_of (fun vs H Q E h => ?_) (fun cdv A outer s H vs Q E hr h => ⟨_, PSs.nox (pss_cons (ps_if (pt_cmpR op_eq (pe_ix ix_tup (pv 0) pe_int (fun _ _ => rfl)) pe_str (nomark _)) (pss_one (ps_ret (pv 0))) pss_nil)
    (pss_cons (ps_if (pt_cmpR op_in_seq (pe_ix ix_tup (pv 0) pe_int (fun _ _ => rfl)) (pe_glob (v := .ref T.aGIVES) rfl T.mGIVES rfl) (by rfl)) (pss_one (ps_ret (pe_tup (pa_cons (pe_ix ix_tup (pv 0) pe_int (fun _ _ => rfl)) (pa_cons (pe_ix ix_tup (pv 0) pe_int (fun _ _ => rfl)) (pa_cons (pe_call G_short_of (hr.mono (by omega)) rfl T.short_of.m T.short_of.F.kp (b_short_of T) .nil pass0 (pa_cons (pe_ix ix_tup (pv 0) pe_int (fun _ _ => rfl)) pa_nil)) pa_nil)))))) pss_nil)
    (pss_cons (ps_set (i := 1) sc_short_of.nd rfl (Or.inl rfl) (pe_tup (pa_cons (pe_ix ix_tup (pv 0) pe_int (fun _ _ => rfl)) (pa_cons (pe_call G_short_of (hr.mono (by omega)) rfl T.short_of.m T.short_of.F.kp (b_short_of T) .nil pass0 (pa_cons (pe_ix ix_tup (pv 0) pe_int (fun _ _ => rfl)) pa_nil)) (pa_cons (pe_call G_short_of (hr.mono (by omega)) rfl T.short_of.m T.short_of.F.kp (b_short_of T) .nil pass0 (pa_cons (pe_ix ix_tup (pv 0) pe_int (fun _ _ => rfl)) pa_nil)) pa_nil)))))
    (pss_one (ps_ret (pe_ifExp (pt_val (pe_call G_can_step (hr.mono (by omega)) rfl T.can_step.m T.can_step.F.kp (b_can_step T) .nil pass0 (pa_cons (pv 1) pa_nil))) (pe_call G_short_of (hr.mono (by omega)) rfl T.short_of.m T.short_of.F.kp (b_short_of T) .nil pass0 (pa_cons (pe_call G_step_made (hr.mono (by omega)) rfl T.step_made.m T.step_made.F.kp (b_step_made T) .nil pass0 (pa_cons (pv 1) pa_nil)) pa_nil)) (pv 1))))))), ?_⟩)
    · obtain ⟨v, t, rfl, _⟩ := h
      rfl
    · obtain ⟨v, t, rfl, ht, hw, hc, hc1, q⟩ := h
      cases t with
      | wd =>
        have ht0 := ht
        obtain ⟨a, rfl, h⟩ := ht
        refine sq_yes (ans_tag rfl h rfl) ?_
        exact ⟨_, rfl, q _ H .wd (Same.refl H) ht0 ⟨rfl, 0, rfl⟩⟩
      | gv b k p =>
        obtain ⟨a, u, z, rfl, h, hk, hp⟩ := ht
        have hc' : 1 + p.count ≤ n + 1 := hc
        have hc2 : 1 + p.count ≤ 100 := hc1
        refine sq_skip (ans_tag rfl h (by cases b <;> rfl)) ?_
        refine sq_yes (ans_intag rfl h (T.sGIVES H) rfl (by cases b <;> rfl)) ?_
        refine val_ix (val_var rfl) h at0 _ (val_ix (val_var rfl) h at1 _ (val_ix (val_var rfl) h at2 _ ⟨_, p, rfl, hp, hw.1, by omega, by omega, fun v' H' x s1 hv hx => ⟨(by show 3 ≤ sizeLine; decide), fun r nr => ?_⟩⟩))
        refine q _ _ (.gv b k x) (s1.trans (same_new nr)) ⟨r, u, v', rfl, upd_same, hk.mono (.of (s1.trans (same_new nr))), hv.mono (kt_new nr)⟩ ⟨?_, ?_⟩
        · rw [Tr.places, hx.1]
          rfl
        · obtain ⟨_, m, hm⟩ := hx
          exact ⟨m, hm.g⟩
      | pr b l r =>
        obtain ⟨a, u, z, rfl, h, hl, hr'⟩ := ht
        have hc' : 1 + l.count + r.count ≤ n + 1 := hc
        have hc2 : 1 + l.count + r.count ≤ 100 := hc1
        refine sq_skip (ans_tag rfl h (by cases b <;> rfl)) ?_
        refine sq_skip (ans_intag rfl h (T.sGIVES H) rfl (by cases b <;> rfl)) ?_
        refine sq_asg (val_ix (val_var rfl) h at0 _ (val_ix (val_var rfl) h at1 _ ⟨_, l, rfl, hl, hw.1, by omega, by omega, fun v1 H1 x1 s1 hv1 hx1 => ?_⟩))
        refine val_ix (val_var rfl) (s1 _ _ h) at2 _ ⟨_, r, rfl, hr'.mono (.of s1), hw.2, by omega, by omega, fun v2 H2 x2 s2 hv2 hx2 => ⟨(by show 3 ≤ sizeLine; decide), fun p np => ?_⟩⟩
        obtain ⟨hp1, m1, hm1⟩ := hx1
        obtain ⟨hp2, m2, hm2⟩ := hx2
        have t3 := (s1.trans s2).trans (same_new (o := .tup [.str (SB b), v1, v2]) np)
        have hst : Tr.Steps (m1 + m2) (.pr b l r) (.pr b x1 x2) := (hm1.l).trans hm2.r
        have hwx := (hst.wf hw).1
        have hcx := hst.count
        have hcx2 : (Tr.pr b l r).count = 1 + l.count + r.count := rfl
        have hwhole : RepT (upd H2 p (.tup [.str (SB b), v1, v2])) (.pr b x1 x2) (.ref p) := ⟨p, v1, v2, rfl, upd_same, hv1.mono ((KT.of s2).trans (kt_new np)), hv2.mono (kt_new np)⟩
        refine ⟨_, rfl, _, _, rfl, hwhole, (Tr.pr b x1 x2).red, rfl, ?_⟩
        cases hred : (Tr.pr b x1 x2).red with
        | true =>
          refine itY rfl ⟨_, rfl, _, _, rfl, hwhole, hred, hwx, by omega, fun v3 H3 s3 hv3 => ?_⟩
          have st := Tr.step_made hred
          have cst := st.count
          refine ⟨_, _, rfl, hv3, (st.width hwx).2, by omega, by omega, fun v4 H4 x4 s4 hv4 hx4 => ?_⟩
          refine q v4 H4 x4 ((t3.trans s3).trans s4) hv4 ⟨hx4.1, ?_⟩
          obtain ⟨_, m4, hm4⟩ := hx4
          exact ⟨_, hst.trans ((Tr.Steps.one st).trans hm4)⟩
        | false =>
          refine itN Bool.false_ne_true ⟨_, rfl, q _ _ _ t3 hwhole ⟨?_, _, hst⟩⟩
          rw [Tr.places, hred, hp1, hp2]
          rfl
end
end WW
namespace WW
open PySem PySem.Spec PyProof.Rows L2
section
variable {P : Program} {w : World} {K : PySem.W.Frag} {mg : Str → Option Value} {base : Heap}
/-! ### check_single_kinds, check_shapes -/
def KsOk (ks : List Kd) : Prop := ∀ k ∈ ks, k.Ok ∧ k.deep ≤ 100
def spCsk : Sp := fun vs H Q _ => ∃ a us ks, vs = [.ref a] ∧ H a = some (.lst us) ∧ AllK H us ks ∧ KsOk ks ∧ Q .non H
theorem AllK.ok {H : Hp} {us : List V} {ks : List Kd} {i : Nat} {v : V} (h : AllK H us ks) (o : KsOk ks) (e : us[i]? = some v) : ∃ k, RepK H k v ∧ k.Ok ∧ k.deep ≤ 100 := by
  obtain ⟨k, e1, r⟩ := h.get e
  have := o k (List.mem_of_getElem? e1)
  exact ⟨k, r, this.1, this.2⟩
theorem ok_check_single_kinds (T : Top w K mg) : FnOk P w K mg base CX0 104 T.check_single_kinds.f T.check_single_kinds.fd ["kinds"] spCsk := by
  have G_is_single : FnOk P w K mg base CX0 _ _ _ _ _ := ok_is_single T 100
  refine T.check_single_kinds.F.ok sc_check_single_kinds (fun vs H Q E h => ?_) (fun cdv A outer s H vs Q E hr h => ⟨_, PSs.nox (pss_one (ps_for PassesOwn.never rfl (pi_list (pv 0)) (pg_name (i := 1) sc_check_single_kinds.nd rfl (Or.inl rfl)) (pss_one (ps_if (pt_not (pt_val (pe_call G_is_single (hr.mono (by omega)) rfl T.is_single.m T.is_single.F.kp (b_is_single T) .nil pass0 (pa_cons (pv 1) pa_nil)))) (pss_one ps_never) pss_nil)))), ?_⟩)
  · obtain ⟨a, us, ks, rfl, _⟩ := h
    rfl
  · obtain ⟨a, us, ks, rfl, ha, hk, ho, q⟩ := h
    refine ⟨_, rfl, a, rfl, ⟨_, .of ha⟩, ?_⟩
    refine for_list (xs := us) (fun i σ H' => H' = H ∧ ∃ y, σ = [some (.ref a), y]) ⟨rfl, none, rfl⟩ (fun i σ H' _ hP => by rw [hP.1]; exact .of ha) (fun i x σ H' hx hP => ?_) (fun σ H' hP => ?_)
    · obtain ⟨rfl, y, rfl⟩ := hP
      obtain ⟨k, hr1, ok, dk⟩ := hk.ok ho hx
      refine st_no (ans_not (b := true) fun Q' q' => ⟨_, rfl, _, k, rfl, hr1, ok, dk, true, rfl, q'⟩) ?_
      exact ⟨rfl, _, rfl⟩
    · rw [hP.1]
      exact q
def spShapes : Sp := fun vs H Q _ => ∃ a v t, vs = [.ref a] ∧ H a = some (.lst [v]) ∧ RepT H t v ∧ t.WF ∧ t.Gk 100 ∧ t.count ≤ 100 ∧ ∀ H', Same H H' → Q .non H'
theorem gk_ok {t : Tr} (h : t.Gk 100) : KsOk t.givens := fun k hk => by
  have this1 := Tr.givens_ok h k hk
  have := k.deep_le
  exact ⟨this1.1, by omega⟩
theorem ok_check_shapes (T : Top w K mg) : FnOk P w K mg base CX0 105 T.check_shapes.f T.check_shapes.fd ["readings"] spShapes := by
  have G_given_kinds : FnOk P w K mg base CX0 _ _ _ _ _ := ok_given_kinds T 100
  have G_checked_kind : FnOk P w K mg base CX0 _ _ _ _ _ := ok_checked_kind T 100
  have G_check_single_kinds : FnOk P w K mg base CX0 _ _ _ _ _ := ok_check_single_kinds T
  have G_checked_width : FnOk P w K mg base CX0 _ _ _ _ _ := ok_checked_width T 100
  refine T.check_shapes.F.ok sc_check_shapes (fun vs H Q E h => ?_) (fun cdv A outer s H vs Q E hr h => ⟨_, PSs.nox (pss_cons (ps_setLc2 (i := 3) (own := [("reading", 1), ("kind", 2)]) (vs1 := [2]) (g := gName 1) (g1 := gName 2) rfl sc_check_shapes.nd rfl rfl (sw_true rfl rfl rfl (by decide +kernel)) (pi_list (pv 0)) (blkOk_by (own := [("reading", 1), ("kind", 2)]) (N := n_check_shapes) (sc := defScope (top 22)) (by decide +kernel)) (by decide) (fun _ _ _ _ _ => pg_name (i := 1) sc_check_shapes.nd rfl (Or.inl rfl)) (fun _ _ _ _ _ => pts_nil) (fun _ _ _ _ _ => (pi_listK (K := K) rfl (pe_call G_given_kinds (hr.mono (by omega)) rfl T.given_kinds.m T.given_kinds.F.kp (b_given_kinds T) .nil pass0 (pa_cons (pv 1) pa_nil)))) (fun _ _ _ _ _ => pg_name (i := 2) sc_check_shapes.nd rfl (Or.inl rfl)) (fun _ _ _ _ _ => pts_nil) (fun _ _ _ _ _ => (pv 2)))
    (pss_cons (ps_for PassesOwn.never rfl (pi_list (pv 3)) (pg_name (i := 2) sc_check_shapes.nd rfl (Or.inl rfl)) (pss_one (ps_expr (pe_call G_checked_kind (hr.mono (by omega)) rfl T.checked_kind.m T.checked_kind.F.kp (b_checked_kind T) .nil pass0 (pa_cons (pv 2) pa_nil)))))
    (pss_cons (ps_expr (pe_call G_check_single_kinds (hr.mono (by omega)) rfl T.check_single_kinds.m T.check_single_kinds.F.kp (b_check_single_kinds T) .nil pass0 (pa_cons (pv 3) pa_nil)))
    (pss_one (ps_for PassesOwn.never rfl (pi_list (pv 0)) (pg_name (i := 1) sc_check_shapes.nd rfl (Or.inl rfl)) (pss_one (ps_expr (pe_call G_checked_width (hr.mono (by omega)) rfl T.checked_width.m T.checked_width.F.kp (b_checked_width T) .nil pass0 (pa_cons (pv 1) pa_nil))))))))), ?_⟩)
  · obtain ⟨a, v, t, rfl, _⟩ := h
    rfl
  · obtain ⟨a, v, t, rfl, ha, ht, hw, hg, hc, q⟩ := h
    have hko := gk_ok hg
    have hgl := t.givens_len
    refine sq_asg ⟨_, rfl, a, rfl, ⟨_, .of ha⟩, fun D hD => ?_⟩
    have sD := same_new (o := .lst []) hD
    refine ⟨fun i m H' => (i = 0 ∧ m = 1 ∧ H' = upd H D (.lst [])) ∨ (i = 1 ∧ m = 0 ∧ Same H H' ∧ ∃ us, H' D = some (.lst us) ∧ AllK H' us t.givens), ⟨1, .inl ⟨rfl, rfl, rfl⟩⟩, fun i m H' hW => ?_⟩
    rcases hW with ⟨rfl, rfl, rfl⟩ | ⟨rfl, rfl, s1, us, eD, al⟩
    · refine .inr ⟨⟨[v], v, .of (sD _ _ ha), rfl⟩, fun H' => Same H H' ∧ ∃ us, H' D = some (.lst us) ∧ AllK H' us t.givens, fun H' hN => ⟨0, by omega, .inr ⟨rfl, rfl, hN⟩⟩, fun x H' hy => ?_⟩
      obtain ⟨rfl, hy⟩ := hy
      have ex : v = x := Option.some.inj (hy [v] (.of (sD _ _ ha)))
      subst ex
      refine ⟨rfl, ⟨_, rfl, v, t, rfl, ht.mono (.of sD), by omega, hc, fun r1 H1 us s1 n1 e1 a1 => ⟨r1, rfl, ⟨us, .of e1⟩, ?_⟩⟩⟩
      have z1 := a1.length
      have ne : r1 ≠ D := fr_ne n1 upd_same
      refine ⟨fun j k H' => k + j = us.length ∧ Same H H' ∧ KT H1 H' ∧ H' r1 = some (.lst us) ∧ H' D = some (.lst (us.take j)), ⟨us.length, rfl, sD.trans s1, KT.refl _, e1, s1 _ _ upd_same⟩, fun j k H' hW => ?_⟩
      obtain ⟨ek, sm, kt, er, ed⟩ := hW
      by_cases hj : j < us.length
      · refine .inr ⟨⟨us, us[j], .of er, List.getElem?_eq_getElem hj⟩, fun H' => Same H H' ∧ KT H1 H' ∧ H' r1 = some (.lst us) ∧ H' D = some (.lst (us.take (j + 1))), fun H' hN => ⟨k - 1, by omega, by omega, hN⟩, fun x H'' hy => ?_⟩
        obtain ⟨rfl, hy⟩ := hy
        have ex := hy us (.of er)
        refine ⟨rfl, ⟨x, rfl, us.take j, ed, ?_, ?_, ?_, ?_, ?_⟩⟩
        · rw [List.length_take]
          exact small1000 (by omega)
        · exact Same.mut sm hD
        · exact kt.trans (kt_lst ed)
        · rw [upd_ne ne]
          exact er
        · rw [upd_same, List.take_add_one, ex]
          rfl
      · refine .inl ⟨⟨us, .of er, by omega⟩, sm, us, ?_, a1.mono kt⟩
        rw [ed, List.take_of_length_le (by omega)]
    · refine .inl ⟨⟨[v], .of (s1 _ _ ha), Nat.le_refl 1⟩, ?_⟩
      show tSeq (tFor _ _ _) _ _ _ _
      refine sq_for ?_
      refine ⟨_, rfl, D, rfl, ⟨_, .of eD⟩, ?_⟩
      refine for_list (xs := us) (fun i σ H2 => H2 = H' ∧ ∃ y, σ = [some (.ref a), none, y, some (.ref D)]) ⟨rfl, none, rfl⟩ (fun i σ H2 _ hP => by rw [hP.1]; exact .of eD) (fun i x σ H2 hx hP => ?_) (fun σ H2 hP => ?_)
      · obtain ⟨rfl, y, rfl⟩ := hP
        obtain ⟨k, hr1, ok, dk⟩ := al.ok hko hx
        exact ⟨_, rfl, _, k, rfl, hr1, ok, dk, rfl, _, rfl⟩
      · obtain ⟨rfl, y, rfl⟩ := hP
        refine nx_of ?_
        refine sq_drop ⟨_, rfl, D, us, t.givens, rfl, eD, al, hko, ?_⟩
        refine ⟨_, rfl, a, rfl, ⟨_, .of (s1 _ _ ha)⟩, ?_⟩
        refine for_list (xs := [v]) (fun i σ H3 => H3 = H2 ∧ ∃ y z, σ = [some (.ref a), y, z, some (.ref D)]) ⟨rfl, _, _, rfl⟩ (fun i σ H3 _ hP => by rw [hP.1]; exact .of (s1 _ _ ha)) (fun i x σ H3 hx hP => ?_) (fun σ H3 hP => ?_)
        · obtain ⟨rfl, y, z, rfl⟩ := hP
          have ex : v = x := by
            match i, hx with
            | 0, hx => exact Option.some.inj hx
            | i + 1, hx => simp at hx
          subst ex
          exact ⟨_, rfl, _, t, rfl, ht.mono (.of s1), hw, hc, rfl, _, _, rfl⟩
        · rw [hP.1]
          exact q H2 s1
/-! ### the interface -/
def TrOk (t : Tr) : Prop := t.WF ∧ t.Gk 100 ∧ t.count ≤ 100
def spIsShort : Sp := fun vs H Q _ => ∃ v t, vs = [v] ∧ RepT H t v ∧ TrOk t ∧ ∀ H', Same H H' → Q (.bl (decide (t.places = []))) H'
theorem ok_is_short (T : Top w K mg) : FnOk P w K mg base CX0 106 T.is_short.f T.is_short.fd ["reading"] spIsShort := by
  have G_check_shapes : FnOk P w K mg base CX0 _ _ _ _ _ := ok_check_shapes T
  have G_step_places : FnOk P w K mg base CX0 _ _ _ _ _ := ok_step_places T 100
  refine T.is_short.F.ok sc_is_short (fun vs H Q E h => ?_) (fun cdv A outer s H vs Q E hr h => ⟨_, PSs.nox (pss_cons (ps_expr (pe_call G_check_shapes (hr.mono (by omega)) rfl T.check_shapes.m T.check_shapes.F.kp (b_check_shapes T) .nil pass0 (pa_cons (pe_lst (pa_cons (pv 0) pa_nil)) pa_nil)))
    (pss_one (ps_ret (pe_cmpR op_eq (pe_callB call_len_seq rfl T.z_len PySem.boot_len (pa_cons (pe_call G_step_places (hr.mono (by omega)) rfl T.step_places.m T.step_places.F.kp (b_step_places T) .nil pass0 (pa_cons (pv 0) pa_nil)) pa_nil)) pe_int (nomark _))))), ?_⟩)
  · obtain ⟨v, t, rfl, _⟩ := h
    rfl
  · obtain ⟨v, t, rfl, ht, ⟨hw, hg, hc⟩, q⟩ := h
    refine sq_drop ⟨_, rfl, (by show 1 ≤ sizeLine; decide), fun p hp => ⟨p, v, t, rfl, upd_same, ht.mono (kt_new hp), hw, hg, hc, fun H1 s1 => ?_⟩⟩
    have t1 := (same_new (o := .lst [v]) hp).trans s1
    refine ⟨_, rfl, v, t, rfl, ht.mono (.of t1), hc, hc, fun r H2 us s2 n2 e2 a2 => ?_⟩
    refine ⟨r, us, rfl, .inl (.of e2), rfl, ?_⟩
    have z := a2.length
    refine toB (Q := Q) ?_ (q H2 (t1.trans s2))
    rw [z]
    by_cases e : t.places = []
    · rw [decide_eq_true e, e]
      rfl
    · rw [decide_eq_false e]
      refine decide_eq_false fun h => e ?_
      have h2 := V.int.inj h
      exact List.eq_nil_of_length_eq_zero (by omega)
def spSteps : Sp := fun vs H Q _ => ∃ v t, vs = [v] ∧ RepT H t v ∧ TrOk t ∧ NewP H t.places Q
theorem ok_steps (T : Top w K mg) : FnOk P w K mg base CX0 106 T.steps.f T.steps.fd ["reading"] spSteps := by
  have G_check_shapes : FnOk P w K mg base CX0 _ _ _ _ _ := ok_check_shapes T
  have G_step_places : FnOk P w K mg base CX0 _ _ _ _ _ := ok_step_places T 100
  refine T.steps.F.ok sc_steps (fun vs H Q E h => ?_) (fun cdv A outer s H vs Q E hr h => ⟨_, PSs.nox (pss_cons (ps_expr (pe_call G_check_shapes (hr.mono (by omega)) rfl T.check_shapes.m T.check_shapes.F.kp (b_check_shapes T) .nil pass0 (pa_cons (pe_lst (pa_cons (pv 0) pa_nil)) pa_nil)))
    (pss_one (ps_ret (pe_call G_step_places (hr.mono (by omega)) rfl T.step_places.m T.step_places.F.kp (b_step_places T) .nil pass0 (pa_cons (pv 0) pa_nil))))), ?_⟩)
  · obtain ⟨v, t, rfl, _⟩ := h
    rfl
  · obtain ⟨v, t, rfl, ht, ⟨hw, hg, hc⟩, q⟩ := h
    refine sq_drop ⟨_, rfl, (by show 1 ≤ sizeLine; decide), fun p hp => ⟨p, v, t, rfl, upd_same, ht.mono (kt_new hp), hw, hg, hc, fun H1 s1 => ?_⟩⟩
    have t1 := (same_new (o := .lst [v]) hp).trans s1
    refine ⟨_, rfl, v, t, rfl, ht.mono (.of t1), hc, hc, fun r H2 us s2 n2 e2 a2 => ?_⟩
    exact q r H2 us (t1.trans s2) (fresh_of t1 n2) e2 (a2.imp fun b hb => fresh_of t1 hb)
def spShortened : Sp := fun vs H Q _ => ∃ v t, vs = [v] ∧ RepT H t v ∧ TrOk t ∧ ∀ v' H' u, Same H H' → RepT H' u v' → ShortOf t u → Q v' H'
theorem ok_shortened (T : Top w K mg) : FnOk P w K mg base CX0 203 T.shortened.f T.shortened.fd ["reading"] spShortened := by
  have G_check_shapes : FnOk P w K mg base CX0 _ _ _ _ _ := ok_check_shapes T
  have G_short_of : FnOk P w K mg base CX0 _ _ _ _ _ := ok_short_of T 100
  refine T.shortened.F.ok sc_shortened (fun vs H Q E h => ?_) (fun cdv A outer s H vs Q E hr h => ⟨_, PSs.nox (pss_cons (ps_expr (pe_call G_check_shapes (hr.mono (by omega)) rfl T.check_shapes.m T.check_shapes.F.kp (b_check_shapes T) .nil pass0 (pa_cons (pe_lst (pa_cons (pv 0) pa_nil)) pa_nil)))
    (pss_one (ps_ret (pe_call G_short_of (hr.mono (by omega)) rfl T.short_of.m T.short_of.F.kp (b_short_of T) .nil pass0 (pa_cons (pv 0) pa_nil))))), ?_⟩)
  · obtain ⟨v, t, rfl, _⟩ := h
    rfl
  · obtain ⟨v, t, rfl, ht, ⟨hw, hg, hc⟩, q⟩ := h
    refine sq_drop ⟨_, rfl, (by show 1 ≤ sizeLine; decide), fun p hp => ⟨p, v, t, rfl, upd_same, ht.mono (kt_new hp), hw, hg, hc, fun H1 s1 => ?_⟩⟩
    have t1 := (same_new (o := .lst [v]) hp).trans s1
    exact ⟨_, rfl, v, t, rfl, ht.mono (.of t1), hw, hc, hc, fun v' H' u s2 hv hu => q v' H' u (t1.trans s2) hv hu⟩
end
end WW
namespace WW
open PySem PySem.Spec PyProof.Rows L2
/-! ### lists of ints as data -/
def pI (s : List Nat) : List PyData := s.map fun n : Nat => PyData.int (n : Int)
def pD (s : List Nat) : PyData := .list (pI s)
theorem lay_pI : ∀ s : List Nat, PyData.canLayAll0 (pI s) = true
  | [] => by simp [pI, PyData.canLayAll0]
  | n :: s => by
    have := lay_pI s
    simp only [pI, List.map_cons, PyData.canLayAll0, PyData.canLay0, Bool.true_and]
    exact this
theorem dep_pI : ∀ s : List Nat, PyData.depthAll (pI s) ≤ 1
  | [] => by simp [pI, PyData.depthAll]
  | n :: s => by
    have := dep_pI s
    simp only [pI, List.map_cons, PyData.depthAll, PyData.depth]
    have h2 : PyData.depthAll (List.map (fun n : Nat => PyData.int (n : Int)) s) ≤ 1 := this
    omega
theorem shaped_pD (s : List Nat) : SeqAt.shaped (pD s) = true := by
  have h1 := lay_pI s
  have h2 := dep_pI s
  show ((pD s).canLay0 && decide ((pD s).depth ≤ 64)) = true
  rw [Bool.and_eq_true]
  refine ⟨by simp only [pD, PyData.canLay0]; exact h1, decide_eq_true ?_⟩
  simp only [pD, PyData.depth]
  omega
theorem lay_pD : ∀ ps : List (List Nat), PyData.canLayAll0 (ps.map pD) = true
  | [] => by simp [PyData.canLayAll0]
  | s :: ps => by
    have h1 := lay_pI s
    have := lay_pD ps
    simp only [List.map_cons, PyData.canLayAll0, pD, PyData.canLay0, h1, Bool.true_and]
    exact this
theorem dep_pD : ∀ ps : List (List Nat), PyData.depthAll (ps.map pD) ≤ 5
  | [] => by simp [PyData.depthAll]
  | s :: ps => by
    have h1 := dep_pI s
    have h2 := dep_pD ps
    have h3 : (pD s).depth ≤ 4 := by
      simp only [pD, PyData.depth]
      omega
    simp only [List.map_cons, PyData.depthAll]
    omega
theorem room65 {k : Nat} {A : Around} (hr : Room k A) : A.units + 65 < cLine := by
  have := hr.un
  omega
theorem shaped_pDs (ps : List (List Nat)) : SeqAt.shaped (.list (ps.map pD)) = true := by
  have h1 := lay_pD ps
  have h2 := dep_pD ps
  show ((PyData.list (ps.map pD)).canLay0 && decide ((PyData.list (ps.map pD)).depth ≤ 64)) = true
  rw [Bool.and_eq_true]
  refine ⟨by simp only [PyData.canLay0]; exact h1, decide_eq_true ?_⟩
  simp only [PyData.depth]
  omega
theorem eqv_pI : ∀ s : List Nat, PyData.eqvAll (pI s) (pI s) = true
  | [] => by simp [pI, PyData.eqvAll]
  | n :: s => by
    have := eqv_pI s
    simp only [pI, List.map_cons, PyData.eqvAll, PyData.eqv, beq_self_eq_true, Bool.true_and]
    exact this
theorem eqv_pD (s : List Nat) : PyData.eqv (pD s) (pD s) = true := by
  simp only [pD, PyData.eqv]
  exact eqv_pI s
theorem dp_pI {K : PySem.W.Frag} {H : Hp} : ∀ s : List Nat, DpAll K H (nlist s) (pI s)
  | [] => .nil
  | _ :: s => .cons (.int _) (dp_pI s)
theorem dp_pD {K : PySem.W.Frag} {H : Hp} {a : Addr} {s : List Nat} (h : H a = some (.lst (nlist s))) : Dp K H (.ref a) (pD s) := .lst (.of h) (dp_pI s)
theorem dp_pDs {K : PySem.W.Frag} {N : Addr → Prop} {H : Hp} : ∀ {us : List V} {ps : List (List Nat)}, AllP N H us ps → DpAll K H us (ps.map pD)
  | [], [], _ => .nil
  | _ :: _, _ :: _, ⟨⟨a, e, _, h⟩, t⟩ => .cons (by rw [e]; exact dp_pD h) (dp_pDs t)
  | [], _ :: _, h => h.elim
  | _ :: _, [], h => h.elim
theorem dp_list {K : PySem.W.Frag} {N : Addr → Prop} {H : Hp} {a : Addr} {us : List V} {ps : List (List Nat)} (h : H a = some (.lst us)) (al : AllP N H us ps) : Dp K H (.ref a) (.list (ps.map pD)) := .lst (.of h) (dp_pDs al)
theorem eqv_nil (ps : List (List Nat)) : PyData.eqv (.list (ps.map pD)) (.list []) = decide (ps = []) := by
  cases ps with
  | nil => simp [PyData.eqv, PyData.eqvAll]
  | cons s ps => simp [PyData.eqv, PyData.eqvAll]
theorem eqv_nil1 (s : List Nat) : PyData.eqv (pD s) (.list []) = decide (s = []) := by
  cases s with
  | nil => simp [pD, pI, PyData.eqv, PyData.eqvAll]
  | cons n s => simp [pD, pI, PyData.eqv, PyData.eqvAll]
theorem shaped_nil : SeqAt.shaped (.list []) = true := shaped_pDs []
theorem dp_nil {K : PySem.W.Frag} {H : Hp} {a : Addr} (h : H a = some (.lst [])) : Dp K H (.ref a) (.list []) := .lst (.of h) .nil
theorem any_pD {ps : List (List Nat)} {s : List Nat} (h : s ∈ ps) : ((ps.map pD).any fun z => PyData.eqv z (pD s)) = true :=
  List.any_eq_true.mpr ⟨pD s, List.mem_map.mpr ⟨s, h, rfl⟩, eqv_pD s⟩
section
variable {P : Program} {w : World} {K : PySem.W.Frag} {mg : Str → Option Value} {base : Heap}
def spAfter : Sp := fun vs H Q _ => ∃ v t a s, vs = [v, .ref a] ∧ RepT H t v ∧ TrOk t ∧ H a = some (.lst (nlist s)) ∧ s ∈ t.places ∧ ∀ v' H', Same H H' → RepT H' (t.stepAt s) v' → Q v' H'
theorem ok_after_step (T : Top w K mg) : FnOk P w K mg base CX0 106 T.after_step.f T.after_step.fd ["reading", "place"] spAfter := by
  have G_check_shapes : FnOk P w K mg base CX0 _ _ _ _ _ := ok_check_shapes T
  have G_step_places : FnOk P w K mg base CX0 _ _ _ _ _ := ok_step_places T 100
  have G_part_at : FnOk P w K mg base CX0 _ _ _ _ _ := ok_part_at T
  have G_step_made : FnOk P w K mg base CX0 _ _ _ _ _ := ok_step_made T
  have G_put_at : FnOk P w K mg base CX0 _ _ _ _ _ := ok_put_at T 101
  refine T.after_step.F.ok sc_after_step (fun vs H Q E h => ?_) (fun cdv A outer s H vs Q E hr h => ⟨_, PSs.nox (pss_cons (ps_expr (pe_call G_check_shapes (hr.mono (by omega)) rfl T.check_shapes.m T.check_shapes.F.kp (b_check_shapes T) .nil pass0 (pa_cons (pe_lst (pa_cons (pv 0) pa_nil)) pa_nil)))
    (pss_cons (ps_if (pt_cmpR (op_notInD (room65 hr)) (pv 1) (pe_call G_step_places (hr.mono (by omega)) rfl T.step_places.m T.step_places.F.kp (b_step_places T) .nil pass0 (pa_cons (pv 0) pa_nil)) (by rfl)) (pss_one ps_never) pss_nil)
    (pss_one (ps_ret (pe_call G_put_at (hr.mono (by omega)) rfl T.put_at.m T.put_at.F.kp (b_put_at T) .nil pass0 (pa_cons (pv 0) (pa_cons (pv 1) (pa_cons (pe_call G_step_made (hr.mono (by omega)) rfl T.step_made.m T.step_made.F.kp (b_step_made T) .nil pass0 (pa_cons (pe_call G_part_at (hr.mono (by omega)) rfl T.part_at.m T.part_at.F.kp (b_part_at T) .nil pass0 (pa_cons (pv 0) (pa_cons (pv 1) pa_nil))) pa_nil)) pa_nil)))))))), ?_⟩)
  · obtain ⟨v, t, a, s, rfl, _⟩ := h
    rfl
  · obtain ⟨v, t, a, s, rfl, ht, ⟨hw, hg, hc⟩, ha, hs, q⟩ := h
    refine sq_drop ⟨_, rfl, (by show 1 ≤ sizeLine; decide), fun p hp => ⟨p, v, t, rfl, upd_same, ht.mono (kt_new hp), hw, hg, hc, fun H1 s1 => ?_⟩⟩
    have t1 := (same_new (o := .lst [v]) hp).trans s1
    obtain ⟨u, eu, hred, _, hl, hwu, hgu, hcu⟩ := Tr.sub_of hs
    refine sq_skipH (PH := Same H1) (fun Q' q' => ?_) fun H2 s2 => ?_
    · refine ⟨_, rfl, ⟨_, rfl, v, t, rfl, ht.mono (.of t1), hc, hc, fun r H2 us s2 n2 e2 a2 => ?_⟩⟩
      refine ⟨pD s, _, dp_pD (s2 _ _ (t1 _ _ ha)), dp_list e2 a2, shaped_pD s, shaped_pDs _, false, ?_, q' H2 s2⟩
      rw [any_pD hs]
      rfl
    · have t2 := t1.trans s2
      refine ⟨_, rfl, _, rfl, ⟨_, rfl, _, rfl, v, t, a, s, u, rfl, ht.mono (.of t2), t2 _ _ ha, eu, fun v1 hv1 => ?_⟩⟩
      refine ⟨v1, u, rfl, hv1, hred, hwu hw, by omega, fun v2 H3 s3 hv2 => ?_⟩
      have t3 := t2.trans s3
      refine ⟨v, t, a, s, v2, u.made, rfl, ht.mono (.of t3), t3 _ _ ha, hv2, ⟨u, eu⟩, by omega, fun v' H' s4 hv => q v' H' (t3.trans s4) ?_⟩
      unfold Tr.stepAt
      rw [eu]
      exact hv
/-! ### calls by keywords alone -/
theorem kb_steps (T : Top w K mg) : KBn K T.steps.fd ["reading"] 0 ["reading"] (fun _ ws => ws) (fun _ zs => zs) := by
  obtain ⟨oc, od, dV, kV, doc, pm, an, cdv, ct, osl, e, lk, hcd, hD, hK⟩ := T.steps.F.ex
  rcases hD with ⟨_, rfl⟩ | ⟨e, _⟩
  · refine ⟨fun s us ws X l1 l2 => ?_, fun _ r => r⟩
    rw [e]
    match us, ws, l1, l2 with
    | [], [_], _, _ => exact .of_eq rfl
  · exact absurd rfl e
theorem kb_after_step (T : Top w K mg) : KBn K T.after_step.fd ["reading", "place"] 0 ["place", "reading"] (fun _ ws => ws.reverse) (fun _ zs => zs.reverse) := by
  obtain ⟨oc, od, dV, kV, doc, pm, an, cdv, ct, osl, e, lk, hcd, hD, hK⟩ := T.after_step.F.ex
  rcases hD with ⟨_, rfl⟩ | ⟨e, _⟩
  · refine ⟨fun s us ws X l1 l2 => ?_, fun _ r => r.reverse⟩
    rw [e]
    match us, ws, l1, l2 with
    | [], [_, _], _, _ => exact .of_eq rfl
  · exact absurd rfl e
end
section
variable {X : Cx} {CX : CXT} {k n : Nat} {f : Addr} {fd : FuncData} {ps ks : List Str} {sp : Sp} {E : XK} {x : Str} {p pos : Pos} {kws : List Keyword} {tk : TA} {g : List Value → List Value → List Value} {gV : List V → List V → List V}
/-- f(k = v, ..) without positional values -/
theorem pe_callK0 (F : FnOk X.prog X.w X.K X.mg X.base CX k f fd ps sp) (hr : Room k X.A) (hg : Gl X x) (hm : X.mg x = some (.ref f)) (hk : PySem.W.keepIn X.K (.ref f) = true) (hb : KBn X.K fd ps 0 ks g gV) (hx : Passes CX X E) (hkw : PK X kws tk)
    (hall : (backToKw pos (keywordEach kws X.env)).all (·.1.isSome) = true := by rfl) (hks : (backToKw pos (keywordEach kws X.env)).filterMap (·.1) = ks := by rfl)
    (hdb : (x == ("__debug__" : Str)) = false := by decide) (hpl : ((backTo pos (starEach [] X.env)).any (·.1) || (backToKw pos (keywordEach kws X.env)).any (·.1.isNone)) = false := by rfl) :
    PE X (.Call (.Name x p) [] kws pos) (tCallN 0 ks.length sp gV E tNil tk) := by
  refine ⟨fun pins s σ H Q I h => ?_⟩
  refine wpAny_Call_Name_kw (ld_glob I hg hm ?_ hdb)
  refine PySem.W.callWith_KW0 (h₀ := X.base) I.ok.mod.kin hk hall ?_ hpl
  refine thn (hkw.run pos pins s σ H _ I h) fun ws s2 ⟨zs, H2, I2, rz, l1, l2, q2⟩ => ⟨I2.kIn, ?_⟩
  rw [hks]
  exact run_fnN F hr hb hx I2 .nil rz l1 l2 q2
end
end WW
namespace WW
open PySem PySem.Spec PyProof.Rows L2
/-! ### what stands for a numbered reading -/
def RepM (H : Hp) : Mr → V → Prop
  | .wd n, v => ∃ a, v = .ref a ∧ H a = some (.tup [.str "word", .int (n : Nat)])
  | .pr b l r, v => ∃ a u w, v = .ref a ∧ H a = some (.tup [.str (SB b), u, w]) ∧ RepM H l u ∧ RepM H r w
  | .gv b k p t, v => ∃ a u w, v = .ref a ∧ H a = some (.tup [.str (SG b), u, w, .int (t : Nat)]) ∧ RepK H k u ∧ RepM H p w
theorem RepM.mono {H H' : Hp} (s : KT H H') : ∀ {m : Mr} {v : V}, RepM H m v → RepM H' m v
  | .wd _, _, ⟨a, e, h⟩ => ⟨a, e, s _ _ h⟩
  | .pr _ _ _, _, ⟨a, u, w, e, h, h1, h2⟩ => ⟨a, u, w, e, s _ _ h, RepM.mono s h1, RepM.mono s h2⟩
  | .gv _ _ _ _, _, ⟨a, u, w, e, h, h1, h2⟩ => ⟨a, u, w, e, s _ _ h, RepK.mono s h1, RepM.mono s h2⟩
theorem Mr.cw (n : Nat) : (Mr.wd n).bare.count = 1 := rfl
theorem Mr.cp (b : Bool) (l r : Mr) : (Mr.pr b l r).bare.count = 1 + l.bare.count + r.bare.count := rfl
theorem Mr.cg (b : Bool) (k : Kd) (p : Mr) (t : Nat) : (Mr.gv b k p t).bare.count = 1 + p.bare.count := rfl
/-! ### slices and sums of tuples -/
theorem np_of {σ : L2.St} {H : Hp} {Q : Option Int → Hp → Prop} (q : Q none H) : tNoPart σ H Q := q
section
variable {K : PySem.W.Frag} {H : Hp} {a b : Addr} {xs ys : List V} {Q : VK} {c : Nat}
theorem cut_take (xs : List V) (c : Nat) (h : c ≤ xs.length) : cutV xs none (some (c : Int)) = xs.take c := by
  unfold cutV
  rw [HT.sIx_none, HT.sIx_nat, List.drop_zero, Nat.sub_zero, Nat.min_eq_left h]
theorem cut_drop (xs : List V) (c : Nat) : cutV xs (some (c : Int)) none = xs.drop c := by
  unfold cutV
  rw [HT.sIx_none, HT.sIx_nat]
  by_cases h : c ≤ xs.length
  · rw [Nat.min_eq_left h, List.take_of_length_le (by rw [List.length_drop]; omega)]
  · rw [Nat.min_eq_right (by omega), List.drop_length, List.take_nil, List.drop_eq_nil_of_le (by omega)]
theorem sl_take (h : H a = some (.tup xs)) (hc : c < xs.length) (q : ∀ p H', Same H H' → H' p = some (.tup (xs.take c)) → Q (.ref p) H') : rSlA K (.ref a) none (some (c : Int)) H Q := by
  refine ⟨a, xs, rfl, .of h, fun z => ?_, fun _ p hp => ?_⟩
  · have z2 := z.2
    rw [HT.sIx_nat] at z2
    omega
  · rw [cut_take _ _ (by omega)]
    exact q p _ (same_new hp) upd_same
theorem sl_drop {k : Int} (hk : k = (c : Int)) (h : H a = some (.tup xs)) (hc : 0 < c) (hl : 0 < xs.length) (q : ∀ p H', Same H H' → H' p = some (.tup (xs.drop c)) → Q (.ref p) H') : rSlA K (.ref a) (some k) none H Q := by
  subst hk
  refine ⟨a, xs, rfl, .of h, fun z => ?_, fun _ p hp => ?_⟩
  · have z1 := z.1
    rw [HT.sIx_nat] at z1
    omega
  · rw [cut_drop]
    exact q p _ (same_new hp) upd_same
theorem cat_tt (h1 : H a = some (.tup xs)) (h2 : H b = some (.tup ys)) (hx : xs ≠ []) (hl : xs.length + ys.length ≤ 1000) (q : ∀ p H', Same H H' → H' p = some (.tup (xs ++ ys)) → Q (.ref p) H') : rCatA K (.ref a) (.ref b) H Q := by
  refine ⟨a, b, xs, ys, rfl, rfl, .of h1, .of h2, sz hl, fun z => absurd z hx, fun _ z => ?_, fun _ _ p hp => q p _ (same_new hp) upd_same⟩
  refine q a H (Same.refl H) ?_
  rw [z, List.append_nil]
  exact h1
end
section
variable {P : Program} {w : World} {K : PySem.W.Frag} {mg : Str → Option Value} {base : Heap}
/-! ### bare, swapped -/
def spBare (n : Nat) : Sp := fun vs H Q _ => ∃ v m, vs = [v] ∧ RepM H m v ∧ m.bare.count ≤ n ∧ ∀ v' H', Same H H' → RepT H' m.bare v' → Q v' H'
theorem ok_bare (T : Top w K mg) : ∀ n, FnOk P w K mg base CX0 n T.bare.f T.bare.fd ["_law_mark"] (spBare n)
  | 0 => fn_never fun vs H Q E ⟨v, m, _, _, h, _⟩ => by
    have := m.bare.count_pos
    omega
  | n + 1 => by
    have G_bare := ok_bare T n
    refine T.bare.F.ok sc_bare (fun vs H Q E h => ?_) (fun cdv A outer s H vs Q E hr h => ⟨_, PSs.nox (pss_cons (ps_if (pt_cmpR op_eq (pe_ix ix_tup (pv 0) pe_int (fun _ _ => rfl)) pe_str (nomark _)) (pss_one (ps_ret (pe_tup (pa_cons pe_str pa_nil)))) pss_nil)
    (pss_cons (ps_if (pt_cmpR op_in_seq (pe_ix ix_tup (pv 0) pe_int (fun _ _ => rfl)) (pe_tup (pa_cons pe_str (pa_cons pe_str pa_nil))) (by rfl)) (pss_one (ps_ret (pe_tup (pa_cons (pe_ix ix_tup (pv 0) pe_int (fun _ _ => rfl)) (pa_cons (pe_ix ix_tup (pv 0) pe_int (fun _ _ => rfl)) (pa_cons (pe_call G_bare (hr.mono (by omega)) rfl T.bare.m T.bare.F.kp (b_bare T) .nil pass0 (pa_cons (pe_ix ix_tup (pv 0) pe_int (fun _ _ => rfl)) pa_nil)) pa_nil)))))) pss_nil)
    (pss_one (ps_ret (pe_tup (pa_cons (pe_ix ix_tup (pv 0) pe_int (fun _ _ => rfl)) (pa_cons (pe_call G_bare (hr.mono (by omega)) rfl T.bare.m T.bare.F.kp (b_bare T) .nil pass0 (pa_cons (pe_ix ix_tup (pv 0) pe_int (fun _ _ => rfl)) pa_nil)) (pa_cons (pe_call G_bare (hr.mono (by omega)) rfl T.bare.m T.bare.F.kp (b_bare T) .nil pass0 (pa_cons (pe_ix ix_tup (pv 0) pe_int (fun _ _ => rfl)) pa_nil)) pa_nil)))))))), ?_⟩)
    · obtain ⟨v, m, rfl, _⟩ := h
      rfl
    · obtain ⟨v, m, rfl, hm, hc, q⟩ := h
      cases m with
      | wd c =>
        obtain ⟨a, rfl, h⟩ := hm
        refine sq_yes (ans_tag rfl h rfl) ?_
        exact ⟨(by show 1 ≤ sizeLine; decide), fun p hp => q _ _ (same_new hp) ⟨p, rfl, upd_same⟩⟩
      | pr b l r =>
        obtain ⟨a, u, z, rfl, h, hl, hr'⟩ := hm
        rw [Mr.cp] at hc
        refine sq_skip (ans_tag rfl h (by cases b <;> rfl)) ?_
        refine sq_skipH (ans_gv rfl h (by cases b <;> rfl)) fun H1 s1 => ?_
        refine val_ix (val_var rfl) (s1 _ _ h) at0 _ (val_ix (val_var rfl) (s1 _ _ h) at1 _ ⟨_, l, rfl, hl.mono (.of s1), by omega, fun v2 H2 s2 h2 => ?_⟩)
        refine val_ix (val_var rfl) (s2 _ _ (s1 _ _ h)) at2 _ ⟨_, r, rfl, hr'.mono (.of (s1.trans s2)), by omega, fun v3 H3 s3 h3 => ⟨(by show 3 ≤ sizeLine; decide), fun p hp => ?_⟩⟩
        exact q _ _ ((s1.trans (s2.trans s3)).trans (same_new hp)) ⟨p, v2, v3, rfl, upd_same, h2.mono ((KT.of s3).trans (kt_new hp)), h3.mono (kt_new hp)⟩
      | gv b k p t =>
        obtain ⟨a, u, z, rfl, h, hk, hp⟩ := hm
        rw [Mr.cg] at hc
        refine sq_skip (ans_tag rfl h (by cases b <;> rfl)) ?_
        refine sq_yesH (ans_gv rfl h (by cases b <;> rfl)) fun H1 s1 => ?_
        refine val_ix (val_var rfl) (s1 _ _ h) at0 _ (val_ix (val_var rfl) (s1 _ _ h) at1 _ (val_ix (val_var rfl) (s1 _ _ h) at2 _ ⟨_, p, rfl, hp.mono (.of s1), by omega, fun v2 H2 s2 h2 => ⟨(by show 3 ≤ sizeLine; decide), fun r nr => ?_⟩⟩))
        have t3 := (s1.trans s2).trans (same_new (o := .tup [.str (SG b), u, v2]) nr)
        exact q _ _ t3 ⟨r, u, v2, rfl, upd_same, hk.mono (.of t3), h2.mono (kt_new nr)⟩
def spSwapped (n : Nat) : Sp := fun vs H Q _ => ∃ v m c z x, vs = [v, .int (c : Nat), z] ∧ RepM H m v ∧ RepM H x z ∧ m.bare.count ≤ n ∧ ∀ v' H', Same H H' → RepM H' (m.swap c x) v' → Q v' H'
theorem ok_swapped (T : Top w K mg) : ∀ n, FnOk P w K mg base CX0 n T.swapped.f T.swapped.fd ["_law_mark", "_law_number", "_law_more"] (spSwapped n)
  | 0 => fn_never fun vs H Q E ⟨v, m, c, z, x, _, _, _, h, _⟩ => by
    have := m.bare.count_pos
    omega
  | n + 1 => by
    have G_swapped := ok_swapped T n
    refine T.swapped.F.ok sc_swapped (fun vs H Q E h => ?_) (fun cdv A outer s H vs Q E hr h => ⟨_, PSs.nox (pss_cons (ps_if (pt_cmpR op_eq (pe_ix ix_tup (pv 0) pe_int (fun _ _ => rfl)) pe_str (nomark _)) (pss_one (ps_ret (pe_ifExp (pt_cmpR op_eq (pe_ix ix_tup (pv 0) pe_int (fun _ _ => rfl)) (pv 1) (nomark _)) (pv 2) (pv 0)))) pss_nil)
    (pss_cons (ps_if (pt_cmpR op_in_seq (pe_ix ix_tup (pv 0) pe_int (fun _ _ => rfl)) (pe_tup (pa_cons pe_str (pa_cons pe_str pa_nil))) (by rfl)) (pss_one (ps_ret (pe_tup (pa_cons (pe_ix ix_tup (pv 0) pe_int (fun _ _ => rfl)) (pa_cons (pe_ix ix_tup (pv 0) pe_int (fun _ _ => rfl)) (pa_cons (pe_call G_swapped (hr.mono (by omega)) rfl T.swapped.m T.swapped.F.kp (b_swapped T) .nil pass0 (pa_cons (pe_ix ix_tup (pv 0) pe_int (fun _ _ => rfl)) (pa_cons (pv 1) (pa_cons (pv 2) pa_nil)))) (pa_cons (pe_ix ix_tup (pv 0) pe_int (fun _ _ => rfl)) pa_nil))))))) pss_nil)
    (pss_one (ps_ret (pe_tup (pa_cons (pe_ix ix_tup (pv 0) pe_int (fun _ _ => rfl)) (pa_cons (pe_call G_swapped (hr.mono (by omega)) rfl T.swapped.m T.swapped.F.kp (b_swapped T) .nil pass0 (pa_cons (pe_ix ix_tup (pv 0) pe_int (fun _ _ => rfl)) (pa_cons (pv 1) (pa_cons (pv 2) pa_nil)))) (pa_cons (pe_call G_swapped (hr.mono (by omega)) rfl T.swapped.m T.swapped.F.kp (b_swapped T) .nil pass0 (pa_cons (pe_ix ix_tup (pv 0) pe_int (fun _ _ => rfl)) (pa_cons (pv 1) (pa_cons (pv 2) pa_nil)))) pa_nil)))))))), ?_⟩)
    · obtain ⟨v, m, c, z, x, rfl, _⟩ := h
      rfl
    · obtain ⟨v, m, c, y, x, rfl, hm, hx, hc, q⟩ := h
      cases m with
      | wd k =>
        have hm0 := hm
        obtain ⟨a, rfl, h⟩ := hm
        refine sq_yes (ans_tag rfl h rfl) ?_
        refine val_ix (val_var rfl) h at1 _ ⟨_, rfl, rfl, _, rfl, ?_⟩
        refine ite2 (fun e => ?_) (fun e => ?_)
        · have e1 : k = c := by
            have := V.int.inj (of_decide_eq_true e)
            omega
          refine ⟨_, rfl, q _ H (Same.refl H) ?_⟩
          unfold Mr.swap
          rw [if_pos e1]
          exact hx
        · have e1 : ¬ k = c := fun z => e (by rw [z]; exact decide_eq_true rfl)
          refine ⟨_, rfl, q _ H (Same.refl H) ?_⟩
          unfold Mr.swap
          rw [if_neg e1]
          exact hm0
      | pr b l r =>
        obtain ⟨a, u, z, rfl, h, hl, hr'⟩ := hm
        rw [Mr.cp] at hc
        refine sq_skip (ans_tag rfl h (by cases b <;> rfl)) ?_
        refine sq_skipH (ans_gv rfl h (by cases b <;> rfl)) fun H1 s1 => ?_
        refine val_ix (val_var rfl) (s1 _ _ h) at0 _ (val_ix (val_var rfl) (s1 _ _ h) at1 _ ⟨_, rfl, _, rfl, _, l, c, _, x, rfl, hl.mono (.of s1), hx.mono (.of s1), by omega, fun v2 H2 s2 h2 => ?_⟩)
        have t2 := s1.trans s2
        refine val_ix (val_var rfl) (t2 _ _ h) at2 _ ⟨_, rfl, _, rfl, _, r, c, _, x, rfl, hr'.mono (.of t2), hx.mono (.of t2), by omega, fun v3 H3 s3 h3 => ⟨(by show 3 ≤ sizeLine; decide), fun p hp => ?_⟩⟩
        exact q _ _ ((t2.trans s3).trans (same_new hp)) ⟨p, v2, v3, rfl, upd_same, h2.mono ((KT.of s3).trans (kt_new hp)), h3.mono (kt_new hp)⟩
      | gv b k p t =>
        obtain ⟨a, u, z, rfl, h, hk, hp⟩ := hm
        rw [Mr.cg] at hc
        refine sq_skip (ans_tag rfl h (by cases b <;> rfl)) ?_
        refine sq_yesH (ans_gv rfl h (by cases b <;> rfl)) fun H1 s1 => ?_
        refine val_ix (val_var rfl) (s1 _ _ h) at0 _ (val_ix (val_var rfl) (s1 _ _ h) at1 _ (val_ix (val_var rfl) (s1 _ _ h) at2 _ ⟨_, rfl, _, rfl, _, p, c, _, x, rfl, hp.mono (.of s1), hx.mono (.of s1), by omega, fun v2 H2 s2 h2 => ?_⟩))
        have t2 := s1.trans s2
        refine val_ix (val_var rfl) (t2 _ _ h) at3 _ ⟨(by show 4 ≤ sizeLine; decide), fun r nr => ?_⟩
        have t3 := t2.trans (same_new (o := .tup [.str (SG b), u, v2, .int (t : Nat)]) nr)
        exact q _ _ t3 ⟨r, u, v2, rfl, upd_same, hk.mono (.of t3), h2.mono (kt_new nr)⟩
/-! ### stepped -/
def spStepped (n : Nat) : Sp := fun vs H Q _ => ∃ v m a s, vs = [v, .ref a] ∧ RepM H m v ∧ H a = some (.lst (nlist s)) ∧ s ∈ m.bare.places ∧ m.bare.count ≤ 100 ∧ s.length < n ∧ ∀ v' H', Same H H' → RepM H' (m.stepAt s) v' → Q v' H'
/-- the part at the first step of a place -/
theorem mstep_cons {m : Mr} {c : Nat} {s : List Nat} (h : c :: s ∈ m.bare.places) : (∃ b l r, m = .pr b l r ∧ c = 1 ∧ s ∈ l.bare.places) ∨ (∃ b l r, m = .pr b l r ∧ c = 2 ∧ s ∈ r.bare.places) ∨ ∃ b k p t, m = .gv b k p t ∧ c = 2 ∧ s ∈ p.bare.places := by
  cases m with
  | wd n => cases h
  | pr b l r =>
    rcases Tr.mem_places_pr (show c :: s ∈ (Tr.pr b l.bare r.bare).places from h) with ⟨e, _⟩ | ⟨s', e, h'⟩ | ⟨s', e, h'⟩
    · cases e
    · obtain ⟨rfl, rfl⟩ := List.cons.inj e
      exact .inl ⟨b, l, r, rfl, rfl, h'⟩
    · obtain ⟨rfl, rfl⟩ := List.cons.inj e
      exact .inr (.inl ⟨b, l, r, rfl, rfl, h'⟩)
  | gv b k p t =>
    obtain ⟨s', e, h'⟩ := Tr.mem_places_gv (show c :: s ∈ (Tr.gv b k p.bare).places from h)
    obtain ⟨rfl, rfl⟩ := List.cons.inj e
    exact .inr (.inr ⟨b, k, p, t, rfl, rfl, h'⟩)
theorem ok_stepped (T : Top w K mg) : ∀ n, FnOk P w K mg base CX0 (n + 100) T.stepped.f T.stepped.fd ["_law_mark", "_law_path"] (spStepped n)
  | 0 => fn_never fun vs H Q E ⟨v, m, a, s, _, _, _, _, _, h, _⟩ => by omega
  | n + 1 => by
    have G_stepped := ok_stepped T n
    have G_swapped : FnOk P w K mg base CX0 _ _ _ _ _ := ok_swapped T 100
    refine T.stepped.F.ok sc_stepped (fun vs H Q E h => ?_) (fun cdv A outer s H vs Q E hr h => ⟨_, PSs.nox (pss_cons (ps_if (pt_cmpR (op_neD hr.units) (pv 1) (pe_lst pa_nil) (nomark _)) (pss_cons (ps_set (i := 2) sc_stepped.nd rfl (Or.inl rfl) (pe_ix ix_list (pv 1) pe_int (fun _ _ => rfl)))
    (pss_one (ps_ret (pe_op op_catA (pe_op op_catA (pe_slice sl_tupA (pv 0) po_none (po_some (pv 2))) (pe_tup (pa_cons (pe_call G_stepped (hr.mono (by omega)) rfl T.stepped.m T.stepped.F.kp (b_stepped T) .nil pass0 (pa_cons (pe_ix ix_tup (pv 0) (pv 2) (fun _ _ => rfl)) (pa_cons (pe_slice sl_list (pv 1) (po_some pe_int) po_none) pa_nil))) pa_nil))) (pe_slice sl_tupA (pv 0) (po_some (pe_op op_add (pv 2) pe_int)) po_none))))) pss_nil)
    (pss_cons (ps_if (pt_cmpR op_eq (pe_ix ix_tup (pv 0) pe_int (fun _ _ => rfl)) pe_str (nomark _)) (pss_one (ps_ret (pe_call G_swapped (hr.mono (by omega)) rfl T.swapped.m T.swapped.F.kp (b_swapped T) .nil pass0 (pa_cons (pe_ix ix_tup (pe_ix ix_tup (pv 0) pe_int (fun _ _ => rfl)) pe_int (fun _ _ => rfl)) (pa_cons (pe_ix ix_tup (pe_ix ix_tup (pv 0) pe_int (fun _ _ => rfl)) pe_int (fun _ _ => rfl)) (pa_cons (pe_ix ix_tup (pv 0) pe_int (fun _ _ => rfl)) pa_nil)))))) pss_nil)
    (pss_one (ps_ret (pe_call G_swapped (hr.mono (by omega)) rfl T.swapped.m T.swapped.F.kp (b_swapped T) .nil pass0 (pa_cons (pe_ix ix_tup (pe_ix ix_tup (pv 0) pe_int (fun _ _ => rfl)) pe_int (fun _ _ => rfl)) (pa_cons (pe_ix ix_tup (pe_ix ix_tup (pv 0) pe_int (fun _ _ => rfl)) pe_int (fun _ _ => rfl)) (pa_cons (pe_ix ix_tup (pv 0) pe_int (fun _ _ => rfl)) pa_nil)))))))), ?_⟩)
    · obtain ⟨v, m, a, s, rfl, _⟩ := h
      rfl
    · obtain ⟨v, m, a, s, rfl, hm, ha, hs, hc, hn, q⟩ := h
      have hne : AnsH (tTest (tOp (rNeD K) (tVar 1) (tLst tNil))) (L2.start n_stepped [v, .ref a]) H (decide (s ≠ [])) (Same H) := by
        intro Q' q'
        refine ⟨_, rfl, Nat.zero_le _, fun e he => ⟨pD s, .list [], dp_pD (same_new he _ _ ha), dp_nil upd_same, shaped_pD s, shaped_nil, _, ?_, q' _ (same_new he)⟩⟩
        rw [eqv_nil1]
        simp
      cases s with
      | nil =>
        refine sq_skipH hne fun H1 s1 => ?_
        obtain ⟨u, eu, hred, _⟩ := Tr.sub_of hs
        rw [sub_nil] at eu
        have eu' : m.bare = u := Option.some.inj eu
        rw [← eu'] at hred
        rw [Mr.mstep_nil] at q
        rcases Mr.bare_red hred with ⟨k, p, t, r, rfl⟩ | ⟨k, p, t, r, rfl⟩
        · obtain ⟨b, u, z, rfl, h, ⟨b2, u2, z2, rfl, h2, hk, hp⟩, hz⟩ := hm
          rw [Mr.cp, Mr.cg] at hc
          refine sq_yes (ans_tag rfl (s1 _ _ h) rfl) ?_
          refine val_ix (val_ix (val_var rfl) (s1 _ _ h) at1) (s1 _ _ h2) at2 _ (val_ix (val_ix (val_var rfl) (s1 _ _ h) at1) (s1 _ _ h2) at3 _ (val_ix (val_var rfl) (s1 _ _ h) at2 _ ?_))
          exact ⟨_, p, t, _, r, rfl, hp.mono (.of s1), hz.mono (.of s1), by omega, fun v' H' s2 hv => q v' H' (s1.trans s2) hv⟩
        · obtain ⟨b, u, z, rfl, h, hz, ⟨b2, u2, z2, rfl, h2, hk, hp⟩⟩ := hm
          rw [Mr.cp, Mr.cg] at hc
          refine sq_skip (ans_tag rfl (s1 _ _ h) rfl) ?_
          refine val_ix (val_ix (val_var rfl) (s1 _ _ h) at2) (s1 _ _ h2) at2 _ (val_ix (val_ix (val_var rfl) (s1 _ _ h) at2) (s1 _ _ h2) at3 _ (val_ix (val_var rfl) (s1 _ _ h) at1 _ ?_))
          exact ⟨_, p, t, _, r, rfl, hp.mono (.of s1), hz.mono (.of s1), by omega, fun v' H' s2 hv => q v' H' (s1.trans s2) hv⟩
      | cons c s =>
        have hn' : s.length + 1 < n + 1 := hn
        obtain ⟨a0, xs, y, x, rfl, h0, hy, hx, hxs, hxc, hl, hl1, qq⟩ : ∃ (a0 : Addr) (xs : List V) (y : V) (x : Mr), v = .ref a0 ∧ H a0 = some (.tup xs) ∧ xs[c]? = some y ∧ RepM H x y ∧ s ∈ x.bare.places ∧ x.bare.count ≤ 100 ∧ xs.length ≤ 10 ∧ 0 < c ∧
            (∀ v' H' p, Same H H' → RepM H' (x.stepAt s) v' → H' p = some (.tup (xs.take c ++ [v'] ++ xs.drop (c + 1))) → Q (.ref p) H') := by
          rcases mstep_cons hs with ⟨b, l, r, rfl, rfl, h⟩ | ⟨b, l, r, rfl, rfl, h⟩ | ⟨b, k, p, t, rfl, rfl, h⟩
          · obtain ⟨a', y1, y2, rfl, ha', h1, h2⟩ := hm
            rw [Mr.cp] at hc
            exact ⟨a', _, y1, l, rfl, ha', rfl, h1, h, by omega, (by decide : 3 ≤ 10), by decide, fun v' H' p s hv hp => q _ H' s ⟨p, v', y2, rfl, hp, hv, h2.mono (.of s)⟩⟩
          · obtain ⟨a', y1, y2, rfl, ha', h1, h2⟩ := hm
            rw [Mr.cp] at hc
            exact ⟨a', _, y2, r, rfl, ha', rfl, h2, h, by omega, (by decide : 3 ≤ 10), by decide, fun v' H' p s hv hp => q _ H' s ⟨p, y1, v', rfl, hp, h1.mono (.of s), hv⟩⟩
          · obtain ⟨a', y1, y2, rfl, ha', h1, h2⟩ := hm
            rw [Mr.cg] at hc
            exact ⟨a', _, y2, p, rfl, ha', rfl, h2, h, by omega, (by decide : 4 ≤ 10), by decide, fun v' H' r s hv hp => q _ H' s ⟨r, y1, v', rfl, hp, h1.mono (.of s), hv⟩⟩
        have hcl := (List.getElem?_eq_some_iff.mp hy).1
        refine sq_yesH hne fun H1 s1 => ?_
        have ha1 := s1 _ _ ha
        refine sq_set (val_ixL (val_var rfl) ha1 at0) ?_
        refine ⟨_, rfl, _, rfl, _, rfl, sl_take (s1 _ _ h0) hcl fun p1 H2 s2 e2 => ?_⟩
        have t2 := s1.trans s2
        refine ⟨_, rfl, _, rfl, a0, xs, _, y, rfl, rfl, .of (t2 _ _ h0), atI_nat hy, ?_⟩
        refine ⟨_, rfl, 1, rfl, a, _, rfl, .of (t2 _ _ ha), fun b hb => ?_⟩
        rw [cut_tail]
        have t3 := t2.trans (same_new (o := .lst (nlist s)) hb)
        refine ⟨_, x, b, s, rfl, hx.mono (.of t3), upd_same, hxs, hxc, by omega, fun v' H4 s4 hv => ⟨(by show 1 ≤ sizeLine; decide), fun p5 n5 => ?_⟩⟩
        have s5 := s4.trans (same_new (o := .tup [v']) n5)
        have s25 := (same_new (o := .lst (nlist s)) hb).trans s5
        have t5 := t2.trans s25
        refine cat_tt (s25 _ _ e2) upd_same (fun z => ?_) (by rw [List.length_take]; show min c xs.length + 1 ≤ 1000; omega) fun p6 H6 s6 e6 => ?_
        · have := congrArg List.length z
          rw [List.length_take, List.length_nil] at this
          omega
        have t6 := t5.trans s6
        refine ⟨_, rfl, _, rfl, _, _, rfl, rfl, _, rfl, ?_⟩
        refine np_of ?_
        refine sl_drop (c := c + 1) (by show (c : Int) + 1 = ((c + 1 : Nat) : Int); omega) (t6 _ _ h0) (by omega) (by omega) fun p7 H7 s7 e7 => ?_
        refine cat_tt (s7 _ _ e6) e7 (by simp) (by simp; omega) fun p8 H8 s8 e8 => ?_
        exact qq v' H8 p8 ((t6.trans s7).trans s8) (hv.mono (.of ((same_new n5).trans (s6.trans (s7.trans s8))))) e8
end
end WW
namespace WW
open PySem PySem.Spec PyProof.Rows L2
theorem mr_tag {H : Hp} {m : Mr} {v : V} (h : RepM H m v) : ∃ a s r, v = .ref a ∧ H a = some (.tup (.str s :: r)) ∧ (∀ b, decide (V.str s = V.str (SG b)) = match m with
    | .gv c _ _ _ => decide (c = b)
    | _ => false) := by
  cases m with
  | wd =>
    obtain ⟨a, e, h⟩ := h
    exact ⟨a, _, _, e, h, fun b => by cases b <;> rfl⟩
  | pr c l r =>
    obtain ⟨a, u, z, e, h, _⟩ := h
    exact ⟨a, _, _, e, h, fun b => by cases b <;> cases c <;> rfl⟩
  | gv c l r t =>
    obtain ⟨a, u, z, e, h, _⟩ := h
    exact ⟨a, _, _, e, h, fun b => by cases b <;> cases c <;> rfl⟩
theorem ans_tag2 {K : PySem.W.Frag} {σ : L2.St} {H : Hp} {i : Nat} {a c : Addr} {xs r : List V} {s lit : Str} {k : Int} {b : Bool} (h0 : σ[i]? = some (some (.ref a))) (h1 : H a = some (.tup xs)) (hx : atI xs k = some (.ref c)) (h2 : H c = some (.tup (.str s :: r))) (hb : decide (V.str s = V.str lit) = b) :
    Ans (tTest (tOp rEq (tOp (rIxT K) (tOp (rIxT K) (tVar i) (tC (.int k))) (tC (.int 0))) (tC (.str lit)))) σ H b := ans_eq (val_ix (val_ix (val_var h0) h1 hx) h2 at0) val_c rfl hb
theorem sq_both {c : TT} {t1 u : TS} {D : Ends} {σ : L2.St} {H : Hp} {b : Bool} (R : Hp → Prop) (h : Ans c σ H b) (h1 : b = true → ∀ N : Hp → Prop, (∀ H', R H' → N H') → (∀ H', N H' → u D σ H') → t1 { D with nx := u D } σ H) (h2 : b = false → R H) (q : ∀ H', R H' → u D σ H') :
    tSeq (tIfS c t1 tNext) u D σ H := by
  cases b with
  | true => exact sq_yes h (h1 rfl (fun H' => u D σ H') q fun _ z => z)
  | false => exact sq_skip h (q H (h2 rfl))
section
variable {P : Program} {w : World} {K : PySem.W.Frag} {mg : Str → Option Value} {base : Heap}
theorem ve_gv {σ : L2.St} {H : Hp} {i : Nat} {a : Addr} {r : List V} {s : Str} {b : Bool} {Q : VK} (h0 : σ[i]? = some (some (.ref a))) (h1 : H a = some (.tup (.str s :: r))) (hb : inV (.str s) [.str "givebehind", .str "giveahead"] = b) (q : ∀ H', Same H H' → Q (.bl b) H') :
    tOp (rIn K false) (tOp (rIxT K) (tVar i) (tC (.int 0))) (tTup (tCons (tC (.str "givebehind")) (tCons (tC (.str "giveahead")) tNil))) σ H Q := by
  refine val_ix (val_var h0) h1 at0 _ ⟨(by show 2 ≤ sizeLine; decide), fun p hp => ⟨p, _, rfl, .inr (.of upd_same), rfl, rfl, ?_⟩⟩
  show Q (.bl (if false = true then !inV (.str s) [.str "givebehind", .str "giveahead"] else inV (.str s) [.str "givebehind", .str "giveahead"])) _
  rw [if_neg Bool.false_ne_true, hb]
  exact q _ (same_new hp)
/-! ### paths -/
def spPaths (n : Nat) : Sp := fun vs H Q _ => ∃ v m, vs = [v] ∧ RepM H m v ∧ m.bare.count ≤ n ∧ m.bare.count ≤ 100 ∧ NewP H m.bare.places Q
theorem ok_paths (T : Top w K mg) : ∀ n, FnOk P w K mg base CX0 n T.paths.f T.paths.fd ["_law_tree"] (spPaths n)
  | 0 => fn_never fun vs H Q E ⟨v, t, _, _, h, _⟩ => by
    have := t.bare.count_pos
    omega
  | n + 1 => by
    have G_paths := ok_paths T n
    refine T.paths.F.ok sc_paths (fun vs H Q E h => ?_) (fun cdv A outer s H vs Q E hr h => ⟨_, PSs.nox (pss_cons (ps_if (pt_cmpR op_eq (pe_ix ix_tup (pv 0) pe_int (fun _ _ => rfl)) pe_str (nomark _)) (pss_one (ps_ret (pe_lst pa_nil))) pss_nil)
    (pss_cons (ps_set (i := 1) sc_paths.nd rfl (Or.inl rfl) (pe_cmpR op_in_seq (pe_ix ix_tup (pv 0) pe_int (fun _ _ => rfl)) (pe_tup (pa_cons pe_str (pa_cons pe_str pa_nil))) (by rfl)))
    (pss_cons (ps_set (i := 2) sc_paths.nd rfl (Or.inl rfl) (pe_lst pa_nil))
    (pss_cons (ps_if (PW.pt (pw_or (PW.pt (pw_and (pt_cmpR op_eq (pe_ix ix_tup (pv 0) pe_int (fun _ _ => rfl)) pe_str (nomark _)) (pw_and1 (pt_cmpR op_eq (pe_ix ix_tup (pe_ix ix_tup (pv 0) pe_int (fun _ _ => rfl)) pe_int (fun _ _ => rfl)) pe_str (nomark _))))) (pw_or1 (PW.pt (pw_and (pt_cmpR op_eq (pe_ix ix_tup (pv 0) pe_int (fun _ _ => rfl)) pe_str (nomark _)) (pw_and1 (pt_cmpR op_eq (pe_ix ix_tup (pe_ix ix_tup (pv 0) pe_int (fun _ _ => rfl)) pe_int (fun _ _ => rfl)) pe_str (nomark _)))))))) (pss_one (ps_expr (pe_bm PySem.F.plainAttrs_list PySem.F.slot_list_append PySem.F.type_list_append mt_append (pv 2) (pa_cons (pe_lst pa_nil) pa_nil)))) pss_nil)
    (pss_cons (ps_for PassesOwn.never rfl (pi_list (pe_ifExp (pt_val (pv 1)) (pe_lst (pa_cons pe_int pa_nil)) (pe_lst (pa_cons pe_int (pa_cons pe_int pa_nil))))) (pg_name (i := 3) sc_paths.nd rfl (Or.inr rfl)) (pss_one (ps_set (i := 2) sc_paths.nd rfl (Or.inl rfl) (pe_op op_cat (pv 2) (pe_lc (own := [("_law_path", 4)]) (g := gName 4) rfl sc_paths.nd (pi_list (pe_call G_paths (hr.mono (by omega)) rfl T.paths.m T.paths.F.kp (b_paths T) .nil pass0 (pa_cons (pe_ix ix_tup (pv 0) (pv 3) (fun _ _ => rfl)) pa_nil))) (blkOk_by (own := [("_law_path", 4)]) (N := n_paths) (sc := defScope (top 53)) (by decide +kernel)) (fun _ _ _ _ _ => pg_name (i := 4) sc_paths.nd rfl (Or.inl rfl)) (fun _ _ _ _ _ => pts_nil) (fun _ _ _ _ _ => (pe_op op_cat (pe_lst (pa_cons (pv 3) pa_nil)) (pv 4))))))))
    (pss_one (ps_ret (pv 2)))))))), ?_⟩)
    · obtain ⟨v, t, rfl, _⟩ := h
      rfl
    · obtain ⟨v, m, rfl, hm, hc, hc1, q⟩ := h
      cases m with
      | wd c =>
        obtain ⟨a, rfl, h⟩ := hm
        refine sq_yes (ans_tag rfl h rfl) ?_
        exact ⟨Nat.zero_le _, fun p hp => q p _ [] (same_new hp) hp upd_same trivial⟩
      | pr b l r =>
        obtain ⟨a, u, z, rfl, h, hl, hr'⟩ := hm
        rw [Mr.cp] at hc hc1
        refine sq_skip (ans_tag rfl h (by cases b <;> rfl)) ?_
        refine sq_asg (ve_gv (b := false) rfl h (by cases b <;> rfl) fun H1 s1 => ?_)
        refine sq_asg ⟨Nat.zero_le _, fun F0 hF0 => ?_⟩
        have s2 := s1.trans (same_new (o := .lst []) hF0)
        have nF0 := fresh_of s1 hF0
        have h2 := s2 _ _ h
        have hred : Ans (tOr (tAnd (tTest (tOp rEq (tOp (rIxT K) (tVar 0) (tC (.int 0))) (tC (.str "behind")))) (tTest (tOp rEq (tOp (rIxT K) (tOp (rIxT K) (tVar 0) (tC (.int 1))) (tC (.int 0))) (tC (.str "givebehind")))))
            (tAnd (tTest (tOp rEq (tOp (rIxT K) (tVar 0) (tC (.int 0))) (tC (.str "ahead")))) (tTest (tOp rEq (tOp (rIxT K) (tOp (rIxT K) (tVar 0) (tC (.int 2))) (tC (.int 0))) (tC (.str "giveahead"))))))
            [some (.ref a), some (.bl false), some (.ref F0), none, none] (upd H1 F0 (.lst [])) (Mr.pr b l r).bare.red := by
          cases b with
          | true =>
            obtain ⟨c, s', rr, rfl, hc', hb⟩ := mr_tag (hl.mono (.of s2))
            have e : decide (V.str s' = V.str "givebehind") = (Mr.pr true l r).bare.red := by
              refine (hb true).trans ?_
              cases l with
              | wd _ => rfl
              | pr _ _ _ => rfl
              | gv c _ _ _ => cases c <;> rfl
            have h1 := ans_and (ans_tag (K := K) (i := 0) (σ := [some (.ref a), some (.bl false), some (.ref F0), none, none]) (lit := "behind") rfl h2 rfl) (ans_tag2 (K := K) (i := 0) rfl h2 at1 hc' e)
            cases hr0 : (Mr.pr true l r).bare.red with
            | true =>
              rw [hr0] at h1
              exact ans_or1 h1
            | false =>
              rw [hr0] at h1
              exact ans_or h1 (ans_and0 (ans_tag rfl h2 rfl))
          | false =>
            obtain ⟨c, s', rr, rfl, hc', hb⟩ := mr_tag (hr'.mono (.of s2))
            have e : decide (V.str s' = V.str "giveahead") = (Mr.pr false l r).bare.red := by
              refine (hb false).trans ?_
              cases r with
              | wd _ => rfl
              | pr _ _ _ => rfl
              | gv c _ _ _ => cases c <;> rfl
            exact ans_or (ans_and0 (ans_tag rfl h2 rfl)) (ans_and (ans_tag rfl h2 rfl) (ans_tag2 rfl h2 at2 hc' e))
        refine sq_both (fun H' => Same H H' ∧ ∃ acc, H' F0 = some (.lst acc) ∧ AllP (fun c => H c = none) H' acc (if (Mr.pr b l r).bare.red = true then [[]] else [])) hred (fun e N hR hN => ?_) (fun e => ?_) (fun H3 hR => ?_)
        · refine ⟨_, rfl, .inl ⟨rfl, _, .of upd_same⟩, ⟨Nat.zero_le _, fun p hp => ⟨F0, [], .ref p, rfl, rfl, same_new hp _ _ upd_same, (by show 0 < sizeLine; decide), hN _ (hR _ ⟨Same.mut (s2.trans (same_new hp)) nF0, _, upd_same, ?_⟩)⟩⟩⟩
          rw [if_pos e]
          have ne : p ≠ F0 := fr_ne hp upd_same
          exact ⟨⟨p, rfl, fresh_of s2 hp, by rw [upd_ne ne]; exact upd_same⟩, trivial⟩
        · rw [if_neg (by rw [e]; exact Bool.false_ne_true)]
          exact ⟨s2, [], upd_same, trivial⟩
        · obtain ⟨s3, acc0, e0, a0⟩ := hR
          refine sq_for ?_
          refine ⟨_, rfl, false, rfl, itN Bool.false_ne_true ⟨(by show 2 ≤ sizeLine; decide), fun L nL => ⟨L, rfl, ⟨_, .of upd_same⟩, ?_⟩⟩⟩
          refine for_list (xs := [.int 1, .int 2]) (fun j σ H' => Same H H' ∧ H' L = some (.lst [.int 1, .int 2]) ∧ ∃ F acc y, σ = [some (.ref a), some (.bl false), some (.ref F), y, none] ∧ H F = none ∧ H' F = some (.lst acc) ∧
              AllP (fun c => H c = none) H' acc ((if (Mr.pr b l r).bare.red = true then [[]] else []) ++ (if j = 0 then [] else if j = 1 then l.bare.places.map (1 :: ·) else l.bare.places.map (1 :: ·) ++ r.bare.places.map (2 :: ·))))
            ⟨s3.trans (same_new nL), upd_same, F0, acc0, none, rfl, nF0, same_new nL _ _ e0, ?_⟩ (fun i σ H' _ hP => .of hP.2.1) (fun j x σ H' hx hP => ?_) (fun σ H' hP => ?_)
          · rw [if_pos rfl, List.append_nil]
            exact a0.mono (same_new nL)
          · obtain ⟨s4, eL, F, acc, y, rfl, nF, eF, al⟩ := hP
            obtain ⟨c, v, t, rfl, hat, hv, hcn, hc3, hpl⟩ : ∃ (c : Nat) (v : V) (t : Mr), x = .int (c : Int) ∧ [V.str (SB b), u, z][c]? = some v ∧ RepM H t v ∧ t.bare.count ≤ n ∧ t.bare.count ≤ 100 ∧
                ((if j + 1 = 0 then [] else if j + 1 = 1 then l.bare.places.map (1 :: ·) else l.bare.places.map (1 :: ·) ++ r.bare.places.map (2 :: ·)) = (if j = 0 then [] else if j = 1 then l.bare.places.map (1 :: ·) else l.bare.places.map (1 :: ·) ++ r.bare.places.map (2 :: ·)) ++ t.bare.places.map (c :: ·)) := by
              match j, hx with
              | 0, hx =>
                have e : V.int 1 = x := Option.some.inj hx
                exact ⟨1, u, l, e.symm, rfl, hl, by omega, by omega, rfl⟩
              | 1, hx =>
                have e : V.int 2 = x := Option.some.inj hx
                exact ⟨2, z, r, e.symm, rfl, hr', by omega, by omega, rfl⟩
              | j + 2, hx => simp at hx
            have ps := places_small (t := t.bare) (by omega)
            rw [hpl]
            refine ⟨_, rfl, ⟨_, rfl, _, rfl, a, _, _, v, rfl, rfl, .of (s4 _ _ h), atI_nat hat, _, t, rfl, hv.mono (.of s4), hcn, by omega, fun r1 H5 us s5 n5 e5 a5 => ⟨r1, rfl, ⟨us, .of e5⟩, fun D hD => ?_⟩⟩⟩
            refine lc_pre (h := c) (by exact (by decide : 4 < 5)) (el_cat (by exact (by decide : 4 < 5)) fun x H Q q => ⟨_, rfl, q⟩) e5 a5 hD ps.1 ps.2 fun H6 ws s6 e6 a6 => ?_
            have t6 := s5.trans s6
            have z1 := al.length
            have z3 := a6.length
            rw [List.length_map] at z3
            have lim : acc.length ≤ 400 := by
              rw [z1, List.length_append]
              have h1 := l.bare.places_len
              have h2 := r.bare.places_len
              have h3 : (if (Mr.pr b l r).bare.red = true then ([[]] : List (List Nat)) else []).length ≤ 1 := by split <;> simp
              have h4 : (if j = 0 then [] else if j = 1 then l.bare.places.map (1 :: ·) else l.bare.places.map (1 :: ·) ++ r.bare.places.map (2 :: ·)).length ≤ l.bare.places.length + r.bare.places.length := by
                split
                · simp
                · split
                  · rw [List.length_map]; omega
                  · rw [List.length_append, List.length_map, List.length_map]; omega
              omega
            have hpl2 := t.bare.places_len
            refine ⟨F, D, acc, ws, rfl, rfl, t6 _ _ eF, e6, sz (by omega), fun F7 n7 => ⟨(s4.trans t6).trans (same_new n7), same_new n7 _ _ (t6 _ _ eL), F7, acc ++ ws, _, rfl, fresh_of (s4.trans t6) n7, upd_same, ?_⟩⟩
            rw [← List.append_assoc]
            refine AllP.mono (same_new n7) ((al.mono t6).append (a6.imp fun c hc => ?_))
            exact fresh_of (s4.trans s5) hc.1
          · obtain ⟨s4, eL, F, acc, y, rfl, nF, eF, al⟩ := hP
            exact ⟨_, rfl, q F H' acc s4 nF eF al⟩
      | gv b k p t =>
        obtain ⟨a, u, z, rfl, h, hk, hp⟩ := hm
        rw [Mr.cg] at hc hc1
        refine sq_skip (ans_tag rfl h (by cases b <;> rfl)) ?_
        refine sq_asg (ve_gv (b := true) rfl h (by cases b <;> rfl) fun H1 s1 => ?_)
        refine sq_asg ⟨Nat.zero_le _, fun F0 hF0 => ?_⟩
        have s2 := s1.trans (same_new (o := .lst []) hF0)
        have nF0 := fresh_of s1 hF0
        have h2 := s2 _ _ h
        refine sq_skip (ans_or (ans_and0 (ans_tag rfl h2 (by cases b <;> rfl))) (ans_and0 (ans_tag rfl h2 (by cases b <;> rfl)))) ?_
        refine sq_for ?_
        refine ⟨_, rfl, true, rfl, itY rfl ⟨(by show 1 ≤ sizeLine; decide), fun L nL => ⟨L, rfl, ⟨_, .of upd_same⟩, ?_⟩⟩⟩
        have ps := places_small (t := p.bare) (by omega)
        refine for_list (xs := [.int 2]) (fun j σ H' => Same H H' ∧ H' L = some (.lst [.int 2]) ∧ ∃ F acc y, σ = [some (.ref a), some (.bl true), some (.ref F), y, none] ∧ H F = none ∧ H' F = some (.lst acc) ∧ AllP (fun c => H c = none) H' acc (if j = 0 then [] else p.bare.places.map (2 :: ·)))
          ⟨s2.trans (same_new nL), upd_same, F0, [], none, rfl, nF0, same_new nL _ _ upd_same, trivial⟩ (fun i σ H' _ hP => .of hP.2.1) (fun j x σ H' hx hP => ?_) (fun σ H' hP => ?_)
        · obtain ⟨s4, eL, F, acc, y, rfl, nF, eF, al⟩ := hP
          match j, hx with
          | 0, hx =>
            have ex : V.int 2 = x := Option.some.inj hx
            subst ex
            have hz : acc = [] := List.eq_nil_of_length_eq_zero al.length
            subst hz
            refine ⟨_, rfl, ⟨_, rfl, _, rfl, a, _, 2, z, rfl, rfl, .of (s4 _ _ h), at2, _, p, rfl, hp.mono (.of s4), by omega, by omega, fun r1 H5 us s5 n5 e5 a5 => ⟨r1, rfl, ⟨us, .of e5⟩, fun D hD => ?_⟩⟩⟩
            refine lc_pre (h := 2) (by exact (by decide : 4 < 5)) (el_cat (by exact (by decide : 4 < 5)) fun x H Q q => ⟨_, rfl, q⟩) e5 a5 hD ps.1 ps.2 fun H6 ws s6 e6 a6 => ?_
            have t6 := s5.trans s6
            have z3 := a6.length
            rw [List.length_map] at z3
            refine ⟨F, D, [], ws, rfl, rfl, t6 _ _ eF, e6, by rw [List.length_nil]; exact sz (by have := ps.1; omega), fun F7 n7 => ⟨(s4.trans t6).trans (same_new n7), same_new n7 _ _ (t6 _ _ eL), F7, ws, _, rfl, fresh_of (s4.trans t6) n7, upd_same, ?_⟩⟩
            exact AllP.mono (same_new n7) (a6.imp fun c hc => fresh_of (s4.trans s5) hc.1)
          | j + 1, hx => simp at hx
        · obtain ⟨s4, eL, F, acc, y, rfl, nF, eF, al⟩ := hP
          exact ⟨_, rfl, q F H' acc s4 nF eF al⟩
end
end WW
namespace WW
open PySem PySem.Spec PyProof.Rows L2
theorem sq_asgG {te : TE} {g : TG} {u : TS} {D : Ends} {σ : L2.St} {H : Hp} (q : te σ H fun x H1 => g x σ H1 (u D)) : tSeq (tAsg te g) u D σ H := q
theorem sq_par {ta : TA} {u : TS} {D : Ends} {σ : L2.St} {H : Hp} {i j : Nat} (q : ta σ H fun vs H1 => ∃ v w, vs = [v, w] ∧ u D ((σ.set i (some v)).set j (some w)) H1) : tSeq (tPar i j ta) u D σ H := q
theorem nlist_app (a b : List Nat) : nlist (a ++ b) = nlist a ++ nlist b := List.map_append
theorem nlist_at {s : List Nat} {i c : Nat} (h : s[i]? = some c) : (nlist s)[i]? = some (.int (c : Nat)) := by
  unfold nlist
  rw [List.getElem?_map, h]
  rfl
theorem pick_at {b : Bool} {L : List Nat} (h : L ≠ []) : (nlist L)[if b then (nlist L).length - 1 else 0]? = some (.int (Tr.pick b L : Nat)) := by
  cases b with
  | true =>
    rw [if_pos rfl, nlist_len]
    refine nlist_at ?_
    unfold Tr.pick
    rw [if_pos rfl, List.getLast?_eq_getElem?]
    have hl : L.length - 1 < L.length := by
      have := List.length_pos_iff.mpr h
      omega
    rw [List.getElem?_eq_getElem hl]
    rfl
  | false =>
    rw [if_neg Bool.false_ne_true]
    refine nlist_at ?_
    unfold Tr.pick
    rw [if_neg Bool.false_ne_true]
    cases L with
    | nil => exact absurd rfl h
    | cons x r => rfl
section
variable {P : Program} {w : World} {K : PySem.W.Frag} {mg : Str → Option Value} {base : Heap}
/-! ### marked -/
def spMarked (n : Nat) : Sp := fun vs H Q _ => ∃ v t c xs, vs = [v, .ref c] ∧ RepT H t v ∧ t.WF ∧ t.count ≤ n ∧ H c = some (.lst xs) ∧ xs.length + t.count ≤ 900 ∧
  ∀ r H' um ul xs', SameB c H H' → H' c = some (.lst xs') → xs'.length = xs.length + t.leaves → H' r = some (.tup [um, .ref ul]) → RepM H' (t.mark xs.length).1 um → ul ≠ c → H' ul = some (.lst (nlist (t.mark xs.length).2)) → Q (.ref r) H'
theorem ok_marked (T : Top w K mg) : ∀ n, FnOk P w K mg base CX0 n T.marked.f T.marked.fd ["_law_tree", "_law_count_here"] (spMarked n)
  | 0 => fn_never fun vs H Q E ⟨v, t, c, xs, _, _, _, h, _⟩ => by
    have := t.count_pos
    omega
  | n + 1 => by
    have G_marked := ok_marked T n
    refine T.marked.F.ok sc_marked (fun vs H Q E h => ?_) (fun cdv A outer s H vs Q E hr h => ⟨_, PSs.nox (pss_cons (ps_if (pt_cmpR op_eq (pe_ix ix_tup (pv 0) pe_int (fun _ _ => rfl)) pe_str (nomark _)) (pss_cons (ps_expr (pe_bm PySem.F.plainAttrs_list PySem.F.slot_list_append PySem.F.type_list_append mt_append (pv 1) (pa_cons (pe_callB call_len_seq rfl T.z_len PySem.boot_len (pa_cons (pv 1) pa_nil)) pa_nil)))
    (pss_one (ps_ret (pe_tup (pa_cons (pe_tup (pa_cons pe_str (pa_cons (pe_op op_sub (pe_callB call_len_seq rfl T.z_len PySem.boot_len (pa_cons (pv 1) pa_nil)) pe_int) pa_nil))) (pa_cons (pe_lst (pa_cons (pe_op op_sub (pe_callB call_len_seq rfl T.z_len PySem.boot_len (pa_cons (pv 1) pa_nil)) pe_int) pa_nil)) pa_nil)))))) pss_nil)
    (pss_cons (ps_if (pt_cmpR op_in_seq (pe_ix ix_tup (pv 0) pe_int (fun _ _ => rfl)) (pe_tup (pa_cons pe_str (pa_cons pe_str pa_nil))) (by rfl)) (pss_cons (ps_asg (pe_call G_marked (hr.mono (by omega)) rfl T.marked.m T.marked.F.kp (b_marked T) .nil pass0 (pa_cons (pe_ix ix_tup (pv 0) pe_int (fun _ _ => rfl)) (pa_cons (pv 1) pa_nil))) (pg_tup rfl (pgs_cons (pg_name (i := 2) sc_marked.nd rfl (Or.inl rfl)) (pgs_cons (pg_name (i := 3) sc_marked.nd rfl (Or.inl rfl)) pgs_nil))))
    (pss_cons (ps_set (i := 4) sc_marked.nd rfl (Or.inr rfl) (pe_ifExp (pt_cmpR op_eq (pe_ix ix_tup (pv 0) pe_int (fun _ _ => rfl)) pe_str (nomark _)) (pe_ix ix_list (pv 3) (pe_un un_neg pe_int) (fun _ _ => rfl)) (pe_ix ix_list (pv 3) pe_int (fun _ _ => rfl))))
    (pss_one (ps_ret (pe_tup (pa_cons (pe_tup (pa_cons (pe_ix ix_tup (pv 0) pe_int (fun _ _ => rfl)) (pa_cons (pe_ix ix_tup (pv 0) pe_int (fun _ _ => rfl)) (pa_cons (pv 2) (pa_cons (pv 4) pa_nil))))) (pa_cons (pe_lc (own := [("_law_number", 7)]) (g := gName 7) rfl sc_marked.nd (pi_list (pv 3)) (blkOk_by (own := [("_law_number", 7)]) (N := n_marked) (sc := defScope (top 50)) (by decide +kernel)) (fun _ _ _ _ _ => pg_name (i := 7) sc_marked.nd rfl (Or.inl rfl)) (fun _ _ _ _ _ => pts_one (pt_cmpR op_ne (pv 7) (pv 4) (nomark _))) (fun _ _ _ _ _ => (pv 7))) pa_nil))))))) pss_nil)
    (pss_cons (ps_par (i := 5) (j := 6) rfl sc_marked.nd rfl rfl (by decide) rfl rfl (pa_cons (pe_call G_marked (hr.mono (by omega)) rfl T.marked.m T.marked.F.kp (b_marked T) .nil pass0 (pa_cons (pe_ix ix_tup (pv 0) pe_int (fun _ _ => rfl)) (pa_cons (pv 1) pa_nil))) (pa_cons (pe_call G_marked (hr.mono (by omega)) rfl T.marked.m T.marked.F.kp (b_marked T) .nil pass0 (pa_cons (pe_ix ix_tup (pv 0) pe_int (fun _ _ => rfl)) (pa_cons (pv 1) pa_nil))) pa_nil)) rfl)
    (pss_one (ps_ret (pe_tup (pa_cons (pe_tup (pa_cons (pe_ix ix_tup (pv 0) pe_int (fun _ _ => rfl)) (pa_cons (pe_ix ix_tup (pv 5) pe_int (fun _ _ => rfl)) (pa_cons (pe_ix ix_tup (pv 6) pe_int (fun _ _ => rfl)) pa_nil)))) (pa_cons (pe_op op_cat (pe_ix ix_tup (pv 5) pe_int (fun _ _ => rfl)) (pe_ix ix_tup (pv 6) pe_int (fun _ _ => rfl))) pa_nil)))))))), ?_⟩)
    · obtain ⟨v, t, c, xs, rfl, _⟩ := h
      rfl
    · obtain ⟨v, t, c, xs, rfl, ht, hw, hc, hx, hl, q⟩ := h
      cases t with
      | wd =>
        obtain ⟨a, rfl, h⟩ := ht
        have ec : Tr.wd.count = 1 := rfl
        refine sq_yes (ans_tag rfl h rfl) ?_
        have e : (((xs ++ [V.int (xs.length : Nat)]).length : Nat) : Int) - 1 = ((xs.length : Nat) : Int) := by
          rw [List.length_append, List.length_singleton]
          omega
        refine ⟨_, rfl, .inl ⟨rfl, _, .of hx⟩, ⟨_, rfl, c, xs, rfl, .inl (.of hx), c, xs, _, rfl, rfl, hx, small1000 (by omega), ?_⟩⟩
        refine ⟨_, rfl, c, _, rfl, .inl (.of upd_same), _, _, rfl, rfl, (by show 2 ≤ sizeLine; decide), fun p np => ?_⟩
        have hcp : c ≠ p := ne_of_none upd_same np
        have hc2 : (upd (upd H c (.lst (xs ++ [V.int (xs.length : Nat)]))) p (.tup [.str "word", .int ((((xs ++ [V.int (xs.length : Nat)]).length : Nat) : Int) - 1)])) c = some (.lst (xs ++ [V.int (xs.length : Nat)])) := by
          rw [upd_ne hcp]
          exact upd_same
        refine ⟨_, rfl, c, _, rfl, .inl (.of hc2), _, _, rfl, rfl, (by show 1 ≤ sizeLine; decide), fun l nl => ⟨(by show 2 ≤ sizeLine; decide), fun r nr => ?_⟩⟩
        have sB : SameB c H (upd H c (.lst (xs ++ [V.int (xs.length : Nat)]))) := sameB_upd
        have s2 := ((same_new (o := .tup [.str "word", .int ((((xs ++ [V.int (xs.length : Nat)]).length : Nat) : Int) - 1)]) np).trans (same_new (o := .lst [.int ((((xs ++ [V.int (xs.length : Nat)]).length : Nat) : Int) - 1)]) nl)).trans (same_new (o := .tup [.ref p, .ref l]) nr)
        refine q r _ (.ref p) l (xs ++ [V.int (xs.length : Nat)]) (sB.trans (.of s2)) (s2 _ _ upd_same) ?_ upd_same ?_ (fr_ne nl hc2) ?_
        · rw [List.length_append, List.length_singleton]
          rfl
        · refine ⟨p, rfl, (same_new nr _ _ (same_new nl _ _ upd_same)).trans ?_⟩
          show some (HO.tup [.str "word", .int ((((xs ++ [V.int (xs.length : Nat)]).length : Nat) : Int) - 1)]) = _
          rw [e]
        · refine (same_new nr _ _ upd_same).trans ?_
          show some (HO.lst [.int ((((xs ++ [V.int (xs.length : Nat)]).length : Nat) : Int) - 1)]) = _
          rw [e]
          rfl
      | gv b k p =>
        obtain ⟨a, u, z, rfl, h, hk, hp⟩ := ht
        have hc' : 1 + p.count ≤ n + 1 := hc
        have hl' : xs.length + (1 + p.count) ≤ 900 := hl
        have mk := Tr.mark_ok (n := xs.length) hw.1
        have mkl := Mr.free_len mk.1
        rw [mk.2.1, mk.2.2.1] at mkl
        have hw2 := hw.2
        have mkc : (p.mark xs.length).2.length ≤ 900 := by
          have := p.width_le
          omega
        have mkne : (p.mark xs.length).2 ≠ [] := fun z => by
          have := mkl.1
          rw [z, List.length_nil] at this
          omega
        refine sq_skip (ans_tag rfl h (by cases b <;> rfl)) ?_
        refine sq_yesH (ans_gv rfl h (by cases b <;> rfl)) fun H1 s1 => ?_
        refine sq_asgG (val_ix (val_var rfl) (s1 _ _ h) at2 _ ⟨_, rfl, _, p, c, xs, rfl, hp.mono (.of s1), hw.1, by omega, s1 _ _ hx, by omega, fun r H2 um ul xs2 s2 e2 l2 er hm ne el => ?_⟩)
        have k2 := s2.kt (s1 _ _ hx)
        have h2 := k2 _ _ (s1 _ _ h)
        refine ⟨r, _, rfl, .of er, rfl, um, [.ref ul], rfl, .ref ul, [], rfl, rfl, ?_⟩
        refine sq_set (v := .int (Tr.pick b (p.mark xs.length).2 : Nat)) ?_ ?_
        · intro Q' q'
          refine ans_tag rfl h2 (b := b) (by cases b <;> rfl) _ ?_
          have pk := pick_at (b := b) mkne
          cases b with
          | true =>
            rw [if_pos rfl] at pk
            exact itY rfl ⟨_, rfl, 1, rfl, ul, _, _, _, rfl, rfl, .of el, at_last pk, q'⟩
          | false =>
            rw [if_neg Bool.false_ne_true] at pk
            exact itN Bool.false_ne_true ⟨_, rfl, ul, _, _, _, rfl, rfl, .of el, atI_nat (j := 0) pk, q'⟩
        · refine val_ix (val_var rfl) h2 at0 _ (val_ix (val_var rfl) h2 at1 _ ⟨_, rfl, _, rfl, (by show 4 ≤ sizeLine; decide), fun p3 n3 => ?_⟩)
          have s3 := same_new (o := .tup [.str (SG b), u, um, .int (Tr.pick b (p.mark xs.length).2 : Nat)]) n3
          refine ⟨_, rfl, ul, rfl, ⟨_, .of (s3 _ _ el)⟩, fun D hD => ?_⟩
          refine lc_list (K := K) (a := ul) (xs := nlist (p.mark xs.length).2) (fun i H' => Same (upd H2 p3 (.tup [.str (SG b), u, um, .int (Tr.pick b (p.mark xs.length).2 : Nat)])) H' ∧ H' D = some (.lst (nlist (((p.mark xs.length).2.take i).filter fun x => decide (x ≠ Tr.pick b (p.mark xs.length).2)))))
            ⟨same_new hD, upd_same⟩ (fun i H' _ hP => .of (hP.1 _ _ (s3 _ _ el))) (fun i x H' hx' hP => ?_) (fun H' hP => ?_)
          · obtain ⟨s4, eD⟩ := hP
            unfold nlist at hx'
            rw [List.getElem?_map] at hx'
            cases ee : (p.mark xs.length).2[i]? with
            | none => rw [ee] at hx'; cases hx'
            | some d =>
              rw [ee] at hx'
              have ex : V.int (d : Nat) = x := Option.some.inj hx'
              subst ex
              have hi := (List.getElem?_eq_some_iff.mp ee).1
              refine ⟨rfl, ⟨_, rfl, _, rfl, rfl, _, rfl, ?_⟩⟩
              by_cases hne : d = Tr.pick b (p.mark xs.length).2
              · refine itN (by rw [hne, decide_eq_true rfl]; exact Bool.false_ne_true) ⟨s4, ?_⟩
                rw [eD, List.take_add_one, ee, List.filter_append]
                simp [hne]
              · have hdec : decide (V.int (d : Nat) = V.int (Tr.pick b (p.mark xs.length).2 : Nat)) = false := decide_eq_false fun z => hne (by have := V.int.inj z; omega)
                refine itY (by rw [hdec]; rfl) ⟨_, rfl, _, eD, ?_, Same.mut s4 hD, ?_⟩
                · rw [nlist_len]
                  have h5 := List.length_filter_le (fun x => decide (x ≠ Tr.pick b (p.mark xs.length).2)) ((p.mark xs.length).2.take i)
                  rw [List.length_take] at h5
                  exact small1000 (by omega)
                · rw [upd_same, List.take_add_one, ee, List.filter_append]
                  have hf : List.filter (fun x => decide (x ≠ Tr.pick b (p.mark xs.length).2)) (some d).toList = [d] := by simp [hne]
                  rw [hf, nlist_app]
                  rfl
          · obtain ⟨s4, eD⟩ := hP
            rw [nlist_len, List.take_length] at eD
            refine ⟨(by show 2 ≤ sizeLine; decide), fun r5 n5 => ?_⟩
            have s35 := (s3.trans s4).trans (same_new (o := .tup [.ref p3, .ref D]) n5)
            have s5 := SameB.trans (SameB.of s1 : SameB c H H1) (s2.trans (.of s35))
            refine q r5 _ (.ref p3) D xs2 s5 (s35 _ _ e2) l2 upd_same ?_ ?_ (same_new n5 _ _ eD)
            · refine ⟨p3, u, um, rfl, same_new n5 _ _ (s4 _ _ upd_same), ?_, hm.mono (.of s35)⟩
              exact hk.mono ((KT.of s1).trans (k2.trans (.of s35)))
            · exact fr_ne hD (s3 _ _ e2)
      | pr b l r =>
        obtain ⟨a, u, z, rfl, h, hl1, hr1⟩ := ht
        have hc' : 1 + l.count + r.count ≤ n + 1 := hc
        have hl' : xs.length + (1 + l.count + r.count) ≤ 900 := hl
        have ll := l.leaves_le
        have mk1 := Tr.mark_ok (n := xs.length) hw.1
        have mkl1 := Mr.free_len mk1.1
        rw [mk1.2.1, mk1.2.2.1] at mkl1
        have mk2 := Tr.mark_ok (n := xs.length + l.leaves) hw.2
        have mkl2 := Mr.free_len mk2.1
        rw [mk2.2.1, mk2.2.2.1] at mkl2
        refine sq_skip (ans_tag rfl h (by cases b <;> rfl)) ?_
        refine sq_skipH (ans_gv rfl h (by cases b <;> rfl)) fun H1 s1 => ?_
        refine sq_par (val_ix (val_var rfl) (s1 _ _ h) at1 _ ⟨_, rfl, _, l, c, xs, rfl, hl1.mono (.of s1), hw.1, by omega, s1 _ _ hx, by omega, fun r2 H2 um2 ul2 xs2 s2 e2 l2 er2 hm2 ne2 el2 => ?_⟩)
        have k2 := s2.kt (s1 _ _ hx)
        refine val_ix (val_var rfl) (k2 _ _ (s1 _ _ h)) at2 _ ⟨_, rfl, _, r, c, xs2, rfl, hr1.mono ((KT.of s1).trans k2), hw.2, by omega, e2, by omega, fun r3 H3 um3 ul3 xs3 s3 e3 l3 er3 hm3 ne3 el3 => ⟨_, _, rfl, ?_⟩⟩
        have k3 := s3.kt e2
        have h3 := k3 _ _ (k2 _ _ (s1 _ _ h))
        have hr2 := k3 _ _ er2
        have el23 := s3 _ _ ne2 el2
        rw [l2] at hm3 el3
        refine val_ix (val_var rfl) h3 at0 _ (val_ix (val_var rfl) hr2 at0 _ (val_ix (val_var rfl) er3 at0 _ ⟨(by show 3 ≤ sizeLine; decide), fun p4 n4 => ?_⟩))
        have s4 := same_new (o := .tup [.str (SB b), um2, um3]) n4
        refine val_ix (val_var rfl) (s4 _ _ hr2) at1 _ (val_ix (val_var rfl) (s4 _ _ er3) at1 _ ?_)
        refine ⟨ul2, ul3, _, _, rfl, rfl, s4 _ _ el23, s4 _ _ el3, ?_, fun p5 n5 => ⟨(by show 2 ≤ sizeLine; decide), fun r6 n6 => ?_⟩⟩
        · rw [nlist_len, nlist_len]
          have h1 := l.width_le
          have h2 := r.width_le
          exact sz (by omega)
        have s6 := (s4.trans (same_new (o := .lst (nlist (l.mark xs.length).2 ++ nlist (r.mark (xs.length + l.leaves)).2)) n5)).trans (same_new (o := .tup [.ref p4, .ref p5]) n6)
        refine q r6 _ (.ref p4) p5 xs3 ((SameB.of s1 : SameB c H H1).trans (s2.trans (s3.trans (.of s6)))) (s6 _ _ e3) ?_ upd_same ?_ (fr_ne n5 (s4 _ _ e3)) ?_
        · show xs3.length = xs.length + (l.leaves + r.leaves)
          omega
        · exact ⟨p4, um2, um3, rfl, same_new n6 _ _ (same_new n5 _ _ upd_same), hm2.mono (k3.trans (.of s6)), hm3.mono (.of s6)⟩
        · refine (same_new n6 _ _ upd_same).trans ?_
          rw [← nlist_app]
          rfl
end
end WW
namespace WW
open PySem PySem.Spec PyProof.Rows L2
def Atom (x : V) : Prop := (∃ i, x = .int i) ∨ (∃ s, x = .str s) ∨ ∃ b, x = .bl b
/-- alike, of nesting below n -/
def Alk (H : Hp) : Nat → V → V → Prop
  | 0, _, _ => False
  | n + 1, x, y => (x = y ∧ Atom x) ∨ ∃ a b xs ys, x = .ref a ∧ y = .ref b ∧ ((H a = some (.tup xs) ∧ H b = some (.tup ys)) ∨ (H a = some (.lst xs) ∧ H b = some (.lst ys))) ∧ xs.length = ys.length ∧ xs.length ≤ 900 ∧
      ∀ (i : Nat) u v, xs[i]? = some u → ys[i]? = some v → Alk H n u v
theorem Alk.mono {H H' : Hp} (s : Same H H') : ∀ {n : Nat} {x y : V}, Alk H n x y → Alk H' n x y
  | 0, _, _, h => h
  | n + 1, x, y, h => by
    rcases h with h | ⟨a, b, xs, ys, e1, e2, h, l1, l2, r⟩
    · exact .inl h
    · refine .inr ⟨a, b, xs, ys, e1, e2, ?_, l1, l2, fun i u v hu hv => (r i u v hu hv).mono s⟩
      rcases h with h | h
      · exact .inl ⟨s _ _ h.1, s _ _ h.2⟩
      · exact .inr ⟨s _ _ h.1, s _ _ h.2⟩
theorem k_tt : kitB "tuple" "tuple" = some true := by decide +kernel
theorem k_lt : kitB "list" "tuple" = some false := by decide +kernel
theorem k_ll : kitB "list" "list" = some true := by decide +kernel
theorem k_it : kitB "int" "tuple" = some false := by decide +kernel
theorem k_il : kitB "int" "list" = some false := by decide +kernel
theorem k_is : kitB "int" "str" = some false := by decide +kernel
theorem k_ii : kitB "int" "int" = some true := by decide +kernel
theorem k_ib : kitB "int" "bool" = some false := by decide +kernel
theorem k_st : kitB "str" "tuple" = some false := by decide +kernel
theorem k_sl : kitB "str" "list" = some false := by decide +kernel
theorem k_ss : kitB "str" "str" = some true := by decide +kernel
theorem k_bt : kitB "bool" "tuple" = some false := by decide +kernel
theorem k_bl : kitB "bool" "list" = some false := by decide +kernel
section
variable {P : Program} {w : World} {K : PySem.W.Frag} {mg : Str → Option Value} {base : Heap}
theorem val_isi {σ : L2.St} {H : Hp} {i : Nat} {x : V} {t c : String} {b : Bool} (h0 : σ[i]? = some (some x)) (ty : TyOf K H x (.type t)) (h : kitB t c = some b) : Val (tCB (rIsi K) (tCons (tVar i) (tCons (tC (.ty c)) tNil))) σ H (.bl b) := fun Q q =>
  ⟨x, h0, x, .ty c, .type t, .type c, b, rfl, .ty c, .base ty, kit_ty h, q⟩
theorem ans_isi {σ : L2.St} {H : Hp} {i : Nat} {x : V} {t c : String} {b : Bool} (h0 : σ[i]? = some (some x)) (ty : TyOf K H x (.type t)) (h : kitB t c = some b) : Ans (tB (tCB (rIsi K) (tCons (tVar i) (tCons (tC (.ty c)) tNil)))) σ H b := ans_val (val_isi h0 ty h)
theorem ans_isB {σ : L2.St} {H : Hp} {i : Nat} {x : V} {b c : Bool} (h0 : σ[i]? = some (some x)) (hx : ∀ a, x ≠ .ref a) (h : decide (x = .bl b) = c) : Ans (tTest (tOp rIsAny (tVar i) (tC (.bl b)))) σ H c := ans_cmp (val_var h0) val_c fun Q q => ⟨b, rfl, hx, by rw [h]; exact q⟩
/-! ### same -/
def spSame (n : Nat) : Sp := fun vs H Q _ => ∃ x y, vs = [x, y] ∧ Alk H n x y ∧ ∀ H', Same H H' → Q (.bl true) H'
theorem ok_same (T : Top w K mg) : ∀ n, FnOk P w K mg base CX0 n T.same.f T.same.fd ["_law_answer", "_law_due"] (spSame n)
  | 0 => fn_never fun vs H Q E ⟨x, y, _, h, _⟩ => h
  | n + 1 => by
    have G_same := ok_same T n
    refine T.same.F.ok sc_same (fun vs H Q E h => ?_) (fun cdv A outer s H vs Q E hr h => ⟨_, PSs.nox (pss_cons (ps_if (PW.pt (pw_or (pt_val (pe_callB call_isi rfl T.z_isinstance (by decide +kernel) (pa_cons (pv 1) (pa_cons (pe_bltn (v := .ty "tuple") rfl T.z_tuple (by decide +kernel) rfl) pa_nil)))) (pw_or1 (pt_val (pe_callB call_isi rfl T.z_isinstance (by decide +kernel) (pa_cons (pv 1) (pa_cons (pe_bltn (v := .ty "list") rfl T.z_list (by decide +kernel) rfl) pa_nil))))))) (pss_cons (ps_set (i := 2) sc_same.nd rfl (Or.inl rfl) (pe_ifExp (pt_val (pe_callB call_isi rfl T.z_isinstance (by decide +kernel) (pa_cons (pv 1) (pa_cons (pe_bltn (v := .ty "tuple") rfl T.z_tuple (by decide +kernel) rfl) pa_nil)))) (pe_callB call_isi rfl T.z_isinstance (by decide +kernel) (pa_cons (pv 0) (pa_cons (pe_bltn (v := .ty "tuple") rfl T.z_tuple (by decide +kernel) rfl) pa_nil))) (pe_callB call_isi rfl T.z_isinstance (by decide +kernel) (pa_cons (pv 0) (pa_cons (pe_bltn (v := .ty "list") rfl T.z_list (by decide +kernel) rfl) pa_nil)))))
    (pss_cons (ps_if (PW.pt (pw_or (pt_not (pt_val (pv 2))) (pw_or1 (pt_cmpR op_ne (pe_callB call_len_seq rfl T.z_len PySem.boot_len (pa_cons (pv 0) pa_nil)) (pe_callB call_len_seq rfl T.z_len PySem.boot_len (pa_cons (pv 1) pa_nil)) (nomark _))))) (pss_one (ps_ret pe_bl)) pss_nil)
    (pss_one (ps_ret (pe_cmpR (op_eqD hr.units) (pe_lc (own := [("_law_spot", 3)]) (g := gName 3) rfl sc_same.nd (pi_range1 rfl T.z_range (pa_cons (pe_callB call_len_seq rfl T.z_len PySem.boot_len (pa_cons (pv 1) pa_nil)) pa_nil)) (blkOk_by (own := [("_law_spot", 3)]) (N := n_same) (sc := defScope (top 56)) (by decide +kernel)) (fun _ _ _ _ _ => pg_name (i := 3) sc_same.nd rfl (Or.inl rfl)) (fun _ _ _ _ _ => pts_one (pt_not (pt_val (pe_call G_same (hr.mono (by omega)) rfl T.same.m T.same.F.kp (b_same T) .nil pass0 (pa_cons (pe_ix (ix_seqK (K := K) rfl) (pv 0) (pv 3) (fun _ _ => rfl)) (pa_cons (pe_ix (ix_seqK (K := K) rfl) (pv 1) (pv 3) (fun _ _ => rfl)) pa_nil)))))) (fun _ _ _ _ _ => (pv 3))) (pe_lst pa_nil) (nomark _)))))) pss_nil)
    (pss_cons (ps_if (PW.pt (pw_or (pt_cmpR op_isN (pv 1) pe_non (nomark _)) (pw_or (pt_cmpR op_isB (pv 1) pe_bl (nomark _)) (pw_or1 (pt_cmpR op_isB (pv 1) pe_bl (nomark _)))))) (pss_one (ps_ret (pe_ifExp (pt_cmpR op_isN (pv 1) pe_non (nomark _)) (pe_cmpR op_isN (pv 0) pe_non (nomark _)) (pe_ifExp (pt_cmpR op_isB (pv 1) pe_bl (nomark _)) (pe_cmpR op_isB (pv 0) pe_bl (nomark _)) (pe_cmpR op_isB (pv 0) pe_bl (nomark _)))))) pss_nil)
    (pss_cons (ps_if (pt_val (pe_callB call_isi rfl T.z_isinstance (by decide +kernel) (pa_cons (pv 1) (pa_cons (pe_bltn (v := .ty "str") rfl T.z_str (by decide +kernel) rfl) pa_nil)))) (pss_one (ps_ret (pe_and (pe_callB call_isi rfl T.z_isinstance (by decide +kernel) (pa_cons (pv 0) (pa_cons (pe_bltn (v := .ty "str") rfl T.z_str (by decide +kernel) rfl) pa_nil))) (pe_one (pe_cmpR op_eq (pv 0) (pv 1) (nomark _)))))) pss_nil)
    (pss_one (ps_ret (pe_and (pe_callB call_isi rfl T.z_isinstance (by decide +kernel) (pa_cons (pv 0) (pa_cons (pe_bltn (v := .ty "int") rfl T.z_int (by decide +kernel) rfl) pa_nil))) (pe_and (pe_not (pe_callB call_isi rfl T.z_isinstance (by decide +kernel) (pa_cons (pv 0) (pa_cons (pe_bltn (v := .ty "bool") rfl T.z_bool (by decide +kernel) rfl) pa_nil)))) (pe_one (pe_cmpR op_eq (pv 0) (pv 1) (nomark _)))))))))), ?_⟩)
    · obtain ⟨x, y, rfl, _⟩ := h
      rfl
    · obtain ⟨x, y, rfl, h, q⟩ := h
      rcases h with ⟨rfl, hx⟩ | ⟨a, b, xs, ys, rfl, rfl, h, hl, hl9, hr'⟩
      · rcases hx with ⟨i, rfl⟩ | ⟨z, rfl⟩ | ⟨c, rfl⟩
        · refine sq_skip (ans_or (ans_isi rfl (.int i) k_it) (ans_isi rfl (.int i) k_il)) ?_
          refine sq_skip (ans_or (ans_isN (val_var rfl) rfl) (ans_or (ans_isB rfl (fun a z => by cases z) rfl) (ans_isB rfl (fun a z => by cases z) rfl))) ?_
          refine sq_skip (ans_isi rfl (.int i) k_is) ?_
          refine val_isi rfl (.int i) k_ii _ ⟨true, rfl, itY rfl (val_isi rfl (.int i) k_ib _ ⟨false, rfl, true, rfl, itY rfl ⟨_, rfl, _, rfl, rfl, ?_⟩⟩)⟩
          exact toB (Q := Q) (decide_eq_true rfl) (q H (Same.refl H))
        · refine sq_skip (ans_or (ans_isi rfl (.str z) k_st) (ans_isi rfl (.str z) k_sl)) ?_
          refine sq_skip (ans_or (ans_isN (val_var rfl) rfl) (ans_or (ans_isB rfl (fun a z => by cases z) rfl) (ans_isB rfl (fun a z => by cases z) rfl))) ?_
          refine sq_yes (ans_isi rfl (.str z) k_ss) ?_
          refine val_isi rfl (.str z) k_ss _ ⟨true, rfl, itY rfl ⟨_, rfl, _, rfl, rfl, ?_⟩⟩
          exact toB (Q := Q) (decide_eq_true rfl) (q H (Same.refl H))
        · refine sq_skip (ans_or (ans_isi rfl (.bl c) k_bt) (ans_isi rfl (.bl c) k_bl)) ?_
          cases c with
          | true =>
            refine sq_yes (ans_or (ans_isN (val_var rfl) rfl) (ans_or1 (ans_isB rfl (fun a z => by cases z) rfl))) ?_
            refine ans_isN (val_var rfl) (b := false) rfl _ (itN Bool.false_ne_true (ans_isB rfl (fun a z => by cases z) (c := true) rfl _ (itY rfl ⟨_, rfl, true, rfl, (fun a z => by cases z), ?_⟩)))
            exact q H (Same.refl H)
          | false =>
            refine sq_yes (ans_or (ans_isN (val_var rfl) rfl) (ans_or (ans_isB rfl (fun a z => by cases z) rfl) (ans_isB rfl (fun a z => by cases z) rfl))) ?_
            refine ans_isN (val_var rfl) (b := false) rfl _ (itN Bool.false_ne_true (ans_isB rfl (fun a z => by cases z) (c := false) rfl _ (itN Bool.false_ne_true ⟨_, rfl, false, rfl, (fun a z => by cases z), ?_⟩)))
            exact q H (Same.refl H)
      · have hS : (SqL K H a xs ∨ SqT K H a xs) ∧ (SqL K H b ys ∨ SqT K H b ys) := by
          rcases h with h | h
          · exact ⟨.inr (.of h.1), .inr (.of h.2)⟩
          · exact ⟨.inl (.of h.1), .inl (.of h.2)⟩
        have hA : Ans (tOr (tB (tCB (rIsi K) (tCons (tVar 1) (tCons (tC (.ty "tuple")) tNil)))) (tB (tCB (rIsi K) (tCons (tVar 1) (tCons (tC (.ty "list")) tNil))))) (L2.start n_same [.ref a, .ref b]) H true := by
          rcases h with h | h
          · exact ans_or1 (ans_isi rfl (.tup h.2) k_tt)
          · exact ans_or (ans_isi rfl (.lst h.2) k_lt) (ans_isi rfl (.lst h.2) k_ll)
        refine sq_yes hA ?_
        refine sq_set (v := .bl true) (fun Q' q' => ?_) ?_
        · rcases h with h | h
          · exact ans_isi rfl (.tup h.2) k_tt _ (itY rfl (val_isi rfl (.tup h.1) k_tt _ q'))
          · exact ans_isi rfl (.lst h.2) k_lt _ (itN Bool.false_ne_true (val_isi rfl (.lst h.1) k_ll _ q'))
        refine sq_skip (ans_or (b := false) (ans_not (b := true) (ans_val (val_var rfl))) (fun Q' q' => ⟨_, rfl, a, xs, rfl, hS.1, _, rfl, b, ys, rfl, hS.2, rfl, _, rfl, ?_⟩)) ?_
        · rw [hl, decide_eq_true rfl]
          exact q'
        refine ⟨_, rfl, b, ys, rfl, hS.2, _, rfl, by omega, by omega, fun D hD => ?_⟩
        have sD := same_new (o := .lst []) hD
        rw [show ((ys.length : Nat) : Int).toNat = ys.length from rfl]
        refine lc_range (lo := 0) (n := ys.length) (fun i H' => Same H H' ∧ H' D = some (.lst [])) ⟨sD, upd_same⟩ (fun i H' hi hP => ?_) (fun H' hP => ?_)
        · obtain ⟨s1, eD⟩ := hP
          have e0 : ((0 : Int) + (i : Nat)) = ((i : Nat) : Int) := by omega
          refine ⟨rfl, ?_⟩
          have hu : xs[i]? = some (xs[i]'(by omega)) := List.getElem?_eq_getElem (by omega)
          have hv : ys[i]? = some (ys[i]'hi) := List.getElem?_eq_getElem hi
          have ha1 : ∀ (Q' : VK), Q' (xs[i]'(by omega)) H' → rIx K (.ref a) (.int ((0 : Int) + (i : Nat))) H' Q' := fun Q' q' => by
            rw [e0]
            rcases h with h | h
            · exact .inr (.inl ⟨a, xs, _, _, rfl, rfl, .of (s1 _ _ h.1), atI_nat hu, q'⟩)
            · exact .inl ⟨a, xs, _, _, rfl, rfl, .of (s1 _ _ h.1), atI_nat hu, q'⟩
          have hb1 : ∀ (Q' : VK), Q' (ys[i]'hi) H' → rIx K (.ref b) (.int ((0 : Int) + (i : Nat))) H' Q' := fun Q' q' => by
            rw [e0]
            rcases h with h | h
            · exact .inr (.inl ⟨b, ys, _, _, rfl, rfl, .of (s1 _ _ h.2), atI_nat hv, q'⟩)
            · exact .inl ⟨b, ys, _, _, rfl, rfl, .of (s1 _ _ h.2), atI_nat hv, q'⟩
          refine ⟨_, rfl, _, rfl, ha1 _ ⟨_, rfl, _, rfl, hb1 _ ⟨_, _, rfl, (hr' i _ _ hu hv).mono s1, fun H2 s2 => ⟨true, rfl, ?_⟩⟩⟩⟩
          exact itN Bool.false_ne_true ⟨s1.trans s2, s2 _ _ eD⟩
        · obtain ⟨s1, eD⟩ := hP
          refine ⟨Nat.zero_le _, fun e he => ?_⟩
          refine ⟨.list [], .list [], dp_nil (same_new he _ _ eD), dp_nil upd_same, shaped_nil, shaped_nil, ?_⟩
          exact toB (Q := Q) ((eqv_nil []).trans (decide_eq_true rfl)) (q _ (s1.trans (same_new he)))
/-! ### spoil -/
def spSpoil0 : Sp := fun vs H Q _ => ∃ x, vs = [x] ∧ Atom x ∧ Q .non H
theorem ok_spoil0 (T : Top w K mg) : FnOk P w K mg base CX0 1 T.spoil.f T.spoil.fd ["_law_thing"] spSpoil0 := by
  have G_spoil : FnOk P w K mg base CX0 0 T.spoil.f T.spoil.fd ["_law_thing"] (fun _ _ _ _ => False) := fn_never fun _ _ _ _ h => h
  refine T.spoil.F.ok sc_spoil (fun vs H Q E h => ?_) (fun cdv A outer s H vs Q E hr h => ⟨_, PSs.nox (pss_one (ps_if (pt_val (pe_callB call_isi rfl T.z_isinstance (by decide +kernel) (pa_cons (pv 0) (pa_cons (pe_bltn (v := .ty "list") rfl T.z_list (by decide +kernel) rfl) pa_nil)))) (pss_cons (ps_for PassesOwn.never rfl (pi_list (pe_callTy call_list_of rfl T.z_list (by decide +kernel) (pa_cons (pv 0) pa_nil))) (pg_name (i := 1) sc_spoil.nd rfl (Or.inl rfl)) (pss_one (ps_expr (pe_call G_spoil (hr.mono (by omega)) rfl T.spoil.m T.spoil.F.kp (b_spoil T) .nil pass0 (pa_cons (pv 1) pa_nil)))))
    (pss_one (ps_expr (pe_bm PySem.F.plainAttrs_list PySem.F.slot_list_append PySem.F.type_list_append mt_append (pv 0) (pa_cons pe_str pa_nil))))) (pss_one (ps_if (pt_val (pe_callB call_isi rfl T.z_isinstance (by decide +kernel) (pa_cons (pv 0) (pa_cons (pe_bltn (v := .ty "tuple") rfl T.z_tuple (by decide +kernel) rfl) pa_nil)))) (pss_one (ps_for PassesOwn.never rfl (pi_list (pv 0)) (pg_name (i := 1) sc_spoil.nd rfl (Or.inl rfl)) (pss_one (ps_expr (pe_call G_spoil (hr.mono (by omega)) rfl T.spoil.m T.spoil.F.kp (b_spoil T) .nil pass0 (pa_cons (pv 1) pa_nil)))))) pss_nil)))), ?_⟩)
  · obtain ⟨x, rfl, _⟩ := h
    rfl
  · obtain ⟨x, rfl, h, q⟩ := h
    rcases h with ⟨i, rfl⟩ | ⟨z, rfl⟩ | ⟨c, rfl⟩
    · exact st_no (ans_isi rfl (.int i) k_il) (st_no (ans_isi rfl (.int i) k_it) q)
    · exact st_no (ans_isi rfl (.str z) k_sl) (st_no (ans_isi rfl (.str z) k_st) q)
    · exact st_no (ans_isi rfl (.bl c) k_bl) (st_no (ans_isi rfl (.bl c) k_bt) q)
def spSpoil1 : Sp := fun vs H Q _ => ∃ a xs, vs = [.ref a] ∧ H a = some (.lst xs) ∧ (∀ x ∈ xs, Atom x) ∧ xs.length ≤ 900 ∧ ∀ H', SameB a H H' → H' a = some (.lst (xs ++ [.str "more"])) → Q .non H'
theorem ok_spoil1 (T : Top w K mg) : FnOk P w K mg base CX0 2 T.spoil.f T.spoil.fd ["_law_thing"] spSpoil1 := by
  have G_spoil : FnOk P w K mg base CX0 _ _ _ _ _ := ok_spoil0 T
  refine T.spoil.F.ok sc_spoil (fun vs H Q E h => ?_) (fun cdv A outer s H vs Q E hr h => ⟨_, PSs.nox (pss_one (ps_if (pt_val (pe_callB call_isi rfl T.z_isinstance (by decide +kernel) (pa_cons (pv 0) (pa_cons (pe_bltn (v := .ty "list") rfl T.z_list (by decide +kernel) rfl) pa_nil)))) (pss_cons (ps_for PassesOwn.never rfl (pi_list (pe_callTy call_list_of rfl T.z_list (by decide +kernel) (pa_cons (pv 0) pa_nil))) (pg_name (i := 1) sc_spoil.nd rfl (Or.inl rfl)) (pss_one (ps_expr (pe_call G_spoil (hr.mono (by omega)) rfl T.spoil.m T.spoil.F.kp (b_spoil T) .nil pass0 (pa_cons (pv 1) pa_nil)))))
    (pss_one (ps_expr (pe_bm PySem.F.plainAttrs_list PySem.F.slot_list_append PySem.F.type_list_append mt_append (pv 0) (pa_cons pe_str pa_nil))))) (pss_one (ps_if (pt_val (pe_callB call_isi rfl T.z_isinstance (by decide +kernel) (pa_cons (pv 0) (pa_cons (pe_bltn (v := .ty "tuple") rfl T.z_tuple (by decide +kernel) rfl) pa_nil)))) (pss_one (ps_for PassesOwn.never rfl (pi_list (pv 0)) (pg_name (i := 1) sc_spoil.nd rfl (Or.inl rfl)) (pss_one (ps_expr (pe_call G_spoil (hr.mono (by omega)) rfl T.spoil.m T.spoil.F.kp (b_spoil T) .nil pass0 (pa_cons (pv 1) pa_nil)))))) pss_nil)))), ?_⟩)
  · obtain ⟨a, xs, rfl, _⟩ := h
    rfl
  · obtain ⟨a, xs, rfl, ha, hx, hl, q⟩ := h
    refine st_yes (ans_isi rfl (.lst ha) k_ll) ?_
    refine sq_for ?_
    refine ⟨_, rfl, a, xs, rfl, .inl (.of ha), fun l hl0 => ⟨l, rfl, ⟨_, .of upd_same⟩, ?_⟩⟩
    have s1 := same_new (o := .lst xs) hl0
    refine for_list (xs := xs) (fun i σ H' => H' = upd H l (.lst xs) ∧ ∃ y, σ = [some (.ref a), y]) ⟨rfl, none, rfl⟩ (fun i σ H' _ hP => by rw [hP.1]; exact .of upd_same) (fun i x σ H' hx' hP => ?_) (fun σ H' hP => ?_)
    · obtain ⟨rfl, y, rfl⟩ := hP
      exact ⟨_, rfl, x, rfl, hx x (List.mem_of_getElem? hx'), rfl, _, rfl⟩
    · obtain ⟨rfl, y, rfl⟩ := hP
      refine ⟨_, rfl, .inl ⟨rfl, _, .of (s1 _ _ ha)⟩, a, xs, _, rfl, rfl, s1 _ _ ha, small1000 (by omega), ?_⟩
      exact q _ ((SameB.of s1).trans sameB_upd) upd_same
def spSpoil2 : Sp := fun vs H Q _ => ∃ a us, vs = [.ref a] ∧ H a = some (.lst us) ∧ us.length ≤ 400 ∧ V.ref a ∉ us ∧ (∀ u ∈ us, ∃ b xs, u = .ref b ∧ H b = some (.lst xs) ∧ (∀ x ∈ xs, Atom x) ∧ xs.length ≤ 400) ∧
  ∀ H', (∀ b o, V.ref b ∉ us → b ≠ a → H b = some o → H' b = some o) → Q .non H'
theorem ok_spoil2 (T : Top w K mg) : FnOk P w K mg base CX0 3 T.spoil.f T.spoil.fd ["_law_thing"] spSpoil2 := by
  have G_spoil : FnOk P w K mg base CX0 _ _ _ _ _ := ok_spoil1 T
  refine T.spoil.F.ok sc_spoil (fun vs H Q E h => ?_) (fun cdv A outer s H vs Q E hr h => ⟨_, PSs.nox (pss_one (ps_if (pt_val (pe_callB call_isi rfl T.z_isinstance (by decide +kernel) (pa_cons (pv 0) (pa_cons (pe_bltn (v := .ty "list") rfl T.z_list (by decide +kernel) rfl) pa_nil)))) (pss_cons (ps_for PassesOwn.never rfl (pi_list (pe_callTy call_list_of rfl T.z_list (by decide +kernel) (pa_cons (pv 0) pa_nil))) (pg_name (i := 1) sc_spoil.nd rfl (Or.inl rfl)) (pss_one (ps_expr (pe_call G_spoil (hr.mono (by omega)) rfl T.spoil.m T.spoil.F.kp (b_spoil T) .nil pass0 (pa_cons (pv 1) pa_nil)))))
    (pss_one (ps_expr (pe_bm PySem.F.plainAttrs_list PySem.F.slot_list_append PySem.F.type_list_append mt_append (pv 0) (pa_cons pe_str pa_nil))))) (pss_one (ps_if (pt_val (pe_callB call_isi rfl T.z_isinstance (by decide +kernel) (pa_cons (pv 0) (pa_cons (pe_bltn (v := .ty "tuple") rfl T.z_tuple (by decide +kernel) rfl) pa_nil)))) (pss_one (ps_for PassesOwn.never rfl (pi_list (pv 0)) (pg_name (i := 1) sc_spoil.nd rfl (Or.inl rfl)) (pss_one (ps_expr (pe_call G_spoil (hr.mono (by omega)) rfl T.spoil.m T.spoil.F.kp (b_spoil T) .nil pass0 (pa_cons (pv 1) pa_nil)))))) pss_nil)))), ?_⟩)
  · obtain ⟨a, us, rfl, _⟩ := h
    rfl
  · obtain ⟨a, us, rfl, ha, hl, hna, hu, q⟩ := h
    refine st_yes (ans_isi rfl (.lst ha) k_ll) ?_
    refine sq_for ?_
    refine ⟨_, rfl, a, us, rfl, .inl (.of ha), fun l hl0 => ⟨l, rfl, ⟨_, .of upd_same⟩, ?_⟩⟩
    have s1 := same_new (o := .lst us) hl0
    have nl : V.ref l ∉ us := fun z => by
      obtain ⟨b, xs, e, h, _⟩ := hu _ z
      have e2 : l = b := V.ref.inj e
      rw [e2, h] at hl0
      cases hl0
    refine for_list (xs := us) (fun i σ H' => i ≤ us.length ∧ (∀ b o, V.ref b ∉ us → (upd H l (.lst us)) b = some o → H' b = some o) ∧ (∀ u ∈ us, ∃ b xs, u = .ref b ∧ H' b = some (.lst xs) ∧ (∀ x ∈ xs, Atom x) ∧ xs.length ≤ 400 + i) ∧ ∃ y, σ = [some (.ref a), y])
      ⟨Nat.zero_le _, fun b o _ h => h, fun u h => ?_, none, rfl⟩ (fun i σ H' _ hP => .of (hP.2.1 _ _ nl upd_same)) (fun i x σ H' hx' hP => ?_) (fun σ H' hP => ?_)
    · obtain ⟨b, xs, e, h1, h2, h3⟩ := hu u h
      exact ⟨b, xs, e, s1 _ _ h1, h2, h3⟩
    · obtain ⟨hi, h1, h2, y, rfl⟩ := hP
      have hi2 := (List.getElem?_eq_some_iff.mp hx').1
      have hm := List.mem_of_getElem? hx'
      obtain ⟨b, xs, rfl, hb, hat, hln⟩ := h2 x hm
      refine ⟨_, rfl, b, xs, rfl, hb, hat, by omega, fun H2 s2 e2 => ⟨hi2, fun c o hc h => ?_, fun u hu2 => ?_, _, rfl⟩⟩
      · exact s2 c o (fun z => hc (by rw [z]; exact hm)) (h1 c o hc h)
      · obtain ⟨c, ys, rfl, hc, hat2, hln2⟩ := h2 u hu2
        by_cases e : c = b
        · subst e
          rw [hb] at hc
          have e3 := Option.some.inj hc
          have e4 : xs = ys := HO.lst.inj e3
          refine ⟨c, _, rfl, e2, fun x hx => ?_, ?_⟩
          · rcases List.mem_append.mp hx with hx | hx
            · exact hat x hx
            · exact .inr (.inl ⟨_, List.mem_singleton.mp hx⟩)
          · rw [List.length_append, List.length_singleton]
            omega
        · exact ⟨c, ys, rfl, s2 c _ e hc, hat2, by omega⟩
    · obtain ⟨_, h1, h2, y, rfl⟩ := hP
      have h3 := h1 _ _ hna (s1 _ _ ha)
      refine ⟨_, rfl, .inl ⟨rfl, _, .of h3⟩, a, us, _, rfl, rfl, h3, small1000 (by omega), ?_⟩
      refine q _ fun b o hb hne h => ?_
      rw [upd_ne hne]
      exact h1 b o hb (s1 _ _ h)
end
end WW
namespace WW
open PySem PySem.Spec PyProof.Rows L2
/-! ### where draws come from -/
def Pool (H : Hp) (p : Addr) (m : Nat) (r : List V) : Prop := ∃ (i j : Int) (n : Nat), H p = some (.lst (.int i :: .int j :: .int (n : Nat) :: r)) ∧ 0 ≤ i ∧ 0 ≤ j ∧ j < 10 ^ 28 ∧ n ≤ m
def SignsOk (z : Str) : Prop := z.cps.toList ≠ [] ∧ z.cps.toList.length ≤ 26 ∧ ∀ c ∈ z.cps.toList, 97 ≤ c ∧ c ≤ 122
theorem Pool.same {H H' : Hp} {p : Addr} {m : Nat} {r : List V} (s : Same H H') : Pool H p m r → Pool H' p m r
  | ⟨i, j, n, h, a, b, c, d⟩ => ⟨i, j, n, s _ _ h, a, b, c, d⟩
theorem Pool.le {H : Hp} {p : Addr} {m k : Nat} {r : List V} (l : m ≤ k) : Pool H p m r → Pool H p k r
  | ⟨i, j, n, h, a, b, c, d⟩ => ⟨i, j, n, h, a, b, c, Nat.le_trans d l⟩
theorem Pool.lst {H : Hp} {p : Addr} {m : Nat} {r : List V} : Pool H p m r → ∃ xs, H p = some (.lst xs)
  | ⟨_, _, _, h, _⟩ => ⟨_, h⟩
theorem Pool.kt {H H' : Hp} {p : Addr} {m : Nat} {r : List V} (h : Pool H p m r) (s : SameB p H H') : KT H H' := by
  obtain ⟨xs, e⟩ := h.lst
  exact s.kt e
theorem bits_lt {x : Int} {a : Nat} (h0 : 0 < a) (h : x.natAbs < 2 ^ a) : Builtin.Int.intBits x ≤ a := by
  have l := PySem.Flt.log2_lt_of h0 h
  unfold Builtin.Int.intBits
  split <;> omega
theorem powB {x : Int} {a k : Nat} (h0 : 0 < a) (h : x.natAbs < 2 ^ a) (hk : a * k ≤ 134217728) : CPowB x (k : Int) := by
  refine ⟨by omega, ?_⟩
  have e : (2 : Int) ^ 27 = 134217728 := by decide
  have l := bits_lt h0 h
  have l2 : Builtin.Int.intBits x * k ≤ a * k := Nat.mul_le_mul_right k l
  rw [e, ← Int.natCast_mul]
  omega
section
variable {P : Program} {w : World} {K : PySem.W.Frag} {mg : Str → Option Value} {base : Heap}
/-! ### pick -/
theorem set0 {H : Hp} {p : Addr} {v : V} {x : V} {xs : List V} {Q : Hp → Prop} (h : H p = some (.lst (x :: xs))) (q : Q (upd H p (.lst (v :: xs)))) : rSetL (.ref p) (.int 0) v H Q := by
  refine ⟨p, _, 0, 0, rfl, rfl, h, ?_, q⟩
  unfold ixN
  rw [if_pos (by decide), if_pos (by rw [List.length_cons]; omega)]
  rfl
theorem set2 {H : Hp} {p : Addr} {v : V} {x y z : V} {xs : List V} {Q : Hp → Prop} (h : H p = some (.lst (x :: y :: z :: xs))) (q : Q (upd H p (.lst (x :: y :: v :: xs)))) : rSetL (.ref p) (.int 2) v H Q := by
  refine ⟨p, _, 2, 2, rfl, rfl, h, ?_, q⟩
  unfold ixN
  rw [if_pos (by decide), if_pos (by rw [List.length_cons, List.length_cons, List.length_cons]; omega)]
  rfl
def spPick : Sp := fun vs H Q _ => ∃ (p : Addr) (kk : Int) (k m : Nat) (r : List V), vs = [.ref p, .int kk] ∧ kk = (k : Int) ∧ 1 ≤ k ∧ k ≤ 1000 ∧ Pool H p m r ∧ m ≤ 100000 ∧ ∀ H' (c : Nat), c < k → SameB p H H' → Pool H' p (m + 1) r → Q (.int (c : Nat)) H'
theorem ok_pick (T : Top w K mg) : FnOk P w K mg base CX0 1 T.pick.f T.pick.fd ["_law_pool_here", "_law_many"] spPick := by
  refine T.pick.F.ok sc_pick (fun vs H Q E h => ?_) (fun cdv A outer s H vs Q E hr h => ⟨_, PSs.nox (pss_cons (ps_if (pt_cmpR op_gt (pe_ix ix_list (pv 0) pe_int (fun _ _ => rfl)) pe_int (nomark _)) (pss_cons (ps_set (i := 2) sc_pick.nd rfl (Or.inl rfl) (pe_op op_mod (pe_callTy call_int1 rfl T.z_int (by decide +kernel) (pa_cons (pe_ix ix_list (pv 0) pe_int (fun _ _ => rfl)) pa_nil)) (pv 1)))
    (pss_cons (ps_asg (pe_op op_fdiv (pe_callTy call_int1 rfl T.z_int (by decide +kernel) (pa_cons (pe_ix ix_list (pv 0) pe_int (fun _ _ => rfl)) pa_nil)) (pv 1)) (pg_sub (pv 0) pe_int set_list))
    (pss_one (ps_ret (pv 2))))) pss_nil)
    (pss_cons (ps_asg (pe_op op_add (pe_ix ix_list (pv 0) pe_int (fun _ _ => rfl)) pe_int) (pg_sub (pv 0) pe_int set_list))
    (pss_cons (ps_set (i := 3) sc_pick.nd rfl (Or.inl rfl) (pe_op op_mod (pe_callTy call_int1 rfl T.z_int (by decide +kernel) (pa_cons (pe_op op_add (pe_op op_powB (pe_op op_add (pe_ix ix_list (pv 0) pe_int (fun _ _ => rfl)) (pe_op op_mul pe_int (pe_ix ix_list (pv 0) pe_int (fun _ _ => rfl)))) pe_int) (pe_op op_mul pe_int (pe_ix ix_list (pv 0) pe_int (fun _ _ => rfl)))) pa_nil)) (pe_op op_add (pe_op op_powB pe_int pe_int) pe_int)))
    (pss_cons (ps_set (i := 3) sc_pick.nd rfl (Or.inl rfl) (pe_op op_mod (pe_callTy call_int1 rfl T.z_int (by decide +kernel) (pa_cons (pe_op op_add (pe_op op_powB (pv 3) pe_int) (pe_op op_mul pe_int (pv 3))) pa_nil)) (pe_op op_add (pe_op op_powB pe_int pe_int) pe_int)))
    (pss_one (ps_ret (pe_op op_mod (pe_callTy call_int1 rfl T.z_int (by decide +kernel) (pa_cons (pe_op op_fdiv (pv 3) pe_int) pa_nil)) (pv 1)))))))), ?_⟩)
  · obtain ⟨p, kk, k, m, r, rfl, _⟩ := h
    rfl
  · obtain ⟨p, kk, k, m, r, rfl, rfl, hk1, hk2, ⟨i, j, n, hp, hi, hj, hj2, hn⟩, hm, q⟩ := h
    by_cases hpos : 0 < i
    · refine sq_yes (ans_cmp (val_ixL (val_var rfl) hp at0) val_c fun Q' q' => ⟨_, _, rfl, rfl, ?_⟩) ?_
      · exact toB (Q := Q') (decide_eq_true hpos) q'
      refine sq_set (v := .int (i % (k : Int))) (fun Q' q' => val_ixL (val_var rfl) hp at0 _ (.inl ⟨i, rfl, ⟨_, rfl, _, _, rfl, rfl, by omega, q'⟩⟩)) ?_
      refine sq_asgG (val_ixL (val_var rfl) hp at0 _ (.inl ⟨i, rfl, ⟨_, rfl, _, _, rfl, rfl, ⟨by omega, by omega⟩, ⟨_, rfl, ?_⟩⟩⟩))
      refine set0 hp ⟨_, rfl, ?_⟩
      have e1 : 0 ≤ i % (k : Int) := Int.emod_nonneg i (by omega)
      have e2 : i % (k : Int) < (k : Int) := Int.emod_lt_of_pos i (by omega)
      have e3 : i % (k : Int) = (((i % (k : Int)).toNat : Nat) : Int) := by omega
      refine toI (Q := Q) e3 (q _ _ (by omega) sameB_upd ⟨_, j, n, upd_same, ?_, hj, hj2, by omega⟩)
      exact Int.ediv_nonneg hi (by omega)
    · refine sq_skip (ans_cmp (val_ixL (val_var rfl) hp at0) val_c fun Q' q' => ⟨_, _, rfl, rfl, ?_⟩) ?_
      · exact toB (Q := Q') (decide_eq_false (show ¬ (0 : Int) < i from hpos)) q'
      refine sq_asgG (val_ixL (val_var rfl) hp at2 _ ⟨_, _, rfl, rfl, ⟨_, rfl, ?_⟩⟩)
      refine set2 hp ?_
      have hp2 : (upd H p (.lst (.int i :: .int j :: .int ((n : Int) + 1) :: r))) p = some (.lst (.int i :: .int j :: .int ((n : Int) + 1) :: r)) := upd_same
      have c29 : CPowB 10 29 := powB (x := 10) (a := 4) (k := 29) (by decide) (by decide) (by decide)
      have c31 : CPowB 10 31 := powB (x := 10) (a := 4) (k := 31) (by decide) (by decide) (by decide)
      have p29 : (0 : Int) < (10 : Int) ^ (29 : Int).toNat + 319 := by decide
      have p31 : (0 : Int) < (10 : Int) ^ (31 : Int).toNat + 33 := by decide
      have b1 : (j + 32452843 * ((n : Int) + 1)).natAbs < 2 ^ 100 := by
        have : (10 : Int) ^ 28 = 10000000000000000000000000000 := by decide
        have h2 : (2 : Nat) ^ 100 = 1267650600228229401496703205376 := by decide
        omega
      have cA : CPowB (j + 32452843 * ((n : Int) + 1)) 2 := powB (k := 2) (by decide) b1 (by decide)
      refine sq_set (v := .int (((j + 32452843 * ((n : Int) + 1)) ^ (2 : Int).toNat + 49979687 * ((n : Int) + 1)) % ((10 : Int) ^ (29 : Int).toNat + 319))) (fun Q' q' => ?_) ?_
      · refine val_ixL (val_var rfl) hp2 at1 _ (val_ixL (val_var rfl) hp2 at2 _ ⟨_, _, rfl, rfl, .inl ⟨by decide, by decide⟩, _, _, rfl, rfl, _, _, rfl, rfl, cA, ?_⟩)
        refine val_ixL (val_var rfl) hp2 at2 _ ⟨_, _, rfl, rfl, .inl ⟨by decide, by decide⟩, _, _, rfl, rfl, .inl ⟨_, rfl, _, _, rfl, rfl, c29, _, _, rfl, rfl, _, _, rfl, rfl, p29, q'⟩⟩
      generalize hB : ((j + 32452843 * ((n : Int) + 1)) ^ (2 : Int).toNat + 49979687 * ((n : Int) + 1)) % ((10 : Int) ^ (29 : Int).toNat + 319) = B
      have hB0 : 0 ≤ B := by rw [← hB]; exact Int.emod_nonneg _ (by omega)
      have hB1 : B < (10 : Int) ^ (29 : Int).toNat + 319 := by rw [← hB]; exact Int.emod_lt_of_pos _ p29
      have b2 : B.natAbs < 2 ^ 100 := by
        have h1 : (10 : Int) ^ (29 : Int).toNat = 100000000000000000000000000000 := by decide
        have h2 : (2 : Nat) ^ 100 = 1267650600228229401496703205376 := by decide
        omega
      have cB : CPowB B 3 := powB (k := 3) (by decide) b2 (by decide)
      refine sq_set (v := .int ((B ^ (3 : Int).toNat + 67867967 * B) % ((10 : Int) ^ (31 : Int).toNat + 33))) (fun Q' q' => ?_) ?_
      · exact ⟨_, rfl, _, _, rfl, rfl, cB, _, rfl, _, _, rfl, rfl, .inl ⟨by decide, by decide⟩, _, _, rfl, rfl, .inl ⟨_, rfl, _, _, rfl, rfl, c31, _, _, rfl, rfl, _, _, rfl, rfl, p31, q'⟩⟩
      generalize hC : (B ^ (3 : Int).toNat + 67867967 * B) % ((10 : Int) ^ (31 : Int).toNat + 33) = C
      refine ⟨_, rfl, _, _, rfl, rfl, ⟨by decide, by decide⟩, .inl ⟨_, rfl, _, rfl, _, _, rfl, rfl, by omega, ?_⟩⟩
      have e1 : 0 ≤ C / 1000003 % (k : Int) := Int.emod_nonneg _ (by omega)
      have e2 : C / 1000003 % (k : Int) < (k : Int) := Int.emod_lt_of_pos _ (by omega)
      have e3 : C / 1000003 % (k : Int) = (((C / 1000003 % (k : Int)).toNat : Nat) : Int) := by omega
      refine toI (Q := Q) e3 (q _ _ (by omega) sameB_upd ⟨i, j, n + 1, ?_, hi, hj, hj2, by omega⟩)
      exact hp2
end
end WW
namespace WW
open PySem PySem.Spec PyProof.Rows L2
theorem sq_ifH {c : TT} {t1 u : TS} {D : Ends} {σ : L2.St} {H : Hp} (PB : Bool → Hp → Prop) (hc : ∀ Q' : Bool → Hp → Prop, (∀ b H', PB b H' → Q' b H') → c σ H Q') (h1 : ∀ H', PB true H' → t1 { D with nx := u D } σ H') (h2 : ∀ H', PB false H' → u D σ H') :
    tSeq (tIfS c t1 tNext) u D σ H := by
  refine hc _ fun b H' h => ?_
  cases b with
  | true => exact itY rfl (h1 H' h)
  | false => exact itN Bool.false_ne_true (h2 H' h)
theorem same_of_B {H H' : Hp} {c : Addr} {o : HO} (hc : H c = none) (s : SameB c (upd H c o) H') : Same H H' := fun b x e => by
  have ne : b ≠ c := ne_of_none e hc
  exact s b x ne (by rw [upd_ne ne]; exact e)
theorem len_str (z : Str) : z.length = z.cps.toList.length := by simp [Str.length]
section
variable {P : Program} {w : World} {K : PySem.W.Frag} {mg : Str → Option Value} {base : Heap}
/-! ### pool -/
instance (z : Str) : Decidable (SignsOk z) := by
  unfold SignsOk
  infer_instance
def signs : List V := [.str "ab", .str "a", .str "abs", .str "abs", .str "xyz", .str "abcdefghijklmnopqrstuvwxyz"]
theorem signs_at : ∀ c : Nat, c < 6 → ∃ z, signs[c]? = some (.str z) ∧ SignsOk z
  | 0, _ => ⟨_, rfl, by decide +kernel⟩
  | 1, _ => ⟨_, rfl, by decide +kernel⟩
  | 2, _ => ⟨_, rfl, by decide +kernel⟩
  | 3, _ => ⟨_, rfl, by decide +kernel⟩
  | 4, _ => ⟨_, rfl, by decide +kernel⟩
  | 5, _ => ⟨_, rfl, by decide +kernel⟩
  | c + 6, h => by omega
def spPool (K : PySem.W.Frag) : Sp := fun vs H Q _ => ∃ (a : Addr) (ns : List Int) (k : Int), vs = [.ref a, .int k] ∧ SqL K H a (ns.map V.int) ∧ 0 ≤ k ∧
  ∀ p H' z, Same H H' → Pool H' p 1 [.str z] → SignsOk z → Q (.ref p) H'
theorem ok_pool (T : Top w K mg) : FnOk P w K mg base CX0 2 T.pool.f T.pool.fd ["_law_script", "_law_spot"] (spPool K) := by
  have G_pick : FnOk P w K mg base CX0 _ _ _ _ _ := ok_pick T
  refine T.pool.F.ok sc_pool (fun vs H Q E h => ?_) (fun cdv A outer s H vs Q E hr h => ⟨_, PSs.nox (pss_cons (ps_set (i := 2) sc_pool.nd rfl (Or.inl rfl) (pe_ifExp (pt_cmpR op_lt (pv 1) (pe_callB call_len_seq rfl T.z_len PySem.boot_len (pa_cons (pv 0) pa_nil)) (nomark _)) (pe_callTy call_int1 rfl T.z_int (by decide +kernel) (pa_cons (pe_ix ix_list (pv 0) (pv 1) (fun _ _ => rfl)) pa_nil)) (pe_op op_add (pe_op op_add (pe_op op_mul pe_int (pv 1)) (pe_op op_mul pe_int (pe_callB call_len_seq rfl T.z_len PySem.boot_len (pa_cons (pv 0) pa_nil)))) pe_int)))
    (pss_cons (ps_set (i := 3) sc_pool.nd rfl (Or.inl rfl) (pe_lst (pa_cons (pe_callB (call_max2 rfl) rfl T.z_max (by decide +kernel) (pa_cons pe_int (pa_cons (pe_op op_sub (pe_callB call_abs rfl T.z_abs (by decide +kernel) (pa_cons (pv 2) pa_nil)) (pe_op op_powB pe_int pe_int)) pa_nil))) (pa_cons (pe_op op_mod (pe_callTy call_int1 rfl T.z_int (by decide +kernel) (pa_cons (pe_op op_add (pe_op op_add (pe_op op_mul (pv 2) pe_int) (pe_op op_mul pe_int (pv 1))) pe_int) pa_nil)) (pe_op op_add (pe_op op_powB pe_int pe_int) pe_int)) (pa_cons pe_int pa_nil)))))
    (pss_cons (ps_set (i := 4) sc_pool.nd rfl (Or.inl rfl) (pe_lst (pa_cons pe_str (pa_cons pe_str (pa_cons pe_str (pa_cons pe_str (pa_cons pe_str (pa_cons pe_str pa_nil))))))))
    (pss_cons (ps_expr (pe_bm PySem.F.plainAttrs_list PySem.F.slot_list_append PySem.F.type_list_append mt_append (pv 3) (pa_cons (pe_ix ix_list (pv 4) (pe_call G_pick (hr.mono (by omega)) rfl T.pick.m T.pick.F.kp (b_pick T) .nil pass0 (pa_cons (pv 3) (pa_cons pe_int pa_nil))) (fun _ _ => rfl)) pa_nil)))
    (pss_one (ps_ret (pv 3))))))), ?_⟩)
  · obtain ⟨a, ns, k, rfl, _⟩ := h
    rfl
  · obtain ⟨a, ns, k, rfl, hS, hk, q⟩ := h
    have cell : ∀ Q' : VK, (∀ i : Int, Q' (.int i) H) → _ := fun Q' q' => q'
    refine sq_asg ?_
    have go : ∀ Q' : VK, (∀ i : Int, Q' (.int i) H) → tIf (tTest (tOp (rI0 fun i j => .bl (decide (i < j))) (tVar 1) (tCB (fun xs H Q => ∃ p ys, xs = [.ref p] ∧ (SqL K H p ys ∨ SqT K H p ys) ∧ Q (.int ys.length) H) (tCons (tVar 0) tNil))))
        (tCB (fun xs H Q => (∃ i, xs = [.int i] ∧ Q (.int i) H) ∨ ∃ k, xs = [.bl k] ∧ Q (.int (if k then 1 else 0)) H) (tCons (tOp (rIxL K) (tVar 0) (tVar 1)) tNil))
        (tOp (rI0 fun i j => .int (i + j)) (tOp (rI0 fun i j => .int (i + j)) (tOp (rI CMul fun i j => .int (i * j)) (tC (.int 6151)) (tVar 1)) (tOp (rI CMul fun i j => .int (i * j)) (tC (.int 389)) (tCB (fun xs H Q => ∃ p ys, xs = [.ref p] ∧ (SqL K H p ys ∨ SqT K H p ys) ∧ Q (.int ys.length) H) (tCons (tVar 0) tNil)))) (tC (.int 17))) (L2.start n_pool [.ref a, .int k]) H Q' := fun Q' q' => by
      refine ⟨_, rfl, _, rfl, a, _, rfl, .inl hS, _, _, rfl, rfl, _, rfl, ite2 (fun e => ?_) (fun e => ?_)⟩
      · have e1 : k < (((ns.map V.int).length : Nat) : Int) := of_decide_eq_true e
        rw [List.length_map] at e1
        have hk2 : k.toNat < ns.length := by omega
        have hat : atI (ns.map V.int) k = some (.int ns[k.toNat]) := L2.at_of (j := k.toNat) (by omega) (by rw [List.getElem?_map, List.getElem?_eq_getElem hk2]; rfl)
        exact ⟨_, rfl, _, rfl, a, _, _, _, rfl, rfl, hS, hat, .inl ⟨_, rfl, q' _⟩⟩
      · exact ⟨_, rfl, _, _, rfl, rfl, .inl ⟨by decide, by decide⟩, _, rfl, a, _, rfl, .inl hS, _, _, rfl, rfl, .inl ⟨by decide, by decide⟩, _, _, rfl, rfl, _, _, rfl, rfl, q' _⟩
    refine go _ fun i => ?_
    have c18 : CPowB 10 18 := powB (x := 10) (a := 4) (k := 18) (by decide) (by decide) (by decide)
    have c27 : CPowB 10 27 := powB (x := 10) (a := 4) (k := 27) (by decide) (by decide) (by decide)
    have p27 : (0 : Int) < (10 : Int) ^ (27 : Int).toNat + 103 := by decide
    refine sq_asg ⟨_, rfl, i, rfl, _, _, rfl, rfl, c18, _, _, rfl, rfl, _, _, rfl, ?_⟩
    refine ⟨_, rfl, _, _, rfl, rfl, .inr ⟨by decide, by decide⟩, ⟨_, rfl, _, _, rfl, rfl, .inl ⟨by decide, by decide⟩, _, _, rfl, rfl, _, _, rfl, rfl, .inl ⟨_, rfl, _, _, rfl, rfl, c27, _, _, rfl, rfl, _, _, rfl, rfl, p27, (by show 3 ≤ sizeLine; decide), fun p np => ?_⟩⟩⟩
    generalize hX : (if (if i < 0 then -i else i) - (10 : Int) ^ (18 : Int).toNat > 0 then (if i < 0 then -i else i) - (10 : Int) ^ (18 : Int).toNat else 0) = X
    have hX0 : 0 ≤ X := by rw [← hX]; split <;> omega
    have hY0 : 0 ≤ (i * 7001 + 15485863 * k + 29) % ((10 : Int) ^ (27 : Int).toNat + 103) := Int.emod_nonneg _ (by omega)
    have hY1 : (i * 7001 + 15485863 * k + 29) % ((10 : Int) ^ (27 : Int).toNat + 103) < 10 ^ 28 := by
      have h1 : (i * 7001 + 15485863 * k + 29) % ((10 : Int) ^ (27 : Int).toNat + 103) < (10 : Int) ^ (27 : Int).toNat + 103 := Int.emod_lt_of_pos _ p27
      have h2 : (10 : Int) ^ (27 : Int).toNat = 1000000000000000000000000000 := by decide
      have h3 : (10 : Int) ^ 28 = 10000000000000000000000000000 := by decide
      omega
    have s1 := same_new (o := .lst [.int X, .int ((i * 7001 + 15485863 * k + 29) % ((10 : Int) ^ (27 : Int).toNat + 103)), .int 0]) np
    refine sq_asg ⟨(by show 6 ≤ sizeLine; decide), fun l nl => ?_⟩
    have hlp : l ≠ p := fr_ne nl upd_same
    have s2 := same_new (o := .lst signs) nl
    refine ⟨_, rfl, .inl ⟨rfl, _, .of (s2 _ _ upd_same)⟩, ⟨_, rfl, ⟨_, rfl, p, 6, 6, 0, [], rfl, rfl, by decide, by decide, ⟨X, (i * 7001 + 15485863 * k + 29) % ((10 : Int) ^ (27 : Int).toNat + 103), 0, s2 _ _ upd_same, hX0, hY0, hY1, Nat.le_refl 0⟩, by decide, fun H3 c hc s3 hp3 => ?_⟩⟩⟩
    obtain ⟨z, hz, hok⟩ := signs_at c hc
    have el : H3 l = some (.lst signs) := s3 _ _ hlp upd_same
    refine ⟨l, signs, (c : Int), _, rfl, rfl, .of el, atI_nat hz, ?_⟩
    obtain ⟨i', j', n', hp4, b1, b2, b3, b4⟩ := hp3
    refine ⟨p, _, _, rfl, rfl, hp4, (by show 3 < sizeLine; decide), ?_⟩
    refine ⟨_, rfl, q p _ z ?_ ⟨i', j', n', upd_same, b1, b2, b3, b4⟩ hok⟩
    refine fun b o e => ?_
    have nb : b ≠ p := ne_of_none e np
    rw [upd_ne nb]
    exact s3 _ _ nb (s2 _ _ (s1 _ _ e))
end
end WW
namespace WW
open PySem PySem.Spec PyProof.Rows L2
section
variable {P : Program} {w : World} {K : PySem.W.Frag} {mg : Str → Option Value} {base : Heap}
/-! ### shape -/
def spShape (n : Nat) : Sp := fun vs H Q _ => ∃ (p : Addr) (kk : Int) (k m : Nat) (z : Str), vs = [.ref p, .int kk] ∧ kk = (k : Int) ∧ 1 ≤ k ∧ k ≤ n ∧ k ≤ 3 ∧ Pool H p m [.str z] ∧ SignsOk z ∧ m + 5 * k ≤ 90000 ∧
  ∀ v H' x, SameB p H H' → Pool H' p (m + 5 * k - 3) [.str z] → RepK H' x v → x.Ok → x.size ≤ k → Q v H'
theorem bh_at : ∀ c : Nat, c < 2 → ∃ b, ([.str "behind", .str "ahead"] : List V)[c]? = some (.str (SB b))
  | 0, _ => ⟨true, rfl⟩
  | 1, _ => ⟨false, rfl⟩
  | c + 2, h => by omega
theorem ok_shape (T : Top w K mg) : ∀ n, FnOk P w K mg base CX0 (n + 1) T.shape.f T.shape.fd ["_law_pool_here", "_law_most"] (spShape n)
  | 0 => fn_never fun vs H Q E ⟨p, kk, k, m, z, _, _, h1, h2, _⟩ => by omega
  | n + 1 => by
    have G_pick : FnOk P w K mg base CX0 _ _ _ _ _ := ok_pick T
    have G_shape := ok_shape T n
    refine T.shape.F.ok sc_shape (fun vs H Q E h => ?_) (fun cdv A outer s H vs Q E hr h => ⟨_, PSs.nox (pss_cons (ps_if (PW.pt (pw_or (pt_cmpR op_lt (pv 1) pe_int (nomark _)) (pw_or1 (pt_cmpR op_eq (pe_call G_pick (hr.mono (by omega)) rfl T.pick.m T.pick.F.kp (b_pick T) .nil pass0 (pa_cons (pv 0) (pa_cons pe_int pa_nil))) pe_int (nomark _))))) (pss_one (ps_ret (pe_tup (pa_cons pe_str (pa_cons (pe_ix ix_str (pe_ix ix_list (pv 0) pe_int (fun _ _ => rfl)) (pe_call G_pick (hr.mono (by omega)) rfl T.pick.m T.pick.F.kp (b_pick T) .nil pass0 (pa_cons (pv 0) (pa_cons (pe_callB call_len_str rfl T.z_len PySem.boot_len (pa_cons (pe_ix ix_list (pv 0) pe_int (fun _ _ => rfl)) pa_nil)) pa_nil))) (fun _ _ => rfl)) pa_nil))))) pss_nil)
    (pss_cons (ps_set (i := 2) sc_shape.nd rfl (Or.inl rfl) (pe_op op_add pe_int (pe_call G_pick (hr.mono (by omega)) rfl T.pick.m T.pick.F.kp (b_pick T) .nil pass0 (pa_cons (pv 0) (pa_cons (pe_op op_sub (pv 1) pe_int) pa_nil)))))
    (pss_cons (ps_par (i := 3) (j := 4) rfl sc_shape.nd rfl rfl (by decide) rfl rfl (pa_cons (pe_call G_shape (hr.mono (by omega)) rfl T.shape.m T.shape.F.kp (b_shape T) .nil pass0 (pa_cons (pv 0) (pa_cons (pv 2) pa_nil))) (pa_cons (pe_call G_shape (hr.mono (by omega)) rfl T.shape.m T.shape.F.kp (b_shape T) .nil pass0 (pa_cons (pv 0) (pa_cons (pe_op op_sub (pv 1) (pv 2)) pa_nil))) pa_nil)) rfl)
    (pss_one (ps_ret (pe_tup (pa_cons (pe_ix ix_list (pe_lst (pa_cons pe_str (pa_cons pe_str pa_nil))) (pe_call G_pick (hr.mono (by omega)) rfl T.pick.m T.pick.F.kp (b_pick T) .nil pass0 (pa_cons (pv 0) (pa_cons pe_int pa_nil))) (fun _ _ => rfl)) (pa_cons (pv 3) (pa_cons (pv 4) pa_nil))))))))), ?_⟩)
    · obtain ⟨p, kk, k, m, z, rfl, _⟩ := h
      rfl
    · obtain ⟨p, kk, k, m, z, rfl, rfl, hk1, hkn, hk3, hp, hz, hm, q⟩ := h
      refine sq_ifH (fun b H' => SameB p H H' ∧ Pool H' p (m + 1) [.str z] ∧ (b = false → 2 ≤ k)) (fun Q' q' => ?_) (fun H1 hP => ?_) (fun H1 hP => ?_)
      · refine ⟨_, rfl, _, _, rfl, rfl, _, rfl, ite2 (fun e => ?_) (fun e => ?_)⟩
        · exact q' true H ⟨SameB.refl p H, hp.le (by omega), fun z => by cases z⟩
        · have e1 : ¬ (k : Int) < 2 := fun z => e (decide_eq_true z)
          refine ⟨_, rfl, p, 3, 3, m, _, rfl, rfl, by decide, by decide, hp, by omega, fun H1 c hc s1 hp1 => ⟨rfl, _, rfl, ?_⟩⟩
          refine q' _ H1 ⟨s1, hp1, fun _ => ?_⟩
          omega
      · obtain ⟨s1, hp1, _⟩ := hP
        have hp1' := hp1
        obtain ⟨i1, j1, n1, e1, b1, b2, b3, b4⟩ := hp1'
        have hzl := len_str z
        have hz0 : 1 ≤ z.cps.toList.length := List.length_pos_iff.mpr hz.1
        have hz2 := hz.2.1
        refine val_ixL (val_var rfl) e1 at3 _ ⟨_, rfl, val_ixL (val_var rfl) e1 at3 _ ⟨z, rfl, sz (by omega), p, _, z.length, m + 1, _, rfl, rfl, by omega, by omega, hp1, by omega, fun H2 c hc s2 hp2 => ?_⟩⟩
        have hcl : c < z.cps.toList.length := by omega
        refine ⟨z, _, z.cps.toList[c], rfl, rfl, sz (by omega), atI_nat (List.getElem?_eq_getElem hcl), (by show 2 ≤ sizeLine; decide), fun r nr => ?_⟩
        have s3 := same_new (o := .tup [.str "plain", .str ⟨#[z.cps.toList[c]]⟩]) nr
        refine q _ _ (.pl z.cps.toList[c]) ((s1.trans s2).trans (.of s3)) ((hp2.same s3).le (by omega)) ⟨r, rfl, upd_same⟩ (hz.2.2 _ (List.getElem_mem hcl)) hk1
      · obtain ⟨s1, hp1, hk2⟩ := hP
        have hk2 := hk2 rfl
        refine sq_asg ⟨_, rfl, _, rfl, _, _, rfl, rfl, p, _, k - 1, m + 1, _, rfl, by omega, by omega, by omega, hp1, by omega, fun H2 c hc s2 hp2 => ⟨_, _, rfl, rfl, ?_⟩⟩
        refine sq_par ⟨_, rfl, _, rfl, p, _, 1 + c, m + 1 + 1, z, rfl, by omega, by omega, by omega, by omega, hp2, hz, by omega, fun v3 H3 x3 s3 hp3 r3 o3 z3 => ?_⟩
        refine ⟨_, rfl, _, rfl, _, rfl, _, _, rfl, rfl, p, _, k - (1 + c), _, z, rfl, by omega, by omega, by omega, by omega, hp3, hz, by omega, fun v4 H4 x4 s4 hp4 r4 o4 z4 => ⟨_, _, rfl, ?_⟩⟩
        refine ⟨(by show 2 ≤ sizeLine; decide), fun l nl => ?_⟩
        have s5 := same_new (o := .lst [.str "behind", .str "ahead"]) nl
        have hlp : l ≠ p := by
          obtain ⟨xs, e⟩ := hp4.lst
          exact fr_ne nl e
        refine ⟨_, rfl, p, 2, 2, _, _, rfl, rfl, by decide, by decide, hp4.same s5, by omega, fun H6 c6 hc6 s6 hp6 => ?_⟩
        obtain ⟨b, hb⟩ := bh_at c6 hc6
        refine ⟨l, _, _, _, rfl, rfl, .of (s6 _ _ hlp upd_same), atI_nat hb, ?_⟩
        refine ⟨_, rfl, _, rfl, (by show 3 ≤ sizeLine; decide), fun r nr => ?_⟩
        have s7 := same_new (o := .tup [.str (SB b), v3, v4]) nr
        have k45 : KT H4 (upd H6 r (.tup [.str (SB b), v3, v4])) := (KT.of s5).trans ((hp4.same s5).kt s6 |>.trans (.of s7))
        refine q _ _ (.nd b x3 x4) (((s1.trans s2).trans (s3.trans s4)).trans ((SameB.of s5).trans (s6.trans (.of s7)))) ((hp6.same s7).le (by omega)) ⟨r, v3, v4, rfl, upd_same, (r3.mono (hp3.kt s4)).mono k45, r4.mono k45⟩ ⟨o3, o4⟩ ?_
        show x3.size + x4.size ≤ k
        omega
/-! ### within -/
def sizes (ks : List Kd) : List Int := ks.map fun k => ((k.size : Nat) : Int)
def deeps (ks : List Kd) : List Int := ks.map fun k => ((k.deep : Nat) : Int)
/-- a comprehension that takes an int of each kind -/
theorem lc_kd {σ : L2.St} {i : Nat} {te : TE} {H1 : Hp} {a D : Addr} {us : List V} {ks : List Kd} {Qd : Hp → Prop} (f : Kd → Int) (hi : i < σ.length)
    (he : ∀ v k H (Q : VK), RepK H k v → k ∈ ks → Q (.int (f k)) H → te ((wipe σ [i]).set i (some v)) H Q)
    (ha : H1 a = some (.lst us)) (hp : AllK H1 us ks) (hD : H1 D = none) (hl : ks.length ≤ 900)
    (q : ∀ H', Same H1 H' → H' D = some (.lst ((ks.map f).map V.int)) → Qd H') :
    ∃ W : Nat → Nat → Hp → Prop, (∃ m, W 0 m (upd H1 D (.lst []))) ∧ ∀ i' m H, W i' m H →
      ((Itl K a).stop i' H ∧ Qd H) ∨ ((Itl K a).go i' H ∧ ∃ Nx : Hp → Prop, (∀ H', Nx H' → ∃ m', m' < m ∧ W (i' + 1) m' H') ∧ ∀ x H', (Itl K a).yld i' H x H' → gName i x (wipe σ [i]) H' fun σ2 H2 => wipe σ2 [i] = wipe σ [i] ∧ tYes σ2 H2 fun b H3 =>
        if b = true then te σ2 H3 fun y H4 => ∃ acc, H4 D = some (.lst acc) ∧ acc.length < sizeLine ∧ Nx (upd H4 D (.lst (acc ++ [y]))) else Nx H3) := by
  have z := hp.length
  refine lc_list (K := K) (a := a) (xs := us) (fun j H => Same H1 H ∧ H D = some (.lst (((ks.take j).map f).map V.int))) ⟨same_new hD, upd_same⟩ (fun j H _ hP => .of (hP.1 _ _ ha)) (fun j x H hx hP => ?_) (fun H hP => ?_)
  · obtain ⟨s1, eD⟩ := hP
    obtain ⟨k, hk, hr⟩ := hp.get hx
    refine ⟨?_, ?_⟩
    · show List.set (List.set (List.set σ i none) i (some x)) i none = List.set σ i none
      rw [List.set_set, List.set_set]
    · refine he x k H _ (hr.mono (.of s1)) (List.mem_of_getElem? hk) ⟨_, eD, ?_, Same.mut s1 hD, ?_⟩
      · rw [List.length_map, List.length_map, List.length_take]
        exact small1000 (by omega)
      · rw [upd_same, List.take_add_one, hk]
        simp
  · obtain ⟨s1, eD⟩ := hP
    rw [z, List.take_length] at eD
    exact q H s1 eD
def spWithin : Sp := fun vs H Q _ => ∃ a us ks, vs = [.ref a] ∧ H a = some (.lst us) ∧ AllK H us ks ∧ ks ≠ [] ∧ ks.length ≤ 900 ∧ (∀ k ∈ ks, k.deep ≤ 100) ∧ ∀ H' b, Same H H' → (b = true → ∀ k ∈ ks, k.size ≤ 7) → Q (.bl b) H'
theorem ok_within (T : Top w K mg) : FnOk P w K mg base CX0 101 T.within.f T.within.fd ["_law_shapes"] spWithin := by
  have G_size : FnOk P w K mg base CX0 _ _ _ _ _ := ok_size T 100
  have G_deep : FnOk P w K mg base CX0 _ _ _ _ _ := ok_deep T 100
  refine T.within.F.ok sc_within (fun vs H Q E h => ?_) (fun cdv A outer s H vs Q E hr h => ⟨_, PSs.nox (pss_cons (ps_setLc (i := 1) (own := [("_law_shape_here", 2)]) (g := gName 2) rfl sc_within.nd rfl rfl (sw_true rfl rfl rfl (by decide +kernel)) (pi_list (pv 0)) (blkOk_by (own := [("_law_shape_here", 2)]) (N := n_within) (sc := defScope (top 40)) (by decide +kernel)) (fun _ _ _ _ _ => pg_name (i := 2) sc_within.nd rfl (Or.inl rfl)) (fun _ _ _ _ _ => pts_nil) (fun _ _ _ _ _ => (pe_call G_size (hr.mono (by omega)) rfl T.size.m T.size.F.kp (b_size T) .nil pass0 (pa_cons (pv 2) pa_nil))))
    (pss_cons (ps_if (PW.pt (pw_or (pt_cmpR op_gt (pe_callB call_len_seq rfl T.z_len PySem.boot_len (pa_cons (pv 0) pa_nil)) pe_int (nomark _)) (pw_or (pt_cmpR op_gt (pe_callB (cr_sum rfl) rfl T.z_sum (by decide +kernel) (pa_cons (pv 1) pa_nil)) pe_int (nomark _)) (pw_or1 (pt_cmpR op_gt (pe_callB (cr_max rfl) rfl T.z_max (by decide +kernel) (pa_cons (pv 1) pa_nil)) pe_int (nomark _)))))) (pss_one (ps_ret pe_bl)) pss_nil)
    (pss_one (ps_ret (pe_cmpR op_lt (pe_callB (cr_max rfl) rfl T.z_max (by decide +kernel) (pa_cons (pe_lc (own := [("_law_shape_here", 2)]) (g := gName 2) rfl sc_within.nd (pi_list (pv 0)) (blkOk_by (own := [("_law_shape_here", 2)]) (N := n_within) (sc := defScope (top 40)) (by decide +kernel)) (fun _ _ _ _ _ => pg_name (i := 2) sc_within.nd rfl (Or.inl rfl)) (fun _ _ _ _ _ => pts_nil) (fun _ _ _ _ _ => (pe_call G_deep (hr.mono (by omega)) rfl T.deep.m T.deep.F.kp (b_deep T) .nil pass0 (pa_cons (pv 2) pa_nil)))) pa_nil)) pe_int (nomark _)))))), ?_⟩)
  · obtain ⟨a, us, ks, rfl, _⟩ := h
    rfl
  · obtain ⟨a, us, ks, rfl, ha, hk, hne, hl, hd, q⟩ := h
    have hpos : 0 < ks.length := List.length_pos_iff.mpr hne
    refine sq_asg ⟨_, rfl, a, rfl, ⟨_, .of ha⟩, fun D hD => ?_⟩
    refine lc_kd (fun k => ((k.size : Nat) : Int)) (by exact (by decide : 2 < 3)) (fun v k H Q hr hm q => ⟨_, rfl, _, k, rfl, hr, hd k hm, q⟩) ha hk hD hl fun H1 s1 e1 => ?_
    refine sq_ifH (fun b H' => H' = H1 ∧ (b = false → ∀ k ∈ ks, k.size ≤ 7)) (fun Q' q' => ?_) (fun H2 hP => ?_) (fun H2 hP => ?_)
    · refine ⟨_, rfl, a, us, rfl, .inl (.of (s1 _ _ ha)), _, _, rfl, rfl, _, rfl, ite2 (fun e => q' _ _ ⟨rfl, fun z => by cases z⟩) (fun e => ?_)⟩
      refine ⟨_, rfl, D, _, rfl, .of e1, _, _, rfl, rfl, _, rfl, ite2 (fun e => q' _ _ ⟨rfl, fun z => by cases z⟩) (fun e => ?_)⟩
      refine ⟨_, rfl, D, _, rfl, .of e1, by rw [List.length_map]; exact hpos, fun m hm hmax => ⟨_, _, rfl, rfl, _, rfl, ?_⟩⟩
      refine q' _ _ ⟨rfl, fun hb k hk2 => ?_⟩
      have e2 : ¬ (7 : Int) < m := of_decide_eq_false hb
      have e3 := hmax _ (List.mem_map.mpr ⟨k, hk2, rfl⟩)
      omega
    · obtain ⟨rfl, _⟩ := hP
      exact q H2 false s1 fun z => by cases z
    · obtain ⟨rfl, h7⟩ := hP
      refine ⟨_, rfl, a, rfl, ⟨_, .of (s1 _ _ ha)⟩, fun D2 hD2 => ?_⟩
      refine lc_kd (fun k => ((k.deep : Nat) : Int)) (by exact (by decide : 2 < 3)) (fun v k H Q hr hm q => ⟨_, rfl, _, k, rfl, hr, hd k hm, q⟩) (s1 _ _ ha) (hk.mono (.of s1)) hD2 hl fun H3 s3 e3 => ?_
      refine ⟨D2, _, rfl, .of e3, by rw [List.length_map]; exact hpos, fun m hm hmax => ⟨_, _, rfl, rfl, ?_⟩⟩
      exact q H3 _ (s1.trans s3) fun _ => h7 rfl
end
end WW
namespace WW
open PySem PySem.Spec PyProof.Rows L2
theorem sq_mid {t u : TS} {D : Ends} {σ : L2.St} {H : Hp} (R : L2.St → Hp → Prop) (h : ∀ N : L2.St → Hp → Prop, (∀ σ' H', R σ' H' → N σ' H') → t { D with nx := N } σ H) (q : ∀ σ' H', R σ' H' → u D σ' H') : tSeq t u D σ H := h (u D) q
/-! ### kinds as data -/
def kdD : Kd → PyData
  | .pl c => .tuple [.str "plain", .str ⟨#[c]⟩]
  | .nd b x y => .tuple [.str (SB b), kdD x, kdD y]
theorem dp_kd {K : PySem.W.Frag} {H : Hp} : ∀ {k : Kd} {v : V}, RepK H k v → Dp K H v (kdD k)
  | .pl c, v, ⟨a, e, h⟩ => by
    rw [e]
    exact .tup (.of h) (.cons (.str _) (.cons (.str _) .nil))
  | .nd b x y, v, ⟨a, u, w, e, h, h1, h2⟩ => by
    rw [e]
    exact .tup (.of h) (.cons (.str _) (.cons (dp_kd h1) (.cons (dp_kd h2) .nil)))
theorem lay_kd : ∀ {k : Kd}, k.Ok → (kdD k).canLay0 = true
  | .pl c, h => by
    have h1 : PySem.PyData.canLay0 (.str "plain") = true := by decide +kernel
    have h2 : PySem.PyData.canLay0 (.str ⟨#[c]⟩) = true := by
      have h3 := h.2
      simp only [PyData.canLay0, PyData.strOk]
      simp
      omega
    simp only [kdD, PyData.canLay0, PyData.canLayAll0] at h1 h2 ⊢
    rw [h1, h2]
    rfl
  | .nd b x y, h => by
    have h1 : PySem.PyData.canLay0 (.str (SB b)) = true := by cases b <;> decide +kernel
    have h2 := lay_kd h.1
    have h3 := lay_kd h.2
    simp only [kdD, PyData.canLay0, PyData.canLayAll0] at h1 ⊢
    rw [h1, h2, h3]
    rfl
theorem dep_kd : ∀ k : Kd, (kdD k).depth ≤ k.deep + 3
  | .pl c => by
    simp only [kdD, PyData.depth, PyData.depthAll, Kd.deep]
    omega
  | .nd b x y => by
    have h1 := dep_kd x
    have h2 := dep_kd y
    simp only [kdD, PyData.depth, PyData.depthAll, Kd.deep]
    omega
theorem shaped_kd {k : Kd} (h : k.Ok) (hd : k.deep ≤ 50) : SeqAt.shaped (kdD k) = true := by
  show ((kdD k).canLay0 && decide ((kdD k).depth ≤ 64)) = true
  have := dep_kd k
  rw [Bool.and_eq_true]
  exact ⟨lay_kd h, decide_eq_true (by omega)⟩
theorem rk_tag {H : Hp} {k : Kd} {v : V} (h : RepK H k v) : ∃ a s r, v = .ref a ∧ H a = some (.tup (.str s :: r)) := by
  cases k with
  | pl c =>
    obtain ⟨a, e, h⟩ := h
    exact ⟨a, _, _, e, h⟩
  | nd b x y =>
    obtain ⟨a, u, z, e, h, _⟩ := h
    exact ⟨a, _, _, e, h⟩
theorem rk_nd {H : Hp} {k : Kd} {a : Addr} {s : Str} {r : List V} {b : Bool} (h : RepK H k (.ref a)) (e : H a = some (.tup (.str s :: r))) (hs : V.str s = V.str (SB b)) : ∃ x y u z, k = .nd b x y ∧ r = [u, z] ∧ RepK H x u ∧ RepK H y z := by
  cases k with
  | pl c =>
    obtain ⟨a', e', h⟩ := h
    cases e'
    rw [h] at e
    have e2 := HO.tup.inj (Option.some.inj e)
    have e3 : V.str "plain" = V.str s := (List.cons.inj e2).1
    rw [← e3] at hs
    exfalso
    revert hs
    cases b <;> decide +kernel
  | nd c x y =>
    obtain ⟨a', u, z, e', h, h1, h2⟩ := h
    cases e'
    rw [h] at e
    have e2 := HO.tup.inj (Option.some.inj e)
    obtain ⟨e3, e4⟩ := List.cons.inj e2
    rw [← e3] at hs
    have hc : c = b := by
      revert hs
      cases b <;> cases c <;> decide +kernel
    subst hc
    exact ⟨x, y, u, z, rfl, e4.symm, h1, h2⟩
section
variable {P : Program} {w : World} {K : PySem.W.Frag} {mg : Str → Option Value} {base : Heap}
/-! ### shown -/
theorem b_shown (T : Top w K mg) : Binds K T.shown.fd ["_law_lane", "_law_tree", "_law_tight"] [] := by
  obtain ⟨ds, h1, h2⟩ := T.shown.F.binds1 (ps := ["_law_lane", "_law_tree", "_law_tight"]) 3 1 (by decide) (by decide) (fun _ _ _ _ _ _ _ us its hl hi => by
    match us, its, hl, hi with
    | [_, _, _], [_], _, _ => exact ⟨_, rfl, rfl⟩)
  cases h1
  exact h2
def KdOk (ks : List Kd) : Prop := ∀ k ∈ ks, k.Ok ∧ k.deep ≤ 100
def spShown (n : Nat) : Sp := fun vs H Q _ => ∃ a us ks v t, vs = [.ref a, v, .bl true] ∧ H a = some (.lst us) ∧ AllK H us ks ∧ ks.length = t.width ∧ RepT H t v ∧ t.WF ∧ t.Gk 90 ∧ t.count ≤ n ∧ t.count ≤ 100 ∧ KdOk ks ∧ ks.length + t.count ≤ 800 ∧
  ∀ H' v', Same H H' → (v' = .non ∨ ∃ k, RepK H' k v' ∧ k.Ok ∧ k.size ≤ 7 ∧ ∀ x ∈ ks, x.size ≤ 7) → Q v' H'
theorem ok_shown (T : Top w K mg) : ∀ n, FnOk P w K mg base CX0 (n + 101) T.shown.f T.shown.fd ["_law_lane", "_law_tree", "_law_tight"] (spShown n)
  | 0 => fn_never fun vs H Q E ⟨a, us, ks, v, t, _, _, _, _, _, _, _, h, _⟩ => by
    have := t.count_pos
    omega
  | n + 1 => by
    have G_shown := ok_shown T n
    have G_within : FnOk P w K mg base CX0 _ _ _ _ _ := ok_within T
    have G_wide : FnOk P w K mg base CX0 _ _ _ _ _ := ok_wide T 100
    refine T.shown.F.ok sc_shown (fun vs H Q E h => ?_) (fun cdv A outer s H vs Q E hr h => ⟨_, PSs.nox (pss_cons (ps_set (i := 3) sc_shown.nd rfl (Or.inl rfl) pe_non)
    (pss_cons (ps_if (pt_cmpR op_eq (pe_ix ix_tup (pv 1) pe_int (fun _ _ => rfl)) pe_str (nomark _)) (pss_one (ps_set (i := 3) sc_shown.nd rfl (Or.inl rfl) (pe_ifExp (pt_cmpR op_eq (pe_callB call_len_seq rfl T.z_len PySem.boot_len (pa_cons (pv 0) pa_nil)) pe_int (nomark _)) (pe_ix ix_list (pv 0) pe_int (fun _ _ => rfl)) pe_non))) (pss_one (ps_if (pt_cmpR op_eq (pe_ix ix_tup (pv 1) pe_int (fun _ _ => rfl)) pe_str (nomark _)) (pss_cons (ps_set (i := 4) sc_shown.nd rfl (Or.inl rfl) (pe_call G_shown (hr.mono (by omega)) rfl T.shown.m T.shown.F.kp (b_shown T) .nil pass0 (pa_cons (pe_op op_cat (pv 0) (pe_lst (pa_cons (pe_ix ix_tup (pv 1) pe_int (fun _ _ => rfl)) pa_nil))) (pa_cons (pe_ix ix_tup (pv 1) pe_int (fun _ _ => rfl)) (pa_cons (pv 2) pa_nil)))))
    (pss_one (ps_set (i := 3) sc_shown.nd rfl (Or.inl rfl) (pe_ifExp (pt_cmpR op_isN (pv 4) pe_non (nomark _)) pe_non (pe_tup (pa_cons pe_str (pa_cons (pv 4) (pa_cons (pe_ix ix_tup (pv 1) pe_int (fun _ _ => rfl)) pa_nil)))))))) (pss_one (ps_if (pt_cmpR op_eq (pe_ix ix_tup (pv 1) pe_int (fun _ _ => rfl)) pe_str (nomark _)) (pss_cons (ps_set (i := 4) sc_shown.nd rfl (Or.inl rfl) (pe_call G_shown (hr.mono (by omega)) rfl T.shown.m T.shown.F.kp (b_shown T) .nil pass0 (pa_cons (pe_op op_cat (pe_lst (pa_cons (pe_ix ix_tup (pv 1) pe_int (fun _ _ => rfl)) pa_nil)) (pv 0)) (pa_cons (pe_ix ix_tup (pv 1) pe_int (fun _ _ => rfl)) (pa_cons (pv 2) pa_nil)))))
    (pss_one (ps_set (i := 3) sc_shown.nd rfl (Or.inl rfl) (pe_ifExp (pt_cmpR op_isN (pv 4) pe_non (nomark _)) pe_non (pe_tup (pa_cons pe_str (pa_cons (pe_ix ix_tup (pv 1) pe_int (fun _ _ => rfl)) (pa_cons (pv 4) pa_nil)))))))) (pss_cons (ps_set (i := 5) sc_shown.nd rfl (Or.inl rfl) (pe_call G_wide (hr.mono (by omega)) rfl T.wide.m T.wide.F.kp (b_wide T) .nil pass0 (pa_cons (pe_ix ix_tup (pv 1) pe_int (fun _ _ => rfl)) pa_nil)))
    (pss_cons (ps_par (i := 6) (j := 7) rfl sc_shown.nd rfl rfl (by decide) rfl rfl (pa_cons (pe_call G_shown (hr.mono (by omega)) rfl T.shown.m T.shown.F.kp (b_shown T) .nil pass0 (pa_cons (pe_slice sl_list (pv 0) po_none (po_some (pv 5))) (pa_cons (pe_ix ix_tup (pv 1) pe_int (fun _ _ => rfl)) (pa_cons (pv 2) pa_nil)))) (pa_cons (pe_call G_shown (hr.mono (by omega)) rfl T.shown.m T.shown.F.kp (b_shown T) .nil pass0 (pa_cons (pe_slice sl_list (pv 0) (po_some (pv 5)) po_none) (pa_cons (pe_ix ix_tup (pv 1) pe_int (fun _ _ => rfl)) (pa_cons (pv 2) pa_nil)))) pa_nil)) rfl)
    (pss_cons (ps_if (PW.pt (pw_or (pt_cmpR op_isN (pv 6) pe_non (nomark _)) (pw_or1 (pt_cmpR op_isN (pv 7) pe_non (nomark _))))) (pss_one (ps_ret pe_non)) pss_nil)
    (pss_cons (ps_if (PW.pt (pw_and (pt_cmpR op_eq (pe_ix ix_tup (pv 1) pe_int (fun _ _ => rfl)) pe_str (nomark _)) (pw_and (pt_cmpR op_eq (pe_ix ix_tup (pv 6) pe_int (fun _ _ => rfl)) pe_str (nomark _)) (pw_and1 (pt_cmpR (op_eqD hr.units) (pe_ix ix_tup (pv 6) pe_int (fun _ _ => rfl)) (pv 7) (nomark _)))))) (pss_one (ps_set (i := 3) sc_shown.nd rfl (Or.inl rfl) (pe_ix ix_tup (pv 6) pe_int (fun _ _ => rfl)))) pss_nil)
    (pss_one (ps_if (PW.pt (pw_and (pt_cmpR op_eq (pe_ix ix_tup (pv 1) pe_int (fun _ _ => rfl)) pe_str (nomark _)) (pw_and (pt_cmpR op_eq (pe_ix ix_tup (pv 7) pe_int (fun _ _ => rfl)) pe_str (nomark _)) (pw_and1 (pt_cmpR (op_eqD hr.units) (pe_ix ix_tup (pv 7) pe_int (fun _ _ => rfl)) (pv 6) (nomark _)))))) (pss_one (ps_set (i := 3) sc_shown.nd rfl (Or.inl rfl) (pe_ix ix_tup (pv 7) pe_int (fun _ _ => rfl)))) pss_nil)))))))))))
    (pss_cons (ps_if (PW.pt (pw_or (pt_cmpR op_isN (pv 3) pe_non (nomark _)) (pw_or1 (PW.pt (pw_and (pt_val (pv 2)) (pw_and1 (pt_not (pt_val (pe_call G_within (hr.mono (by omega)) rfl T.within.m T.within.F.kp (b_within T) .nil pass0 (pa_cons (pe_op op_cat (pv 0) (pe_lst (pa_cons (pv 3) pa_nil))) pa_nil)))))))))) (pss_one (ps_ret pe_non)) pss_nil)
    (pss_one (ps_ret (pv 3)))))), ?_⟩)
    · obtain ⟨a, us, ks, v, t, rfl, _⟩ := h
      rfl
    · obtain ⟨a, us, ks, v, t, rfl, ha, hk, hlen, ht, hw, hg, hc, hc1, hko, hlc, q⟩ := h
      refine sq_set val_c ?_
      refine sq_mid (fun σ' H' => Same H H' ∧ ∃ fv y4 y5 y6 y7, σ' = [some (.ref a), some v, some (.bl true), some fv, y4, y5, y6, y7] ∧ (fv = .non ∨ ∃ k, RepK H' k fv ∧ k.Ok ∧ k.deep ≤ 100)) (fun N hN => ?_) (fun σ' H1 hR => ?_)
      · cases t with
        | wd =>
          obtain ⟨b, rfl, h⟩ := ht
          refine st_yes (ans_tag rfl h rfl) ?_
          have hl1 : ks.length = 1 := hlen
          have zk := hk.length
          obtain ⟨k, rfl⟩ := List.length_eq_one_iff.mp hl1
          obtain ⟨u, rfl⟩ := List.length_eq_one_iff.mp zk
          refine ans_eq (val_len (K := K) (val_var rfl) ha) val_c (b := true) rfl rfl _ (itY rfl (val_ixL (val_var rfl) ha at0 _ (hN _ _ ⟨Same.refl H, u, _, _, _, _, rfl, .inr ⟨k, hk.1, (hko k List.mem_cons_self).1, (hko k List.mem_cons_self).2⟩⟩)))
        | gv b k p =>
          obtain ⟨b1, u, z, rfl, h, hk1, hp⟩ := ht
          have hc' : 1 + p.count ≤ n + 1 := hc
          have hc2 : 1 + p.count ≤ 100 := hc1
          have hlc' : ks.length + (1 + p.count) ≤ 800 := hlc
          have hw2 := hw.2
          have hl' : ks.length = p.width - 1 := hlen
          have zk := hk.length
          have kdp : k.deep ≤ 90 := Nat.le_trans k.deep_le hg.1.2
          refine st_no (ans_tag rfl h (by cases b <;> rfl)) ?_
          cases b with
          | true =>
            refine st_yes (ans_tag rfl h rfl) ?_
            refine sq_asg ⟨_, rfl, val_ix (val_var rfl) h at1 _ ⟨(by show 1 ≤ sizeLine; decide), fun l nl => ?_⟩⟩
            have s1 := same_new (o := .lst [u]) nl
            refine ⟨a, l, us, [u], rfl, rfl, s1 _ _ ha, upd_same, sz (by rw [List.length_singleton]; omega), fun l2 nl2 => ?_⟩
            have s2 := s1.trans (same_new (o := .lst (us ++ [u])) nl2)
            refine val_ix (val_var rfl) (s2 _ _ h) at2 _ ⟨_, rfl, l2, _, ks ++ [k], z, p, rfl, upd_same, (hk.mono (.of s2)).append ⟨hk1.mono (.of s2), trivial⟩, ?_, hp.mono (.of s2), hw.1, hg.2, by omega, by omega, ?_, ?_, fun H3 v3 s3 hv3 => ?_⟩
            · rw [List.length_append, List.length_singleton]
              omega
            · intro x hx
              rcases List.mem_append.mp hx with hx | hx
              · exact hko x hx
              · rw [List.mem_singleton.mp hx]
                exact ⟨hg.1.1, by omega⟩
            · rw [List.length_append, List.length_singleton]
              omega
            · have s23 := s2.trans s3
              rcases hv3 with rfl | ⟨k3, hr3, ho3, hz3, _⟩
              · exact ans_isN (val_var rfl) (b := true) rfl _ (itY rfl (hN _ _ ⟨s23, .non, _, _, _, _, rfl, .inl rfl⟩))
              · obtain ⟨a3, s3', r3, rfl, _⟩ := rk_tag hr3
                refine ans_isN (val_var rfl) (b := false) rfl _ (itN Bool.false_ne_true ⟨_, rfl, val_ix (val_var rfl) (s23 _ _ h) at1 _ ⟨(by show 3 ≤ sizeLine; decide), fun r nr => ?_⟩⟩)
                have s4 := same_new (o := .tup [.str "behind", .ref a3, u]) nr
                refine hN _ _ ⟨s23.trans s4, .ref r, _, _, _, _, rfl, .inr ⟨.nd true k3 k, ⟨r, .ref a3, u, rfl, upd_same, hr3.mono (.of s4), hk1.mono (.of (s23.trans s4))⟩, ⟨ho3, hg.1.1⟩, ?_⟩⟩
                have := k3.deep_le
                show 1 + max k3.deep k.deep ≤ 100
                omega
          | false =>
            refine st_no (ans_tag rfl h rfl) (st_yes (ans_tag rfl h rfl) ?_)
            refine sq_asg (val_ix (val_var rfl) h at1 _ ⟨(by show 1 ≤ sizeLine; decide), fun l nl => ⟨_, rfl, ?_⟩⟩)
            have s1 := same_new (o := .lst [u]) nl
            refine ⟨l, a, [u], us, rfl, rfl, upd_same, s1 _ _ ha, sz (by rw [List.length_singleton]; omega), fun l2 nl2 => ?_⟩
            have s2 := s1.trans (same_new (o := .lst ([u] ++ us)) nl2)
            refine val_ix (val_var rfl) (s2 _ _ h) at2 _ ⟨_, rfl, l2, _, k :: ks, z, p, rfl, upd_same, ⟨hk1.mono (.of s2), hk.mono (.of s2)⟩, ?_, hp.mono (.of s2), hw.1, hg.2, by omega, by omega, ?_, ?_, fun H3 v3 s3 hv3 => ?_⟩
            · rw [List.length_cons]
              omega
            · intro x hx
              rcases List.mem_cons.mp hx with hx | hx
              · rw [hx]
                exact ⟨hg.1.1, by omega⟩
              · exact hko x hx
            · rw [List.length_cons]
              omega
            · have s23 := s2.trans s3
              rcases hv3 with rfl | ⟨k3, hr3, ho3, hz3, _⟩
              · exact ans_isN (val_var rfl) (b := true) rfl _ (itY rfl (hN _ _ ⟨s23, .non, _, _, _, _, rfl, .inl rfl⟩))
              · obtain ⟨a3, s3', r3, rfl, _⟩ := rk_tag hr3
                refine ans_isN (val_var rfl) (b := false) rfl _ (itN Bool.false_ne_true (val_ix (val_var rfl) (s23 _ _ h) at1 _ ⟨_, rfl, (by show 3 ≤ sizeLine; decide), fun r nr => ?_⟩))
                have s4 := same_new (o := .tup [.str "ahead", u, .ref a3]) nr
                refine hN _ _ ⟨s23.trans s4, .ref r, _, _, _, _, rfl, .inr ⟨.nd false k k3, ⟨r, u, .ref a3, rfl, upd_same, hk1.mono (.of (s23.trans s4)), hr3.mono (.of s4)⟩, ⟨hg.1.1, ho3⟩, ?_⟩⟩
                have := k3.deep_le
                show 1 + max k.deep k3.deep ≤ 100
                omega
        | pr b l r =>
          obtain ⟨b1, u, z, rfl, h, hl, hr'⟩ := ht
          have hc' : 1 + l.count + r.count ≤ n + 1 := hc
          have hc2 : 1 + l.count + r.count ≤ 100 := hc1
          have hlc' : ks.length + (1 + l.count + r.count) ≤ 800 := hlc
          have hl' : ks.length = l.width + r.width := hlen
          have zk := hk.length
          refine st_no (ans_tag rfl h (by cases b <;> rfl)) (st_no (ans_tag rfl h (by cases b <;> rfl)) (st_no (ans_tag rfl h (by cases b <;> rfl)) ?_))
          refine sq_asg (val_ix (val_var rfl) h at1 _ ⟨_, l, rfl, hl, hw.1, by omega, fun H1 s1 => ?_⟩)
          refine sq_par ⟨_, rfl, _, rfl, _, rfl, a, us, rfl, .of (s1 _ _ ha), fun l2 nl2 => ?_⟩
          rw [cut_take _ _ (by omega)]
          have s2 := s1.trans (same_new (o := .lst (us.take l.width)) nl2)
          refine val_ix (val_var rfl) (s2 _ _ h) at1 _ ⟨_, rfl, l2, _, ks.take l.width, u, l, rfl, upd_same, (hk.mono (.of s2)).take _, ?_, hl.mono (.of s2), hw.1, hg.1, by omega, by omega, fun x hx => hko x (List.mem_of_mem_take hx), ?_, fun H3 v3 s3 hv3 => ?_⟩
          · rw [List.length_take]
            omega
          · rw [List.length_take]
            omega
          have s23 := s2.trans s3
          refine ⟨_, rfl, _, rfl, _, rfl, ?_⟩
          refine np_of ?_
          refine ⟨a, us, rfl, .of (s23 _ _ ha), fun l4 nl4 => ?_⟩
          rw [cut_drop]
          have s4 := s23.trans (same_new (o := .lst (us.drop l.width)) nl4)
          refine val_ix (val_var rfl) (s4 _ _ h) at2 _ ⟨_, rfl, l4, _, ks.drop l.width, z, r, rfl, upd_same, (hk.mono (.of s4)).drop _, ?_, hr'.mono (.of s4), hw.2, hg.2, by omega, by omega, fun x hx => hko x (List.mem_of_mem_drop hx), ?_, fun H5 v5 s5 hv5 => ⟨_, _, rfl, ?_⟩⟩
          · rw [List.length_drop]
            omega
          · rw [List.length_drop]
            omega
          have s45 := s4.trans s5
          rcases hv3 with rfl | ⟨k3, hr3, ho3, hz3, _⟩
          · refine sq_yes (ans_or1 (ans_isN (val_var rfl) rfl)) ?_
            exact q H5 .non s45 (.inl rfl)
          rcases hv5 with rfl | ⟨k5, hr5, ho5, hz5, _⟩
          · obtain ⟨a3, s3', r3, rfl, _⟩ := rk_tag hr3
            refine sq_yes (ans_or (ans_isN (val_var rfl) rfl) (ans_isN (val_var rfl) rfl)) ?_
            exact q H5 .non s45 (.inl rfl)
          have hr3' := hr3.mono (KT.of ((same_new (o := .lst (us.drop l.width)) nl4).trans s5))
          obtain ⟨a3, g3, r3, rfl, e3⟩ := rk_tag hr3'
          obtain ⟨a5, g5, r5, rfl, e5⟩ := rk_tag hr5
          have d3 := k3.deep_le
          have d5 := k5.deep_le
          refine sq_skip (ans_or (ans_isN (val_var rfl) rfl) (ans_isN (val_var rfl) rfl)) ?_
          -- behind
          refine sq_mid (fun σ' H' => H' = H5 ∧ ∃ fv, σ' = [some (.ref a), some (.ref b1), some (.bl true), some fv, none, some (.int (l.width : Nat)), some (.ref a3), some (.ref a5)] ∧ (fv = .non ∨ ∃ k, RepK H5 k fv ∧ k.Ok ∧ k.deep ≤ 100)) (fun N2 hN2 => ?_) (fun σ' H' hR => ?_)
          · cases b with
            | false => exact st_no (ans_and0 (ans_tag rfl (s45 _ _ h) rfl)) (hN2 _ _ ⟨rfl, .non, rfl, .inl rfl⟩)
            | true =>
              by_cases ht3 : V.str g3 = V.str (SB true)
              · obtain ⟨x, y, ux, uy, rfl, rfl, rx, ry⟩ := rk_nd hr3' e3 ht3
                have hdx : x.deep ≤ 100 ∧ y.deep ≤ 50 := by
                  have : (Kd.nd true x y).deep = 1 + max x.deep y.deep := rfl
                  omega
                refine ans_and (ans_tag rfl (s45 _ _ h) rfl) (ans_and (b := PyData.eqv (kdD y) (kdD k5)) (ans_tag rfl e3 (decide_eq_true ht3)) (fun Q' q' => val_ix (val_var rfl) e3 at2 _ ⟨_, rfl, kdD y, kdD k5, dp_kd ry, dp_kd hr5, shaped_kd ho3.2 hdx.2, shaped_kd ho5 (by omega), _, rfl, q'⟩)) _ ?_
                cases PyData.eqv (kdD y) (kdD k5) with
                | true => exact itY rfl (val_ix (val_var rfl) e3 at1 _ (hN2 _ _ ⟨rfl, ux, rfl, .inr ⟨x, rx, ho3.1, hdx.1⟩⟩))
                | false => exact itN Bool.false_ne_true (hN2 _ _ ⟨rfl, .non, rfl, .inl rfl⟩)
              · exact st_no (ans_and (ans_tag rfl (s45 _ _ h) rfl) (ans_and0 (ans_tag rfl e3 (decide_eq_false ht3)))) (hN2 _ _ ⟨rfl, .non, rfl, .inl rfl⟩)
          · obtain ⟨rfl, fv, rfl, hfv⟩ := hR
            cases b with
            | true => exact st_no (ans_and0 (ans_tag rfl (s45 _ _ h) rfl)) (hN _ _ ⟨s45, fv, _, _, _, _, rfl, hfv⟩)
            | false =>
              by_cases ht5 : V.str g5 = V.str (SB false)
              · obtain ⟨x, y, ux, uy, rfl, rfl, rx, ry⟩ := rk_nd hr5 e5 ht5
                have hdx : x.deep ≤ 50 ∧ y.deep ≤ 100 := by
                  have : (Kd.nd false x y).deep = 1 + max x.deep y.deep := rfl
                  omega
                refine ans_and (ans_tag rfl (s45 _ _ h) rfl) (ans_and (b := PyData.eqv (kdD x) (kdD k3)) (ans_tag rfl e5 (decide_eq_true ht5)) (fun Q' q' => val_ix (val_var rfl) e5 at1 _ ⟨_, rfl, kdD x, kdD k3, dp_kd rx, dp_kd hr3', shaped_kd ho5.1 hdx.1, shaped_kd ho3 (by omega), _, rfl, q'⟩)) _ ?_
                cases PyData.eqv (kdD x) (kdD k3) with
                | true => exact itY rfl (val_ix (val_var rfl) e5 at2 _ (hN _ _ ⟨s45, uy, _, _, _, _, rfl, .inr ⟨y, ry, ho5.2, hdx.2⟩⟩))
                | false => exact itN Bool.false_ne_true (hN _ _ ⟨s45, fv, _, _, _, _, rfl, hfv⟩)
              · exact st_no (ans_and (ans_tag rfl (s45 _ _ h) rfl) (ans_and0 (ans_tag rfl e5 (decide_eq_false ht5)))) (hN _ _ ⟨s45, fv, _, _, _, _, rfl, hfv⟩)
      · obtain ⟨s1, fv, y4, y5, y6, y7, rfl, hfv⟩ := hR
        rcases hfv with rfl | ⟨k, hrk, hok, hdk⟩
        · refine sq_yes (ans_or1 (ans_isN (val_var rfl) rfl)) ?_
          exact q H1 .non s1 (.inl rfl)
        · obtain ⟨a3, g3, r3, rfl, e3⟩ := rk_tag hrk
          have zk := hk.length
          have hwd := Tr.width_le (t := t)
          refine sq_ifH (fun b H' => Same H1 H' ∧ (b = false → ∀ x ∈ ks ++ [k], x.size ≤ 7)) (fun Q' q' => ?_) (fun H2 hP => q H2 .non (s1.trans hP.1) (.inl rfl)) (fun H2 hP => ?_)
          · refine ans_isN (val_var rfl) (b := false) rfl _ (itN Bool.false_ne_true ⟨_, rfl, true, rfl, itY rfl ⟨_, rfl, _, rfl, (by show 1 ≤ sizeLine; decide), fun l nl => ?_⟩⟩)
            have s2 := same_new (o := .lst [.ref a3]) nl
            refine ⟨a, l, us, [.ref a3], rfl, rfl, s2 _ _ (s1 _ _ ha), upd_same, sz (by rw [List.length_singleton]; omega), fun l2 nl2 => ?_⟩
            have s3 := s2.trans (same_new (o := .lst (us ++ [.ref a3])) nl2)
            refine ⟨l2, _, ks ++ [k], rfl, upd_same, (hk.mono (.of (s1.trans s3))).append ⟨hrk.mono (.of s3), trivial⟩, by simp, by rw [List.length_append, List.length_singleton]; omega, ?_, fun H4 b s4 hb => ⟨b, rfl, ?_⟩⟩
            · intro x hx
              rcases List.mem_append.mp hx with hx | hx
              · exact (hko x hx).2
              · rw [List.mem_singleton.mp hx]
                exact hdk
            · refine q' _ H4 ⟨s3.trans s4, fun e => hb ?_⟩
              cases b
              · cases e
              · rfl
          · refine ⟨_, rfl, q H2 _ (s1.trans hP.1) (.inr ⟨k, hrk.mono (.of hP.1), hok, ?_, fun x hx => ?_⟩)⟩
            · exact hP.2 rfl k (List.mem_append_right _ (List.mem_singleton.mpr rfl))
            · exact hP.2 rfl x (List.mem_append_left _ hx)
end
end WW
namespace WW
open PySem PySem.Spec PyProof.Rows L2
/-! ### what is made: lane, tree, shape -/
def RepD (H : Hp) (p : Addr) (v : V) (ks : List Kd) (t : Tr) (k : Kd) : Prop := ∃ (r L : Addr) (us : List V) (u s : V), v = .ref r ∧ H r = some (.tup [.ref L, u, s]) ∧ L ≠ p ∧ H L = some (.lst us) ∧ AllK H us ks ∧ RepT H t u ∧ RepK H k s
def Mok (S C Z : Nat) (ks : List Kd) (t : Tr) (k : Kd) : Prop := ks.length = t.width ∧ t.WF ∧ t.Gk 90 ∧ t.count ≤ C ∧ (∀ x ∈ ks, x.Ok ∧ x.size ≤ S) ∧ k.Ok ∧ k.size ≤ Z
theorem RepD.mono {H H' : Hp} {p : Addr} {xs : List V} (s : SameB p H H') (h : H p = some (.lst xs)) {v : V} {ks : List Kd} {t : Tr} {k : Kd} : RepD H p v ks t k → RepD H' p v ks t k
  | ⟨r, L, us, u, z, e, hr, hL, h1, h2, h3, h4⟩ => ⟨r, L, us, u, z, e, s.kt h _ _ hr, hL, s _ _ hL h1, h2.mono (s.kt h), h3.mono (s.kt h), h4.mono (s.kt h)⟩
def etaT : Kd → Tr → Tr
  | .nd true _ y, t => .gv true y (.pr true t .wd)
  | .nd false x _, t => .gv false x (.pr false .wd t)
  | .pl _, t => t
theorem eta_ok {k : Kd} {t : Tr} (hw : t.WF) (hg : t.Gk 90) (ho : k.Ok) (hz : k.size ≤ 90) : (etaT k t).WF ∧ (etaT k t).Gk 90 ∧ (etaT k t).width = t.width ∧ (etaT k t).count ≤ t.count + 3 := by
  have hp := Tr.width_pos hw
  cases k with
  | pl c => exact ⟨hw, hg, rfl, Nat.le_add_right _ _⟩
  | nd b x y =>
    have hz' : x.size + y.size ≤ 90 := hz
    have h1 := x.size_pos
    have h2 := y.size_pos
    cases b with
    | true =>
      refine ⟨⟨⟨hw, trivial⟩, ?_⟩, ⟨⟨ho.2, by omega⟩, hg, trivial⟩, ?_, ?_⟩
      · show 2 ≤ t.width + 1
        omega
      · show t.width + 1 - 1 = t.width
        omega
      · show 1 + (1 + t.count + 1) ≤ t.count + 3
        omega
    | false =>
      refine ⟨⟨⟨trivial, hw⟩, ?_⟩, ⟨⟨ho.1, by omega⟩, trivial, hg⟩, ?_, ?_⟩
      · show 2 ≤ 1 + t.width
        omega
      · show 1 + t.width - 1 = t.width
        omega
      · show 1 + (1 + 1 + t.count) ≤ t.count + 3
        omega
section
variable {P : Program} {w : World} {K : PySem.W.Frag} {mg : Str → Option Value} {base : Heap}
theorem ans_int {σ : L2.St} {H : Hp} {ta : TE} {i : Int} {b : Bool} (ha : Val ta σ H (.int i)) (c : Int) (hb : decide (i = c) = b) : Ans (tTest (tOp rEq ta (tC (.int c)))) σ H b := ans_eq ha val_c rfl (by
  rw [← hb]
  exact decide_eq_decide.mpr ⟨fun e => V.int.inj e, fun e => congrArg V.int e⟩)
/-! ### put -/
def spPut (n : Nat) : Sp := fun vs H Q _ => ∃ (v z : V) (kk : Int) (t o : Tr) (i : Nat), vs = [v, .int kk, z] ∧ kk = (i : Int) ∧ RepT H t v ∧ RepT H o z ∧ t.WF ∧ i < t.width ∧ t.count ≤ n ∧ t.count ≤ 100 ∧ ∀ H' v', Same H H' → RepT H' (t.put i o) v' → Q v' H'
theorem ok_put (T : Top w K mg) : ∀ n, FnOk P w K mg base CX0 (n + 100) T.put.f T.put.fd ["_law_tree", "_law_spot", "_law_more"] (spPut n)
  | 0 => fn_never fun vs H Q E ⟨v, z, kk, t, o, i, _, _, _, _, _, _, h, _⟩ => by
    have := t.count_pos
    omega
  | n + 1 => by
    have G_put := ok_put T n
    have G_wide : FnOk P w K mg base CX0 _ _ _ _ _ := ok_wide T 100
    refine T.put.F.ok sc_put (fun vs H Q E h => ?_) (fun cdv A outer s H vs Q E hr h => ⟨_, PSs.nox (pss_cons (ps_if (pt_cmpR op_eq (pe_ix ix_tup (pv 0) pe_int (fun _ _ => rfl)) pe_str (nomark _)) (pss_one (ps_ret (pv 2))) pss_nil)
    (pss_cons (ps_if (pt_cmpR op_eq (pe_ix ix_tup (pv 0) pe_int (fun _ _ => rfl)) pe_str (nomark _)) (pss_one (ps_ret (pe_tup (pa_cons (pe_ix ix_tup (pv 0) pe_int (fun _ _ => rfl)) (pa_cons (pe_ix ix_tup (pv 0) pe_int (fun _ _ => rfl)) (pa_cons (pe_call G_put (hr.mono (by omega)) rfl T.put.m T.put.F.kp (b_put T) .nil pass0 (pa_cons (pe_ix ix_tup (pv 0) pe_int (fun _ _ => rfl)) (pa_cons (pv 1) (pa_cons (pv 2) pa_nil)))) pa_nil)))))) pss_nil)
    (pss_cons (ps_if (pt_cmpR op_eq (pe_ix ix_tup (pv 0) pe_int (fun _ _ => rfl)) pe_str (nomark _)) (pss_one (ps_ret (pe_tup (pa_cons (pe_ix ix_tup (pv 0) pe_int (fun _ _ => rfl)) (pa_cons (pe_ix ix_tup (pv 0) pe_int (fun _ _ => rfl)) (pa_cons (pe_call G_put (hr.mono (by omega)) rfl T.put.m T.put.F.kp (b_put T) .nil pass0 (pa_cons (pe_ix ix_tup (pv 0) pe_int (fun _ _ => rfl)) (pa_cons (pe_op op_add (pv 1) pe_int) (pa_cons (pv 2) pa_nil)))) pa_nil)))))) pss_nil)
    (pss_cons (ps_set (i := 3) sc_put.nd rfl (Or.inl rfl) (pe_call G_wide (hr.mono (by omega)) rfl T.wide.m T.wide.F.kp (b_wide T) .nil pass0 (pa_cons (pe_ix ix_tup (pv 0) pe_int (fun _ _ => rfl)) pa_nil)))
    (pss_cons (ps_if (pt_cmpR op_lt (pv 1) (pv 3) (nomark _)) (pss_one (ps_ret (pe_tup (pa_cons (pe_ix ix_tup (pv 0) pe_int (fun _ _ => rfl)) (pa_cons (pe_call G_put (hr.mono (by omega)) rfl T.put.m T.put.F.kp (b_put T) .nil pass0 (pa_cons (pe_ix ix_tup (pv 0) pe_int (fun _ _ => rfl)) (pa_cons (pv 1) (pa_cons (pv 2) pa_nil)))) (pa_cons (pe_ix ix_tup (pv 0) pe_int (fun _ _ => rfl)) pa_nil)))))) pss_nil)
    (pss_one (ps_ret (pe_tup (pa_cons (pe_ix ix_tup (pv 0) pe_int (fun _ _ => rfl)) (pa_cons (pe_ix ix_tup (pv 0) pe_int (fun _ _ => rfl)) (pa_cons (pe_call G_put (hr.mono (by omega)) rfl T.put.m T.put.F.kp (b_put T) .nil pass0 (pa_cons (pe_ix ix_tup (pv 0) pe_int (fun _ _ => rfl)) (pa_cons (pe_op op_sub (pv 1) (pv 3)) (pa_cons (pv 2) pa_nil)))) pa_nil))))))))))), ?_⟩)
    · obtain ⟨v, z, kk, t, o, i, rfl, _⟩ := h
      rfl
    · obtain ⟨v, z, kk, t, o, i, rfl, rfl, ht, ho, hw, hi, hc, hc1, q⟩ := h
      cases t with
      | wd =>
        obtain ⟨a, rfl, h⟩ := ht
        refine sq_yes (ans_tag rfl h rfl) ?_
        exact ⟨_, rfl, q H _ (Same.refl H) ho⟩
      | gv b k p =>
        obtain ⟨a, u, y, rfl, h, hk, hp⟩ := ht
        have hc' : 1 + p.count ≤ n + 1 := hc
        have hc2 : 1 + p.count ≤ 100 := hc1
        have hi' : i < p.width - 1 := hi
        refine sq_skip (ans_tag rfl h (by cases b <;> rfl)) ?_
        cases b with
        | true =>
          refine sq_yes (ans_tag rfl h rfl) ?_
          refine val_ix (val_var rfl) h at0 _ (val_ix (val_var rfl) h at1 _ (val_ix (val_var rfl) h at2 _ ⟨_, rfl, _, rfl, _, _, _, p, o, i, rfl, rfl, hp, ho, hw.1, by omega, by omega, by omega, fun H1 v1 s1 r1 => ⟨(by show 3 ≤ sizeLine; decide), fun r nr => ?_⟩⟩))
          have s2 := same_new (o := .tup [.str "givebehind", u, v1]) nr
          exact q _ _ (s1.trans s2) ⟨r, u, v1, rfl, upd_same, hk.mono (.of (s1.trans s2)), r1.mono (.of s2)⟩
        | false =>
          refine sq_skip (ans_tag rfl h rfl) (sq_yes (ans_tag rfl h rfl) ?_)
          refine val_ix (val_var rfl) h at0 _ (val_ix (val_var rfl) h at1 _ (val_ix (val_var rfl) h at2 _ ⟨_, rfl, _, _, rfl, rfl, _, rfl, _, _, _, p, o, i + 1, rfl, rfl, hp, ho, hw.1, by omega, by omega, by omega, fun H1 v1 s1 r1 => ⟨(by show 3 ≤ sizeLine; decide), fun r nr => ?_⟩⟩))
          have s2 := same_new (o := .tup [.str "giveahead", u, v1]) nr
          exact q _ _ (s1.trans s2) ⟨r, u, v1, rfl, upd_same, hk.mono (.of (s1.trans s2)), r1.mono (.of s2)⟩
      | pr b l r =>
        obtain ⟨a, u, y, rfl, h, hl, hr'⟩ := ht
        have hc' : 1 + l.count + r.count ≤ n + 1 := hc
        have hc2 : 1 + l.count + r.count ≤ 100 := hc1
        have hi' : i < l.width + r.width := hi
        refine sq_skip (ans_tag rfl h (by cases b <;> rfl)) (sq_skip (ans_tag rfl h (by cases b <;> rfl)) (sq_skip (ans_tag rfl h (by cases b <;> rfl)) ?_))
        refine sq_asg (val_ix (val_var rfl) h at1 _ ⟨_, l, rfl, hl, hw.1, by omega, fun H1 s1 => ?_⟩)
        by_cases c : i < l.width
        · refine sq_yes (ans_cmp (val_var rfl) (val_var rfl) fun Q' q' => ⟨_, _, rfl, rfl, ?_⟩) ?_
          · exact toB (Q := Q') (decide_eq_true (by omega)) q'
          refine val_ix (val_var rfl) (s1 _ _ h) at0 _ (val_ix (val_var rfl) (s1 _ _ h) at1 _ ⟨_, rfl, _, rfl, _, _, _, l, o, i, rfl, rfl, hl.mono (.of s1), ho.mono (.of s1), hw.1, c, by omega, by omega, fun H2 v2 s2 r2 => ?_⟩)
          refine val_ix (val_var rfl) (s2 _ _ (s1 _ _ h)) at2 _ ⟨(by show 3 ≤ sizeLine; decide), fun r3 nr => ?_⟩
          have s3 := same_new (o := .tup [.str (SB b), v2, y]) nr
          refine q _ _ (s1.trans (s2.trans s3)) ?_
          unfold Tr.put
          rw [if_pos c]
          exact ⟨r3, v2, y, rfl, upd_same, r2.mono (.of s3), hr'.mono (.of (s1.trans (s2.trans s3)))⟩
        · refine sq_skip (ans_cmp (val_var rfl) (val_var rfl) fun Q' q' => ⟨_, _, rfl, rfl, ?_⟩) ?_
          · exact toB (Q := Q') (decide_eq_false (by omega)) q'
          refine val_ix (val_var rfl) (s1 _ _ h) at0 _ (val_ix (val_var rfl) (s1 _ _ h) at1 _ (val_ix (val_var rfl) (s1 _ _ h) at2 _ ⟨_, rfl, _, rfl, _, _, rfl, rfl, _, rfl, _, _, _, r, o, i - l.width, rfl, by omega, hr'.mono (.of s1), ho.mono (.of s1), hw.2, by omega, by omega, by omega, fun H2 v2 s2 r2 => ?_⟩))
          refine ⟨(by show 3 ≤ sizeLine; decide), fun r3 nr => ?_⟩
          have s3 := same_new (o := .tup [.str (SB b), u, v2]) nr
          refine q _ _ (s1.trans (s2.trans s3)) ?_
          unfold Tr.put
          rw [if_neg c]
          exact ⟨r3, u, v2, rfl, upd_same, hl.mono (.of (s1.trans (s2.trans s3))), r2.mono (.of s3)⟩
/-! ### eta -/
def spEta : Sp := fun vs H Q _ => ∃ (v z : V) (t : Tr) (k : Kd), vs = [v, z] ∧ RepT H t v ∧ RepK H k z ∧ ∀ H' v', Same H H' → RepT H' (etaT k t) v' → Q v' H'
theorem ok_eta (T : Top w K mg) : FnOk P w K mg base CX0 1 T.eta.f T.eta.fd ["_law_tree", "_law_shape_here"] spEta := by
  refine T.eta.F.ok sc_eta (fun vs H Q E h => ?_) (fun cdv A outer s H vs Q E hr h => ⟨_, PSs.nox (pss_cons (ps_if (pt_cmpR op_eq (pe_ix ix_tup (pv 1) pe_int (fun _ _ => rfl)) pe_str (nomark _)) (pss_one (ps_ret (pe_tup (pa_cons pe_str (pa_cons (pe_ix ix_tup (pv 1) pe_int (fun _ _ => rfl)) (pa_cons (pe_tup (pa_cons pe_str (pa_cons (pv 0) (pa_cons (pe_tup (pa_cons pe_str pa_nil)) pa_nil)))) pa_nil)))))) pss_nil)
    (pss_cons (ps_if (pt_cmpR op_eq (pe_ix ix_tup (pv 1) pe_int (fun _ _ => rfl)) pe_str (nomark _)) (pss_one (ps_ret (pe_tup (pa_cons pe_str (pa_cons (pe_ix ix_tup (pv 1) pe_int (fun _ _ => rfl)) (pa_cons (pe_tup (pa_cons pe_str (pa_cons (pe_tup (pa_cons pe_str pa_nil)) (pa_cons (pv 0) pa_nil)))) pa_nil)))))) pss_nil)
    (pss_one (ps_ret (pv 0))))), ?_⟩)
  · obtain ⟨v, z, t, k, rfl, _⟩ := h
    rfl
  · obtain ⟨v, z, t, k, rfl, ht, hk, q⟩ := h
    cases k with
    | pl c =>
      obtain ⟨a, rfl, h⟩ := hk
      refine sq_skip (ans_tag rfl h rfl) (sq_skip (ans_tag rfl h rfl) ?_)
      exact ⟨_, rfl, q H _ (Same.refl H) ht⟩
    | nd b x y =>
      obtain ⟨a, u, y', rfl, h, hx, hy⟩ := hk
      cases b with
      | true =>
        refine sq_yes (ans_tag rfl h rfl) ?_
        refine val_ix (val_var rfl) h at2 _ ⟨_, rfl, (by show 1 ≤ sizeLine; decide), fun r1 n1 => ⟨(by show 3 ≤ sizeLine; decide), fun r2 n2 => ⟨(by show 3 ≤ sizeLine; decide), fun r3 n3 => ?_⟩⟩⟩
        have s1 := same_new (o := .tup [.str "word"]) n1
        have s2 := same_new (o := .tup [.str "behind", v, .ref r1]) n2
        have s3 := same_new (o := .tup [.str "givebehind", y', .ref r2]) n3
        have s23 := s2.trans s3
        refine q _ _ (s1.trans s23) ⟨r3, _, _, rfl, upd_same, hy.mono (.of (s1.trans s23)), ?_⟩
        exact ⟨r2, _, _, rfl, s3 _ _ upd_same, ht.mono (.of (s1.trans s23)), r1, rfl, s23 _ _ upd_same⟩
      | false =>
        refine sq_skip (ans_tag rfl h rfl) (sq_yes (ans_tag rfl h rfl) ?_)
        refine val_ix (val_var rfl) h at1 _ ⟨(by show 1 ≤ sizeLine; decide), fun r1 n1 => ⟨_, rfl, (by show 3 ≤ sizeLine; decide), fun r2 n2 => ⟨(by show 3 ≤ sizeLine; decide), fun r3 n3 => ?_⟩⟩⟩
        have s1 := same_new (o := .tup [.str "word"]) n1
        have s2 := same_new (o := .tup [.str "ahead", .ref r1, v]) n2
        have s3 := same_new (o := .tup [.str "giveahead", u, .ref r2]) n3
        have s23 := s2.trans s3
        refine q _ _ (s1.trans s23) ⟨r3, _, _, rfl, upd_same, hx.mono (.of (s1.trans s23)), ?_⟩
        exact ⟨r2, _, _, rfl, s3 _ _ upd_same, ⟨r1, rfl, s23 _ _ upd_same⟩, ht.mono (.of (s1.trans s23))⟩
/-! ### given -/
theorem AllK.at {H : Hp} {us : List V} {ks : List Kd} {i : Nat} (h : AllK H us ks) (hi : i < ks.length) : ∃ u k, us[i]? = some u ∧ ks[i]? = some k ∧ k ∈ ks ∧ RepK H k u := by
  have z := h.length
  have h1 : us[i]? = some us[i] := List.getElem?_eq_getElem (by omega)
  obtain ⟨k, hk, hr⟩ := h.get h1
  exact ⟨_, k, h1, hk, List.mem_of_getElem? hk, hr⟩
theorem AllK.init {H : Hp} {us : List V} {ks : List Kd} (h : AllK H us ks) : AllK H us.dropLast ks.dropLast := by
  rw [List.dropLast_eq_take, List.dropLast_eq_take, h.length]
  exact h.take _
def spGiven : Sp := fun vs H Q _ => ∃ (way : Int) (p L : Addr) (us : List V) (ks : List Kd) (u s : V) (t : Tr) (k : Kd) (C Z : Nat), vs = [.int way, .ref L, u, s] ∧ 4 ≤ way ∧ way < 8 ∧ (∃ xs, H p = some (.lst xs)) ∧ L ≠ p ∧ H L = some (.lst us) ∧ AllK H us ks ∧ RepT H t u ∧ RepK H k s ∧ Mok 7 C Z ks t k ∧ 2 ≤ ks.length ∧
  ∀ H' v ks' t' k', Same H H' → RepD H' p v ks' t' k' → Mok 7 (C + 3) (Z + 7) ks' t' k' → Q v H'
theorem ok_given (T : Top w K mg) : FnOk P w K mg base CX0 1 T.given.f T.given.fd ["_law_way", "_law_lane", "_law_tree", "_law_shape_here"] spGiven := by
  refine T.given.F.ok sc_given (fun vs H Q E h => ?_) (fun cdv A outer s H vs Q E hr h => ⟨_, PSs.nox (pss_cons (ps_if (pt_cmpR op_eq (pv 0) pe_int (nomark _)) (pss_one (ps_ret (pe_tup (pa_cons (pe_slice sl_list (pv 1) po_none (po_some (pe_un un_neg pe_int))) (pa_cons (pe_tup (pa_cons pe_str (pa_cons (pe_ix ix_list (pv 1) (pe_un un_neg pe_int) (fun _ _ => rfl)) (pa_cons (pv 2) pa_nil)))) (pa_cons (pe_tup (pa_cons pe_str (pa_cons (pv 3) (pa_cons (pe_ix ix_list (pv 1) (pe_un un_neg pe_int) (fun _ _ => rfl)) pa_nil)))) pa_nil)))))) pss_nil)
    (pss_cons (ps_if (pt_cmpR op_eq (pv 0) pe_int (nomark _)) (pss_one (ps_ret (pe_tup (pa_cons (pe_slice sl_list (pv 1) (po_some pe_int) po_none) (pa_cons (pe_tup (pa_cons pe_str (pa_cons (pe_ix ix_list (pv 1) pe_int (fun _ _ => rfl)) (pa_cons (pv 2) pa_nil)))) (pa_cons (pe_tup (pa_cons pe_str (pa_cons (pe_ix ix_list (pv 1) pe_int (fun _ _ => rfl)) (pa_cons (pv 3) pa_nil)))) pa_nil)))))) pss_nil)
    (pss_cons (ps_if (pt_cmpR op_eq (pv 0) pe_int (nomark _)) (pss_one (ps_ret (pe_tup (pa_cons (pv 1) (pa_cons (pe_tup (pa_cons pe_str (pa_cons (pe_tup (pa_cons pe_str (pa_cons (pe_ix ix_list (pv 1) (pe_un un_neg pe_int) (fun _ _ => rfl)) (pa_cons (pv 2) pa_nil)))) (pa_cons (pe_tup (pa_cons pe_str pa_nil)) pa_nil)))) (pa_cons (pv 3) pa_nil)))))) pss_nil)
    (pss_one (ps_ret (pe_tup (pa_cons (pv 1) (pa_cons (pe_tup (pa_cons pe_str (pa_cons (pe_tup (pa_cons pe_str pa_nil)) (pa_cons (pe_tup (pa_cons pe_str (pa_cons (pe_ix ix_list (pv 1) pe_int (fun _ _ => rfl)) (pa_cons (pv 2) pa_nil)))) pa_nil)))) (pa_cons (pv 3) pa_nil))))))))), ?_⟩)
  · obtain ⟨way, p, L, us, ks, u, s, t, k, C, Z, rfl, _⟩ := h
    rfl
  · obtain ⟨way, p, L, us, ks, u, s, t, k, C, Z, rfl, h4, h8, ⟨xs, hpx⟩, hLp, hL, hks, ht, hk, ⟨m1, m2, m3, m4, m5, m6, m7⟩, hl2, q⟩ := h
    have z := hks.length
    obtain ⟨ul, kl, el1, el2, el3, el4⟩ := hks.at (i := ks.length - 1) (by omega)
    obtain ⟨uf, kf, ef1, ef2, ef3, ef4⟩ := hks.at (i := 0) (by omega)
    have el1' : us[us.length - 1]? = some ul := by rw [z]; exact el1
    have ol := m5 _ el3
    have of := m5 _ ef3
    have dks : ∀ x ∈ ks.dropLast, x ∈ ks := fun x hx => List.dropLast_subset _ hx
    have tks : ∀ x ∈ ks.drop 1, x ∈ ks := fun x hx => List.mem_of_mem_drop hx
    by_cases c4 : way = 4
    · refine sq_yes (ans_int (val_var rfl) 4 (decide_eq_true c4)) ?_
      refine ⟨_, rfl, 1, rfl, _, rfl, L, us, rfl, .of hL, fun c hc => ?_⟩
      rw [cut_last]
      have s1 := same_new (o := .lst us.dropLast) hc
      refine ⟨_, rfl, 1, rfl, L, us, _, _, rfl, rfl, .of (s1 _ _ hL), at_last el1', _, rfl, (by show 3 ≤ sizeLine; decide), fun r1 n1 => ?_⟩
      have s2 := same_new (o := .tup [.str "givebehind", ul, u]) n1
      refine ⟨_, rfl, _, rfl, 1, rfl, L, us, _, _, rfl, rfl, .of (s2 _ _ (s1 _ _ hL)), at_last el1', (by show 3 ≤ sizeLine; decide), fun r2 n2 => ⟨(by show 3 ≤ sizeLine; decide), fun r3 n3 => ?_⟩⟩
      have s3 := same_new (o := .tup [.str "behind", s, ul]) n2
      have s4 := same_new (o := .tup [.ref c, .ref r1, .ref r2]) n3
      have t4 := s1.trans (s2.trans (s3.trans s4))
      refine q _ _ (ks.dropLast) (.gv true kl t) (.nd true k kl) t4 ⟨r3, c, us.dropLast, _, _, rfl, upd_same, fr_ne hc hpx, (s2.trans (s3.trans s4)) _ _ upd_same, ?_, ?_, ?_⟩ ⟨?_, ?_, ?_, ?_, ?_, ?_, ?_⟩
      · exact hks.init.mono (.of t4)
      · exact ⟨r1, _, _, rfl, (s3.trans s4) _ _ upd_same, el4.mono (.of t4), ht.mono (.of t4)⟩
      · exact ⟨r2, _, _, rfl, s4 _ _ upd_same, hk.mono (.of t4), el4.mono (.of t4)⟩
      · rw [List.length_dropLast, m1]
        rfl
      · exact ⟨m2, by omega⟩
      · exact ⟨⟨ol.1, by omega⟩, m3⟩
      · show 1 + t.count ≤ C + 3
        omega
      · exact fun x hx => m5 x (dks x hx)
      · exact ⟨m6, ol.1⟩
      · show k.size + kl.size ≤ Z + 7
        omega
    refine sq_skip (ans_int (val_var rfl) 4 (decide_eq_false c4)) ?_
    by_cases c5 : way = 5
    · refine sq_yes (ans_int (val_var rfl) 5 (decide_eq_true c5)) ?_
      refine ⟨_, rfl, 1, rfl, L, us, rfl, .of hL, fun c hc => ?_⟩
      rw [cut_tail]
      have s1 := same_new (o := .lst (us.drop 1)) hc
      refine val_ixL (val_var rfl) (s1 _ _ hL) (atI_nat (j := 0) ef1) _ ⟨_, rfl, (by show 3 ≤ sizeLine; decide), fun r1 n1 => ?_⟩
      have s2 := same_new (o := .tup [.str "giveahead", uf, u]) n1
      refine val_ixL (val_var rfl) (s2 _ _ (s1 _ _ hL)) (atI_nat (j := 0) ef1) _ ⟨_, rfl, (by show 3 ≤ sizeLine; decide), fun r2 n2 => ⟨(by show 3 ≤ sizeLine; decide), fun r3 n3 => ?_⟩⟩
      have s3 := same_new (o := .tup [.str "ahead", uf, s]) n2
      have s4 := same_new (o := .tup [.ref c, .ref r1, .ref r2]) n3
      have t4 := s1.trans (s2.trans (s3.trans s4))
      refine q _ _ (ks.drop 1) (.gv false kf t) (.nd false kf k) t4 ⟨r3, c, us.drop 1, _, _, rfl, upd_same, fr_ne hc hpx, (s2.trans (s3.trans s4)) _ _ upd_same, (hks.mono (.of t4)).drop _, ?_, ?_⟩ ⟨?_, ?_, ?_, ?_, ?_, ?_, ?_⟩
      · exact ⟨r1, _, _, rfl, (s3.trans s4) _ _ upd_same, ef4.mono (.of t4), ht.mono (.of t4)⟩
      · exact ⟨r2, _, _, rfl, s4 _ _ upd_same, ef4.mono (.of t4), hk.mono (.of t4)⟩
      · rw [List.length_drop, m1]
        rfl
      · exact ⟨m2, by omega⟩
      · exact ⟨⟨of.1, by omega⟩, m3⟩
      · show 1 + t.count ≤ C + 3
        omega
      · exact fun x hx => m5 x (tks x hx)
      · exact ⟨of.1, m6⟩
      · show kf.size + k.size ≤ Z + 7
        omega
    refine sq_skip (ans_int (val_var rfl) 5 (decide_eq_false c5)) ?_
    by_cases c6 : way = 6
    · refine sq_yes (ans_int (val_var rfl) 6 (decide_eq_true c6)) ?_
      refine ⟨_, rfl, _, rfl, 1, rfl, L, us, _, _, rfl, rfl, .of hL, at_last el1', _, rfl, (by show 3 ≤ sizeLine; decide), fun r1 n1 => ⟨(by show 1 ≤ sizeLine; decide), fun r2 n2 => ⟨(by show 3 ≤ sizeLine; decide), fun r3 n3 => ⟨_, rfl, (by show 3 ≤ sizeLine; decide), fun r4 n4 => ?_⟩⟩⟩⟩
      have s1 := same_new (o := .tup [.str "givebehind", ul, u]) n1
      have s2 := same_new (o := .tup [.str "word"]) n2
      have s3 := same_new (o := .tup [.str "behind", .ref r1, .ref r2]) n3
      have s4 := same_new (o := .tup [.ref L, .ref r3, s]) n4
      have t4 := s1.trans (s2.trans (s3.trans s4))
      refine q _ _ ks (.pr true (.gv true kl t) .wd) k t4 ⟨r4, L, us, _, _, rfl, upd_same, hLp, t4 _ _ hL, hks.mono (.of t4), ?_, hk.mono (.of t4)⟩ ⟨?_, ?_, ?_, ?_, m5, m6, by omega⟩
      · refine ⟨r3, _, _, rfl, s4 _ _ upd_same, ⟨r1, _, _, rfl, (s2.trans (s3.trans s4)) _ _ upd_same, el4.mono (.of t4), ht.mono (.of t4)⟩, r2, rfl, (s3.trans s4) _ _ upd_same⟩
      · rw [m1]
        show t.width = t.width - 1 + 1
        omega
      · exact ⟨⟨m2, by omega⟩, trivial⟩
      · exact ⟨⟨⟨ol.1, by omega⟩, m3⟩, trivial⟩
      · show 1 + (1 + t.count) + 1 ≤ C + 3
        omega
    · refine sq_skip (ans_int (val_var rfl) 6 (decide_eq_false c6)) ?_
      refine ⟨_, rfl, (by show 1 ≤ sizeLine; decide), fun r1 n1 => ?_⟩
      have s1 := same_new (o := .tup [.str "word"]) n1
      refine val_ixL (val_var rfl) (s1 _ _ hL) (atI_nat (j := 0) ef1) _ ⟨_, rfl, (by show 3 ≤ sizeLine; decide), fun r2 n2 => ⟨(by show 3 ≤ sizeLine; decide), fun r3 n3 => ⟨_, rfl, (by show 3 ≤ sizeLine; decide), fun r4 n4 => ?_⟩⟩⟩
      have s2 := same_new (o := .tup [.str "giveahead", uf, u]) n2
      have s3 := same_new (o := .tup [.str "ahead", .ref r1, .ref r2]) n3
      have s4 := same_new (o := .tup [.ref L, .ref r3, s]) n4
      have t4 := s1.trans (s2.trans (s3.trans s4))
      refine q _ _ ks (.pr false .wd (.gv false kf t)) k t4 ⟨r4, L, us, _, _, rfl, upd_same, hLp, t4 _ _ hL, hks.mono (.of t4), ?_, hk.mono (.of t4)⟩ ⟨?_, ?_, ?_, ?_, m5, m6, by omega⟩
      · refine ⟨r3, _, _, rfl, s4 _ _ upd_same, ⟨r1, rfl, (s2.trans (s3.trans s4)) _ _ upd_same⟩, r2, _, _, rfl, (s3.trans s4) _ _ upd_same, ef4.mono (.of t4), ht.mono (.of t4)⟩
      · rw [m1]
        show t.width = 1 + (t.width - 1)
        omega
      · exact ⟨trivial, m2, by omega⟩
      · exact ⟨trivial, ⟨of.1, by omega⟩, m3⟩
      · show 1 + 1 + (1 + t.count) ≤ C + 3
        omega
end
end WW
namespace WW
open PySem PySem.Spec PyProof.Rows L2
theorem AllK.snoc {H : Hp} {us : List V} {ks : List Kd} {u : V} {k : Kd} (h : AllK H us ks) (hk : RepK H k u) : AllK H (us ++ [u]) (ks ++ [k]) := h.append ⟨hk, trivial⟩
theorem AllK.two {H : Hp} {u v : V} {k l : Kd} (h1 : RepK H k u) (h2 : RepK H l v) : AllK H [u, v] [k, l] := ⟨h1, h2, trivial⟩
theorem cut_succ (us : List V) (i : Nat) : cutV us (some ((i : Int) + 1)) none = us.drop (i + 1) := cut_drop us (i + 1)
theorem sq_par3 {ta : TA} {u : TS} {D : Ends} {σ : L2.St} {H : Hp} {i j l : Nat} (q : ta σ H fun vs H1 => ∃ v w x, vs = [v, w, x] ∧ u D (((σ.set i (some v)).set j (some w)).set l (some x)) H1) : tSeq (tPar3 i j l ta) u D σ H := q
section
variable {P : Program} {w : World} {K : PySem.W.Frag} {mg : Str → Option Value} {base : Heap}
/-! ### grown -/
def spGrown : Sp := fun vs H Q _ => ∃ (p : Addr) (v : V) (m : Nat) (z : Str) (ks : List Kd) (t : Tr) (k : Kd) (Z : Nat), vs = [.ref p, v] ∧ Pool H p m [.str z] ∧ SignsOk z ∧ m + 100 ≤ 90000 ∧ RepD H p v ks t k ∧ Mok 7 40 Z ks t k ∧ Z ≤ 80 ∧
  ∀ H' v' ks' t' k', SameB p H H' → Pool H' p (m + 10) [.str z] → RepD H' p v' ks' t' k' → Mok 90 43 (Z + 7) ks' t' k' → Q v' H'
theorem ok_grown (T : Top w K mg) : FnOk P w K mg base CX0 201 T.grown.f T.grown.fd ["_law_pool_here", "_law_made_here"] spGrown := by
  have G_pick : FnOk P w K mg base CX0 _ _ _ _ _ := ok_pick T
  have G_shape : FnOk P w K mg base CX0 _ _ _ _ _ := ok_shape T 3
  have G_put : FnOk P w K mg base CX0 _ _ _ _ _ := ok_put T 100
  have G_given : FnOk P w K mg base CX0 _ _ _ _ _ := ok_given T
  have G_eta : FnOk P w K mg base CX0 _ _ _ _ _ := ok_eta T
  refine T.grown.F.ok sc_grown (fun vs H Q E h => ?_) (fun cdv A outer s H vs Q E hr h => ⟨_, PSs.nox (pss_cons (ps_asg (pv 1) (pg_tup rfl (pgs_cons (pg_name (i := 2) sc_grown.nd rfl (Or.inl rfl)) (pgs_cons (pg_name (i := 3) sc_grown.nd rfl (Or.inl rfl)) (pgs_cons (pg_name (i := 4) sc_grown.nd rfl (Or.inl rfl)) pgs_nil)))))
    (pss_cons (ps_par3 (i := 5) (j := 6) (l := 7) rfl sc_grown.nd rfl rfl rfl (by decide) (by decide) (by decide) rfl rfl rfl (pa_cons (pe_call G_pick (hr.mono (by omega)) rfl T.pick.m T.pick.F.kp (b_pick T) .nil pass0 (pa_cons (pv 0) (pa_cons pe_int pa_nil))) (pa_cons (pe_call G_pick (hr.mono (by omega)) rfl T.pick.m T.pick.F.kp (b_pick T) .nil pass0 (pa_cons (pv 0) (pa_cons (pe_callB call_len_seq rfl T.z_len PySem.boot_len (pa_cons (pv 2) pa_nil)) pa_nil))) (pa_cons (pe_tup (pa_cons pe_str pa_nil)) pa_nil))) rfl)
    (pss_cons (ps_set (i := 8) sc_grown.nd rfl (Or.inl rfl) (pe_call G_shape (hr.mono (by omega)) rfl T.shape.m T.shape.F.kp (b_shape T) .nil pass0 (pa_cons (pv 0) (pa_cons (pe_op op_add pe_int (pe_call G_pick (hr.mono (by omega)) rfl T.pick.m T.pick.F.kp (b_pick T) .nil pass0 (pa_cons (pv 0) (pa_cons pe_int pa_nil)))) pa_nil))))
    (pss_cons (ps_if (pt_cmpR op_eq (pv 5) pe_int (nomark _)) (pss_one (ps_ret (pe_tup (pa_cons (pe_op op_cat (pe_lst (pa_cons (pe_tup (pa_cons pe_str (pa_cons (pv 8) (pa_cons (pv 4) pa_nil)))) pa_nil)) (pv 2)) (pa_cons (pe_tup (pa_cons pe_str (pa_cons (pv 7) (pa_cons (pv 3) pa_nil)))) (pa_cons (pv 8) pa_nil)))))) pss_nil)
    (pss_cons (ps_if (pt_cmpR op_eq (pv 5) pe_int (nomark _)) (pss_one (ps_ret (pe_tup (pa_cons (pe_op op_cat (pv 2) (pe_lst (pa_cons (pe_tup (pa_cons pe_str (pa_cons (pv 4) (pa_cons (pv 8) pa_nil)))) pa_nil))) (pa_cons (pe_tup (pa_cons pe_str (pa_cons (pv 3) (pa_cons (pv 7) pa_nil)))) (pa_cons (pv 8) pa_nil)))))) pss_nil)
    (pss_cons (ps_if (pt_cmpR op_eq (pv 5) pe_int (nomark _)) (pss_cons (ps_set (i := 9) sc_grown.nd rfl (Or.inl rfl) (pe_op op_cat (pe_op op_cat (pe_slice sl_list (pv 2) po_none (po_some (pv 6))) (pe_lst (pa_cons (pe_tup (pa_cons pe_str (pa_cons (pe_ix ix_list (pv 2) (pv 6) (fun _ _ => rfl)) (pa_cons (pv 8) pa_nil)))) (pa_cons (pv 8) pa_nil)))) (pe_slice sl_list (pv 2) (po_some (pe_op op_add (pv 6) pe_int)) po_none)))
    (pss_one (ps_ret (pe_tup (pa_cons (pv 9) (pa_cons (pe_call G_put (hr.mono (by omega)) rfl T.put.m T.put.F.kp (b_put T) .nil pass0 (pa_cons (pv 3) (pa_cons (pv 6) (pa_cons (pe_tup (pa_cons pe_str (pa_cons (pv 7) (pa_cons (pv 7) pa_nil)))) pa_nil)))) (pa_cons (pv 4) pa_nil))))))) pss_nil)
    (pss_cons (ps_if (pt_cmpR op_eq (pv 5) pe_int (nomark _)) (pss_cons (ps_set (i := 9) sc_grown.nd rfl (Or.inl rfl) (pe_op op_cat (pe_op op_cat (pe_slice sl_list (pv 2) po_none (po_some (pv 6))) (pe_lst (pa_cons (pv 8) (pa_cons (pe_tup (pa_cons pe_str (pa_cons (pv 8) (pa_cons (pe_ix ix_list (pv 2) (pv 6) (fun _ _ => rfl)) pa_nil)))) pa_nil)))) (pe_slice sl_list (pv 2) (po_some (pe_op op_add (pv 6) pe_int)) po_none)))
    (pss_one (ps_ret (pe_tup (pa_cons (pv 9) (pa_cons (pe_call G_put (hr.mono (by omega)) rfl T.put.m T.put.F.kp (b_put T) .nil pass0 (pa_cons (pv 3) (pa_cons (pv 6) (pa_cons (pe_tup (pa_cons pe_str (pa_cons (pv 7) (pa_cons (pv 7) pa_nil)))) pa_nil)))) (pa_cons (pv 4) pa_nil))))))) pss_nil)
    (pss_cons (ps_if (PW.pt (pw_and (pt_cmpR op_lt (pv 5) pe_int (nomark _)) (pw_and1 (pt_cmpR op_gt (pe_callB call_len_seq rfl T.z_len PySem.boot_len (pa_cons (pv 2) pa_nil)) pe_int (nomark _))))) (pss_one (ps_ret (pe_call G_given (hr.mono (by omega)) rfl T.given.m T.given.F.kp (b_given T) .nil pass0 (pa_cons (pv 5) (pa_cons (pv 2) (pa_cons (pv 3) (pa_cons (pv 4) pa_nil))))))) pss_nil)
    (pss_cons (ps_if (pt_cmpR op_eq (pv 5) pe_int (nomark _)) (pss_one (ps_ret (pe_tup (pa_cons (pv 2) (pa_cons (pe_call G_eta (hr.mono (by omega)) rfl T.eta.m T.eta.F.kp (b_eta T) .nil pass0 (pa_cons (pv 3) (pa_cons (pv 4) pa_nil))) (pa_cons (pv 4) pa_nil)))))) pss_nil)
    (pss_cons (ps_if (PW.pt (pw_and (pt_cmpR op_in_seq (pv 5) (pe_tup (pa_cons pe_int (pa_cons pe_int pa_nil))) (by rfl)) (pw_and1 (pt_cmpR op_eq (pe_ix ix_tup (pv 4) pe_int (fun _ _ => rfl)) pe_str (nomark _))))) (pss_one (ps_ret (pe_tup (pa_cons (pe_op op_cat (pv 2) (pe_lst (pa_cons (pe_ix ix_tup (pv 4) pe_int (fun _ _ => rfl)) pa_nil))) (pa_cons (pe_tup (pa_cons pe_str (pa_cons (pv 3) (pa_cons (pv 7) pa_nil)))) (pa_cons (pe_ix ix_tup (pv 4) pe_int (fun _ _ => rfl)) pa_nil)))))) pss_nil)
    (pss_cons (ps_if (PW.pt (pw_and (pt_cmpR op_in_seq (pv 5) (pe_tup (pa_cons pe_int (pa_cons pe_int pa_nil))) (by rfl)) (pw_and1 (pt_cmpR op_eq (pe_ix ix_tup (pv 4) pe_int (fun _ _ => rfl)) pe_str (nomark _))))) (pss_one (ps_ret (pe_tup (pa_cons (pe_op op_cat (pe_lst (pa_cons (pe_ix ix_tup (pv 4) pe_int (fun _ _ => rfl)) pa_nil)) (pv 2)) (pa_cons (pe_tup (pa_cons pe_str (pa_cons (pv 7) (pa_cons (pv 3) pa_nil)))) (pa_cons (pe_ix ix_tup (pv 4) pe_int (fun _ _ => rfl)) pa_nil)))))) pss_nil)
    (pss_one (ps_ret (pe_tup (pa_cons (pv 2) (pa_cons (pe_call G_put (hr.mono (by omega)) rfl T.put.m T.put.F.kp (b_put T) .nil pass0 (pa_cons (pv 3) (pa_cons (pv 6) (pa_cons (pe_call G_eta (hr.mono (by omega)) rfl T.eta.m T.eta.F.kp (b_eta T) .nil pass0 (pa_cons (pv 7) (pa_cons (pe_ix ix_list (pv 2) (pv 6) (fun _ _ => rfl)) pa_nil))) pa_nil)))) (pa_cons (pv 4) pa_nil))))))))))))))))), ?_⟩)
  · obtain ⟨p, v, m, z, ks, t, k, Z, rfl, _⟩ := h
    rfl
  · obtain ⟨p, v, m, z, ks, t, k, Z, rfl, hp, hz, hm, ⟨r, L, us, u, s, rfl, hr0, hLp, hL, hks, ht, hk⟩, ⟨m1, m2, m3, m4, m5, m6, m7⟩, hZ, q⟩ := h
    have zl := hks.length
    have hw1 := Tr.width_pos m2
    have hw2 := t.width_le
    refine sq_asgG ⟨_, rfl, r, _, rfl, .of hr0, rfl, .ref L, [u, s], rfl, u, [s], rfl, s, [], rfl, rfl, ?_⟩
    refine sq_par3 ?_
    refine ⟨_, rfl, p, 12, 12, m, _, rfl, rfl, by decide, by decide, hp, by omega, fun H1 c1 hc1 s1 hp1 => ?_⟩
    refine ⟨_, rfl, _, rfl, L, us, rfl, .inl (.of (s1 _ _ hLp hL)), p, _, us.length, _, _, rfl, rfl, by omega, by omega, hp1, by omega, fun H2 i hi s2 hp2 => ?_⟩
    refine ⟨(by show 1 ≤ sizeLine; decide), fun w3 n3 => ⟨_, _, _, rfl, ?_⟩⟩
    have s3 := same_new (o := .tup [.str "word"]) n3
    have hp3 := hp2.same s3
    refine sq_asg ?_
    refine ⟨_, rfl, _, rfl, p, 2, 2, _, _, rfl, rfl, by decide, by decide, hp3, by omega, fun H4 c4 hc4 s4 hp4 => ⟨_, _, rfl, rfl, ?_⟩⟩
    refine ⟨p, _, 1 + c4, _, z, rfl, by omega, by omega, by omega, by omega, hp4, hz, by omega, fun ve H5 ke s5 hp5 he heo hez => ?_⟩
    have hb1 := (SameB.of (p := p) s3).trans (s4.trans s5)
    have hB := s1.trans (s2.trans hb1)
    have hkt : KT H H5 := hp.kt hB
    have kw3 : KT _ H5 := hp3.kt (s4.trans s5)
    have hL5 := hB _ _ hLp hL
    have hks5 := hks.mono hkt
    have ht5 := ht.mono hkt
    have hk5 := hk.mono hkt
    have hw5 := kw3 _ _ (show upd H2 w3 (.tup [.str "word"]) w3 = some (.tup [.str "word"]) from upd_same)
    have hp5' : Pool H5 p (m + 10) [.str z] := hp5.le (by omega)
    have fin : ∀ H' v' ks' t' k', Same H5 H' → RepD H' p v' ks' t' k' → Mok 90 43 (Z + 7) ks' t' k' → Q v' H' := fun H' v' ks' t' k' s' a b => q H' v' ks' t' k' (hB.trans (.of s')) (hp5'.same s') a b
    have hpx := hp5.lst
    obtain ⟨xs, hpx⟩ := hpx
    have m5' : ∀ x ∈ ks, x.Ok ∧ x.size ≤ 90 := fun x hx => ⟨(m5 x hx).1, by have := (m5 x hx).2; omega⟩
    clear q hp hp1 hp2 hp3 hp4 hp5 hp5' hL hks ht hk hkt kw3
    obtain ⟨ui, ki, ei1, ei2, ei3, ei4⟩ := hks5.at (i := i) (by omega)
    have oi := m5 _ ei3
    obtain ⟨as, gs, rs, rfl, es⟩ := rk_tag hk5
    have hlen := m1
    by_cases d0 : c1 = 0
    · refine sq_yes (ans_int (val_var rfl) 0 (decide_eq_true (by omega))) ?_
      refine ⟨_, rfl, _, rfl, (by show 3 ≤ sizeLine; decide), fun r1 n1 => ⟨(by show 1 ≤ sizeLine; decide), fun l2 n2 => ?_⟩⟩
      have s1 := same_new (o := .tup [.str "behind", ve, .ref as]) n1
      have s2 := same_new (o := .lst [.ref r1]) n2
      refine ⟨_, rfl, l2, L, [.ref r1], us, rfl, rfl, upd_same, (s1.trans s2) _ _ hL5, sz (by rw [List.length_singleton]; omega), fun l3 n3 => ?_⟩
      have s3 := same_new (o := .lst ([.ref r1] ++ us)) n3
      refine ⟨_, rfl, _, rfl, (by show 3 ≤ sizeLine; decide), fun r4 n4 => ⟨_, rfl, (by show 3 ≤ sizeLine; decide), fun r5 n5 => ?_⟩⟩
      have s4 := same_new (o := .tup [.str "behind", .ref w3, u]) n4
      have s5 := same_new (o := .tup [.ref l3, .ref r4, ve]) n5
      have t5 := s1.trans (s2.trans (s3.trans (s4.trans s5)))
      refine fin _ _ (.nd true ke k :: ks) (.pr true .wd t) ke t5 ⟨r5, l3, _, _, _, rfl, upd_same, fr_ne n3 ((s1.trans s2) _ _ hpx), (s4.trans s5) _ _ upd_same, ⟨?_, hks5.mono (.of t5)⟩, ?_, he.mono (.of t5)⟩ ⟨?_, ⟨trivial, m2⟩, ⟨trivial, m3⟩, ?_, ?_, heo, by omega⟩
      · exact ⟨r1, _, _, rfl, (s2.trans (s3.trans (s4.trans s5))) _ _ upd_same, he.mono (.of t5), hk5.mono (.of t5)⟩
      · exact ⟨r4, _, _, rfl, s5 _ _ upd_same, ⟨w3, rfl, t5 _ _ hw5⟩, ht5.mono (.of t5)⟩
      · rw [List.length_cons]
        show ks.length + 1 = 1 + t.width
        omega
      · show 1 + 1 + t.count ≤ 43
        omega
      · intro x hx
        rcases List.mem_cons.mp hx with rfl | hx
        · exact ⟨⟨heo, m6⟩, by show ke.size + k.size ≤ 90; omega⟩
        · exact m5' x hx
    refine sq_skip (ans_int (val_var rfl) 0 (decide_eq_false (by omega))) ?_
    by_cases d1 : c1 = 1
    · refine sq_yes (ans_int (val_var rfl) 1 (decide_eq_true (by omega))) ?_
      refine ⟨_, rfl, _, rfl, _, rfl, (by show 3 ≤ sizeLine; decide), fun r1 n1 => ⟨(by show 1 ≤ sizeLine; decide), fun l2 n2 => ?_⟩⟩
      have s1 := same_new (o := .tup [.str "ahead", .ref as, ve]) n1
      have s2 := same_new (o := .lst [.ref r1]) n2
      refine ⟨L, l2, us, [.ref r1], rfl, rfl, (s1.trans s2) _ _ hL5, upd_same, sz (by rw [List.length_singleton]; omega), fun l3 n3 => ?_⟩
      have s3 := same_new (o := .lst (us ++ [.ref r1])) n3
      refine ⟨_, rfl, _, rfl, (by show 3 ≤ sizeLine; decide), fun r4 n4 => ⟨_, rfl, (by show 3 ≤ sizeLine; decide), fun r5 n5 => ?_⟩⟩
      have s4 := same_new (o := .tup [.str "ahead", u, .ref w3]) n4
      have s5 := same_new (o := .tup [.ref l3, .ref r4, ve]) n5
      have t5 := s1.trans (s2.trans (s3.trans (s4.trans s5)))
      refine fin _ _ (ks ++ [.nd false k ke]) (.pr false t .wd) ke t5 ⟨r5, l3, _, _, _, rfl, upd_same, fr_ne n3 ((s1.trans s2) _ _ hpx), (s4.trans s5) _ _ upd_same, (hks5.mono (.of t5)).snoc ?_, ?_, he.mono (.of t5)⟩ ⟨?_, ⟨m2, trivial⟩, ⟨m3, trivial⟩, ?_, ?_, heo, by omega⟩
      · exact ⟨r1, _, _, rfl, (s2.trans (s3.trans (s4.trans s5))) _ _ upd_same, hk5.mono (.of t5), he.mono (.of t5)⟩
      · exact ⟨r4, _, _, rfl, s5 _ _ upd_same, ht5.mono (.of t5), w3, rfl, t5 _ _ hw5⟩
      · rw [List.length_append, List.length_singleton]
        show ks.length + 1 = t.width + 1
        omega
      · show 1 + t.count + 1 ≤ 43
        omega
      · intro x hx
        rcases List.mem_append.mp hx with hx | hx
        · exact m5' x hx
        · rw [List.mem_singleton.mp hx]
          exact ⟨⟨m6, heo⟩, by show k.size + ke.size ≤ 90; omega⟩
    refine sq_skip (ans_int (val_var rfl) 1 (decide_eq_false (by omega))) ?_
    by_cases d2 : c1 = 2
    · refine sq_yes (ans_int (val_var rfl) 2 (decide_eq_true (by omega))) ?_
      refine sq_asg ?_
      refine ⟨_, rfl, _, rfl, _, rfl, L, us, rfl, .of hL5, fun l1 n1 => ?_⟩
      rw [cut_take _ _ (by omega)]
      have s1 := same_new (o := .lst (us.take i)) n1
      refine ⟨_, rfl, _, rfl, L, us, _, _, rfl, rfl, .of (s1 _ _ hL5), atI_nat ei1, _, rfl, (by show 3 ≤ sizeLine; decide), fun r2 n2 => ⟨_, rfl, (by show 2 ≤ sizeLine; decide), fun l3 n3 => ?_⟩⟩
      have s2 := same_new (o := .tup [.str "behind", ui, ve]) n2
      have s3 := same_new (o := .lst [.ref r2, ve]) n3
      refine ⟨l1, l3, us.take i, [.ref r2, ve], rfl, rfl, (s2.trans s3) _ _ upd_same, upd_same, sz (by rw [List.length_take]; show min i us.length + 2 ≤ 1000; omega), fun l4 n4 => ?_⟩
      have s4 := same_new (o := .lst (us.take i ++ [.ref r2, ve])) n4
      have t4 := s1.trans (s2.trans (s3.trans s4))
      refine ⟨_, rfl, _, rfl, _, _, rfl, rfl, _, rfl, ?_⟩
      refine np_of ?_
      refine ⟨L, us, rfl, .of (t4 _ _ hL5), fun l5 n5 => ?_⟩
      rw [cut_succ]
      have s5 := same_new (o := .lst (us.drop (i + 1))) n5
      refine ⟨l4, l5, us.take i ++ [.ref r2, ve], us.drop (i + 1), rfl, rfl, s5 _ _ upd_same, upd_same, sz (by rw [List.length_append, List.length_take, List.length_drop]; show min i us.length + 2 + (us.length - (i + 1)) ≤ 1000; omega), fun l6 n6 => ?_⟩
      have s6 := same_new (o := .lst (us.take i ++ [.ref r2, ve] ++ us.drop (i + 1))) n6
      have t6 := t4.trans (s5.trans s6)
      have hw6 := t6 _ _ hw5
      refine ⟨_, rfl, _, rfl, _, rfl, _, rfl, _, rfl, (by show 3 ≤ sizeLine; decide), fun r7 n7 => ?_⟩
      have s7 := same_new (o := .tup [.str "behind", .ref w3, .ref w3]) n7
      have t7 := t6.trans s7
      refine ⟨_, _, _, t, .pr true .wd .wd, i, rfl, rfl, ht5.mono (.of t7), ⟨r7, _, _, rfl, upd_same, ⟨w3, rfl, s7 _ _ hw6⟩, w3, rfl, s7 _ _ hw6⟩, m2, by omega, by omega, by omega, fun H8 v8 s8 r8 => ?_⟩
      refine ⟨_, rfl, (by show 3 ≤ sizeLine; decide), fun r9 n9 => ?_⟩
      have s9 := same_new (o := .tup [.ref l6, v8, .ref as]) n9
      have t9 := t7.trans (s8.trans s9)
      have hq2 : (Tr.pr true .wd .wd).WF := ⟨trivial, trivial⟩
      have pw := Tr.put_width (q := .pr true .wd .wd) m2 (show i < t.width by omega) (Nat.le_of_lt (Nat.lt_of_lt_of_le Nat.one_lt_two (Nat.le_refl 2)))
      have pc := Tr.put_count (t := t) (i := i) (q := .pr true .wd .wd)
      have e2 : (Tr.pr true .wd .wd).width = 2 := rfl
      have e3 : (Tr.pr true .wd .wd).count = 3 := rfl
      refine fin _ _ (ks.take i ++ [.nd true ki ke, ke] ++ ks.drop (i + 1)) _ k t9 ⟨r9, l6, _, _, _, rfl, upd_same, fr_ne n6 ((t4.trans s5) _ _ hpx), (s7.trans (s8.trans s9)) _ _ upd_same, ?_, r8.mono (.of s9), hk5.mono (.of t9)⟩ ⟨?_, Tr.put_wf m2 (by omega) hq2, Tr.put_gk m3 ⟨trivial, trivial⟩, by omega, ?_, m6, by omega⟩
      · refine (((hks5.mono (.of t9)).take i).append (AllK.two ?_ (he.mono (.of t9)))).append ((hks5.mono (.of t9)).drop (i + 1))
        exact ⟨r2, _, _, rfl, (s3.trans (s4.trans (s5.trans (s6.trans (s7.trans (s8.trans s9)))))) _ _ upd_same, ei4.mono (.of t9), he.mono (.of t9)⟩
      · rw [List.length_append, List.length_append, List.length_take, List.length_drop]
        show min i ks.length + 2 + (ks.length - (i + 1)) = _
        omega
      · intro x hx
        rcases List.mem_append.mp hx with hx | hx
        · rcases List.mem_append.mp hx with hx | hx
          · exact m5' x (List.mem_of_mem_take hx)
          · rcases List.mem_cons.mp hx with rfl | hx
            · exact ⟨⟨oi.1, heo⟩, by show ki.size + ke.size ≤ 90; omega⟩
            · rw [List.mem_singleton.mp hx]
              exact ⟨heo, by omega⟩
        · exact m5' x (List.mem_of_mem_drop hx)
    refine sq_skip (ans_int (val_var rfl) 2 (decide_eq_false (by omega))) ?_
    by_cases d3 : c1 = 3
    · refine sq_yes (ans_int (val_var rfl) 3 (decide_eq_true (by omega))) ?_
      refine sq_asg ?_
      refine ⟨_, rfl, _, rfl, _, rfl, L, us, rfl, .of hL5, fun l1 n1 => ?_⟩
      rw [cut_take _ _ (by omega)]
      have s1 := same_new (o := .lst (us.take i)) n1
      refine ⟨_, rfl, _, rfl, _, rfl, _, rfl, L, us, _, _, rfl, rfl, .of (s1 _ _ hL5), atI_nat ei1, (by show 3 ≤ sizeLine; decide), fun r2 n2 => ⟨(by show 2 ≤ sizeLine; decide), fun l3 n3 => ?_⟩⟩
      have s2 := same_new (o := .tup [.str "ahead", ve, ui]) n2
      have s3 := same_new (o := .lst [ve, .ref r2]) n3
      refine ⟨l1, l3, us.take i, [ve, .ref r2], rfl, rfl, (s2.trans s3) _ _ upd_same, upd_same, sz (by rw [List.length_take]; show min i us.length + 2 ≤ 1000; omega), fun l4 n4 => ?_⟩
      have s4 := same_new (o := .lst (us.take i ++ [ve, .ref r2])) n4
      have t4 := s1.trans (s2.trans (s3.trans s4))
      refine ⟨_, rfl, _, rfl, _, _, rfl, rfl, _, rfl, ?_⟩
      refine np_of ?_
      refine ⟨L, us, rfl, .of (t4 _ _ hL5), fun l5 n5 => ?_⟩
      rw [cut_succ]
      have s5 := same_new (o := .lst (us.drop (i + 1))) n5
      refine ⟨l4, l5, us.take i ++ [ve, .ref r2], us.drop (i + 1), rfl, rfl, s5 _ _ upd_same, upd_same, sz (by rw [List.length_append, List.length_take, List.length_drop]; show min i us.length + 2 + (us.length - (i + 1)) ≤ 1000; omega), fun l6 n6 => ?_⟩
      have s6 := same_new (o := .lst (us.take i ++ [ve, .ref r2] ++ us.drop (i + 1))) n6
      have t6 := t4.trans (s5.trans s6)
      have hw6 := t6 _ _ hw5
      refine ⟨_, rfl, _, rfl, _, rfl, _, rfl, _, rfl, (by show 3 ≤ sizeLine; decide), fun r7 n7 => ?_⟩
      have s7 := same_new (o := .tup [.str "ahead", .ref w3, .ref w3]) n7
      have t7 := t6.trans s7
      refine ⟨_, _, _, t, .pr false .wd .wd, i, rfl, rfl, ht5.mono (.of t7), ⟨r7, _, _, rfl, upd_same, ⟨w3, rfl, s7 _ _ hw6⟩, w3, rfl, s7 _ _ hw6⟩, m2, by omega, by omega, by omega, fun H8 v8 s8 r8 => ?_⟩
      refine ⟨_, rfl, (by show 3 ≤ sizeLine; decide), fun r9 n9 => ?_⟩
      have s9 := same_new (o := .tup [.ref l6, v8, .ref as]) n9
      have t9 := t7.trans (s8.trans s9)
      have hq2 : (Tr.pr false .wd .wd).WF := ⟨trivial, trivial⟩
      have pw := Tr.put_width (q := .pr false .wd .wd) m2 (show i < t.width by omega) (Nat.le_of_lt (Nat.lt_of_lt_of_le Nat.one_lt_two (Nat.le_refl 2)))
      have pc := Tr.put_count (t := t) (i := i) (q := .pr false .wd .wd)
      have e2 : (Tr.pr false .wd .wd).width = 2 := rfl
      have e3 : (Tr.pr false .wd .wd).count = 3 := rfl
      refine fin _ _ (ks.take i ++ [ke, .nd false ke ki] ++ ks.drop (i + 1)) _ k t9 ⟨r9, l6, _, _, _, rfl, upd_same, fr_ne n6 ((t4.trans s5) _ _ hpx), (s7.trans (s8.trans s9)) _ _ upd_same, ?_, r8.mono (.of s9), hk5.mono (.of t9)⟩ ⟨?_, Tr.put_wf m2 (by omega) hq2, Tr.put_gk m3 ⟨trivial, trivial⟩, by omega, ?_, m6, by omega⟩
      · refine (((hks5.mono (.of t9)).take i).append (AllK.two (he.mono (.of t9)) ?_)).append ((hks5.mono (.of t9)).drop (i + 1))
        exact ⟨r2, _, _, rfl, (s3.trans (s4.trans (s5.trans (s6.trans (s7.trans (s8.trans s9)))))) _ _ upd_same, he.mono (.of t9), ei4.mono (.of t9)⟩
      · rw [List.length_append, List.length_append, List.length_take, List.length_drop]
        show min i ks.length + 2 + (ks.length - (i + 1)) = _
        omega
      · intro x hx
        rcases List.mem_append.mp hx with hx | hx
        · rcases List.mem_append.mp hx with hx | hx
          · exact m5' x (List.mem_of_mem_take hx)
          · rcases List.mem_cons.mp hx with rfl | hx
            · exact ⟨heo, by omega⟩
            · rw [List.mem_singleton.mp hx]
              exact ⟨⟨heo, oi.1⟩, by show ke.size + ki.size ≤ 90; omega⟩
        · exact m5' x (List.mem_of_mem_drop hx)
    refine sq_skip (ans_int (val_var rfl) 3 (decide_eq_false (by omega))) ?_
    by_cases d4 : c1 < 8 ∧ 1 < ks.length
    · refine sq_yes (ans_and (ans_cmp (val_var rfl) val_c fun Q' q' => ⟨_, _, rfl, rfl, toB (Q := Q') (decide_eq_true (by omega)) q'⟩) (ans_cmp (val_len (val_var rfl) hL5) val_c fun Q' q' => ⟨_, _, rfl, rfl, toB (Q := Q') (decide_eq_true (by omega)) q'⟩)) ?_
      refine ⟨_, rfl, _, rfl, _, rfl, _, rfl, _, p, L, us, ks, u, _, t, k, 40, Z, rfl, by omega, by omega, ⟨_, hpx⟩, hLp, hL5, hks5, ht5, hk5, ⟨m1, m2, m3, m4, m5, m6, m7⟩, by omega, fun H6 v6 ks6 t6 k6 s6 r6 o6 => ?_⟩
      exact fin H6 v6 ks6 t6 k6 s6 r6 ⟨o6.1, o6.2.1, o6.2.2.1, o6.2.2.2.1, fun x hx => ⟨(o6.2.2.2.2.1 x hx).1, by have := (o6.2.2.2.2.1 x hx).2; omega⟩, o6.2.2.2.2.2⟩
    refine sq_skip ?_ ?_
    · by_cases d5 : c1 < 8
      · exact ans_and (ans_cmp (val_var rfl) val_c fun Q' q' => ⟨_, _, rfl, rfl, toB (Q := Q') (decide_eq_true (by omega)) q'⟩) (ans_cmp (val_len (val_var rfl) hL5) val_c fun Q' q' => ⟨_, _, rfl, rfl, toB (Q := Q') (decide_eq_false (by omega)) q'⟩)
      · exact ans_and0 (ans_cmp (val_var rfl) val_c fun Q' q' => ⟨_, _, rfl, rfl, toB (Q := Q') (decide_eq_false (by omega)) q'⟩)
    by_cases d8 : c1 = 8
    · refine sq_yes (ans_int (val_var rfl) 8 (decide_eq_true (by omega))) ?_
      refine ⟨_, rfl, _, rfl, _, rfl, _, _, t, k, rfl, ht5, hk5, fun H6 v6 s6 r6 => ⟨_, rfl, (by show 3 ≤ sizeLine; decide), fun r7 n7 => ?_⟩⟩
      have s7 := same_new (o := .tup [.ref L, v6, .ref as]) n7
      have et := eta_ok m2 m3 m6 (show k.size ≤ 90 by omega)
      have t7 := s6.trans s7
      exact fin _ _ ks _ k t7 ⟨r7, L, us, _, _, rfl, upd_same, hLp, t7 _ _ hL5, hks5.mono (.of t7), r6.mono (.of s7), hk5.mono (.of t7)⟩ ⟨by rw [et.2.2.1]; exact m1, et.1, et.2.1, by have := et.2.2.2; omega, m5', m6, by omega⟩
    refine sq_skip (ans_int (val_var rfl) 8 (decide_eq_false (by omega))) ?_
    have cz : ∃ bz, inV (.int (c1 : Nat)) [.int 9, .int 10] = bz := ⟨_, rfl⟩
    obtain ⟨bz, ez⟩ := cz
    refine sq_ifH (fun b H' => Same H5 H' ∧ b = (bz && decide (V.str gs = V.str (SB true)))) (fun Q' q' => ?_) (fun H6 hP => ?_) (fun H6 hP => ?_)
    · refine ans_in2 (val_var rfl) rfl rfl rfl ez _ fun H6 ⟨p6, n6, e6⟩ => ?_
      have s6 : Same H5 H6 := by rw [e6]; exact same_new n6
      cases bz with
      | true => exact itY rfl (ans_tag rfl (s6 _ _ es) rfl _ (q' _ _ ⟨s6, rfl⟩))
      | false => exact itN Bool.false_ne_true (q' _ _ ⟨s6, rfl⟩)
    · obtain ⟨s6, hb⟩ := hP
      have hg := (Bool.and_eq_true _ _).mp hb.symm
      obtain ⟨x, y, ux, uy, rfl, rfl, rx, ry⟩ := rk_nd hk5 es (of_decide_eq_true hg.2)
      have es6 := s6 _ _ es
      have hz' : x.size + y.size ≤ Z := m7
      refine ⟨_, rfl, val_ix (val_var rfl) es6 at2 _ ⟨(by show 1 ≤ sizeLine; decide), fun l1 n1 => ?_⟩⟩
      have s1 := same_new (o := .lst [uy]) n1
      refine ⟨L, l1, us, [uy], rfl, rfl, (s6.trans s1) _ _ hL5, upd_same, sz (by rw [List.length_singleton]; omega), fun l3 n3 => ?_⟩
      have s3 := same_new (o := .lst (us ++ [uy])) n3
      refine ⟨_, rfl, _, rfl, (by show 3 ≤ sizeLine; decide), fun r4 n4 => ?_⟩
      have s4 := same_new (o := .tup [.str "behind", u, .ref w3]) n4
      have t4 := s6.trans (s1.trans (s3.trans s4))
      refine val_ix (val_var rfl) (t4 _ _ es) at1 _ ⟨(by show 3 ≤ sizeLine; decide), fun r5 n5 => ?_⟩
      have s5 := same_new (o := .tup [.ref l3, .ref r4, ux]) n5
      have t5 := t4.trans s5
      refine fin _ _ (ks ++ [y]) (.pr true t .wd) x t5 ⟨r5, l3, _, _, _, rfl, upd_same, fr_ne n3 ((s6.trans s1) _ _ hpx), (s4.trans s5) _ _ upd_same, (hks5.mono (.of t5)).snoc (ry.mono (.of t5)), ?_, rx.mono (.of t5)⟩ ⟨?_, ⟨m2, trivial⟩, ⟨m3, trivial⟩, ?_, ?_, m6.1, by omega⟩
      · exact ⟨r4, _, _, rfl, s5 _ _ upd_same, ht5.mono (.of t5), w3, rfl, t5 _ _ hw5⟩
      · rw [List.length_append, List.length_singleton]
        show ks.length + 1 = t.width + 1
        omega
      · show 1 + t.count + 1 ≤ 43
        omega
      · intro x' hx
        rcases List.mem_append.mp hx with hx | hx
        · exact m5' x' hx
        · rw [List.mem_singleton.mp hx]
          exact ⟨m6.2, by omega⟩
    · obtain ⟨s6, hb⟩ := hP
      refine sq_ifH (fun b H' => Same H5 H' ∧ b = (bz && decide (V.str gs = V.str (SB false)))) (fun Q' q' => ?_) (fun H7 hP => ?_) (fun H7 hP => ?_)
      · refine ans_in2 (val_var rfl) rfl rfl rfl ez _ fun H7 ⟨p7, n7, e7⟩ => ?_
        have s7 : Same H5 H7 := by rw [e7]; exact s6.trans (same_new n7)
        cases bz with
        | true => exact itY rfl (ans_tag rfl (s7 _ _ es) rfl _ (q' _ _ ⟨s7, rfl⟩))
        | false => exact itN Bool.false_ne_true (q' _ _ ⟨s7, rfl⟩)
      · obtain ⟨s7, hb⟩ := hP
        have hg := (Bool.and_eq_true _ _).mp hb.symm
        obtain ⟨x, y, ux, uy, rfl, rfl, rx, ry⟩ := rk_nd hk5 es (of_decide_eq_true hg.2)
        have es7 := s7 _ _ es
        have hz' : x.size + y.size ≤ Z := m7
        refine val_ix (val_var rfl) es7 at1 _ ⟨(by show 1 ≤ sizeLine; decide), fun l1 n1 => ?_⟩
        have s1 := same_new (o := .lst [ux]) n1
        refine ⟨_, rfl, l1, L, [ux], us, rfl, rfl, upd_same, (s7.trans s1) _ _ hL5, sz (by rw [List.length_singleton]; omega), fun l3 n3 => ?_⟩
        have s3 := same_new (o := .lst ([ux] ++ us)) n3
        refine ⟨_, rfl, _, rfl, (by show 3 ≤ sizeLine; decide), fun r4 n4 => ?_⟩
        have s4 := same_new (o := .tup [.str "ahead", .ref w3, u]) n4
        have t4 := s7.trans (s1.trans (s3.trans s4))
        refine val_ix (val_var rfl) (t4 _ _ es) at2 _ ⟨(by show 3 ≤ sizeLine; decide), fun r5 n5 => ?_⟩
        have s5 := same_new (o := .tup [.ref l3, .ref r4, uy]) n5
        have t5 := t4.trans s5
        refine fin _ _ (x :: ks) (.pr false .wd t) y t5 ⟨r5, l3, _, _, _, rfl, upd_same, fr_ne n3 ((s7.trans s1) _ _ hpx), (s4.trans s5) _ _ upd_same, ⟨rx.mono (.of t5), hks5.mono (.of t5)⟩, ?_, ry.mono (.of t5)⟩ ⟨?_, ⟨trivial, m2⟩, ⟨trivial, m3⟩, ?_, ?_, m6.2, by omega⟩
        · exact ⟨r4, _, _, rfl, s5 _ _ upd_same, ⟨w3, rfl, t5 _ _ hw5⟩, ht5.mono (.of t5)⟩
        · rw [List.length_cons]
          show ks.length + 1 = 1 + t.width
          omega
        · show 1 + 1 + t.count ≤ 43
          omega
        · intro x' hx
          rcases List.mem_cons.mp hx with rfl | hx
          · exact ⟨m6.1, by omega⟩
          · exact m5' x' hx
      · obtain ⟨s7, hb⟩ := hP
        refine ⟨_, rfl, _, rfl, _, rfl, _, rfl, _, rfl, _, rfl, L, us, _, _, rfl, rfl, .of (s7 _ _ hL5), atI_nat ei1, _, _, .wd, ki, rfl, ⟨w3, rfl, s7 _ _ hw5⟩, ei4.mono (.of s7), fun H8 v8 s8 r8 => ?_⟩
        have et := eta_ok (t := .wd) (k := ki) trivial trivial oi.1 (by omega)
        have ew : (etaT ki .wd).width = 1 := et.2.2.1
        have ec : (etaT ki .wd).count ≤ 1 + 3 := et.2.2.2
        have t8 := s7.trans s8
        refine ⟨_, _, _, t, etaT ki .wd, i, rfl, rfl, ht5.mono (.of t8), r8, m2, by omega, by omega, by omega, fun H9 v9 s9 r9 => ?_⟩
        refine ⟨_, rfl, (by show 3 ≤ sizeLine; decide), fun r10 n10 => ?_⟩
        have s10 := same_new (o := .tup [.ref L, v9, .ref as]) n10
        have t10 := t8.trans (s9.trans s10)
        have pw := Tr.put_width (q := etaT ki .wd) m2 (show i < t.width by omega) (by omega)
        have pc := Tr.put_count (t := t) (i := i) (q := etaT ki .wd)
        exact fin _ _ ks _ k t10 ⟨r10, L, us, _, _, rfl, upd_same, hLp, t10 _ _ hL5, hks5.mono (.of t10), r9.mono (.of s10), hk5.mono (.of t10)⟩ ⟨by omega, Tr.put_wf m2 (by omega) et.1, Tr.put_gk m3 et.2.1, by omega, m5', m6, by omega⟩
end
end WW
namespace WW
open PySem PySem.Spec PyProof.Rows L2
theorem sq_forR {ta : TA} {tu u : TS} {D : Ends} {σ : L2.St} {H : Hp} {j n : Nat} (ha : ∀ Q : List V → Hp → Prop, Q [.int (n : Nat)] H → ta σ H Q) (hn : n ≤ 1000) (Pv : Nat → L2.St → Hp → Prop) (h0 : Pv 0 σ H)
    (hs : ∀ (i : Nat) σ' H', i < n → Pv i σ' H' → tu { D with nx := Pv (i + 1), ct := Pv (i + 1), bk := u D } (σ'.set j (some (.int (i : Nat)))) H') (hd : ∀ σ' H', Pv n σ' H' → u D σ' H') : tSeq (tFor (iRng1 ta) (gName j) tu) u D σ H :=
  ha _ ⟨(n : Int), rfl, by omega, by omega, for_range (D := { D with nx := u D }) (lo := 0) (n := n) Pv h0 (fun i σ' H' hi p => by
    have e0 : (0 : Int) + (i : Int) = (i : Int) := Int.zero_add _
    show tu { D with nx := Pv (i + 1), ct := Pv (i + 1), bk := u D } (σ'.set j (some (.int ((0 : Int) + (i : Int))))) H'
    rw [e0]
    exact hs i σ' H' hi p) hd⟩
theorem st_ifH {c : TT} {t1 t2 : TS} {D : Ends} {σ : L2.St} {H : Hp} (PB : Bool → Hp → Prop) (hc : ∀ Q' : Bool → Hp → Prop, (∀ b H', PB b H' → Q' b H') → c σ H Q') (h1 : ∀ H', PB true H' → t1 D σ H') (h2 : ∀ H', PB false H' → t2 D σ H') :
    tIfS c t1 t2 D σ H := by
  refine hc _ fun b H' h => ?_
  cases b with
  | true => exact itY rfl (h1 H' h)
  | false => exact itN Bool.false_ne_true (h2 H' h)
section
variable {P : Program} {w : World} {K : PySem.W.Frag} {mg : Str → Option Value} {base : Heap}
/-! ### made -/
def spMakes : Sp := fun vs H Q _ => ∃ (p : Addr) (kk : Int) (n m : Nat) (z : Str), vs = [.ref p, .int kk] ∧ kk = (n : Int) ∧ n ≤ 12 ∧ Pool H p m [.str z] ∧ SignsOk z ∧ m + 1000 ≤ 90000 ∧
  ∀ H' v ks t k, SameB p H H' → Pool H' p (m + 500) [.str z] → RepD H' p v ks t k → Mok 7 40 90 ks t k → Q v H'
theorem ok_makes (T : Top w K mg) : FnOk P w K mg base CX0 202 T.made.f T.made.fd ["_law_pool_here", "_law_turns"] spMakes := by
  have G_shape : FnOk P w K mg base CX0 _ _ _ _ _ := ok_shape T 3
  have G_grown : FnOk P w K mg base CX0 _ _ _ _ _ := ok_grown T
  have G_count : FnOk P w K mg base CX0 _ _ _ _ _ := ok_count T 100
  have G_shown : FnOk P w K mg base CX0 _ _ _ _ _ := ok_shown T 100
  refine T.made.F.ok sc_made (fun vs H Q E h => ?_) (fun cdv A outer s H vs Q E hr h => ⟨_, PSs.nox (pss_cons (ps_set (i := 2) sc_made.nd rfl (Or.inl rfl) (pe_call G_shape (hr.mono (by omega)) rfl T.shape.m T.shape.F.kp (b_shape T) .nil pass0 (pa_cons (pv 0) (pa_cons pe_int pa_nil))))
    (pss_cons (ps_set (i := 3) sc_made.nd rfl (Or.inl rfl) (pe_tup (pa_cons (pe_lst (pa_cons (pv 2) pa_nil)) (pa_cons (pe_tup (pa_cons pe_str pa_nil)) (pa_cons (pv 2) pa_nil)))))
    (pss_cons (ps_for PassesOwn.never rfl (pi_range1 rfl T.z_range (pa_cons (pv 1) pa_nil)) (pg_name (i := 4) sc_made.nd rfl (Or.inl rfl)) (pss_cons (ps_set (i := 5) sc_made.nd rfl (Or.inl rfl) (pe_call G_grown (hr.mono (by omega)) rfl T.grown.m T.grown.F.kp (b_grown T) .nil pass0 (pa_cons (pv 0) (pa_cons (pv 3) pa_nil))))
    (pss_one (ps_if (PW.pt (pw_and (pt_cmpR op_le (pe_call G_count (hr.mono (by omega)) rfl T.count.m T.count.F.kp (b_count T) .nil pass0 (pa_cons (pe_ix ix_tup (pv 5) pe_int (fun _ _ => rfl)) pa_nil)) pe_int (nomark _)) (pw_and1 (pt_cmpR op_notN (pe_call G_shown (hr.mono (by omega)) rfl T.shown.m T.shown.F.kp (b_shown T) .nil pass0 (pa_cons (pe_ix ix_tup (pv 5) pe_int (fun _ _ => rfl)) (pa_cons (pe_ix ix_tup (pv 5) pe_int (fun _ _ => rfl)) (pa_cons pe_bl pa_nil)))) pe_non (nomark _))))) (pss_one (ps_set (i := 3) sc_made.nd rfl (Or.inl rfl) (pv 5))) pss_nil))))
    (pss_one (ps_ret (pv 3)))))), ?_⟩)
  · obtain ⟨p, kk, n, m, z, rfl, _⟩ := h
    rfl
  · obtain ⟨p, kk, n, m, z, rfl, rfl, hn, hp, hz, hm, q⟩ := h
    refine sq_asg ?_
    refine ⟨_, rfl, p, 3, 3, m, z, rfl, rfl, by decide, by decide, by decide, hp, hz, by omega, fun vs1 H1 k1 s1 hp1 hk1 ho1 hz1 => ?_⟩
    refine sq_asg ?_
    refine ⟨_, rfl, (by show 1 ≤ sizeLine; decide), fun l2 n2 => ⟨(by show 1 ≤ sizeLine; decide), fun w3 n3 => ⟨_, rfl, (by show 3 ≤ sizeLine; decide), fun r4 n4 => ?_⟩⟩⟩
    have s2 := same_new (o := .lst [vs1]) n2
    have s3 := same_new (o := .tup [.str "word"]) n3
    have s4 := same_new (o := .tup [.ref l2, .ref w3, vs1]) n4
    have t4 := s2.trans (s3.trans s4)
    obtain ⟨xs, hpx⟩ := hp1.lst
    refine sq_forR (n := n) (fun Q' q' => ⟨_, rfl, q'⟩) (by omega) (fun i σ' H' => ∃ v ks t k x4 x5, σ' = [some (.ref p), some (.int (n : Nat)), some vs1, some v, x4, x5] ∧ SameB p H H' ∧ Pool H' p (m + 12 + 10 * i) [.str z] ∧ RepD H' p v ks t k ∧ Mok 7 40 (3 + 7 * i) ks t k) ?_ (fun i σ' H' hi hP => ?_) (fun σ' H' hP => ?_)
    · refine ⟨_, [k1], .wd, k1, _, _, rfl, s1.trans (.of t4), (hp1.same t4).le (by omega), ⟨r4, l2, _, _, _, rfl, upd_same, fr_ne n2 hpx, (s3.trans s4) _ _ upd_same, ⟨hk1.mono (.of t4), trivial⟩, ⟨w3, rfl, s4 _ _ upd_same⟩, hk1.mono (.of t4)⟩, rfl, trivial, trivial, by decide, ?_, ho1, hz1⟩
      intro x hx
      rw [List.mem_singleton.mp hx]
      exact ⟨ho1, by omega⟩
    · obtain ⟨v, ks, t, k, x4, x5, rfl, sB, hpi, hd, mo⟩ := hP
      refine sq_asg ?_
      refine ⟨_, rfl, _, rfl, p, v, _, z, ks, t, k, _, rfl, hpi, hz, by omega, hd, mo, by omega, fun H6 v6 ks6 t6 k6 s6 hp6 hd6 mo6 => ?_⟩
      have hd6' := hd6
      obtain ⟨r, L, us, u, s, rfl, hr6, hL6, h6, hks6, ht6, hk6⟩ := hd6'
      obtain ⟨o1, o2, o3, o4, o5, o6, o7⟩ := mo6
      have wl := t6.width_le
      refine st_ifH (fun b H' => Same H6 H' ∧ (b = true → t6.count ≤ 40 ∧ ∀ x ∈ ks6, x.size ≤ 7)) (fun Q' q' => ?_) (fun H7 hP => ?_) (fun H7 hP => ?_)
      · refine val_ix (val_var rfl) hr6 at1 _ ⟨_, t6, rfl, ht6, by omega, fun H7 s7 => ?_⟩
        refine ⟨_, _, rfl, rfl, _, rfl, ?_⟩
        by_cases hc : t6.count ≤ 40
        · refine itY (decide_eq_true (by omega)) ?_
          have hr7 := s7 _ _ hr6
          refine val_ix (val_var rfl) hr7 at0 _ (val_ix (val_var rfl) hr7 at1 _ ⟨L, us, ks6, u, t6, rfl, s7 _ _ h6, hks6.mono (.of s7), o1, ht6.mono (.of s7), o2, o3, by omega, by omega, fun x hx => ⟨(o5 x hx).1, Nat.le_trans x.deep_le (by have := (o5 x hx).2; omega)⟩, by omega, fun H8 v8 s8 hv8 => ?_⟩)
          rcases hv8 with rfl | ⟨k8, r8, ho8, hz8, ha8⟩
          · exact ⟨rfl, _, rfl, q' _ _ ⟨s7.trans s8, fun z => by cases z⟩⟩
          · obtain ⟨a8, g8, l8, rfl, _⟩ := rk_tag r8
            exact ⟨rfl, _, rfl, q' _ _ ⟨s7.trans s8, fun _ => ⟨hc, ha8⟩⟩⟩
        · refine itN (by rw [decide_eq_false (by omega)]; exact Bool.false_ne_true) ?_
          exact q' _ _ ⟨s7, fun z => by cases z⟩
      · obtain ⟨s7, h7⟩ := hP
        obtain ⟨hc, h7⟩ := h7 rfl
        obtain ⟨ys, hpy⟩ := hp6.lst
        refine ⟨_, rfl, ?_⟩
        refine ⟨_, ks6, t6, k6, _, _, rfl, sB.trans (s6.trans (.of s7)), (hp6.same s7).le (by omega), hd6.mono (.of s7) hpy, o1, o2, o3, hc, fun x hx => ⟨(o5 x hx).1, h7 x hx⟩, o6, by omega⟩
      · obtain ⟨s7, _⟩ := hP
        obtain ⟨ys, hpy⟩ := hpi.lst
        obtain ⟨ys6, hpy6⟩ := hp6.lst
        refine ⟨_, ks, t, k, _, _, rfl, sB.trans (s6.trans (.of s7)), (hp6.same s7).le (by omega), (hd.mono s6 hpy).mono (.of s7) hpy6, ?_⟩
        obtain ⟨m1, m2, m3, m4, m5, m6, m7⟩ := mo
        exact ⟨m1, m2, m3, m4, m5, m6, by omega⟩
    · obtain ⟨v, ks, t, k, x4, x5, rfl, sB, hpi, hd, m1, m2, m3, m4, m5, m6, m7⟩ := hP
      exact ⟨_, rfl, q H' v ks t k sB (hpi.le (by omega)) hd ⟨m1, m2, m3, m4, m5, m6, by omega⟩⟩
end
end WW
namespace WW
open PySem PySem.Spec PyProof.Rows L2
theorem gv_at : ∀ c : Nat, c < 2 → ∃ b, ([.str "givebehind", .str "giveahead"] : List V)[c]? = some (.str (SG b))
  | 0, _ => ⟨true, rfl⟩
  | 1, _ => ⟨false, rfl⟩
  | c + 2, h => by omega
theorem gv_ok {b : Bool} {k : Kd} {t : Tr} {c : Nat} (h : t.WF) (hw : t.width = c + 1) (hc : 1 ≤ c) (hg : t.Gk 3) (ho : k.Ok) (hz : k.size ≤ 3) : (Tr.gv b k t).WF ∧ (Tr.gv b k t).width = c ∧ (Tr.gv b k t).Gk 3 :=
  ⟨⟨h, by omega⟩, by show t.width - 1 = c; omega, ⟨ho, hz⟩, hg⟩
theorem asg_to {u : TS} {D : Ends} {σ : L2.St} {i : Nat} {x y : Int} {H : Hp} (e : x = y) (q : u D (σ.set i (some (.int y))) H) : u D (σ.set i (some (.int x))) H := e ▸ q
section
variable {P : Program} {w : World} {K : PySem.W.Frag} {mg : Str → Option Value} {base : Heap}
theorem ans_in3 {σ : L2.St} {H : Hp} {ta : TE} {x s1 s2 s3 : V} {b : Bool} (ha : Val ta σ H x) (hx : flatV x = true) (h1 : flatV s1 = true) (h2 : flatV s2 = true) (h3 : flatV s3 = true) (hb : inV x [s1, s2, s3] = b) :
    AnsH (tTest (tOp (rIn K false) ta (tTup (tCons (tC s1) (tCons (tC s2) (tCons (tC s3) tNil)))))) σ H b (Same H) := by
  intro Q q
  refine ha _ ?_
  refine ⟨by show 3 ≤ sizeLine; decide, fun p hp => ?_⟩
  refine ⟨p, [s1, s2, s3], rfl, Or.inr (SqT.of upd_same), hx, by rw [List.all_cons, List.all_cons, List.all_cons, h1, h2, h3] <;> rfl, b, ?_, q _ (same_new hp)⟩
  show V.bl (if false = true then !inV x [s1, s2, s3] else inV x [s1, s2, s3]) = V.bl b
  rw [if_neg Bool.false_ne_true, hb]
/-! ### wild -/
def spWild (n : Nat) : Sp := fun vs H Q _ => ∃ (p : Addr) (wi ri : Int) (c r m : Nat) (z : Str), vs = [.ref p, .int wi, .int ri] ∧ wi = (c : Int) ∧ ri = (r : Int) ∧ 1 ≤ c ∧ c ≤ 6 ∧ 2 * c ≤ r + 1 ∧ r ≤ n ∧ r ≤ 45 ∧ Pool H p m [.str z] ∧ SignsOk z ∧ m + 30 * r ≤ 90000 ∧
  ∀ H' v t, SameB p H H' → Pool H' p (m + 30 * r) [.str z] → RepT H' t v → t.WF → t.width = c → t.Gk 3 → t.count ≤ r → Q v H'
theorem ok_wild (T : Top w K mg) : ∀ n, FnOk P w K mg base CX0 (n + 4) T.wild.f T.wild.fd ["_law_pool_here", "_law_wide_here", "_law_room"] (spWild n)
  | 0 => fn_never fun vs H Q E ⟨p, wi, ri, c, r, m, z, _, _, _, h1, _, h2, h3, _⟩ => by omega
  | n + 1 => by
    have G_pick : FnOk P w K mg base CX0 _ _ _ _ _ := ok_pick T
    have G_shape : FnOk P w K mg base CX0 _ _ _ _ _ := ok_shape T 3
    have G_wild := ok_wild T n
    refine T.wild.F.ok sc_wild (fun vs H Q E h => ?_) (fun cdv A outer s H vs Q E hr h => ⟨_, PSs.nox (pss_cons (ps_par (i := 3) (j := 4) rfl sc_wild.nd rfl rfl (by decide) rfl rfl (pa_cons (pe_call G_pick (hr.mono (by omega)) rfl T.pick.m T.pick.F.kp (b_pick T) .nil pass0 (pa_cons (pv 0) (pa_cons pe_int pa_nil))) (pa_cons (pe_op op_add (pe_op op_sub (pv 2) (pe_op op_mul pe_int (pv 1))) pe_int) pa_nil)) rfl)
    (pss_cons (ps_if (PW.pt (pw_and (pt_cmpR op_lt (pv 3) pe_int (nomark _)) (pw_and (pt_cmpR op_lt (pv 1) pe_int (nomark _)) (pw_and1 (pt_cmpR op_gt (pv 4) pe_int (nomark _)))))) (pss_one (ps_ret (pe_tup (pa_cons (pe_ix ix_list (pe_lst (pa_cons pe_str (pa_cons pe_str pa_nil))) (pv 3) (fun _ _ => rfl)) (pa_cons (pe_call G_shape (hr.mono (by omega)) rfl T.shape.m T.shape.F.kp (b_shape T) .nil pass0 (pa_cons (pv 0) (pa_cons pe_int pa_nil))) (pa_cons (pe_call G_wild (hr.mono (by omega)) rfl T.wild.m T.wild.F.kp (b_wild T) .nil pass0 (pa_cons (pv 0) (pa_cons (pe_op op_add (pv 1) pe_int) (pa_cons (pe_op op_sub (pv 2) pe_int) pa_nil)))) pa_nil)))))) pss_nil)
    (pss_cons (ps_if (pt_cmpR op_eq (pv 1) pe_int (nomark _)) (pss_one (ps_ret (pe_tup (pa_cons pe_str pa_nil)))) pss_nil)
    (pss_cons (ps_set (i := 5) sc_wild.nd rfl (Or.inl rfl) (pe_op op_add pe_int (pe_call G_pick (hr.mono (by omega)) rfl T.pick.m T.pick.F.kp (b_pick T) .nil pass0 (pa_cons (pv 0) (pa_cons (pe_op op_sub (pv 1) pe_int) pa_nil)))))
    (pss_cons (ps_set (i := 6) sc_wild.nd rfl (Or.inl rfl) (pe_call G_pick (hr.mono (by omega)) rfl T.pick.m T.pick.F.kp (b_pick T) .nil pass0 (pa_cons (pv 0) (pa_cons (pe_op op_add (pv 4) pe_int) pa_nil))))
    (pss_cons (ps_set (i := 7) sc_wild.nd rfl (Or.inl rfl) (pe_op op_sub (pv 4) (pv 6)))
    (pss_cons (ps_if (PW.pt (pw_and (pt_cmpR op_in_seq (pv 3) (pe_tup (pa_cons pe_int (pa_cons pe_int pa_nil))) (by rfl)) (pw_and (pt_cmpR op_gt (pv 6) pe_int (nomark _)) (pw_and1 (pt_cmpR op_lt (pv 5) pe_int (nomark _)))))) (pss_cons (ps_set (i := 8) sc_wild.nd rfl (Or.inl rfl) (pe_call G_wild (hr.mono (by omega)) rfl T.wild.m T.wild.F.kp (b_wild T) .nil pass0 (pa_cons (pv 0) (pa_cons (pe_op op_add (pv 5) pe_int) (pa_cons (pe_op op_add (pe_op op_sub (pe_op op_mul pe_int (pv 5)) pe_int) (pv 6)) pa_nil)))))
    (pss_cons (ps_set (i := 9) sc_wild.nd rfl (Or.inl rfl) (pe_call G_wild (hr.mono (by omega)) rfl T.wild.m T.wild.F.kp (b_wild T) .nil pass0 (pa_cons (pv 0) (pa_cons (pe_op op_sub (pv 1) (pv 5)) (pa_cons (pe_op op_add (pe_op op_sub (pe_op op_mul pe_int (pe_op op_sub (pv 1) (pv 5))) pe_int) (pv 7)) pa_nil)))))
    (pss_one (ps_ret (pe_tup (pa_cons pe_str (pa_cons (pe_tup (pa_cons pe_str (pa_cons (pe_call G_shape (hr.mono (by omega)) rfl T.shape.m T.shape.F.kp (b_shape T) .nil pass0 (pa_cons (pv 0) (pa_cons pe_int pa_nil))) (pa_cons (pv 8) pa_nil)))) (pa_cons (pv 9) pa_nil)))))))) pss_nil)
    (pss_cons (ps_if (PW.pt (pw_and (pt_cmpR op_in_seq (pv 3) (pe_tup (pa_cons pe_int (pa_cons pe_int (pa_cons pe_int pa_nil)))) (by rfl)) (pw_and (pt_cmpR op_gt (pv 7) pe_int (nomark _)) (pw_and1 (pt_cmpR op_lt (pe_op op_sub (pv 1) (pv 5)) pe_int (nomark _)))))) (pss_cons (ps_set (i := 8) sc_wild.nd rfl (Or.inl rfl) (pe_call G_wild (hr.mono (by omega)) rfl T.wild.m T.wild.F.kp (b_wild T) .nil pass0 (pa_cons (pv 0) (pa_cons (pe_op op_add (pe_op op_sub (pv 1) (pv 5)) pe_int) (pa_cons (pe_op op_add (pe_op op_sub (pe_op op_mul pe_int (pe_op op_sub (pv 1) (pv 5))) pe_int) (pv 7)) pa_nil)))))
    (pss_cons (ps_set (i := 10) sc_wild.nd rfl (Or.inl rfl) (pe_call G_wild (hr.mono (by omega)) rfl T.wild.m T.wild.F.kp (b_wild T) .nil pass0 (pa_cons (pv 0) (pa_cons (pv 5) (pa_cons (pe_op op_add (pe_op op_sub (pe_op op_mul pe_int (pv 5)) pe_int) (pv 6)) pa_nil)))))
    (pss_one (ps_ret (pe_tup (pa_cons pe_str (pa_cons (pv 10) (pa_cons (pe_tup (pa_cons pe_str (pa_cons (pe_call G_shape (hr.mono (by omega)) rfl T.shape.m T.shape.F.kp (b_shape T) .nil pass0 (pa_cons (pv 0) (pa_cons pe_int pa_nil))) (pa_cons (pv 8) pa_nil)))) pa_nil)))))))) pss_nil)
    (pss_cons (ps_par (i := 10) (j := 9) rfl sc_wild.nd rfl rfl (by decide) rfl rfl (pa_cons (pe_call G_wild (hr.mono (by omega)) rfl T.wild.m T.wild.F.kp (b_wild T) .nil pass0 (pa_cons (pv 0) (pa_cons (pv 5) (pa_cons (pe_op op_add (pe_op op_sub (pe_op op_mul pe_int (pv 5)) pe_int) (pv 6)) pa_nil)))) (pa_cons (pe_call G_wild (hr.mono (by omega)) rfl T.wild.m T.wild.F.kp (b_wild T) .nil pass0 (pa_cons (pv 0) (pa_cons (pe_op op_sub (pv 1) (pv 5)) (pa_cons (pe_op op_add (pe_op op_sub (pe_op op_mul pe_int (pe_op op_sub (pv 1) (pv 5))) pe_int) (pv 7)) pa_nil)))) pa_nil)) rfl)
    (pss_one (ps_ret (pe_tup (pa_cons (pe_ix ix_list (pe_lst (pa_cons pe_str (pa_cons pe_str pa_nil))) (pe_call G_pick (hr.mono (by omega)) rfl T.pick.m T.pick.F.kp (b_pick T) .nil pass0 (pa_cons (pv 0) (pa_cons pe_int pa_nil))) (fun _ _ => rfl)) (pa_cons (pv 10) (pa_cons (pv 9) pa_nil))))))))))))))), ?_⟩)
    · obtain ⟨p, wi, ri, c, r, m, z, rfl, _⟩ := h
      rfl
    · obtain ⟨p, wi, ri, c, r, m, z, rfl, rfl, rfl, hc1, hc6, hcr, hrn, hr45, hp, hz, hm, q⟩ := h
      refine sq_par ?_
      refine ⟨_, rfl, p, 6, 6, m, _, rfl, rfl, by decide, by decide, hp, by omega, fun H1 way hway s1 hp1 => ?_⟩
      obtain ⟨sp, hsp⟩ : ∃ sp : Nat, ((r : Int) - 2 * (c : Int) + 1) = (sp : Int) := ⟨r + 1 - 2 * c, by omega⟩
      refine ⟨_, rfl, _, rfl, _, _, rfl, rfl, .inl ⟨by decide, by decide⟩, _, _, rfl, rfl, _, _, rfl, rfl, _, .int (sp : Nat), congrArg (fun x => [_, V.int x]) hsp, ?_⟩
      refine sq_ifH (fun b H' => H' = H1 ∧ (b = true → way < 2 ∧ c < 6 ∧ 2 < sp)) (fun Q' q' => ?_) (fun H2 hP => ?_) (fun H2 hP => ?_)
      · refine ⟨_, rfl, _, _, rfl, rfl, _, rfl, ite2 (fun e1 => ?_) (fun e1 => q' _ _ ⟨rfl, fun z => by cases z⟩)⟩
        refine ⟨_, rfl, _, _, rfl, rfl, _, rfl, ite2 (fun e2 => ?_) (fun e2 => q' _ _ ⟨rfl, fun z => by cases z⟩)⟩
        refine ⟨_, rfl, _, _, rfl, rfl, _, rfl, q' _ _ ⟨rfl, fun e3 => ?_⟩⟩
        have e1 := of_decide_eq_true e1
        have e2 := of_decide_eq_true e2
        have e3 := of_decide_eq_true e3
        omega
      · obtain ⟨rfl, hP⟩ := hP
        obtain ⟨w1, w2, w3⟩ := hP rfl
        obtain ⟨b, hb⟩ := gv_at way w1
        refine ⟨(by show 2 ≤ sizeLine; decide), fun l3 n3 => ⟨_, rfl, l3, _, _, _, rfl, rfl, .of upd_same, atI_nat hb, ?_⟩⟩
        have s3 := same_new (o := .lst [.str "givebehind", .str "giveahead"]) n3
        refine ⟨_, rfl, p, 3, 3, m + 1, z, rfl, rfl, by decide, by decide, by decide, hp1.same s3, hz, by omega, fun v4 H4 k4 s4 hp4 hk4 ho4 hz4 => ?_⟩
        refine ⟨_, rfl, _, rfl, _, _, rfl, rfl, _, rfl, _, _, rfl, rfl, p, _, _, c + 1, r - 1, m + 1 + 5 * 3 - 3, z, rfl, by omega, by omega, by omega, by omega, by omega, by omega, by omega, hp4, hz, by omega, fun H5 v5 t5 s5 hp5 ht5 hw5 hwd5 hg5 hc5 => ?_⟩
        refine ⟨(by show 3 ≤ sizeLine; decide), fun r6 n6 => ?_⟩
        have s6 := same_new (o := .tup [.str (SG b), v4, v5]) n6
        have gk := gv_ok (b := b) (k := k4) hw5 hwd5 hc1 hg5 ho4 hz4
        refine q _ _ (.gv b k4 t5) (s1.trans ((SameB.of s3).trans (s4.trans (s5.trans (.of s6))))) ((hp5.same s6).le (by omega)) ⟨r6, v4, v5, rfl, upd_same, hk4.mono ((hp4.kt s5).trans (.of s6)), ht5.mono (.of s6)⟩ gk.1 gk.2.1 gk.2.2 ?_
        show 1 + t5.count ≤ r
        omega
      · obtain ⟨rfl, _⟩ := hP
        by_cases h1 : c = 1
        · refine sq_yes (ans_int (val_var rfl) 1 (decide_eq_true (by omega))) ?_
          refine ⟨(by show 1 ≤ sizeLine; decide), fun r3 n3 => ?_⟩
          have s3 := same_new (o := .tup [.str "word"]) n3
          refine q _ _ .wd (s1.trans (.of s3)) ((hp1.same s3).le (by omega)) ⟨r3, rfl, upd_same⟩ trivial h1.symm trivial ?_
          show 1 ≤ r
          omega
        refine sq_skip (ans_int (val_var rfl) 1 (decide_eq_false (by omega))) ?_
        refine sq_asg ?_
        refine ⟨_, rfl, _, rfl, _, _, rfl, rfl, p, _, c - 1, m + 1, _, rfl, by omega, by omega, by omega, hp1, by omega, fun H3 cut hcut s3 hp3 => ⟨_, _, rfl, rfl, ?_⟩⟩
        obtain ⟨cu, hcu⟩ : ∃ cu : Nat, ((1 : Int) + (cut : Int)) = (cu : Int) := ⟨1 + cut, by omega⟩
        refine asg_to hcu ?_
        refine sq_asg ?_
        refine ⟨_, rfl, _, rfl, _, _, rfl, rfl, p, _, sp + 1, _, _, rfl, by omega, by omega, by omega, hp3, by omega, fun H4 less hless s4 hp4 => ?_⟩
        refine sq_asg ?_
        obtain ⟨re, hre⟩ : ∃ re : Nat, ((sp : Int) - (less : Int)) = (re : Int) := ⟨sp - less, by omega⟩
        refine ⟨_, rfl, _, rfl, _, _, rfl, rfl, asg_to hre ?_⟩
        have s14 := s1.trans (s3.trans s4)
        have cz : ∃ bz, inV (.int (way : Nat)) [.int 2, .int 3] = bz := ⟨_, rfl⟩
        obtain ⟨bz, ez⟩ := cz
        refine sq_ifH (fun b H' => Same H4 H' ∧ (b = true → 2 < less ∧ cu < 6)) (fun Q' q' => ?_) (fun H5 hP => ?_) (fun H5 hP => ?_)
        · refine ans_in2 (val_var rfl) rfl rfl rfl ez _ fun H5 ⟨p5, n5, e5⟩ => ?_
          have s5 : Same H4 H5 := by rw [e5]; exact same_new n5
          refine ite2 (fun e1 => ?_) (fun e1 => q' _ _ ⟨s5, fun z => by cases z⟩)
          refine ⟨_, rfl, _, _, rfl, rfl, _, rfl, ite2 (fun e2 => ?_) (fun e2 => q' _ _ ⟨s5, fun z => by cases z⟩)⟩
          refine ⟨_, rfl, _, _, rfl, rfl, _, rfl, q' _ _ ⟨s5, fun e3 => ?_⟩⟩
          have e2 := of_decide_eq_true e2
          have e3 := of_decide_eq_true e3
          omega
        · obtain ⟨s5, hP⟩ := hP
          obtain ⟨l1, l2⟩ := hP rfl
          refine sq_asg ?_
          refine ⟨_, rfl, _, rfl, _, _, rfl, rfl, _, rfl, _, _, rfl, rfl, .inl ⟨by decide, by decide⟩, _, _, rfl, rfl, _, rfl, _, _, rfl, rfl, p, _, _, cu + 1, 2 * cu + less - 2, _, z, rfl, by omega, by omega, by omega, by omega, by omega, by omega, by omega, hp4.same s5, hz, by omega, fun H6 v6 t6 s6 hp6 ht6 hw6 hwd6 hg6 hc6' => ?_⟩
          refine sq_asg ?_
          refine ⟨_, rfl, _, rfl, _, rfl, _, _, rfl, rfl, _, rfl, _, rfl, _, _, rfl, rfl, _, _, rfl, rfl, .inl ⟨by decide, by decide⟩, _, _, rfl, rfl, _, rfl, _, _, rfl, rfl, p, _, _, c - cu, 2 * (c - cu) - 1 + re, _, z, rfl, by omega, by omega, by omega, by omega, by omega, by omega, by omega, hp6, hz, by omega, fun H7 v7 t7 s7 hp7 ht7 hw7 hwd7 hg7 hc7 => ?_⟩
          refine ⟨_, rfl, p, 2, 2, _, z, rfl, rfl, by decide, by decide, by decide, hp7, hz, by omega, fun v8 H8 k8 s8 hp8 hk8 ho8 hz8 => ?_⟩
          refine ⟨_, rfl, (by show 3 ≤ sizeLine; decide), fun r9 n9 => ⟨_, rfl, (by show 3 ≤ sizeLine; decide), fun r10 n10 => ?_⟩⟩
          have s9 := same_new (o := .tup [.str "givebehind", v8, v6]) n9
          have s10 := same_new (o := .tup [.str "behind", .ref r9, v7]) n10
          have gk := gv_ok (b := true) (k := k8) hw6 hwd6 (by omega) hg6 ho8 (by omega)
          have k68 := (hp6.kt s7).trans (hp7.kt s8)
          have s910 := s9.trans s10
          refine q _ _ (.pr true (.gv true k8 t6) t7) (s14.trans ((SameB.of s5).trans (s6.trans (s7.trans (s8.trans (.of s910)))))) ((hp8.same s910).le (by omega)) ⟨r10, _, _, rfl, upd_same, ⟨r9, _, _, rfl, s10 _ _ upd_same, hk8.mono (.of s910), ht6.mono (k68.trans (.of s910))⟩, ht7.mono ((hp7.kt s8).trans (.of s910))⟩ ⟨gk.1, hw7⟩ ?_ ⟨gk.2.2, hg7⟩ ?_
          · show (Tr.gv true k8 t6).width + t7.width = c
            have := gk.2.1
            omega
          · show 1 + (1 + t6.count) + t7.count ≤ r
            omega
        obtain ⟨s5, _⟩ := hP
        have cy : ∃ by', inV (.int (way : Nat)) [.int 2, .int 3, .int 4] = by' := ⟨_, rfl⟩
        obtain ⟨by', ey⟩ := cy
        refine sq_ifH (fun b H' => Same H4 H' ∧ (b = true → 2 < re ∧ c - cu < 6)) (fun Q' q' => ?_) (fun H6 hP => ?_) (fun H6 hP => ?_)
        · refine ans_in3 (val_var rfl) rfl rfl rfl rfl ey _ fun H6 s6 => ?_
          have s6 := s5.trans s6
          refine ite2 (fun e1 => ?_) (fun e1 => q' _ _ ⟨s6, fun z => by cases z⟩)
          refine ⟨_, rfl, _, _, rfl, rfl, _, rfl, ite2 (fun e2 => ?_) (fun e2 => q' _ _ ⟨s6, fun z => by cases z⟩)⟩
          refine ⟨_, rfl, _, rfl, _, _, rfl, rfl, _, _, rfl, rfl, _, rfl, q' _ _ ⟨s6, fun e3 => ?_⟩⟩
          have e2 := of_decide_eq_true e2
          have e3 := of_decide_eq_true e3
          omega
        · obtain ⟨s6, hP⟩ := hP
          obtain ⟨l1, l2⟩ := hP rfl
          refine sq_asg ?_
          refine ⟨_, rfl, _, rfl, _, rfl, _, _, rfl, rfl, _, _, rfl, rfl, _, rfl, _, rfl, _, _, rfl, rfl, _, _, rfl, rfl, .inl ⟨by decide, by decide⟩, _, _, rfl, rfl, _, rfl, _, _, rfl, rfl, p, _, _, c - cu + 1, 2 * (c - cu) + re - 2, _, z, rfl, by omega, by omega, by omega, by omega, by omega, by omega, by omega, hp4.same s6, hz, by omega, fun H7 v7 t7 s7 hp7 ht7 hw7 hwd7 hg7 hc7 => ?_⟩
          refine sq_asg ?_
          refine ⟨_, rfl, _, rfl, _, rfl, _, _, rfl, rfl, .inl ⟨by decide, by decide⟩, _, _, rfl, rfl, _, rfl, _, _, rfl, rfl, p, _, _, cu, 2 * cu - 1 + less, _, z, rfl, by omega, by omega, by omega, by omega, by omega, by omega, by omega, hp7, hz, by omega, fun H8 v8 t8 s8 hp8 ht8 hw8 hwd8 hg8 hc8 => ?_⟩
          refine ⟨_, rfl, _, rfl, p, 2, 2, _, z, rfl, rfl, by decide, by decide, by decide, hp8, hz, by omega, fun v9 H9 k9 s9 hp9 hk9 ho9 hz9 => ?_⟩
          refine ⟨_, rfl, (by show 3 ≤ sizeLine; decide), fun r10 n10 => ⟨(by show 3 ≤ sizeLine; decide), fun r11 n11 => ?_⟩⟩
          have s10 := same_new (o := .tup [.str "giveahead", v9, v7]) n10
          have s11 := same_new (o := .tup [.str "ahead", v8, .ref r10]) n11
          have gk := gv_ok (b := false) (k := k9) hw7 hwd7 (by omega) hg7 ho9 (by omega)
          have k79 := (hp7.kt s8).trans (hp8.kt s9)
          have s1011 := s10.trans s11
          refine q _ _ (.pr false t8 (.gv false k9 t7)) (s14.trans ((SameB.of s6).trans (s7.trans (s8.trans (s9.trans (.of s1011)))))) ((hp9.same s1011).le (by omega)) ⟨r11, _, _, rfl, upd_same, ht8.mono ((hp8.kt s9).trans (.of s1011)), r10, _, _, rfl, s11 _ _ upd_same, hk9.mono (.of s1011), ht7.mono (k79.trans (.of s1011))⟩ ⟨hw8, gk.1⟩ ?_ ⟨hg8, gk.2.2⟩ ?_
          · show t8.width + (Tr.gv false k9 t7).width = c
            have := gk.2.1
            omega
          · show 1 + t8.count + (1 + t7.count) ≤ r
            omega
        · obtain ⟨s6, _⟩ := hP
          refine sq_par ?_
          refine ⟨_, rfl, _, rfl, _, rfl, _, _, rfl, rfl, .inl ⟨by decide, by decide⟩, _, _, rfl, rfl, _, rfl, _, _, rfl, rfl, p, _, _, cu, 2 * cu - 1 + less, _, z, rfl, by omega, by omega, by omega, by omega, by omega, by omega, by omega, hp4.same s6, hz, by omega, fun H7 v7 t7 s7 hp7 ht7 hw7 hwd7 hg7 hc7 => ?_⟩
          refine ⟨_, rfl, _, rfl, _, rfl, _, _, rfl, rfl, _, rfl, _, rfl, _, _, rfl, rfl, _, _, rfl, rfl, .inl ⟨by decide, by decide⟩, _, _, rfl, rfl, _, rfl, _, _, rfl, rfl, p, _, _, c - cu, 2 * (c - cu) - 1 + re, _, z, rfl, by omega, by omega, by omega, by omega, by omega, by omega, by omega, hp7, hz, by omega, fun H8 v8 t8 s8 hp8 ht8 hw8 hwd8 hg8 hc8 => ⟨_, _, rfl, ?_⟩⟩
          refine ⟨(by show 2 ≤ sizeLine; decide), fun l9 n9 => ?_⟩
          have s9 := same_new (o := .lst [.str "behind", .str "ahead"]) n9
          have hlp : l9 ≠ p := by
            obtain ⟨xs, e⟩ := hp8.lst
            exact fr_ne n9 e
          refine ⟨_, rfl, p, 2, 2, _, _, rfl, rfl, by decide, by decide, hp8.same s9, by omega, fun H10 c10 hc10 s10 hp10 => ?_⟩
          obtain ⟨b, hb⟩ := bh_at c10 hc10
          refine ⟨l9, _, _, _, rfl, rfl, .of (s10 _ _ hlp upd_same), atI_nat hb, ?_⟩
          refine ⟨_, rfl, _, rfl, (by show 3 ≤ sizeLine; decide), fun r11 n11 => ?_⟩
          have s11 := same_new (o := .tup [.str (SB b), v7, v8]) n11
          have k811 := (KT.of s9).trans (((hp8.same s9).kt s10).trans (.of s11))
          refine q _ _ (.pr b t7 t8) (s14.trans ((SameB.of s6).trans (s7.trans (s8.trans ((SameB.of s9).trans (s10.trans (.of s11))))))) ((hp10.same s11).le (by omega)) ⟨r11, _, _, rfl, upd_same, ht7.mono ((hp7.kt s8).trans k811), ht8.mono k811⟩ ⟨hw7, hw8⟩ ?_ ⟨hg7, hg8⟩ ?_
          · show t7.width + t8.width = c
            omega
          · show 1 + t7.count + t8.count ≤ r
            omega
end
end WW
namespace WW
open PySem PySem.Spec PyProof.Rows L2
/-! ### alike -/
theorem Alk.le {H : Hp} : ∀ {n m : Nat} {x y : V}, n ≤ m → Alk H n x y → Alk H m x y
  | 0, _, _, _, _, h => h.elim
  | n + 1, 0, _, _, l, _ => absurd l (Nat.not_succ_le_zero n)
  | n + 1, m + 1, x, y, l, h => by
    rcases h with h | ⟨a, b, xs, ys, e1, e2, h, l1, l2, r⟩
    · exact .inl h
    · exact .inr ⟨a, b, xs, ys, e1, e2, h, l1, l2, fun i u v hu hv => (r i u v hu hv).le (Nat.le_of_succ_le_succ l)⟩
theorem alk_str {H : Hp} {n : Nat} (s : Str) : Alk H (n + 1) (.str s) (.str s) := .inl ⟨rfl, .inr (.inl ⟨s, rfl⟩)⟩
theorem alk_one {H : Hp} {n : Nat} {a b : Addr} {x u : V} (h1 : H a = some (.tup [x])) (h2 : H b = some (.tup [u])) (r : Alk H n x u) : Alk H (n + 1) (.ref a) (.ref b) :=
  .inr ⟨a, b, _, _, rfl, rfl, .inl ⟨h1, h2⟩, rfl, (by show 1 ≤ 900; decide), fun i y v hu hv => by
    match i with
    | 0 => cases hu; cases hv; exact r
    | i + 1 => cases hu⟩
theorem alk_two {H : Hp} {n : Nat} {a b : Addr} {x y u v : V} (h1 : H a = some (.tup [x, y])) (h2 : H b = some (.tup [u, v])) (r1 : Alk H n x u) (r2 : Alk H n y v) : Alk H (n + 1) (.ref a) (.ref b) :=
  .inr ⟨a, b, _, _, rfl, rfl, .inl ⟨h1, h2⟩, rfl, (by show 2 ≤ 900; decide), fun i y v hu hv => by
    match i with
    | 0 => cases hu; cases hv; exact r1
    | 1 => cases hu; cases hv; exact r2
    | i + 2 => cases hu⟩
theorem alk_three {H : Hp} {n : Nat} {a b : Addr} {x y z u v q : V} (h1 : H a = some (.tup [x, y, z])) (h2 : H b = some (.tup [u, v, q])) (r1 : Alk H n x u) (r2 : Alk H n y v) (r3 : Alk H n z q) : Alk H (n + 1) (.ref a) (.ref b) :=
  .inr ⟨a, b, _, _, rfl, rfl, .inl ⟨h1, h2⟩, rfl, (by show 3 ≤ 900; decide), fun i y v hu hv => by
    match i with
    | 0 => cases hu; cases hv; exact r1
    | 1 => cases hu; cases hv; exact r2
    | 2 => cases hu; cases hv; exact r3
    | i + 3 => cases hu⟩
theorem alk_kd {H : Hp} : ∀ {k : Kd} {u v : V}, RepK H k u → RepK H k v → Alk H (k.deep + 1) u v
  | .pl c, u, v, ⟨a, e1, h1⟩, ⟨b, e2, h2⟩ => by
    rw [e1, e2]
    exact alk_two h1 h2 (alk_str _) (alk_str _)
  | .nd b x y, u, v, ⟨a, u1, u2, e1, h1, p1, p2⟩, ⟨c, v1, v2, e2, h2, q1, q2⟩ => by
    rw [e1, e2]
    have l1 := alk_kd p1 q1
    have l2 := alk_kd p2 q2
    show Alk H (1 + max x.deep y.deep + 1) _ _
    rw [Nat.add_comm 1]
    exact alk_three h1 h2 (alk_str _) (l1.le (by omega)) (l2.le (by omega))
theorem alk_tr {H : Hp} : ∀ {t : Tr} {u v : V}, RepT H t u → RepT H t v → t.Gk 100 → Alk H (t.count + 101) u v
  | .wd, u, v, ⟨a, e1, h1⟩, ⟨b, e2, h2⟩, _ => by
    rw [e1, e2]
    exact alk_one (n := 101) h1 h2 (alk_str _)
  | .pr b l r, u, v, ⟨a, u1, u2, e1, h1, p1, p2⟩, ⟨c, v1, v2, e2, h2, q1, q2⟩, g => by
    rw [e1, e2]
    have l1 := alk_tr p1 q1 g.1
    have l2 := alk_tr p2 q2 g.2
    show Alk H (1 + l.count + r.count + 101) _ _
    rw [show 1 + l.count + r.count + 101 = (l.count + r.count + 100) + 1 + 1 by omega]
    exact alk_three h1 h2 (alk_str _) (l1.le (by omega)) (l2.le (by omega))
  | .gv b k p, u, v, ⟨a, u1, u2, e1, h1, p1, p2⟩, ⟨c, v1, v2, e2, h2, q1, q2⟩, g => by
    rw [e1, e2]
    have l1 := alk_kd p1 q1
    have l2 := alk_tr p2 q2 g.2
    have l3 := k.deep_le
    have l4 := g.1.2
    show Alk H (1 + p.count + 101) _ _
    rw [show 1 + p.count + 101 = (p.count + 100) + 1 + 1 by omega]
    exact alk_three h1 h2 (alk_str _) (l1.le (by omega)) (l2.le (by omega))
theorem alk_nl {H : Hp} {a b : Addr} {s : List Nat} (h1 : H a = some (.lst (nlist s))) (h2 : H b = some (.lst (nlist s))) (hl : s.length ≤ 900) : Alk H 2 (.ref a) (.ref b) :=
  .inr ⟨a, b, _, _, rfl, rfl, .inr ⟨h1, h2⟩, rfl, by rw [nlist_len]; exact hl, fun i y v hu hv => by
    rw [hu] at hv
    cases hv
    have hm := List.mem_of_getElem? hu
    obtain ⟨n, _, e⟩ := List.mem_map.mp hm
    exact .inl ⟨rfl, .inl ⟨_, e.symm⟩⟩⟩
theorem alk_places {H : Hp} {N M : Addr → Prop} {a b : Addr} {us vs : List V} {ps : List (List Nat)} (h1 : H a = some (.lst us)) (h2 : H b = some (.lst vs)) (a1 : AllP N H us ps) (a2 : AllP M H vs ps) (hl : ps.length ≤ 900) (hs : ∀ s ∈ ps, s.length ≤ 900) : Alk H 3 (.ref a) (.ref b) :=
  .inr ⟨a, b, us, vs, rfl, rfl, .inr ⟨h1, h2⟩, by rw [a1.length, a2.length], by rw [a1.length]; exact hl, fun i y v hu hv => by
    obtain ⟨s, c, e1, rfl, _, hc⟩ := a1.get hu
    obtain ⟨s', d, e2, rfl, _, hd⟩ := a2.get hv
    rw [e1] at e2
    cases e2
    exact alk_nl hc hd (hs s (List.mem_of_getElem? e1))⟩
theorem AllP.last {N : Addr → Prop} {H : Hp} {us : List V} {ps : List (List Nat)} (h : AllP N H us ps) (hn : ps ≠ []) : ∃ s a, ps[ps.length - 1]? = some s ∧ us[us.length - 1]? = some (.ref a) ∧ H a = some (.lst (nlist s)) := by
  have hp := List.length_pos_iff.mpr hn
  have e : ps[ps.length - 1]? = some (ps[ps.length - 1]'(by omega)) := List.getElem?_eq_getElem (by omega)
  obtain ⟨a, h1, _, h2⟩ := h.at e
  exact ⟨_, a, e, by rw [h.length]; exact h1, h2⟩
section
variable {P : Program} {w : World} {K : PySem.W.Frag} {mg : Str → Option Value} {base : Heap}
/-- x == [] of a list of places -/
theorem ve_nil {σ : L2.St} {H : Hp} {i : Nat} {a : Addr} {us : List V} {ps : List (List Nat)} {N : Addr → Prop} {Q : VK} (h0 : σ[i]? = some (some (.ref a))) (h1 : H a = some (.lst us)) (al : AllP N H us ps) (q : ∀ H', Same H H' → Q (.bl (decide (ps = []))) H') :
    tOp (rEqD K) (tVar i) (tLst tNil) σ H Q :=
  ⟨_, h0, Nat.zero_le _, fun e he => ⟨.list (ps.map pD), .list [], dp_list (same_new he _ _ h1) (al.mono (same_new he)), dp_nil upd_same, shaped_pDs ps, shaped_nil, by rw [eqv_nil]; exact q _ (same_new he)⟩⟩
theorem ans_nil {σ : L2.St} {H : Hp} {i : Nat} {a : Addr} {us : List V} {ps : List (List Nat)} {N : Addr → Prop} (h0 : σ[i]? = some (some (.ref a))) (h1 : H a = some (.lst us)) (al : AllP N H us ps) :
    AnsH (tTest (tOp (rEqD K) (tVar i) (tLst tNil))) σ H (decide (ps = [])) (Same H) := fun Q q => ve_nil h0 h1 al fun H' s => ⟨_, rfl, q H' s⟩
/-- the numbered reading of a tree -/
theorem mark0 {σ : L2.St} {H : Hp} {i : Nat} {v : V} {t : Tr} {Q : VK} (h0 : σ[i]? = some (some v)) (ht : RepT H t v) (hw : t.WF) (hc : t.count ≤ 100) (q : ∀ H' um, Same H H' → RepM H' (t.mark 0).1 um → Q um H') :
    tOp (rIxT K) (tCall (spMarked 100) [] E0 (tCons (tVar i) (tCons (tLst tNil) tNil))) (tC (.int 0)) σ H Q := by
  refine ⟨_, h0, Nat.zero_le _, fun c hc0 => ?_⟩
  have s1 := same_new (o := .lst []) hc0
  refine ⟨v, t, c, [], rfl, ht.mono (.of s1), hw, hc, upd_same, by show 0 + t.count ≤ 900; omega, fun r H' um ul xs' sB hx hl hr hm hne hul => ?_⟩
  refine ⟨r, _, _, _, rfl, rfl, .of hr, at0, ?_⟩
  exact q H' um (same_of_B hc0 sB) hm
/-! ### short -/
def spShortL : Sp := fun vs H Q _ => ∃ v t, vs = [v] ∧ RepT H t v ∧ TrOk t ∧ ∀ v' H' u, Same H H' → RepT H' u v' → ShortOf t u → Q v' H'
theorem ok_shortL (T : Top w K mg) : FnOk P w K mg base CX0 201 T.short.f T.short.fd ["_law_tree"] spShortL := by
  have G_marked : FnOk P w K mg base CX0 _ _ _ _ _ := ok_marked T 100
  have G_paths : FnOk P w K mg base CX0 _ _ _ _ _ := ok_paths T 100
  have G_stepped : FnOk P w K mg base CX0 _ _ _ _ _ := ok_stepped T 100
  have G_bare : FnOk P w K mg base CX0 _ _ _ _ _ := ok_bare T 100
  refine T.short.F.ok sc_short (fun vs H Q E h => ?_) (fun cdv A outer s H vs Q E hr h => ⟨_, PSs.nox (pss_cons (ps_set (i := 1) sc_short.nd rfl (Or.inl rfl) (pe_ix ix_tup (pe_call G_marked (hr.mono (by omega)) rfl T.marked.m T.marked.F.kp (b_marked T) .nil pass0 (pa_cons (pv 0) (pa_cons (pe_lst pa_nil) pa_nil))) pe_int (fun _ _ => rfl)))
    (pss_cons (ps_for PassesOwn.never rfl (pi_range1 rfl T.z_range (pa_cons pe_int pa_nil)) (pg_name (i := 2) sc_short.nd rfl (Or.inl rfl)) (pss_cons (ps_set (i := 3) sc_short.nd rfl (Or.inl rfl) (pe_call G_paths (hr.mono (by omega)) rfl T.paths.m T.paths.F.kp (b_paths T) .nil pass0 (pa_cons (pv 1) pa_nil)))
    (pss_cons (ps_if (pt_cmpR (op_eqD hr.units) (pv 3) (pe_lst pa_nil) (nomark _)) (pss_one ps_break) pss_nil)
    (pss_one (ps_set (i := 1) sc_short.nd rfl (Or.inl rfl) (pe_call G_stepped (hr.mono (by omega)) rfl T.stepped.m T.stepped.F.kp (b_stepped T) .nil pass0 (pa_cons (pv 1) (pa_cons (pe_ix ix_list (pv 3) (pe_un un_neg pe_int) (fun _ _ => rfl)) pa_nil))))))))
    (pss_one (ps_ret (pe_call G_bare (hr.mono (by omega)) rfl T.bare.m T.bare.F.kp (b_bare T) .nil pass0 (pa_cons (pv 1) pa_nil)))))), ?_⟩)
  · obtain ⟨v, t, rfl, _⟩ := h
    rfl
  · obtain ⟨v, t, rfl, ht, ⟨hw, hg, hc⟩, q⟩ := h
    refine sq_asg (mark0 rfl ht hw hc fun H1 um s1 hm => ?_)
    have mk := Tr.mark_ok (n := 0) hw
    refine sq_forR (n := 80) (fun Q' q' => q') (by decide) (fun i σ' H' => Same H H' ∧ ∃ vm M x2 x3, σ' = [some v, some vm, x2, x3] ∧ RepM H' M vm ∧ M.Good ∧ Tr.Steps i t M.bare) ?_ (fun i σ' H' hi hP => ?_) (fun σ' H' hP => ?_)
    · exact ⟨s1, um, _, _, _, rfl, hm, mk.1, mk.2.1.symm⟩
    · obtain ⟨s2, vm, M, x2, x3, rfl, hm2, g2, st2⟩ := hP
      have sc := st2.count
      refine sq_asg ?_
      refine ⟨_, rfl, vm, M, rfl, hm2, by omega, by omega, fun r3 H3 us s3 n3 e3 a3 => ?_⟩
      by_cases hn : M.bare.places = []
      · refine sq_yesH (by have h := ans_nil (K := K) (σ := [some v, some vm, some (.int (i : Nat)), some (.ref r3)]) (i := 3) rfl e3 a3; rw [decide_eq_true hn] at h; exact h) fun H4 s4 => ?_
        refine ⟨_, rfl, vm, M, rfl, hm2.mono ((KT.of s3).trans (.of s4)), by omega, fun v5 H5 s5 r5 => ?_⟩
        exact q v5 H5 _ (s2.trans (s3.trans (s4.trans s5))) r5 ⟨hn, i, st2⟩
      · refine sq_skipH (by have h := ans_nil (K := K) (σ := [some v, some vm, some (.int (i : Nat)), some (.ref r3)]) (i := 3) rfl e3 a3; rw [decide_eq_false hn] at h; exact h) fun H4 s4 => ?_
        obtain ⟨s, b, hs, hb1, hb2⟩ := a3.last hn
        have hsm := List.mem_of_getElem? hs
        have hsh := Tr.places_short hsm
        have so := Mr.step_ok g2 hsm
        refine ⟨_, rfl, _, rfl, 1, rfl, r3, us, _, _, rfl, rfl, .of (s4 _ _ e3), at_last hb1, vm, M, b, s, rfl, hm2.mono ((KT.of s3).trans (.of s4)), s4 _ _ hb2, hsm, by omega, by omega, fun v5 H5 s5 r5 => ?_⟩
        refine ⟨s2.trans (s3.trans (s4.trans s5)), v5, _, _, _, rfl, r5, so.2.2.1, ?_⟩
        rw [so.1]
        exact st2.trans (Tr.Steps.one (Tr.step_at hsm))
    · obtain ⟨s2, vm, M, x2, x3, rfl, hm2, g2, st2⟩ := hP
      have sc := st2.count
      omega
end
end WW
namespace WW
open PySem PySem.Spec PyProof.Rows L2
section
variable {P : Program} {w : World} {K : PySem.W.Frag} {mg : Str → Option Value} {base : Heap}
/-! ### steps_right -/
def spStepsRight : Sp := fun vs H Q _ => ∃ v t, vs = [v] ∧ RepT H t v ∧ TrOk t ∧ ∀ H', Same H H' → Q (.bl true) H'
theorem ok_steps_right (T : Top w K mg) : FnOk P w K mg base CX0 202 T.steps_right.f T.steps_right.fd ["_law_tree"] spStepsRight := by
  have G_marked : FnOk P w K mg base CX0 _ _ _ _ _ := ok_marked T 100
  have G_paths : FnOk P w K mg base CX0 _ _ _ _ _ := ok_paths T 100
  have G_stepped : FnOk P w K mg base CX0 _ _ _ _ _ := ok_stepped T 100
  have G_bare : FnOk P w K mg base CX0 _ _ _ _ _ := ok_bare T 100
  have G_same : FnOk P w K mg base CX0 _ _ _ _ _ := ok_same T 201
  have G_count : FnOk P w K mg base CX0 _ _ _ _ _ := ok_count T 100
  have G_steps : FnOk P w K mg base CX0 _ _ _ _ _ := ok_steps T
  have G_after_step : FnOk P w K mg base CX0 _ _ _ _ _ := ok_after_step T
  refine T.steps_right.F.ok sc_steps_right (fun vs H Q E h => ?_) (fun cdv A outer s H vs Q E hr h => ⟨_, PSs.nox (pss_cons (ps_set (i := 1) sc_steps_right.nd rfl (Or.inl rfl) (pe_ix ix_tup (pe_call G_marked (hr.mono (by omega)) rfl T.marked.m T.marked.F.kp (b_marked T) .nil pass0 (pa_cons (pv 0) (pa_cons (pe_lst pa_nil) pa_nil))) pe_int (fun _ _ => rfl)))
    (pss_cons (ps_for PassesOwn.never rfl (pi_list (pe_revL (pe_call G_paths (hr.mono (by omega)) rfl T.paths.m T.paths.F.kp (b_paths T) .nil pass0 (pa_cons (pv 1) pa_nil)))) (pg_name (i := 2) sc_steps_right.nd rfl (Or.inl rfl)) (pss_cons (ps_set (i := 3) sc_steps_right.nd rfl (Or.inl rfl) (pe_call G_bare (hr.mono (by omega)) rfl T.bare.m T.bare.F.kp (b_bare T) .nil pass0 (pa_cons (pe_call G_stepped (hr.mono (by omega)) rfl T.stepped.m T.stepped.F.kp (b_stepped T) .nil pass0 (pa_cons (pv 1) (pa_cons (pv 2) pa_nil))) pa_nil)))
    (pss_cons (ps_if (pt_not (pt_val (pe_call G_same (hr.mono (by omega)) rfl T.same.m T.same.F.kp (b_same T) .nil pass0 (pa_cons (pe_callK0 G_after_step (hr.mono (by omega)) rfl T.after_step.m T.after_step.F.kp (kb_after_step T) pass0 (pk_cons (pe_callTy call_list_of rfl T.z_list (by decide +kernel) (pa_cons (pv 2) pa_nil)) (pk_cons (pv 0) pk_nil))) (pa_cons (pv 3) pa_nil))))) (pss_one (ps_ret pe_bl)) pss_nil)
    (pss_one (ps_if (pt_cmpR op_ne (pe_call G_count (hr.mono (by omega)) rfl T.count.m T.count.F.kp (b_count T) .nil pass0 (pa_cons (pv 3) pa_nil)) (pe_op op_sub (pe_call G_count (hr.mono (by omega)) rfl T.count.m T.count.F.kp (b_count T) .nil pass0 (pa_cons (pv 0) pa_nil)) pe_int) (nomark _)) (pss_one (ps_ret pe_bl)) pss_nil)))))
    (pss_one (ps_ret (pe_call G_same (hr.mono (by omega)) rfl T.same.m T.same.F.kp (b_same T) .nil pass0 (pa_cons (pe_callK0 G_steps (hr.mono (by omega)) rfl T.steps.m T.steps.F.kp (kb_steps T) pass0 (pk_cons (pv 0) pk_nil)) (pa_cons (pe_call G_paths (hr.mono (by omega)) rfl T.paths.m T.paths.F.kp (b_paths T) .nil pass0 (pa_cons (pv 1) pa_nil)) pa_nil))))))), ?_⟩)
  · obtain ⟨v, t, rfl, _⟩ := h
    rfl
  · obtain ⟨v, t, rfl, ht, hok, q⟩ := h
    obtain ⟨hw, hg, hc⟩ := hok
    refine sq_asg (mark0 rfl ht hw hc fun H1 um s1 hm => ?_)
    have mk := Tr.mark_ok (n := 0) hw
    have mb : (t.mark 0).1.bare = t := mk.2.1
    have pl := Tr.places_len t
    refine sq_for ?_
    refine ⟨_, rfl, um, (t.mark 0).1, rfl, hm, by rw [mb]; exact hc, by rw [mb]; exact hc, fun r2 H2 us s2 n2 e2 a2 => ?_⟩
    rw [mb] at a2
    refine ⟨r2, us, rfl, .of e2, fun p3 n3 => ⟨p3, rfl, ⟨_, .of upd_same⟩, ?_⟩⟩
    have s3 := same_new (o := .lst us.reverse) n3
    have t3 := s1.trans (s2.trans s3)
    have hm3 := hm.mono ((KT.of s2).trans (.of s3))
    refine for_list (xs := us.reverse) (fun i σ' H' => Same (upd H2 p3 (.lst us.reverse)) H' ∧ ∃ x2 x3, σ' = [some v, some um, x2, x3]) ⟨Same.refl _, none, none, rfl⟩ (fun i σ' H' _ hP => .of (hP.1 _ _ upd_same)) (fun i x σ' H' hx hP => ?_) (fun σ' H' hP => ?_)
    · obtain ⟨s4, x2, x3, rfl⟩ := hP
      have hxm : x ∈ us := List.mem_reverse.mp (List.mem_of_getElem? hx)
      obtain ⟨j, hj⟩ := List.getElem?_of_mem hxm
      obtain ⟨s, b, hs, rfl, _, hb⟩ := a2.get hj
      have hsm := List.mem_of_getElem? hs
      have hsh := Tr.places_short hsm
      have so := Mr.step_ok mk.1 (show s ∈ (t.mark 0).1.bare.places by rw [mb]; exact hsm)
      rw [mb] at so
      have st := Tr.step_at hsm
      have sc := st.count
      have t4 := s3.trans s4
      refine sq_asg ?_
      refine ⟨_, rfl, _, rfl, um, (t.mark 0).1, b, s, rfl, hm3.mono (.of s4), t4 _ _ hb, by rw [mb]; exact hsm, by rw [mb]; exact hc, by omega, fun v5 H5 s5 r5 => ?_⟩
      refine ⟨v5, _, rfl, r5, by rw [so.1]; omega, fun v6 H6 s6 r6 => ?_⟩
      rw [so.1] at r6
      have t6 := t3.trans (s4.trans (s5.trans s6))
      refine sq_ifH (fun b H' => b = false ∧ Same H6 H') (fun Q' q' => ?_) (fun H7 hP => by cases hP.1) (fun H7 hP => ?_)
      · refine ⟨_, rfl, b, nlist s, rfl, .inl (.of ((t4.trans (s5.trans s6)) _ _ hb)), fun l nl => ⟨_, rfl, rfl, rfl, v, t, l, s, rfl, (ht.mono (.of t6)).mono (.of (same_new nl)), ⟨hw, hg, hc⟩, upd_same, hsm, fun v7 H7 s7 r7 => ?_⟩⟩
        have sl := same_new (o := .lst (nlist s)) nl
        have gk := st.gk hg
        refine ⟨_, rfl, v7, v6, rfl, (alk_tr r7 (r6.mono (.of (sl.trans s7))) gk).le (by omega), fun H8 s8 => ⟨true, rfl, q' _ _ ⟨rfl, sl.trans (s7.trans s8)⟩⟩⟩
      · have s7 := hP.2
        refine st_ifH (fun b H' => b = false ∧ Same H7 H') (fun Q' q' => ?_) (fun H8 hP => by cases hP.1) (fun H8 hP => ?_)
        · refine ⟨_, rfl, v6, _, rfl, r6.mono (.of s7), by omega, fun H8 s8 => ?_⟩
          refine ⟨_, rfl, v, t, rfl, ht.mono (.of (t6.trans (s7.trans s8))), hc, fun H9 s9 => ?_⟩
          refine ⟨_, _, rfl, rfl, rfl, _, rfl, q' _ _ ⟨?_, s8.trans s9⟩⟩
          rw [decide_eq_true (congrArg V.int (show (((t.stepAt s).count : Nat) : Int) = ((t.count : Nat) : Int) - 3 by omega))]
          rfl
        · exact ⟨s4.trans (s5.trans (s6.trans (s7.trans hP.2))), _, _, rfl⟩
    · obtain ⟨s4, x2, x3, rfl⟩ := hP
      have t4 := t3.trans s4
      have pk : ∀ s ∈ t.places, s.length ≤ 900 := fun s hs => by
        have := (Tr.places_short hs).1
        omega
      refine ⟨_, rfl, rfl, rfl, v, t, rfl, ht.mono (.of t4), ⟨hw, hg, hc⟩, fun r5 H5 us5 s5 n5 e5 a5 => ?_⟩
      refine ⟨_, rfl, um, (t.mark 0).1, rfl, hm3.mono (.of (s4.trans s5)), by rw [mb]; exact hc, by rw [mb]; exact hc, fun r6 H6 us6 s6 n6 e6 a6 => ?_⟩
      rw [mb] at a6
      exact ⟨_, _, rfl, (alk_places (s6 _ _ e5) e6 (a5.mono s6) a6 (by omega) pk).le (by decide), fun H7 s7 => q H7 (t4.trans (s5.trans (s6.trans s7)))⟩
end
end WW
namespace WW
open PySem PySem.Spec PyProof.Rows L2
theorem alk_bl {H : Hp} {n : Nat} (b : Bool) : Alk H (n + 1) (.bl b) (.bl b) := .inl ⟨rfl, .inr (.inr ⟨b, rfl⟩)⟩
theorem spot_at {md n c : Nat} (hm : md < 3) (hn : 0 < n) (hc : c < n) : ∃ e : Nat, e < n ∧ ([.int 0, .int ((n : Int) - 1), .int (c : Nat)] : List V)[md]? = some (.int (e : Nat)) := by
  match md, hm with
  | 0, _ => exact ⟨0, hn, rfl⟩
  | 1, _ => exact ⟨n - 1, by omega, congrArg (fun x => some (V.int x)) (by omega)⟩
  | 2, _ => exact ⟨c, hc, rfl⟩
theorem not_in {N : Addr → Prop} {H : Hp} {r : Addr} {us : List V} {ps : List (List Nat)} (h : AllP N H us ps) (hr : H r = some (.lst us)) : V.ref r ∉ us := fun hm => by
  obtain ⟨j, hj⟩ := List.getElem?_of_mem hm
  obtain ⟨s, b, _, e, _, hb⟩ := h.get hj
  have e2 : r = b := V.ref.inj e
  rw [← e2, hr] at hb
  have e3 : us = nlist s := HO.lst.inj (Option.some.inj hb)
  rw [e3] at hm
  obtain ⟨n, _, e4⟩ := List.mem_map.mp hm
  cases e4
section
variable {P : Program} {w : World} {K : PySem.W.Frag} {mg : Str → Option Value} {base : Heap}
/-! ### walk -/
def spWalk : Sp := fun vs H Q _ => ∃ (p : Addr) (v : V) (kk : Int) (md m : Nat) (z : Str) (t : Tr), vs = [.ref p, v, .int kk] ∧ kk = (md : Int) ∧ md < 3 ∧ RepT H t v ∧ TrOk t ∧ Pool H p m [.str z] ∧ m + 100 ≤ 90000 ∧
  ∀ H' r v' u k, SameB p H H' → Pool H' p (m + 40) [.str z] → H' r = some (.lst [.int (k : Nat), v']) → RepT H' u v' → Tr.Steps k t u → u.places = [] → Q (.ref r) H'
theorem ok_walk (T : Top w K mg) : FnOk P w K mg base CX0 202 T.walk.f T.walk.fd ["_law_pool_here", "_law_tree", "_law_mode"] spWalk := by
  have G_marked : FnOk P w K mg base CX0 _ _ _ _ _ := ok_marked T 100
  have G_paths : FnOk P w K mg base CX0 _ _ _ _ _ := ok_paths T 100
  have G_stepped : FnOk P w K mg base CX0 _ _ _ _ _ := ok_stepped T 100
  have G_bare : FnOk P w K mg base CX0 _ _ _ _ _ := ok_bare T 100
  have G_same : FnOk P w K mg base CX0 _ _ _ _ _ := ok_same T 201
  have G_pick : FnOk P w K mg base CX0 _ _ _ _ _ := ok_pick T
  have G_spoil : FnOk P w K mg base CX0 _ _ _ _ _ := ok_spoil2 T
  have G_steps : FnOk P w K mg base CX0 _ _ _ _ _ := ok_steps T
  have G_is_short : FnOk P w K mg base CX0 _ _ _ _ _ := ok_is_short T
  have G_after_step : FnOk P w K mg base CX0 _ _ _ _ _ := ok_after_step T
  refine T.walk.F.ok sc_walk (fun vs H Q E h => ?_) (fun cdv A outer s H vs Q E hr h => ⟨_, PSs.nox (pss_cons (ps_par (i := 3) (j := 4) rfl sc_walk.nd rfl rfl (by decide) rfl rfl (pa_cons (pe_ix ix_tup (pe_call G_marked (hr.mono (by omega)) rfl T.marked.m T.marked.F.kp (b_marked T) .nil pass0 (pa_cons (pv 1) (pa_cons (pe_lst pa_nil) pa_nil))) pe_int (fun _ _ => rfl)) (pa_cons (pv 1) pa_nil)) rfl)
    (pss_cons (ps_for PassesOwn.never rfl (pi_range1 rfl T.z_range (pa_cons pe_int pa_nil)) (pg_name (i := 5) sc_walk.nd rfl (Or.inl rfl)) (pss_cons (ps_set (i := 6) sc_walk.nd rfl (Or.inl rfl) (pe_call G_paths (hr.mono (by omega)) rfl T.paths.m T.paths.F.kp (b_paths T) .nil pass0 (pa_cons (pv 3) pa_nil)))
    (pss_cons (ps_set (i := 7) sc_walk.nd rfl (Or.inl rfl) (pe_call G_steps (hr.mono (by omega)) rfl T.steps.m T.steps.F.kp (b_steps T) .nil pass0 (pa_cons (pv 4) pa_nil)))
    (pss_cons (ps_if (PW.pt (pw_or (pt_not (pt_val (pe_call G_same (hr.mono (by omega)) rfl T.same.m T.same.F.kp (b_same T) .nil pass0 (pa_cons (pv 7) (pa_cons (pv 6) pa_nil))))) (pw_or1 (pt_not (pt_val (pe_call G_same (hr.mono (by omega)) rfl T.same.m T.same.F.kp (b_same T) .nil pass0 (pa_cons (pe_call G_is_short (hr.mono (by omega)) rfl T.is_short.m T.is_short.F.kp (b_is_short T) .nil pass0 (pa_cons (pv 4) pa_nil)) (pa_cons (pe_cmpR (op_eqD hr.units) (pv 6) (pe_lst pa_nil) (nomark _)) pa_nil)))))))) (pss_one (ps_ret pe_non)) pss_nil)
    (pss_cons (ps_if (pt_cmpR (op_eqD hr.units) (pv 6) (pe_lst pa_nil) (nomark _)) (pss_one (ps_ret (pe_lst (pa_cons (pv 5) (pa_cons (pv 4) pa_nil))))) pss_nil)
    (pss_cons (ps_set (i := 8) sc_walk.nd rfl (Or.inl rfl) (pe_lst (pa_cons pe_int (pa_cons (pe_op op_sub (pe_callB call_len_seq rfl T.z_len PySem.boot_len (pa_cons (pv 6) pa_nil)) pe_int) (pa_cons (pe_call G_pick (hr.mono (by omega)) rfl T.pick.m T.pick.F.kp (b_pick T) .nil pass0 (pa_cons (pv 0) (pa_cons (pe_callB call_len_seq rfl T.z_len PySem.boot_len (pa_cons (pv 6) pa_nil)) pa_nil))) pa_nil)))))
    (pss_cons (ps_set (i := 9) sc_walk.nd rfl (Or.inl rfl) (pe_ix ix_list (pv 6) (pe_ix ix_list (pv 8) (pv 2) (fun _ _ => rfl)) (fun _ _ => rfl)))
    (pss_cons (ps_set (i := 3) sc_walk.nd rfl (Or.inl rfl) (pe_call G_stepped (hr.mono (by omega)) rfl T.stepped.m T.stepped.F.kp (b_stepped T) .nil pass0 (pa_cons (pv 3) (pa_cons (pv 9) pa_nil))))
    (pss_cons (ps_set (i := 10) sc_walk.nd rfl (Or.inl rfl) (pe_callTy call_list_of rfl T.z_list (by decide +kernel) (pa_cons (pv 9) pa_nil)))
    (pss_cons (ps_set (i := 4) sc_walk.nd rfl (Or.inl rfl) (pe_call G_after_step (hr.mono (by omega)) rfl T.after_step.m T.after_step.F.kp (b_after_step T) .nil pass0 (pa_cons (pv 4) (pa_cons (pv 10) pa_nil))))
    (pss_cons (ps_if (PW.pt (pw_or (pt_not (pt_val (pe_call G_same (hr.mono (by omega)) rfl T.same.m T.same.F.kp (b_same T) .nil pass0 (pa_cons (pv 4) (pa_cons (pe_call G_bare (hr.mono (by omega)) rfl T.bare.m T.bare.F.kp (b_bare T) .nil pass0 (pa_cons (pv 3) pa_nil)) pa_nil))))) (pw_or1 (pt_cmpR (op_neD hr.units) (pv 10) (pv 9) (nomark _))))) (pss_one (ps_ret pe_non)) pss_nil)
    (pss_cons (ps_expr (pe_bm PySem.F.plainAttrs_list PySem.F.slot_list_append PySem.F.type_list_append mt_append (pv 10) (pa_cons pe_int pa_nil)))
    (pss_one (ps_expr (pe_call G_spoil (hr.mono (by omega)) rfl T.spoil.m T.spoil.F.kp (b_spoil T) .nil pass0 (pa_cons (pv 7) pa_nil))))))))))))))))
    (pss_one (ps_ret pe_non)))), ?_⟩)
  · obtain ⟨p, v, kk, md, m, z, t, rfl, _⟩ := h
    rfl
  · obtain ⟨p, v, kk, md, m, z, t, rfl, rfl, hmd, ht, ⟨hw, hg, hc⟩, hp, hm, q⟩ := h
    refine sq_par (mark0 rfl ht hw hc fun H1 um s1 hm1 => ⟨_, rfl, _, _, rfl, ?_⟩)
    have mk := Tr.mark_ok (n := 0) hw
    refine sq_forR (n := 40) (fun Q' q' => q') (by decide) (fun i σ' H' => SameB p H H' ∧ Pool H' p (m + i) [.str z] ∧ ∃ um M v' x5 x6 x7 x8 x9 x10, σ' = [some (.ref p), some v, some (.int (md : Nat)), some um, some v', x5, x6, x7, x8, x9, x10] ∧ RepM H' M um ∧ M.Good ∧ RepT H' M.bare v' ∧ Tr.Steps i t M.bare) ?_ (fun i σ' H' hi hP => ?_) (fun σ' H' hP => ?_)
    · refine ⟨.of s1, (hp.same s1).le (Nat.le_add_right _ _), um, _, v, _, _, _, _, _, _, rfl, hm1, mk.1, ?_, mk.2.1.symm⟩
      rw [mk.2.1]
      exact ht.mono (.of s1)
    · obtain ⟨sB, hpi, um, M, v', x5, x6, x7, x8, x9, x10, rfl, hM, hG, hR, hS⟩ := hP
      have sc := hS.count
      have swf := (hS.wf hw).1
      have sgk := hS.gk hg
      have hcM : M.bare.count ≤ 100 := by omega
      have pl := Tr.places_len M.bare
      have pk : ∀ s ∈ M.bare.places, s.length ≤ 900 := fun s hs => by
        have := (Tr.places_short hs).1
        omega
      refine sq_asg ?_
      refine ⟨_, rfl, um, M, rfl, hM, hcM, hcM, fun r6 H6 us6 s6 n6 e6 a6 => ?_⟩
      refine sq_asg ?_
      refine ⟨_, rfl, v', M.bare, rfl, hR.mono (.of s6), ⟨swf, sgk, hcM⟩, fun r7 H7 us7 s7 n7 e7 a7 => ?_⟩
      have t7 := s6.trans s7
      refine sq_ifH (fun b H'' => b = false ∧ Same H7 H'') (fun Q' q' => ?_) (fun H8 hP => by cases hP.1) (fun H8 hP => ?_)
      · refine ⟨_, rfl, _, rfl, _, _, rfl, (alk_places e7 (s7 _ _ e6) a7 (a6.mono s7) (by omega) pk).le (by decide), fun H8 s8 => ⟨true, rfl, itN Bool.false_ne_true ?_⟩⟩
        refine ⟨_, rfl, v', M.bare, rfl, hR.mono (.of (t7.trans s8)), ⟨swf, sgk, hcM⟩, fun H9 s9 => ?_⟩
        have t9 := s7.trans (s8.trans s9)
        refine ve_nil rfl (t9 _ _ e6) (a6.mono t9) fun H10 s10 => ⟨_, _, rfl, alk_bl _, fun H11 s11 => ⟨true, rfl, q' _ _ ⟨rfl, s8.trans (s9.trans (s10.trans s11))⟩⟩⟩
      have s8 := hP.2
      have t8 := s7.trans s8
      by_cases hn : M.bare.places = []
      · refine sq_ifH (fun b H'' => b = true ∧ Same H8 H'') (fun Q' q' => ?_) (fun H9 hP => ?_) (fun H9 hP => by cases hP.1)
        · refine ve_nil rfl (t8 _ _ e6) (a6.mono t8) fun H9 s9 => ⟨_, rfl, q' _ _ ⟨decide_eq_true hn, s9⟩⟩
        have s9 := hP.2
        have t9 := s6.trans (t8.trans s9)
        refine ⟨_, rfl, _, rfl, (by show 2 ≤ sizeLine; decide), fun r10 n10 => ?_⟩
        have s10 := same_new (o := .lst [.int (i : Nat), v']) n10
        exact q _ r10 v' M.bare i (sB.trans (.of (t9.trans s10))) ((hpi.same (t9.trans s10)).le (by omega)) upd_same (hR.mono (.of (t9.trans s10))) hS hn
      · refine sq_ifH (fun b H'' => b = false ∧ Same H8 H'') (fun Q' q' => ?_) (fun H9 hP => by cases hP.1) (fun H9 hP => ?_)
        · refine ve_nil rfl (t8 _ _ e6) (a6.mono t8) fun H9 s9 => ⟨_, rfl, q' _ _ ⟨decide_eq_false hn, s9⟩⟩
        have s9 := hP.2
        have t69 := t8.trans s9
        have t9 := s6.trans t69
        have hpl : 0 < M.bare.places.length := List.length_pos_iff.mpr hn
        have l6 := a6.length
        have hp9 := hpi.same t9
        obtain ⟨px, hpx⟩ := hpi.lst
        have h6p : r6 ≠ p := fr_ne n6 hpx
        have h7p : r7 ≠ p := fr_ne n7 (s6 _ _ hpx)
        refine sq_asg ?_
        refine ⟨_, rfl, r6, us6, rfl, .inl (.of (t69 _ _ e6)), _, _, rfl, rfl, ?_⟩
        refine ⟨_, rfl, _, rfl, r6, us6, rfl, .inl (.of (t69 _ _ e6)), p, _, us6.length, m + i, _, rfl, rfl, by omega, by omega, hp9, by omega, fun H10 c hc10 s10 hp10 => ⟨(by show 3 ≤ sizeLine; decide), fun l8 n8 => ?_⟩⟩
        have s11 := same_new (o := .lst [.int 0, .int ((us6.length : Nat) - 1 : Int), .int (c : Nat)]) n8
        have t11 : SameB p _ _ := s10.trans (.of s11)
        have hp11 := hp10.same s11
        obtain ⟨e, he, hsp⟩ := spot_at hmd (show 0 < us6.length by omega) hc10
        have k611 : KT H6 _ := (KT.of t69).trans ((hp9.kt s10).trans (.of s11))
        have k911 : KT H' _ := (KT.of s6).trans k611
        have e611 := t11 _ _ h6p (t69 _ _ e6)
        have hs : M.bare.places[e]? = some (M.bare.places[e]'(by omega)) := List.getElem?_eq_getElem (by omega)
        generalize hss : M.bare.places[e]'(by omega) = s at hs
        obtain ⟨b, hb1, hb2, hb3⟩ := a6.at hs
        have hsm := List.mem_of_getElem? hs
        have hsh := Tr.places_short hsm
        have so := Mr.step_ok hG hsm
        have st := Tr.step_at hsm
        have sct := st.count
        have hbp : b ≠ p := fr_ne hb2 hpx
        have hb11 := t11 _ _ hbp (t69 _ _ hb3)
        refine sq_asg ?_
        refine ⟨_, rfl, _, rfl, _, rfl, l8, _, _, _, rfl, rfl, .of upd_same, atI_nat hsp, r6, us6, _, _, rfl, rfl, .of e611, atI_nat hb1, ?_⟩
        refine sq_asg ?_
        refine ⟨_, rfl, _, rfl, um, M, b, s, rfl, hM.mono k911, hb11, hsm, hcM, by omega, fun v12 H12 s12 r12 => ?_⟩
        refine sq_asg ?_
        refine ⟨_, rfl, b, nlist s, rfl, .inl (.of (s12 _ _ hb11)), fun l13 n13 => ?_⟩
        have s13 := same_new (o := .lst (nlist s)) n13
        refine sq_asg ?_
        refine ⟨_, rfl, _, rfl, v', M.bare, l13, s, rfl, hR.mono (k911.trans (.of (s12.trans s13))), ⟨swf, sgk, hcM⟩, upd_same, hsm, fun v14 H14 s14 r14 => ?_⟩
        have gk := st.gk sgk
        refine sq_ifH (fun b H'' => b = false ∧ Same H14 H'') (fun Q' q' => ?_) (fun H15 hP => by cases hP.1) (fun H15 hP => ?_)
        · refine ⟨_, rfl, _, rfl, v12, _, rfl, r12.mono (.of (s13.trans s14)), by rw [so.1]; omega, fun v15 H15 s15 r15 => ?_⟩
          rw [so.1] at r15
          refine ⟨_, _, rfl, (alk_tr (r14.mono (.of s15)) r15 gk).le (by omega), fun H16 s16 => ⟨true, rfl, itN Bool.false_ne_true ?_⟩⟩
          have t16 := s14.trans (s15.trans s16)
          refine ⟨_, rfl, _, rfl, pD s, pD s, dp_pD (t16 _ _ upd_same), dp_pD (t16 _ _ (s13 _ _ (s12 _ _ hb11))), shaped_pD s, shaped_pD s, _, rfl, ?_⟩
          rw [eqv_pD]
          exact q' _ _ ⟨rfl, s15.trans s16⟩
        have s15 := s14.trans hP.2
        have t15 := s13.trans s15
        have sE := Same.mut (o := .lst (nlist s ++ [.int 1])) t15 n13
        have e13 := s15 _ _ (upd_same (H := H12) (a := l13) (o := .lst (nlist s)))
        refine ⟨_, rfl, .inl ⟨rfl, _, .of e13⟩, l13, nlist s, _, rfl, rfl, e13, ?_, ?_⟩
        · rw [nlist_len]
          exact small1000 (by omega)
        have kE : KT H14 (upd H15 l13 (.lst (nlist s ++ [.int 1]))) := (KT.of hP.2).trans (kt_lst e13)
        have al7 : ∀ b o, b ≠ p → H7 b = some o → (upd H15 l13 (.lst (nlist s ++ [.int 1]))) b = some o := fun b o hb h => sE _ _ (s12 _ _ (t11 _ _ hb ((s8.trans s9) _ _ h)))
        have l7 := a7.length
        have el7 : ∀ u ∈ us7, ∃ (c : Addr) (s' : List Nat), u = .ref c ∧ H6 c = none ∧ H7 c = some (.lst (nlist s')) ∧ s' ∈ M.bare.places := fun u hu => by
          obtain ⟨j, hj⟩ := List.getElem?_of_mem hu
          obtain ⟨s', c, h1, h2, h3, h4⟩ := a7.get hj
          exact ⟨c, s', h2, h3, h4, List.mem_of_getElem? h1⟩
        have hp6 := s6 _ _ hpx
        refine ⟨_, rfl, r7, us7, rfl, al7 _ _ h7p e7, by omega, not_in a7 e7, fun u hu => ?_, fun H18 hf => ?_⟩
        · obtain ⟨c, s', h1, h2, h3, h4⟩ := el7 u hu
          refine ⟨c, nlist s', h1, al7 _ _ (fr_ne h2 hp6) h3, fun x hx => ?_, ?_⟩
          · obtain ⟨y, _, ey⟩ := List.mem_map.mp hx
            exact .inl ⟨_, ey.symm⟩
          · rw [nlist_len]
            have := (Tr.places_short h4).1
            omega
        · have out6 : ∀ c o, H6 c = some o → V.ref c ∉ us7 ∧ c ≠ r7 := fun c o hc => by
            refine ⟨fun hu => ?_, fun e => ?_⟩
            · obtain ⟨d, s', h1, h2, _⟩ := el7 _ hu
              have e2 : c = d := V.ref.inj h1
              rw [← e2, hc] at h2
              cases h2
            · rw [e, n7] at hc
              cases hc
          have k18 : KT (upd H15 l13 (.lst (nlist s ++ [.int 1]))) H18 := fun c xs hc => by
            refine hf c _ (fun hu => ?_) (fun e => ?_) hc
            · obtain ⟨d, s', h1, h2, h3, _⟩ := el7 _ hu
              have e2 : c = d := V.ref.inj h1
              have h5 := al7 _ _ (fr_ne h2 hp6) h3
              rw [← e2, hc] at h5
              cases h5
            · have h5 := al7 _ _ h7p e7
              rw [← e, hc] at h5
              cases h5
          refine ⟨fun c o hcp hc => ?_, ?_, v12, M.stepAt s, v14, _, _, _, _, _, _, rfl, (r12.mono (.of sE)).mono k18, so.2.2.1, ?_, ?_⟩
          · have h6 := s6 _ _ (sB _ _ hcp hc)
            have ho := out6 _ _ h6
            exact hf _ _ ho.1 ho.2 (al7 _ _ hcp (s7 _ _ h6))
          · obtain ⟨i1, j1, n1, q1, q2⟩ := hp11
            have ho := out6 _ _ hp6
            exact ⟨i1, j1, n1, hf _ _ ho.1 ho.2 (sE _ _ (s12 _ _ q1)), q2⟩
          · rw [so.1]
            exact (r14.mono kE).mono k18
          · rw [so.1]
            exact hS.trans (Tr.Steps.one st)
    · obtain ⟨sB, hpi, um, M, v', x5, x6, x7, x8, x9, x10, rfl, hM, hG, hR, hS⟩ := hP
      have sc := hS.count
      omega
end
end WW
namespace WW
open PySem PySem.Spec PyProof.Rows L2
theorem md_at {i : Nat} {x : V} (h : ([.int 0, .int 1, .int 2, .int 2] : List V)[i]? = some x) : i < 4 ∧ ∃ md : Nat, md < 3 ∧ x = .int (md : Nat) := by
  match i, h with
  | 0, h => exact ⟨by decide, 0, by decide, (Option.some.inj h).symm⟩
  | 1, h => exact ⟨by decide, 1, by decide, (Option.some.inj h).symm⟩
  | 2, h => exact ⟨by decide, 2, by decide, (Option.some.inj h).symm⟩
  | 3, h => exact ⟨by decide, 2, by decide, (Option.some.inj h).symm⟩
  | i + 4, h => cases h
section
variable {P : Program} {w : World} {K : PySem.W.Frag} {mg : Str → Option Value} {base : Heap}
/-! ### right -/
def spRight : Sp := fun vs H Q _ => ∃ (p : Addr) (z : Str), vs = [.ref p] ∧ Pool H p 1 [.str z] ∧ SignsOk z ∧ ∀ H', SameB p H H' → Q (.bl true) H'
theorem ok_right (T : Top w K mg) : FnOk P w K mg base CX0 204 T.right.f T.right.fd ["_law_pool_here"] spRight := by
  have G_made : FnOk P w K mg base CX0 _ _ _ _ _ := ok_makes T
  have G_pick : FnOk P w K mg base CX0 _ _ _ _ _ := ok_pick T
  have G_wild : FnOk P w K mg base CX0 _ _ _ _ _ := ok_wild T 45
  have G_short : FnOk P w K mg base CX0 _ _ _ _ _ := ok_shortL T
  have G_steps_right : FnOk P w K mg base CX0 _ _ _ _ _ := ok_steps_right T
  have G_walk : FnOk P w K mg base CX0 _ _ _ _ _ := ok_walk T
  have G_count : FnOk P w K mg base CX0 _ _ _ _ _ := ok_count T 100
  have G_same : FnOk P w K mg base CX0 _ _ _ _ _ := ok_same T 201
  have G_shortened : FnOk P w K mg base CX0 _ _ _ _ _ := ok_shortened T
  refine T.right.F.ok sc_right (fun vs H Q E h => ?_) (fun cdv A outer s H vs Q E hr h => ⟨_, PSs.nox (pss_cons (ps_set (i := 1) sc_right.nd rfl (Or.inl rfl) (pe_ix ix_tup (pe_call G_made (hr.mono (by omega)) rfl T.made.m T.made.F.kp (b_made T) .nil pass0 (pa_cons (pv 0) (pa_cons (pe_op op_add pe_int (pe_call G_pick (hr.mono (by omega)) rfl T.pick.m T.pick.F.kp (b_pick T) .nil pass0 (pa_cons (pv 0) (pa_cons pe_int pa_nil)))) pa_nil))) pe_int (fun _ _ => rfl)))
    (pss_cons (ps_if (pt_cmpR op_gt (pe_call G_pick (hr.mono (by omega)) rfl T.pick.m T.pick.F.kp (b_pick T) .nil pass0 (pa_cons (pv 0) (pa_cons pe_int pa_nil))) pe_int (nomark _)) (pss_cons (ps_set (i := 2) sc_right.nd rfl (Or.inl rfl) (pe_op op_add pe_int (pe_call G_pick (hr.mono (by omega)) rfl T.pick.m T.pick.F.kp (b_pick T) .nil pass0 (pa_cons (pv 0) (pa_cons pe_int pa_nil)))))
    (pss_one (ps_set (i := 1) sc_right.nd rfl (Or.inl rfl) (pe_call G_wild (hr.mono (by omega)) rfl T.wild.m T.wild.F.kp (b_wild T) .nil pass0 (pa_cons (pv 0) (pa_cons (pv 2) (pa_cons (pe_op op_add (pe_op op_sub (pe_op op_mul pe_int (pv 2)) pe_int) (pe_call G_pick (hr.mono (by omega)) rfl T.pick.m T.pick.F.kp (b_pick T) .nil pass0 (pa_cons (pv 0) (pa_cons (pe_op op_sub pe_int (pe_op op_mul pe_int (pv 2))) pa_nil)))) pa_nil))))))) pss_nil)
    (pss_cons (ps_set (i := 3) sc_right.nd rfl (Or.inl rfl) (pe_call G_short (hr.mono (by omega)) rfl T.short.m T.short.F.kp (b_short T) .nil pass0 (pa_cons (pv 1) pa_nil)))
    (pss_cons (ps_if (pt_not (pt_val (pe_call G_steps_right (hr.mono (by omega)) rfl T.steps_right.m T.steps_right.F.kp (b_steps_right T) .nil pass0 (pa_cons (pv 1) pa_nil)))) (pss_one (ps_ret pe_bl)) pss_nil)
    (pss_cons (ps_for PassesOwn.never rfl (pi_list (pe_lst (pa_cons pe_int (pa_cons pe_int (pa_cons pe_int (pa_cons pe_int pa_nil)))))) (pg_name (i := 4) sc_right.nd rfl (Or.inl rfl)) (pss_cons (ps_set (i := 5) sc_right.nd rfl (Or.inl rfl) (pe_call G_walk (hr.mono (by omega)) rfl T.walk.m T.walk.F.kp (b_walk T) .nil pass0 (pa_cons (pv 0) (pa_cons (pv 1) (pa_cons (pv 4) pa_nil)))))
    (pss_one (ps_if (PW.pt (pw_or (pt_cmpR op_isN (pv 5) pe_non (nomark _)) (pw_or (pt_cmpR op_ne (pe_op op_mul (pe_ix ix_list (pv 5) pe_int (fun _ _ => rfl)) pe_int) (pe_op op_sub (pe_call G_count (hr.mono (by omega)) rfl T.count.m T.count.F.kp (b_count T) .nil pass0 (pa_cons (pv 1) pa_nil)) (pe_call G_count (hr.mono (by omega)) rfl T.count.m T.count.F.kp (b_count T) .nil pass0 (pa_cons (pv 3) pa_nil))) (nomark _)) (pw_or1 (pt_not (pt_val (pe_call G_same (hr.mono (by omega)) rfl T.same.m T.same.F.kp (b_same T) .nil pass0 (pa_cons (pe_ix ix_list (pv 5) pe_int (fun _ _ => rfl)) (pa_cons (pv 3) pa_nil))))))))) (pss_one (ps_ret pe_bl)) pss_nil))))
    (pss_one (ps_ret (pe_and (pe_call G_same (hr.mono (by omega)) rfl T.same.m T.same.F.kp (b_same T) .nil pass0 (pa_cons (pe_call G_shortened (hr.mono (by omega)) rfl T.shortened.m T.shortened.F.kp (b_shortened T) .nil pass0 (pa_cons (pv 1) pa_nil)) (pa_cons (pv 3) pa_nil))) (pe_one (pe_call G_steps_right (hr.mono (by omega)) rfl T.steps_right.m T.steps_right.F.kp (b_steps_right T) .nil pass0 (pa_cons (pv 1) pa_nil))))))))))), ?_⟩)
  · obtain ⟨p, z, rfl, _⟩ := h
    rfl
  · obtain ⟨p, z, rfl, hp, hz, q⟩ := h
    refine sq_asg ?_
    refine ⟨_, rfl, _, rfl, p, 9, 9, 1, _, rfl, rfl, by decide, by decide, hp, by omega, fun H1 c1 hc1 s1 hp1 => ⟨_, _, rfl, rfl, ?_⟩⟩
    refine ⟨p, _, 4 + c1, 2, z, rfl, by omega, by omega, hp1, hz, by omega, fun H2 v2 ks t k s2 hp2 hd2 ⟨m1, m2, m3, m4, _⟩ => ?_⟩
    obtain ⟨r, L, us, u, sg, rfl, hr0, _, _, _, ht, _⟩ := hd2
    refine ⟨r, _, _, _, rfl, rfl, .of hr0, at1, ?_⟩
    have s12 := s1.trans s2
    refine sq_mid (fun σ' H' => SameB p H H' ∧ Pool H' p 3000 [.str z] ∧ ∃ v t x2, σ' = [some (.ref p), some v, x2, none, none, none] ∧ RepT H' t v ∧ TrOk t) (fun N hN => ?_) (fun σ' H' hR => ?_)
    · refine st_ifH (fun b H' => SameB p H2 H' ∧ Pool H' p 503 [.str z]) (fun Q' q' => ?_) (fun H3 hP => ?_) (fun H3 hP => ?_)
      · refine ⟨_, rfl, p, 3, 3, _, _, rfl, rfl, by decide, by decide, hp2, by omega, fun H3 c3 hc3 s3 hp3 => ⟨_, _, rfl, rfl, _, rfl, q' _ _ ⟨s3, hp3.le (by omega)⟩⟩⟩
      · obtain ⟨s3, hp3⟩ := hP
        refine sq_asg ?_
        refine ⟨_, rfl, p, 6, 6, _, _, rfl, rfl, by decide, by decide, hp3, by omega, fun H4 c4 hc4 s4 hp4 => ⟨_, _, rfl, rfl, ?_⟩⟩
        obtain ⟨wd, hwd⟩ : ∃ wd : Nat, ((1 : Int) + (c4 : Int)) = (wd : Int) := ⟨1 + c4, by omega⟩
        refine asg_to hwd ?_
        refine ⟨_, rfl, _, rfl, _, rfl, _, _, rfl, rfl, .inl ⟨by decide, by decide⟩, _, _, rfl, rfl, _, rfl, _, rfl, _, _, rfl, rfl, .inl ⟨by decide, by decide⟩, _, _, rfl, rfl, p, _, 42 - 2 * wd, _, _, rfl, by omega, by omega, by omega, hp4, by omega, fun H5 c5 hc5 s5 hp5 => ⟨_, _, rfl, rfl, ?_⟩⟩
        refine ⟨p, _, _, wd, 2 * wd - 1 + c5, _, z, rfl, by omega, by omega, by omega, by omega, by omega, by omega, by omega, hp5, hz, by omega, fun H6 v6 t6 s6 hp6 ht6 hw6 hwd6 hg6 hc6 => ?_⟩
        exact hN _ _ ⟨s12.trans (s3.trans (s4.trans (s5.trans s6))), hp6.le (by omega), v6, t6, _, rfl, ht6, hw6, hg6.mono (by decide), by omega⟩
      · obtain ⟨s3, hp3⟩ := hP
        exact hN _ _ ⟨s12.trans s3, hp3.le (by omega), _, t, _, rfl, ht.mono (hp2.kt s3), m2, m3.mono (by decide), by omega⟩
    · obtain ⟨sB, hp3, v, t, x2, rfl, ht, hw, hg, hc⟩ := hR
      refine sq_asg ?_
      refine ⟨_, rfl, v, t, rfl, ht, ⟨hw, hg, hc⟩, fun vd H3 u s3 hu hsu => ?_⟩
      obtain ⟨hn, n, hst⟩ := hsu
      have nu := Tr.nf_of hn
      have cu := hst.count
      refine sq_ifH (fun b H'' => b = false ∧ Same H3 H'') (fun Q' q' => ?_) (fun H4 hP => by cases hP.1) (fun H4 hP => ?_)
      · exact ⟨_, rfl, v, t, rfl, ht.mono (.of s3), ⟨hw, hg, hc⟩, fun H4 s4 => ⟨true, rfl, q' _ _ ⟨rfl, s4⟩⟩⟩
      have s4 := hP.2
      have t4 := s3.trans s4
      have hp4 := hp3.same t4
      obtain ⟨px, hpx⟩ := hp4.lst
      refine sq_for ?_
      refine ⟨(by show 4 ≤ sizeLine; decide), fun l nl => ⟨l, rfl, ⟨_, .of upd_same⟩, ?_⟩⟩
      have hlp : l ≠ p := fr_ne nl hpx
      have s5 := same_new (o := .lst [.int 0, .int 1, .int 2, .int 2]) nl
      have t5 := t4.trans s5
      refine for_list (xs := [.int 0, .int 1, .int 2, .int 2]) (fun i σ' H' => SameB p (upd H4 l (.lst [.int 0, .int 1, .int 2, .int 2])) H' ∧ Pool H' p (3000 + 50 * i) [.str z] ∧ ∃ x4 x5, σ' = [some (.ref p), some v, x2, some vd, x4, x5]) ⟨SameB.refl _ _, hp4.same s5, none, none, rfl⟩ (fun i σ' H' _ hP => .of (hP.1 _ _ hlp upd_same)) (fun i x σ' H' hx hP => ?_) (fun σ' H' hP => ?_)
      · obtain ⟨s6, hp6, x4, x5, rfl⟩ := hP
        obtain ⟨hi, md, hmd, rfl⟩ := md_at hx
        have k6 : KT _ _ := (KT.of t5).trans ((hp4.same s5).kt s6)
        have k6' : KT _ _ := (KT.of (s4.trans s5)).trans ((hp4.same s5).kt s6)
        refine sq_asg ?_
        refine ⟨_, rfl, _, rfl, _, rfl, p, v, _, md, _, z, t, rfl, rfl, hmd, ht.mono k6, ⟨hw, hg, hc⟩, hp6, by omega, fun H7 r7 v7 u7 k7 s7 hp7 e7 hr7 hst7 hpl7 => ?_⟩
        have eu : u7 = u := Tr.short_one hw hst7 (Tr.nf_of hpl7) hst nu
        subst eu
        have c7 := hst7.count
        have k7' := hp6.kt s7
        refine st_ifH (fun b H'' => b = false ∧ Same H7 H'') (fun Q' q' => ?_) (fun H8 hP => by cases hP.1) (fun H8 hP => ?_)
        · refine ⟨_, rfl, rfl, false, rfl, itN Bool.false_ne_true ?_⟩
          refine ⟨_, rfl, r7, _, _, _, rfl, rfl, .of e7, at0, _, _, rfl, rfl, .inr ⟨by decide, by decide⟩, _, rfl, v, t, rfl, ht.mono (k6.trans k7'), hc, fun H8 s8 => ?_⟩
          refine ⟨_, rfl, vd, u7, rfl, hu.mono (k6'.trans (k7'.trans (.of s8))), by omega, fun H9 s9 => ?_⟩
          have s89 := s8.trans s9
          refine ⟨_, _, rfl, rfl, rfl, _, rfl, ite2 (fun e => ?_) (fun _ => ?_)⟩
          · have e2 : decide (V.int ((k7 : Int) * 3) = V.int (((t.count : Nat) : Int) - ((u7.count : Nat) : Int))) = true := decide_eq_true (congrArg V.int (by omega))
            have e3 : (!decide (V.int ((k7 : Int) * 3) = V.int (((t.count : Nat) : Int) - ((u7.count : Nat) : Int)))) = true := e
            rw [e2] at e3
            cases e3
          · refine ⟨_, rfl, r7, _, _, _, rfl, rfl, .of (s89 _ _ e7), at1, _, rfl, _, _, rfl, (alk_tr (hr7.mono (.of s89)) (hu.mono (k6'.trans (k7'.trans (.of s89)))) (hst.gk hg)).le (by omega), fun H10 s10 => ⟨true, rfl, q' _ _ ⟨rfl, s89.trans s10⟩⟩⟩
        · have s8 := hP.2
          exact ⟨s6.trans (s7.trans (.of s8)), (hp7.same s8).le (by omega), _, _, rfl⟩
      · obtain ⟨s6, hp6, x4, x5, rfl⟩ := hP
        have k6 : KT _ _ := (KT.of t5).trans ((hp4.same s5).kt s6)
        have k6' : KT _ _ := (KT.of (s4.trans s5)).trans ((hp4.same s5).kt s6)
        have gk := hst.gk hg
        refine ⟨_, rfl, v, t, rfl, ht.mono k6, ⟨hw, hg, hc⟩, fun v7 H7 u7 s7 hu7 hsu7 => ?_⟩
        obtain ⟨hn7, n7, hst7⟩ := hsu7
        have eu : u7 = u := Tr.short_one hw hst7 (Tr.nf_of hn7) hst nu
        subst eu
        refine ⟨_, rfl, _, _, rfl, (alk_tr hu7 (hu.mono (k6'.trans (.of s7))) gk).le (by omega), fun H8 s8 => ?_⟩
        refine ⟨true, rfl, itY rfl ?_⟩
        have t8 := s7.trans s8
        exact ⟨_, rfl, v, t, rfl, ht.mono (k6.trans (.of t8)), ⟨hw, hg, hc⟩, fun H9 s9 => q _ (sB.trans ((SameB.of t5).trans (s6.trans (.of (t8.trans s9)))))⟩
end
end WW
namespace WW
open PySem PySem.Spec PyProof.Rows L2
section
variable {P : Program} {w : World} {K : PySem.W.Frag} {mg : Str → Option Value} {base : Heap}
/-! ### law -/
theorem sql_keep {H H' H'' : Hp} {a p : Addr} {ns : List Int} {m : Nat} {z : Str} (h : SqL K H a (ns.map V.int)) (s : Same H H') (hp : Pool H' p m [.str z]) (sB : SameB p H' H'') : SqL K H'' a (ns.map V.int) := by
  obtain ⟨i, j, n, e, _⟩ := hp
  rcases h with (h | ⟨o, h⟩) | h
  · refine .inl (.inl (sB _ _ (fun y => ?_) (s _ _ h)))
    have h2 := s _ _ h
    rw [y, e] at h2
    have h3 := HO.lst.inj (Option.some.inj h2)
    have h4 : V.str z ∈ ns.map V.int := by
      rw [← h3]
      exact List.mem_cons_of_mem _ (List.mem_cons_of_mem _ (List.mem_cons_of_mem _ List.mem_cons_self))
    obtain ⟨x, _, hx⟩ := List.mem_map.mp h4
    cases hx
  · refine .inl (.inr ⟨o, sB _ _ (fun y => ?_) (s _ _ h)⟩)
    have h2 := s _ _ h
    rw [y, e] at h2
    cases h2
  · exact .inr h
def spLaw (K : PySem.W.Frag) : Sp := fun vs H Q _ => ∃ (a : Addr) (ns : List Int), vs = [.ref a] ∧ SqL K H a (ns.map V.int) ∧ ∀ H', Q (.bl true) H'
theorem turns_of (l : Nat) : ∃ n : Nat, (if (if ((l : Nat) : Int) < 5 then ((l : Nat) : Int) else 5) > 3 then (if ((l : Nat) : Int) < 5 then ((l : Nat) : Int) else 5) else 3) = (n : Int) ∧ n ≤ 5 := by
  by_cases h : ((l : Nat) : Int) < 5
  · rw [if_pos h]
    by_cases h2 : ((l : Nat) : Int) > 3
    · rw [if_pos h2]
      exact ⟨l, rfl, by omega⟩
    · rw [if_neg h2]
      exact ⟨3, rfl, by decide⟩
  · rw [if_neg h]
    exact ⟨5, rfl, by decide⟩
theorem ok_law (T : Top w K mg) : FnOk P w K mg base CX0 205 T.law.f T.law.fd ["_law_script"] (spLaw K) := by
  have G_pool : FnOk P w K mg base CX0 _ _ _ _ _ := ok_pool T
  have G_right : FnOk P w K mg base CX0 _ _ _ _ _ := ok_right T
  refine T.law.F.ok sc_law (fun vs H Q E h => ?_) (fun cdv A outer s H vs Q E hr h => ⟨_, PSs.nox (pss_cons (ps_for PassesOwn.never rfl (pi_range1 rfl T.z_range (pa_cons (pe_callB (call_max2 rfl) rfl T.z_max (by decide +kernel) (pa_cons pe_int (pa_cons (pe_callB (call_min2 rfl) rfl T.z_min (by decide +kernel) (pa_cons pe_int (pa_cons (pe_callB call_len_seq rfl T.z_len PySem.boot_len (pa_cons (pv 0) pa_nil)) pa_nil))) pa_nil))) pa_nil)) (pg_name (i := 1) sc_law.nd rfl (Or.inl rfl)) (pss_cons (ps_set (i := 2) sc_law.nd rfl (Or.inl rfl) (pe_call G_pool (hr.mono (by omega)) rfl T.pool.m T.pool.F.kp (b_pool T) .nil pass0 (pa_cons (pv 0) (pa_cons (pv 1) pa_nil))))
    (pss_one (ps_if (pt_not (pt_val (pe_call G_right (hr.mono (by omega)) rfl T.right.m T.right.F.kp (b_right T) .nil pass0 (pa_cons (pv 2) pa_nil)))) (pss_one (ps_ret pe_bl)) pss_nil))))
    (pss_one (ps_ret pe_bl))), ?_⟩)
  · obtain ⟨a, ns, rfl, _⟩ := h
    rfl
  · obtain ⟨a, ns, rfl, hS, q⟩ := h
    obtain ⟨n, hn, hn5⟩ := turns_of (ns.map V.int).length
    refine sq_forR (n := n) (fun Q' q' => ?_) (by omega) (fun i σ' H' => SqL K H' a (ns.map V.int) ∧ ∃ x1 x2, σ' = [some (.ref a), x1, x2]) ⟨hS, _, _, rfl⟩ (fun i σ' H' hi hP => ?_) (fun σ' H' hP => ?_)
    · refine ⟨_, rfl, a, _, rfl, .inl hS, _, _, rfl, _, _, rfl, ?_⟩
      rw [← hn] at q'
      exact q'
    · obtain ⟨hS1, x1, x2, rfl⟩ := hP
      refine sq_asg ?_
      refine ⟨_, rfl, _, rfl, a, ns, _, rfl, hS1, by omega, fun p H1 z s1 hp1 hz1 => ?_⟩
      refine st_ifH (fun b H'' => b = false ∧ SameB p H1 H'') (fun Q' q' => ?_) (fun H2 hP => by cases hP.1) (fun H2 hP => ?_)
      · exact ⟨_, rfl, p, z, rfl, hp1, hz1, fun H2 s2 => ⟨true, rfl, q' _ _ ⟨rfl, s2⟩⟩⟩
      · exact ⟨sql_keep hS1 s1 hp1 hP.2, _, _, rfl⟩
    · exact q _
end
end WW
namespace WW
open PySem PySem.Spec PyProof.Rows L2
def dfn (x : Str) (i : Nat) (dv : List He.Dv := []) : He.DefD := ⟨(x, none), x, x, defArgs (top i), defBody (top i), defScope (top i), dv, []⟩
def d_is_letter : He.DefD := dfn "is_letter" 11
def d_wrong_part : He.DefD := dfn "wrong_part" 12
def d_checked_kind : He.DefD := dfn "checked_kind" 13
def d_single : He.DefD := dfn "single" 14
def d_is_single : He.DefD := dfn "is_single" 15
def d_given_kinds : He.DefD := dfn "given_kinds" 19
def d_checked_width : He.DefD := dfn "checked_width" 20
def d_check_single_kinds : He.DefD := dfn "check_single_kinds" 21
def d_check_shapes : He.DefD := dfn "check_shapes" 22
def d_word_places : He.DefD := dfn "word_places" 23
def d_part_at : He.DefD := dfn "part_at" 24
def d_put_at : He.DefD := dfn "put_at" 25
def d_can_step : He.DefD := dfn "can_step" 26
def d_step_made : He.DefD := dfn "step_made" 27
def d_step_places : He.DefD := dfn "step_places" 28
def d_short_of : He.DefD := dfn "short_of" 29
def d_is_short : He.DefD := dfn "is_short" 30
def d_steps : He.DefD := dfn "steps" 31
def d_after_step : He.DefD := dfn "after_step" 32
def d_shortened : He.DefD := dfn "shortened" 33
def d_pool : He.DefD := dfn "_law_pool" 35
def d_pick : He.DefD := dfn "_law_pick" 36
def d_shape : He.DefD := dfn "_law_shape" 37
def d_size : He.DefD := dfn "_law_size" 38
def d_deep : He.DefD := dfn "_law_deep" 39
def d_within : He.DefD := dfn "_law_within" 40
def d_wide : He.DefD := dfn "_law_wide" 41
def d_count : He.DefD := dfn "_law_count" 42
def d_shown : He.DefD := dfn "_law_shown" 43 [.bl false]
def d_put : He.DefD := dfn "_law_put" 44
def d_eta : He.DefD := dfn "_law_eta" 45
def d_given : He.DefD := dfn "_law_given" 46
def d_grown : He.DefD := dfn "_law_grown" 47
def d_made : He.DefD := dfn "_law_made" 48
def d_wild : He.DefD := dfn "_law_wild" 49
def d_marked : He.DefD := dfn "_law_marked" 50
def d_swapped : He.DefD := dfn "_law_swapped" 51
def d_bare : He.DefD := dfn "_law_bare" 52
def d_paths : He.DefD := dfn "_law_paths" 53
def d_stepped : He.DefD := dfn "_law_stepped" 54
def d_short : He.DefD := dfn "_law_short" 55
def d_same : He.DefD := dfn "_law_same" 56
def d_spoil : He.DefD := dfn "_law_spoil" 58
def d_walk : He.DefD := dfn "_law_walk" 59
def d_steps_right : He.DefD := dfn "_law_steps_right" 60
def d_right : He.DefD := dfn "_law_right" 61
def d_law : He.DefD := dfn "law" 62
def fn : List He.DefD := [d_is_letter, d_wrong_part, d_checked_kind, d_single, d_is_single, d_given_kinds, d_checked_width, d_check_single_kinds, d_check_shapes, d_word_places, d_part_at, d_put_at, d_can_step, d_step_made, d_step_places, d_short_of, d_is_short, d_steps, d_after_step, d_shortened, d_pool, d_pick, d_shape, d_size, d_deep, d_within, d_wide, d_count, d_shown, d_put, d_eta, d_given, d_grown, d_made, d_wild, d_marked, d_swapped, d_bare, d_paths, d_stepped, d_short, d_same, d_spoil, d_walk, d_steps_right, d_right, d_law]
def fa : List He.Fa := [.glo "is_letter", .glo "wrong_part", .glo "checked_kind", .glo "single", .glo "is_single", .glo "given_kinds", .glo "checked_width", .glo "check_single_kinds", .glo "check_shapes", .glo "word_places", .glo "part_at", .glo "put_at", .glo "can_step", .glo "step_made", .glo "step_places", .glo "short_of", .glo "is_short", .glo "steps", .glo "after_step", .glo "shortened", .glo "_law_pool", .glo "_law_pick", .glo "_law_shape", .glo "_law_size", .glo "_law_deep", .glo "_law_within", .glo "_law_wide", .glo "_law_count", .glo "_law_shown", .glo "_law_put", .glo "_law_eta", .glo "_law_given", .glo "_law_grown", .glo "_law_made", .glo "_law_wild", .glo "_law_marked", .glo "_law_swapped", .glo "_law_bare", .glo "_law_paths", .glo "_law_stepped", .glo "_law_short", .glo "_law_same", .glo "_law_spoil", .glo "_law_walk", .glo "_law_steps_right", .glo "_law_right", .glo "law", .str "LETTERS" "abcdefghijklmnopqrstuvwxyz", .glo "PAIRS", .glo "GIVES", .glo "TURNS", .free "len", .free "list", .free "tuple", .free "isinstance", .free "int", .free "str", .free "bool", .free "range", .free "max", .free "min", .free "sum", .free "abs"]
def ts : List He.Tab := [(fun K => He.ga K "TURNS", ["behind", "ahead", "with"])]
def ex (K : PySem.W.Frag) : Bool := He.tupB K "PAIRS" [.str "behind", .str "ahead"] && (He.tupB K "GIVES" [.str "givebehind", .str "giveahead"] && He.valsB K (He.ga K "TURNS") [("behind", .str "ahead"), ("ahead", .str "behind")])
abbrev R : PySem.W.OpenRow := PySem.W.OpenLaw.row PySem.Challenge.rw_waitwords_k33_whole_steps_in_any_order
abbrev hk : PySem.W.Hook := He.hookX 4 fa fn ts [] ex
def ob (s : PySem.W.SharedT) : He.AlX := He.obsX 4 fa fn ts [] ex (HandSHeadRun.getT s)
theorem ob_eq (s : PySem.W.SharedT) : ob s = hk.obs s.abs := He.obsX_eq (HandSHeadRun.getT_eq s)
def loose1 : List Str := ["WaitError", "InvalidKind", "NotSingle", "InvalidReading", "InvalidPlace", "fresh", "LETTERS", "TURNS", "is_letter", "wrong_part", "checked_kind", "single", "is_single", "PAIRS", "GIVES", "given_kinds", "checked_width", "check_single_kinds", "check_shapes", "word_places", "part_at", "put_at", "can_step", "step_made", "step_places", "short_of", "is_short", "steps", "after_step", "shortened"]
def loose2 : List Str := ["_law_pool", "_law_pick", "_law_shape", "_law_size", "_law_deep", "_law_within", "_law_wide", "_law_count", "_law_shown", "_law_put", "_law_eta", "_law_given", "_law_grown", "_law_made", "_law_wild", "_law_marked", "_law_swapped", "_law_bare", "_law_paths", "_law_stepped", "_law_short", "_law_same", "_law_copied", "_law_spoil", "_law_walk", "_law_steps_right", "_law_right"]
def loose : List Str := loose1 ++ loose2
theorem run (w : World) : HandSHeadRun.RunEq R (PySem.W.view R.prog [62]) hk ob 3000 loose w :=
  PySem.W.byRow2 "special-get-raises" (P := fun w => HandSHeadRun.RunEq R (PySem.W.view R.prog [62]) hk ob 3000 loose w) (fun w os => by kernel_rfl) (fun w os => by kernel_rfl) w
end WW
namespace WW
open PySem PySem.Spec PyProof.Rows L2
section
variable {w : World} {K : PySem.W.Frag} {h : Heap} {mg : Str → Option Value}
theorem glo_of (X : K.In h) (G : h.Ns mainGlobals mg) (c : He.SaysX fa fn ts [] ex w h K) (i : Nat) {x : Str} (e : fa[i]? = some (.glo x)) : mg x = some (.ref (He.ga K x)) := He.glo_ok X G (c.t.d.fact i e)
theorem free_of (X : K.In h) (G : h.Ns mainGlobals mg) (c : He.SaysX fa fn ts [] ex w h K) (i : Nat) {x : Str} (e : fa[i]? = some (.free x)) : mg x = none := He.free_ok X G (c.t.d.fact i e)
theorem ent_of (X : K.In h) (G : h.Ns mainGlobals mg) (c : He.SaysX fa fn ts [] ex w h K) (i k : Nat) {x : Str} {dv : List He.Dv} (e : fn[i]? = some (dfn x k dv)) (e2 : fa[i]? = some (.glo x)) : Nonempty (Ent K mg x k (dv.map (He.Dv.v K))) := by
  obtain ⟨fd, F⟩ := c.t.d.def_ i e
  exact ⟨⟨_, fd, F, glo_of X G c i e2⟩⟩
theorem top_of (X : K.In h) (G : h.Ns mainGlobals mg) (c : He.SaysX fa fn ts [] ex w h K) : Nonempty (Top w K mg) := by
  obtain ⟨e_is_letter⟩ := ent_of X G c 0 11 (x := "is_letter") (dv := []) rfl rfl
  obtain ⟨e_wrong_part⟩ := ent_of X G c 1 12 (x := "wrong_part") (dv := []) rfl rfl
  obtain ⟨e_checked_kind⟩ := ent_of X G c 2 13 (x := "checked_kind") (dv := []) rfl rfl
  obtain ⟨e_single⟩ := ent_of X G c 3 14 (x := "single") (dv := []) rfl rfl
  obtain ⟨e_is_single⟩ := ent_of X G c 4 15 (x := "is_single") (dv := []) rfl rfl
  obtain ⟨e_given_kinds⟩ := ent_of X G c 5 19 (x := "given_kinds") (dv := []) rfl rfl
  obtain ⟨e_checked_width⟩ := ent_of X G c 6 20 (x := "checked_width") (dv := []) rfl rfl
  obtain ⟨e_check_single_kinds⟩ := ent_of X G c 7 21 (x := "check_single_kinds") (dv := []) rfl rfl
  obtain ⟨e_check_shapes⟩ := ent_of X G c 8 22 (x := "check_shapes") (dv := []) rfl rfl
  obtain ⟨e_word_places⟩ := ent_of X G c 9 23 (x := "word_places") (dv := []) rfl rfl
  obtain ⟨e_part_at⟩ := ent_of X G c 10 24 (x := "part_at") (dv := []) rfl rfl
  obtain ⟨e_put_at⟩ := ent_of X G c 11 25 (x := "put_at") (dv := []) rfl rfl
  obtain ⟨e_can_step⟩ := ent_of X G c 12 26 (x := "can_step") (dv := []) rfl rfl
  obtain ⟨e_step_made⟩ := ent_of X G c 13 27 (x := "step_made") (dv := []) rfl rfl
  obtain ⟨e_step_places⟩ := ent_of X G c 14 28 (x := "step_places") (dv := []) rfl rfl
  obtain ⟨e_short_of⟩ := ent_of X G c 15 29 (x := "short_of") (dv := []) rfl rfl
  obtain ⟨e_is_short⟩ := ent_of X G c 16 30 (x := "is_short") (dv := []) rfl rfl
  obtain ⟨e_steps⟩ := ent_of X G c 17 31 (x := "steps") (dv := []) rfl rfl
  obtain ⟨e_after_step⟩ := ent_of X G c 18 32 (x := "after_step") (dv := []) rfl rfl
  obtain ⟨e_shortened⟩ := ent_of X G c 19 33 (x := "shortened") (dv := []) rfl rfl
  obtain ⟨e_pool⟩ := ent_of X G c 20 35 (x := "_law_pool") (dv := []) rfl rfl
  obtain ⟨e_pick⟩ := ent_of X G c 21 36 (x := "_law_pick") (dv := []) rfl rfl
  obtain ⟨e_shape⟩ := ent_of X G c 22 37 (x := "_law_shape") (dv := []) rfl rfl
  obtain ⟨e_size⟩ := ent_of X G c 23 38 (x := "_law_size") (dv := []) rfl rfl
  obtain ⟨e_deep⟩ := ent_of X G c 24 39 (x := "_law_deep") (dv := []) rfl rfl
  obtain ⟨e_within⟩ := ent_of X G c 25 40 (x := "_law_within") (dv := []) rfl rfl
  obtain ⟨e_wide⟩ := ent_of X G c 26 41 (x := "_law_wide") (dv := []) rfl rfl
  obtain ⟨e_count⟩ := ent_of X G c 27 42 (x := "_law_count") (dv := []) rfl rfl
  obtain ⟨e_shown⟩ := ent_of X G c 28 43 (x := "_law_shown") (dv := [.bl false]) rfl rfl
  obtain ⟨e_put⟩ := ent_of X G c 29 44 (x := "_law_put") (dv := []) rfl rfl
  obtain ⟨e_eta⟩ := ent_of X G c 30 45 (x := "_law_eta") (dv := []) rfl rfl
  obtain ⟨e_given⟩ := ent_of X G c 31 46 (x := "_law_given") (dv := []) rfl rfl
  obtain ⟨e_grown⟩ := ent_of X G c 32 47 (x := "_law_grown") (dv := []) rfl rfl
  obtain ⟨e_made⟩ := ent_of X G c 33 48 (x := "_law_made") (dv := []) rfl rfl
  obtain ⟨e_wild⟩ := ent_of X G c 34 49 (x := "_law_wild") (dv := []) rfl rfl
  obtain ⟨e_marked⟩ := ent_of X G c 35 50 (x := "_law_marked") (dv := []) rfl rfl
  obtain ⟨e_swapped⟩ := ent_of X G c 36 51 (x := "_law_swapped") (dv := []) rfl rfl
  obtain ⟨e_bare⟩ := ent_of X G c 37 52 (x := "_law_bare") (dv := []) rfl rfl
  obtain ⟨e_paths⟩ := ent_of X G c 38 53 (x := "_law_paths") (dv := []) rfl rfl
  obtain ⟨e_stepped⟩ := ent_of X G c 39 54 (x := "_law_stepped") (dv := []) rfl rfl
  obtain ⟨e_short⟩ := ent_of X G c 40 55 (x := "_law_short") (dv := []) rfl rfl
  obtain ⟨e_same⟩ := ent_of X G c 41 56 (x := "_law_same") (dv := []) rfl rfl
  obtain ⟨e_spoil⟩ := ent_of X G c 42 58 (x := "_law_spoil") (dv := []) rfl rfl
  obtain ⟨e_walk⟩ := ent_of X G c 43 59 (x := "_law_walk") (dv := []) rfl rfl
  obtain ⟨e_steps_right⟩ := ent_of X G c 44 60 (x := "_law_steps_right") (dv := []) rfl rfl
  obtain ⟨e_right⟩ := ent_of X G c 45 61 (x := "_law_right") (dv := []) rfl rfl
  obtain ⟨e_law⟩ := ent_of X G c 46 62 (x := "law") (dv := []) rfl rfl
  obtain ⟨tk, hl⟩ := He.str_ok X G (c.t.d.fact 47 (f := .str "LETTERS" "abcdefghijklmnopqrstuvwxyz") rfl)
  obtain ⟨h1, h2⟩ := He.ba c.more
  obtain ⟨h2, h3⟩ := He.ba h2
  obtain ⟨es, n, kd⟩ := c.t.tab 0 rfl
  obtain ⟨u1, hu1, _⟩ := He.valsB_ok h3 (q := ("behind", .str "ahead")) List.mem_cons_self
  obtain ⟨u2, hu2, _⟩ := He.valsB_ok h3 (q := ("ahead", .str "behind")) (List.mem_cons_of_mem _ List.mem_cons_self)
  exact ⟨{
    is_letter := e_is_letter
    wrong_part := e_wrong_part
    checked_kind := e_checked_kind
    single := e_single
    is_single := e_is_single
    given_kinds := e_given_kinds
    checked_width := e_checked_width
    check_single_kinds := e_check_single_kinds
    check_shapes := e_check_shapes
    word_places := e_word_places
    part_at := e_part_at
    put_at := e_put_at
    can_step := e_can_step
    step_made := e_step_made
    step_places := e_step_places
    short_of := e_short_of
    is_short := e_is_short
    steps := e_steps
    after_step := e_after_step
    shortened := e_shortened
    pool := e_pool
    pick := e_pick
    shape := e_shape
    size := e_size
    deep := e_deep
    within := e_within
    wide := e_wide
    count := e_count
    shown := e_shown
    put := e_put
    eta := e_eta
    given := e_given
    grown := e_grown
    made := e_made
    wild := e_wild
    marked := e_marked
    swapped := e_swapped
    bare := e_bare
    paths := e_paths
    stepped := e_stepped
    short := e_short
    same := e_same
    spoil := e_spoil
    walk := e_walk
    steps_right := e_steps_right
    right := e_right
    law := e_law
    z_len := free_of X G c 51 rfl
    z_list := free_of X G c 52 rfl
    z_tuple := free_of X G c 53 rfl
    z_isinstance := free_of X G c 54 rfl
    z_int := free_of X G c 55 rfl
    z_str := free_of X G c 56 rfl
    z_bool := free_of X G c 57 rfl
    z_range := free_of X G c 58 rfl
    z_max := free_of X G c 59 rfl
    z_min := free_of X G c 60 rfl
    z_sum := free_of X G c 61 rfl
    z_abs := free_of X G c 62 rfl
    tkLETTERS := tk
    mLETTERS := hl
    aPAIRS := _
    mPAIRS := glo_of X G c 48 rfl
    sPAIRS := fun H => He.tupB_ok h1 H
    aGIVES := _
    mGIVES := glo_of X G c 49 rfl
    sGIVES := fun H => He.tupB_ok h2 H
    aTURNS := _
    mTURNS := glo_of X G c 50 rfl
    esTURNS := es
    nTURNS := n
    turnsD := kd
    turnsB := ⟨u1, hu1⟩
    turnsA := ⟨u2, hu2⟩ }⟩
end
theorem facts {P : Program} {w : World} {K : PySem.W.Frag} {h : Heap} {mg : Str → Option Value} {f : Addr} (X : K.In h) (G : h.Ns mainGlobals mg) (hfa : mg ("law" : Str) = some (.ref f)) (c : He.SaysX fa fn ts [] ex w h K) :
    ∃ fd : FuncData, (∀ (s : Shared) (v : Value), BindsTo s fd ⟨[v], []⟩ [("_law_script", v)]) ∧ ∀ base : Heap, K.In base → base.Ns mainGlobals mg → FnOk P w K mg base CX0 205 f fd ["_law_script"] (spLaw K) := by
  obtain ⟨T⟩ := top_of X G c
  have e : f = T.law.f := Value.ref.inj (Option.some.inj (hfa.symm.trans T.law.m))
  subst e
  have b := FunD.bindsA (ps := ["_law_script"]) T.law.F fun _ _ _ _ _ _ us hl => match us, hl with | [_], _ => rfl
  exact ⟨T.law.fd, fun s v => b s [v] rfl, fun base _ _ => ok_law T⟩
end WW
open PySem PySem.W PySem.Calls PyProof.Rows
theorem PySem.Challenge.cw_waitwords_k33_whole_steps_in_any_order_holds : PySem.Challenge.rw_waitwords_k33_whole_steps_in_any_order.Holds := by
  w_on; o_law
  refine HandSHeadRun.head_any (r := OpenLaw.row PySem.Challenge.rw_waitwords_k33_whole_steps_in_any_order) (q := view (OpenLaw.row PySem.Challenge.rw_waitwords_k33_whole_steps_in_any_order).prog [62]) (H := WW.hk) (ob := WW.ob) (M := 3000) (loose := WW.loose) (d := HandSHeadRun.topDef (OpenLaw.row PySem.Challenge.rw_waitwords_k33_whole_steps_in_any_order).prog 62) (kwd := []) WW.ob_eq
    (by kernel_rfl) (fun s => by kernel_rfl) WW.run (by kernel_rfl) (by kernel_rfl) (by kernel_rfl) (by rfl) (by first | assumption | decide +kernel) (by decide +kernel) ⟨rfl, rfl, rfl, rfl, rfl, by decide +kernel⟩ ?hw ?hc
  case hw => w_witness2
  case hc =>
    refine L2.walk_ofE (l := PySem.Challenge.rw_waitwords_k33_whole_steps_in_any_order) (n := 63) (k := 205) (x := "_law_script") (CX := L2.CX0) rfl (by decide) (by kernel_rfl) ⟨rfl, by decide, by decide⟩ ?F (fun _ _ _ _ z => z)
    intro w mg fa h Y G hmg0
    obtain ⟨K, KX, c⟩ := Y
    have hmg : mg ("law" : PySem.Str) = some (.ref fa) := by
      have e : (HandSHeadRun.topDef (OpenLaw.row PySem.Challenge.rw_waitwords_k33_whole_steps_in_any_order).prog 62).name = ("law" : PySem.Str) := by kernel_rfl
      rw [← e]
      exact hmg0
    obtain ⟨fd, hb, hF⟩ := WW.facts (P := (PySem.Challenge.rw_waitwords_k33_whole_steps_in_any_order).prog) (w := w) KX G hmg c
    exact ⟨K, fd, WW.spLaw K, KX, hb, fun H a ns hl _ hS => ⟨a, ns, rfl, hS, fun _ => rfl⟩, hF⟩
