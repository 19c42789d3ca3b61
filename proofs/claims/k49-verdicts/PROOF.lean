import PyProof.Rows.All
import Wide.All
import OpenK.AllK
import Wide.FinOn
import KE.KExcSuper
import KE.KExcIs
import HandS.ForMost
import HandS.Exc
import HandS.TryOnly
import HandS.ExcOwn
import HandS.ExcInit
import HandS.ExcIs
import HandS.ExcField
import HandS.Lambda
import HandS.Star
import HandS.SortInts
import HandS.IsInst
import HandS.NoneIn
import HandS.EndBits
import HandS.EndTab
import HandS.Flow
import HandS.Wide
import HandS.CallLocal
import HandS.Style
import HandS.More
import HandS.Zip
import HandS.WordsExc
import HandS.Walk
import HandS.Dict
import PyProof.ReprLen
import PySem.Challenge.RW_opencuts_k49_verdicts_of_lines
set_option Elab.async false
set_option linter.all false
set_option maxRecDepth 100000
set_option maxHeartbeats 8000000
section
/-! The plain law of verdicts of lines: spans by division, marks, rows of runs. Core Lean alone. -/
namespace K49
/-! ### spans -/
def within (low : Int) (high : Option Int) (n : Int) : Bool := decide (low ≤ n) && (match high with | none => true | some h => decide (n ≤ h))
def maxP (i j : Int) : Int := if j > i then j else i
def minP (i j : Int) : Int := if j < i then j else i
def fstOf (a b low : Int) (high : Option Int) : Int := if 0 < b then maxP 0 (-(Int.fdiv (a - low) b)) else match high with | none => 0 | some h => maxP 0 (-(Int.fdiv (h - a) (-b)))
def lstOf (a b top low : Int) (high : Option Int) : Int := if 0 < b then (match high with | none => top | some h => minP top (Int.fdiv (h - a) b)) else minP top (Int.fdiv (a - low) (-b))
def tw (a b top low : Int) (high : Option Int) : Option (Int × Int) :=
  if b = 0 then (if within low high a = true then some (0, top) else none)
  else if fstOf a b low high ≤ lstOf a b top low high then some (fstOf a b low high, lstOf a b top low high) else none
def inSpan (s : Option (Int × Int)) (t : Int) : Bool := match s with | none => false | some (f, l) => decide (f ≤ t) && decide (t ≤ l)

theorem maxP_le {i j t : Int} : maxP i j ≤ t ↔ i ≤ t ∧ j ≤ t := by
  unfold maxP
  split <;> omega
theorem le_minP {i j t : Int} : t ≤ minP i j ↔ t ≤ i ∧ t ≤ j := by
  unfold minP
  split <;> omega
theorem neg_fdiv_le {x c t : Int} (hc : 0 < c) : -(Int.fdiv x c) ≤ t ↔ 0 ≤ x + t * c := by
  rw [Int.fdiv_eq_ediv_of_nonneg x (Int.le_of_lt hc)]
  have h := Int.le_ediv_iff_mul_le (a := -t) (b := x) hc
  constructor
  · intro q
    have z := h.mp (by omega)
    rw [Int.neg_mul] at z
    omega
  · intro q
    have z := h.mpr (by rw [Int.neg_mul]; omega)
    omega
theorem le_fdiv {x c t : Int} (hc : 0 < c) : t ≤ Int.fdiv x c ↔ t * c ≤ x := by
  rw [Int.fdiv_eq_ediv_of_nonneg x (Int.le_of_lt hc)]
  exact Int.le_ediv_iff_mul_le hc
theorem within_iff {low n : Int} {high : Option Int} : within low high n = true ↔ low ≤ n ∧ ∀ h, high = some h → n ≤ h := by
  unfold within
  cases high with
  | none => simp
  | some h => simp
theorem inSpan_iff {s : Option (Int × Int)} {t : Int} : inSpan s t = true ↔ ∃ f l, s = some (f, l) ∧ f ≤ t ∧ t ≤ l := by
  unfold inSpan
  cases s with
  | none => simp
  | some p =>
    obtain ⟨f, l⟩ := p
    simp only [Bool.and_eq_true, decide_eq_true_eq]
    constructor
    · intro h
      exact ⟨f, l, rfl, h⟩
    · rintro ⟨f', l', e, h⟩
      cases e
      exact h
theorem fst_iff {a b low t : Int} {high : Option Int} (hb : b ≠ 0) (ht : 0 ≤ t) : fstOf a b low high ≤ t ↔ (0 < b → low ≤ a + b * t) ∧ (¬ 0 < b → ∀ h, high = some h → a + b * t ≤ h) := by
  unfold fstOf
  by_cases hp : 0 < b
  · rw [if_pos hp, maxP_le, neg_fdiv_le hp, Int.mul_comm t b]
    constructor
    · intro ⟨_, q⟩
      exact ⟨fun _ => by omega, fun z => absurd hp z⟩
    · intro ⟨q, _⟩
      exact ⟨ht, by have := q hp; omega⟩
  · rw [if_neg hp]
    have hn : 0 < -b := by omega
    cases high with
    | none => exact ⟨fun _ => ⟨fun z => absurd z hp, fun _ h z => (nomatch z)⟩, fun _ => ht⟩
    | some h =>
      show maxP 0 (-(Int.fdiv (h - a) (-b))) ≤ t ↔ _
      rw [maxP_le, neg_fdiv_le hn, Int.mul_neg, Int.mul_comm t b]
      constructor
      · intro ⟨_, q⟩
        exact ⟨fun z => absurd z hp, fun _ h' z => by cases z; omega⟩
      · intro ⟨_, q⟩
        exact ⟨ht, by have := q hp h rfl; omega⟩
theorem lst_iff {a b top low t : Int} {high : Option Int} (hb : b ≠ 0) (ht : t ≤ top) : t ≤ lstOf a b top low high ↔ (0 < b → ∀ h, high = some h → a + b * t ≤ h) ∧ (¬ 0 < b → low ≤ a + b * t) := by
  unfold lstOf
  by_cases hp : 0 < b
  · rw [if_pos hp]
    cases high with
    | none => exact ⟨fun _ => ⟨fun _ h z => (nomatch z), fun z => absurd hp z⟩, fun _ => ht⟩
    | some h =>
      show t ≤ minP top (Int.fdiv (h - a) b) ↔ _
      rw [le_minP, le_fdiv hp, Int.mul_comm t b]
      constructor
      · intro ⟨_, q⟩
        exact ⟨fun _ h' z => by cases z; omega, fun z => absurd hp z⟩
      · intro ⟨q, _⟩
        exact ⟨ht, by have := q hp h rfl; omega⟩
  · rw [if_neg hp]
    have hn : 0 < -b := by omega
    rw [le_minP, le_fdiv hn, Int.mul_neg, Int.mul_comm t b]
    constructor
    · intro ⟨_, q⟩
      exact ⟨fun z => absurd z hp, fun _ => by omega⟩
    · intro ⟨_, q⟩
      exact ⟨ht, by have := q hp; omega⟩
theorem lst_top {a b top low : Int} {high : Option Int} : lstOf a b top low high ≤ top := by
  unfold lstOf
  split
  · cases high with
    | none => exact Int.le_refl _
    | some h => show minP top _ ≤ top; exact (le_minP.mp (Int.le_refl _)).1
  · exact (le_minP.mp (Int.le_refl _)).1
theorem fst_nn {a b low : Int} {high : Option Int} : 0 ≤ fstOf a b low high := by
  unfold fstOf
  split
  · exact (maxP_le.mp (Int.le_refl _)).1
  · cases high with
    | none => exact Int.le_refl _
    | some h => show 0 ≤ maxP 0 _; exact (maxP_le.mp (Int.le_refl _)).1
/-- a span tells just where its line is within -/
theorem tw_spec {a b top low t : Int} {high : Option Int} (h0 : 0 ≤ t) (h1 : t ≤ top) : inSpan (tw a b top low high) t = within low high (a + b * t) := by
  have key : inSpan (tw a b top low high) t = true ↔ within low high (a + b * t) = true := by
    unfold tw
    by_cases hb : b = 0
    · subst hb
      rw [if_pos rfl, Int.zero_mul, Int.add_zero]
      by_cases hw : within low high a = true
      · rw [if_pos hw]
        simp [inSpan, h0, h1, hw]
      · rw [if_neg hw]
        simp [inSpan, hw]
    · rw [if_neg hb]
      have f := fst_iff (a := a) (low := low) (high := high) hb h0
      have l := lst_iff (a := a) (low := low) (high := high) hb h1
      have hw := within_iff (low := low) (high := high) (n := a + b * t)
      have both : within low high (a + b * t) = true ↔ fstOf a b low high ≤ t ∧ t ≤ lstOf a b top low high := by
        rw [hw, f, l]
        by_cases hp : 0 < b
        · simp [hp]
        · simp only [hp, false_implies, true_and, not_false_eq_true, true_implies, and_true]
          exact And.comm
      by_cases hle : fstOf a b low high ≤ lstOf a b top low high
      · rw [if_pos hle, both, inSpan_iff]
        constructor
        · rintro ⟨f', l', e, q⟩
          cases e
          exact q
        · intro q
          exact ⟨_, _, rfl, q⟩
      · rw [if_neg hle, both]
        constructor
        · intro z
          simp [inSpan] at z
        · intro q
          exact absurd (Int.le_trans q.1 q.2) hle
  cases e1 : inSpan (tw a b top low high) t <;> cases e2 : within low high (a + b * t) <;> simp_all
theorem tw_some {a b top low f l : Int} {high : Option Int} (ht : 0 ≤ top) (h : tw a b top low high = some (f, l)) : 0 ≤ f ∧ f ≤ l ∧ l ≤ top := by
  unfold tw at h
  split at h
  · split at h
    · cases h
      exact ⟨Int.le_refl _, ht, Int.le_refl _⟩
    · cases h
  · split at h
    · rename_i hle
      cases h
      exact ⟨fst_nn, hle, lst_top⟩
    · cases h

/-! ### runs of equal verdicts -/
section
variable {α : Type} [DecidableEq α]
/-- rows (first, last, verdict) one behind another from a on, ending just ahead of e, each of the verdict that f tells, neighbours unlike -/
def isRuns (f : Int → α) : Int → Option α → List (Int × Int × α) → Int → Prop
  | a, _, [], e => a = e
  | a, p, (x, y, v) :: r, e => x = a ∧ a ≤ y ∧ p ≠ some v ∧ (∀ t, a ≤ t → t ≤ y → f t = v) ∧ isRuns f (y + 1) (some v) r e
theorem isRuns.le {f : Int → α} : ∀ {r : List (Int × Int × α)} {a e : Int} {p : Option α}, isRuns f a p r e → a ≤ e
  | [], _, _, _, h => Int.le_of_eq h
  | (x, y, v) :: r, a, e, p, h => by
    obtain ⟨_, h1, _, _, h2⟩ := h
    have := isRuns.le h2
    omega
theorem isRuns.congr {f g : Int → α} : ∀ {r : List (Int × Int × α)} {a e : Int} {p : Option α}, isRuns f a p r e → (∀ t, a ≤ t → t < e → f t = g t) → isRuns g a p r e
  | [], _, _, _, h, _ => h
  | (x, y, v) :: r, a, e, p, h, k => by
    obtain ⟨h0, h1, hp, h2, h3⟩ := h
    have z := isRuns.le h3
    exact ⟨h0, h1, hp, fun t t1 t2 => by rw [← k t t1 (by omega)]; exact h2 t t1 t2, isRuns.congr h3 fun t t1 t2 => k t (by omega) t2⟩
theorem isRuns.unique {f : Int → α} : ∀ {r r' : List (Int × Int × α)} {a e : Int} {p p' : Option α}, isRuns f a p r e → isRuns f a p' r' e → r = r'
  | [], [], _, _, _, _, _, _ => rfl
  | [], (x, y, v) :: r', a, e, p, p', h, h' => by
    obtain ⟨_, h1, _, _, h3⟩ := h'
    have := isRuns.le h3
    have q : a = e := h
    omega
  | (x, y, v) :: r, [], a, e, p, p', h, h' => by
    obtain ⟨_, h1, _, _, h3⟩ := h
    have := isRuns.le h3
    have q : a = e := h'
    omega
  | (x, y, v) :: r, (x', y', v') :: r', a, e, p, p', h, h' => by
    obtain ⟨rfl, h1, hp, h2, h3⟩ := h
    obtain ⟨rfl, h1', hp', h2', h3'⟩ := h'
    have ev : v = v' := (h2 _ (Int.le_refl _) h1).symm.trans (h2' _ (Int.le_refl _) h1')
    subst ev
    have key : ∀ {y y' : Int} {r : List (Int × Int × α)}, x' ≤ y → y < y' → isRuns f (y + 1) (some v) r e → y' + 1 ≤ e → (∀ t, x' ≤ t → t ≤ y' → f t = v) → False := fun {y y' r} h0 hy hr he hf => by
      cases r with
      | nil =>
        have q : y + 1 = e := hr
        omega
      | cons c r =>
        obtain ⟨c1, c2, c3⟩ := c
        obtain ⟨_, g1, g2, g3, _⟩ := hr
        have q := (g3 (y + 1) (Int.le_refl _) g1).symm.trans (hf (y + 1) (by omega) (by omega))
        exact g2 (by rw [q])
    have ey : y = y' := by
      rcases Int.lt_trichotomy y y' with z | z | z
      · exact (key h1 z h3 (isRuns.le h3') h2').elim
      · exact z
      · exact (key h1' z h3' (isRuns.le h3) h2).elim
    subst ey
    rw [isRuns.unique h3 h3']
/-- a row put behind others: of the last one's verdict it makes this longer -/
def push (found : List (Int × Int × α)) (x y : Int) (v : α) : List (Int × Int × α) := match found.getLast? with
  | some (x0, _, v0) => if v0 = v then found.set (found.length - 1) (x0, y, v) else found ++ [(x, y, v)]
  | none => found ++ [(x, y, v)]
theorem push_cons (c d : Int × Int × α) (r : List (Int × Int × α)) (x y : Int) (v : α) : push (c :: d :: r) x y v = c :: push (d :: r) x y v := by
  unfold push
  rw [List.getLast?_cons_cons]
  cases (d :: r).getLast? with
  | none => rfl
  | some q =>
    obtain ⟨x0, y0, v0⟩ := q
    by_cases h : v0 = v
    · simp [h]
    · simp [h]
theorem push_runs {f : Int → α} {x y : Int} {v : α} : ∀ {found : List (Int × Int × α)} {a : Int} {p : Option α}, isRuns f a p found x → x ≤ y → (∀ t, x ≤ t → t ≤ y → f t = v) → (found = [] → p ≠ some v) → isRuns f a p (push found x y v) (y + 1)
  | [], a, p, h, h1, h2, h3 => by
    have e : a = x := h
    subst e
    exact ⟨rfl, h1, h3 rfl, h2, rfl⟩
  | [(x0, y0, v0)], a, p, h, h1, h2, _ => by
    obtain ⟨rfl, g1, g2, g3, g4⟩ := h
    have e : y0 + 1 = x := g4
    subst e
    show isRuns f x0 p (push [(x0, y0, v0)] _ y v) (y + 1)
    by_cases hv : v0 = v
    · subst hv
      have q : push [(x0, y0, v0)] (y0 + 1) y v0 = [(x0, y, v0)] := by simp [push]
      rw [q]
      refine ⟨rfl, by omega, g2, fun t t1 t2 => ?_, rfl⟩
      by_cases ht : t ≤ y0
      · exact g3 t t1 ht
      · exact h2 t (by omega) t2
    · have q : push [(x0, y0, v0)] (y0 + 1) y v = [(x0, y0, v0), (y0 + 1, y, v)] := by simp [push, hv]
      rw [q]
      exact ⟨rfl, g1, g2, g3, rfl, h1, fun z => hv (Option.some.inj z), h2, rfl⟩
  | c :: d :: r, a, p, h, h1, h2, _ => by
    obtain ⟨x0, y0, v0⟩ := c
    rw [push_cons]
    obtain ⟨g0, g1, g2, g3, g4⟩ := h
    exact ⟨g0, g1, g2, g3, push_runs g4 h1 h2 fun z => nomatch z⟩
/-- the rows of a loop over begins and what is behind each -/
def stripsOf (g : Int → α) (ps : List (Int × Int)) (found : List (Int × Int × α)) : List (Int × Int × α) := ps.foldl (fun acc p => push acc p.1 (p.2 - 1) (g p.1)) found
theorem stripsOf_runs {f : Int → α} {top a : Int} {p : Option α} : ∀ {begins : List Int} {found : List (Int × Int × α)} {b : Int}, isRuns f a p found b → (b :: begins).Pairwise (· < ·) → (∀ t ∈ b :: begins, t ≤ top) →
    (∀ t ∈ b :: begins, ∀ u, t ≤ u → u ≤ top → (∀ k ∈ b :: begins, t < k → u < k) → f u = f t) → (found = [] → p = none) → isRuns f a p (stripsOf f ((b :: begins).zip (begins ++ [top + 1])) found) (top + 1)
  | [], found, b, h, _, ht, hf, hp => by
    show isRuns f a p (push found b (top + 1 - 1) (f b)) (top + 1)
    have e : top + 1 - 1 = top := by omega
    rw [e]
    exact push_runs h (ht b List.mem_cons_self) (fun t t1 t2 => hf b List.mem_cons_self t t1 t2 fun k hk z => by
      rcases List.mem_cons.mp hk with q | q
      · omega
      · cases q) fun z => by rw [hp z]; exact fun q => nomatch q
  | c :: r, found, b, h, hs, ht, hf, hp => by
    have hbc : b < c := (List.pairwise_cons.mp hs).1 c List.mem_cons_self
    have hct := ht c (List.mem_cons_of_mem _ List.mem_cons_self)
    have hs' := (List.pairwise_cons.mp hs).2
    show isRuns f a p (stripsOf f ((c :: r).zip (r ++ [top + 1])) (push found b (c - 1) (f b))) (top + 1)
    have hne : push found b (c - 1) (f b) ≠ [] := by
      unfold push
      split
      · rename_i x0 y0 v0 e
        have hn : found ≠ [] := fun z => by rw [z] at e; simp at e
        split
        · intro z
          exact hn (by simpa using z)
        · simp
      · simp
    refine stripsOf_runs (begins := r) (b := c) ?_ hs' (fun t t1 => ht t (List.mem_cons_of_mem _ t1)) (fun t t1 u u1 u2 u3 => hf t (List.mem_cons_of_mem _ t1) u u1 u2 fun k hk z => ?_) fun z => absurd z hne
    · have q := push_runs (y := c - 1) (v := f b) h (by omega) (fun t t1 t2 => hf b List.mem_cons_self t t1 (by omega) fun k hk z => ?_) fun z => by rw [hp z]; exact fun q => nomatch q
      · have e : c - 1 + 1 = c := by omega
        rw [e] at q
        exact q
      · rcases List.mem_cons.mp hk with q | q
        · omega
        · rcases List.mem_cons.mp q with q | q
          · omega
          · have := (List.pairwise_cons.mp hs').1 k q
            omega
    · rcases List.mem_cons.mp hk with q | q
      · have hbt : b < t := by
          rcases List.mem_cons.mp t1 with y | y
          · omega
          · exact (List.pairwise_cons.mp hs).1 t (List.mem_cons_of_mem _ y)
        omega
      · exact u3 k q z
/-! ### the verdict, by lines and by spans -/
def verd (S O N : α) (bs : List Bool) : α := if bs.all id = true then S else if bs.any id = true then O else N
theorem eachT_runs {f : Int → α} : ∀ (n : Nat) , isRuns f 0 none (((List.range n).map fun i => ((i : Nat) : Int)).foldl (fun acc t => push acc t t (f t)) []) (n : Int)
  | 0 => rfl
  | n + 1 => by
    rw [List.range_succ, List.map_append, List.foldl_append]
    have h := eachT_runs (f := f) n
    have q := push_runs (y := (n : Int)) (v := f n) h (Int.le_refl _) (fun t t1 t2 => by rw [show t = (n : Int) by omega]) fun _ z => nomatch z
    simpa using q
/-- ks: the marks, ascending; begins: those up to top -/
theorem marks_runs {f : Int → α} {top : Int} {ks : List Int} (ht : 0 ≤ top) (hs : ks.Pairwise (· < ·)) (h0 : 0 ∈ ks) (hn : ∀ k ∈ ks, 0 ≤ k)
    (hf : ∀ t u : Int, 0 ≤ t → t ≤ u → u ≤ top → (∀ k ∈ ks, t < k → u < k) → f u = f t) :
    isRuns f 0 none (stripsOf f ((ks.filter fun t => decide (t ≤ top)).zip ((ks.filter fun t => decide (t ≤ top)).drop 1 ++ [top + 1])) []) (top + 1) := by
  cases ks with
  | nil => cases h0
  | cons k r =>
    have k0 : k = 0 := by
      rcases List.mem_cons.mp h0 with q | q
      · exact q.symm
      · have a := (List.pairwise_cons.mp hs).1 0 q
        have b := hn k List.mem_cons_self
        omega
    subst k0
    have ef : ((0 : Int) :: r).filter (fun t => decide (t ≤ top)) = 0 :: r.filter (fun t => decide (t ≤ top)) := by rw [List.filter_cons]; simp [ht]
    rw [ef]
    show isRuns f 0 none (stripsOf f (((0 : Int) :: r.filter fun t => decide (t ≤ top)).zip (r.filter (fun t => decide (t ≤ top)) ++ [top + 1])) []) (top + 1)
    refine stripsOf_runs (b := 0) (found := []) rfl ?_ (fun t h => ?_) (fun t h u u1 u2 u3 => ?_) fun _ => rfl
    · rw [← ef]
      exact hs.filter _
    · rw [← ef] at h
      exact of_decide_eq_true (List.mem_filter.mp h).2
    · rw [← ef] at h
      refine hf t u (hn t (List.mem_filter.mp h).1) u1 u2 fun j hj z => ?_
      by_cases hjt : j ≤ top
      · exact u3 j (by rw [← ef]; exact List.mem_filter.mpr ⟨hj, decide_eq_true hjt⟩) z
      · omega
theorem inSpan_same {s : Option (Int × Int)} {t u : Int} (h : t ≤ u) (h1 : ∀ f l, s = some (f, l) → (t < f → u < f) ∧ (t < l + 1 → u < l + 1)) : inSpan s u = inSpan s t := by
  cases s with
  | none => rfl
  | some p =>
    obtain ⟨f, l⟩ := p
    obtain ⟨a, b⟩ := h1 f l rfl
    unfold inSpan
    by_cases hf : f ≤ t
    · by_cases hl : t ≤ l
      · have := b (by omega)
        simp [hf, hl, show f ≤ u by omega, show u ≤ l by omega]
      · simp [hl, show ¬ u ≤ l by omega]
    · have := a (by omega)
      simp [hf, show ¬ f ≤ u by omega]
/-- THE PLAIN LAW: the rows that the program makes are the runs of the verdicts of the lines -/
theorem strips_law {S O N : α} {top low : Int} {high : Option Int} {lines : List (Int × Int)} {ks : List Int} (ht : 0 ≤ top) (hs : ks.Pairwise (· < ·))
    (hk : ∀ k, k ∈ ks ↔ k = 0 ∨ ∃ p ∈ lines, ∃ f l, tw p.1 p.2 top low high = some (f, l) ∧ (k = f ∨ k = l + 1)) :
    isRuns (fun t => verd S O N (lines.map fun p => within low high (p.1 + p.2 * t))) 0 none
      (stripsOf (fun t => verd S O N (lines.map fun p => inSpan (tw p.1 p.2 top low high) t)) ((ks.filter fun t => decide (t ≤ top)).zip ((ks.filter fun t => decide (t ≤ top)).drop 1 ++ [top + 1])) []) (top + 1) := by
  have h := marks_runs (f := fun t => verd S O N (lines.map fun p => inSpan (tw p.1 p.2 top low high) t)) ht hs ((hk 0).mpr (.inl rfl)) (fun k q => ?_) (fun t u t0 tu ut hkk => ?_)
  · refine h.congr fun t t1 t2 => ?_
    show verd S O N _ = verd S O N _
    congr 1
    exact List.map_congr_left fun p _ => tw_spec t1 (by omega)
  · rcases (hk k).mp q with z | ⟨p, _, f, l, e, z⟩
    · omega
    · have := tw_some ht e
      omega
  · show verd S O N _ = verd S O N _
    congr 1
    refine List.map_congr_left fun p hp => inSpan_same tu fun f l e => ⟨fun z => ?_, fun z => ?_⟩
    · exact hkk f ((hk f).mpr (.inr ⟨p, hp, f, l, e, .inl rfl⟩)) z
    · exact hkk (l + 1) ((hk (l + 1)).mpr (.inr ⟨p, hp, f, l, e, .inr rfl⟩)) z
end
end K49
end
section
/-! An own exception whose __init__ says super().__init__('..') and then stores its one parameter: made and raised. -/
namespace PySem
namespace OcX
open PySem.W PySem.Calls PyProof.Rows
/-! ### the text of such an __init__ -/
def sB (msg : Str) (j : Nat) (p1 p2 p3 p4 p5 p6 q1 q2 q3 q4 : Pos) : List Stmt :=
  [.Expr (.Call (.Attribute (.Call (.Name "super" p1) [] [] p2) "__init__" p3) [.Constant (.str msg) j p4] [] p5) p6,
   .Assign [.Attribute (.Name "self" q1) "part" q2] (.Name "part" q3) q4]
def sA (p1 p2 : Pos) : Arguments := { posonlyargs := [], args := [{ arg := "self", annotation := none, pos := p1 }, { arg := "part", annotation := none, pos := p2 }], vararg := none, kwonlyargs := [], kw_defaults := [], kwarg := none, defaults := [] }
def sS : Scope := { kind := .function, names := [(PySem.Str.ofString "self", .local), (PySem.Str.ofString "part", .local), (PySem.Str.ofString "__class__", .free), (PySem.Str.ofString "super", .globalImplicit)], isGenerator := false, isCoroutine := false, more := [] }
/-- what the written part says of the class at C: its __init__ at fI, its cell __class__ at cc, the code object at cda -/
structure SupTxt (prog : Program) (K : Frag) (C : Addr) : Prop where
  cls : ∃ nm q N bs bm sn sub ab col dd k0 k1 k2 k3 k5, K.lookup C = some (excClassObj nm q C N bs bm true sn sub ab col dd k0 k1 k2 k3 k5 "ValueError.__new__") ∧ PySem.HandSPX.refsVE bm = true
  sa : findIn K (.ref C) "__setattr__" = some (some (.builtin "object.__setattr__"))
  noN : findIn K (.ref C) "part" = some none
  kC : keepIn K (.ref C) = true
  exC : subIn K (.ref C) (.type "BaseException") = some true
  veC : subIn K (.ref C) (.type "ValueError") = some true
  tyC : typeIn K (.ref C) = some (.type "type")
  selfC : mroIn K C (.ref C) = some true
  sup : ks_superIn K C C "__init__" = some (some (.builtin "ValueError.__init__"))
  opq : nsIn K cStatics "thirdparty.any" = some none
  top : (prog.main.scope.names.lookup ("super" : Str)).isSome = false
  init : ∃ (fI cc cda : Addr), findIn K (.ref C) "__init__" = some (some (.ref fI)) ∧ typeIn K (.ref fI) = some (.type "function") ∧
    (∃ cl cld csl, K.lookup cc = some ⟨cl, cld, .cell (some (.ref C)), csl⟩) ∧
    (∃ ccl cdd vs ccs file tf, K.lookup cda = some ⟨ccl, cdd, .fields vs, ccs⟩ ∧ vs[2]? = some (.str file tf) ∧ ((prog.main.file : Str) == file) = true) ∧
    ∃ (qual msg : Str) (oc : Value) (od : Option Addr) (doc pm : Value) (an : Option Addr) (ct : Value) (osl : Array (Option Value)) (j : Nat) (a1 a2 p1 p2 p3 p4 p5 p6 q1 q2 q3 q4 : Pos),
      K.lookup fI = some ⟨oc, od, .func (ksFn "__init__" qual (sA a1 a2) (sB msg j p1 p2 p3 p4 p5 p6 q1 q2 q3 q4) sS .none .none doc pm an (.ref cda) ct cc), osl⟩ ∧ codeIn K (.ref cda) qual = true ∧
      ∀ env : Env, ∃ pl : Sem Bool, eval (.Call (.Attribute (.Call (.Name "super" p1) [] [] p2) "__init__" p3) [.Constant (.str msg) j p4] [] p5) env = (do
        let ov ← attributeBase (.Call (.Name "super" p1) [] [] p2) "__init__" env (eval (.Call (.Name "super" p1) [] [] p2) env)
        standAt p3.atName
        let (f, first) ← holding [ov] (getMethod ov "__init__" pl)
        callWith p5 f first (backTo p5 (starEach [.Constant (.str msg) j p4] env)) [])

/-- what the making of it leaves: the exception at e, its dict at d -/
structure SupMade (h h' : Heap) (e C d : Addr) (v : Value) : Prop where
  keep : ∀ b o, h.get? b = some o → h'.get? b = some o
  new : h.objs.size ≤ e
  obj : ∃ t : Addr, h'.get? e = some { cls := .ref C, dict := some d, data := .fields #[.ref t, .none, .none, .none, .bool false, .none] }
  dbig : h.objs.size ≤ d
  dne : d ≠ e
  ns : h'.Ns1 d (fun y => if y = "part" then some v else none)
section
variable {prog : Program} {w : World} {A : Around} {E : Value → Shared → Prop} {R : Result → Shared → Prop} {s : Shared} {K : Frag} {mg mb : Str → Option Value} {C : Addr} 
/-- the bound built-in __init__, called -/
theorem bw_call {u e t0 : Addr} {rest : List Value} {Q : Value → Shared → Prop} (T : SupTxt prog K C) (X : K.In s.heap) (hu : s.heap.get? u = some (kxs_mw "ValueError.__init__" e)) (he : s.heap.get? e = some (excRec (.ref C) t0 none .none .none (.bool false))) (hz : rest.length ≤ sizeLine)
    (hq : ∀ h' t1, (∀ b o, b ≠ e → s.heap.get? b = some o → h'.get? b = some o) → h'.get? e = some (excRec (.ref C) t1 none .none .none (.bool false)) → Q .none { s with heap := h' }) :
    wpAny (model prog w) A (call (.ref u) rest) Q E s := by
  obtain ⟨nm, q, N, bs, bm, sn, sub, ab, col, dd, k0, k1, k2, k3, k5, hC, hbm⟩ := T.cls
  have FB := F.excBase_ValueError
  obtain ⟨hh, g, d, tk, os⟩ := s
  refine wpAny_call (codeAny_of_tree ?_)
  show wpAny _ A.in1 (callAny (.ref u) ⟨rest, []⟩) _ _ _
  simp only [callAny]
  refine wpAny_bind (wpAny_load hu ?_)
  have e1 : (Value.type "method-wrapper" == Value.type "method" || Value.type "method-wrapper" == Value.type "builtin_function_or_method" || Value.type "method-wrapper" == Value.type "method-wrapper") = true := by decide
  simp only [kxs_mw, e1, if_true]
  refine KFB.if_so (by decide) (wpAny_bind (check_bound_init FB.toExcCallFacts (X _ _ hC) he rfl ?_))
  refine wpAny_bind (wpAny_pure (wpAny_pure ⟨plainId_quiet FB.init.plain _, codeAny_builtin FB.initEntry ?_⟩))
  exact exc_init_tree he hz fun h' k1 k2 _ => hq h' _ k1 k2
theorem sup_init (T : SupTxt prog K C) {fI : Addr} (hfI : findIn K (.ref C) "__init__" = some (some (.ref fI))) {x t0 : Addr} {v : Value} (X : K.In s.heap) (hlim : s.heap.NoLimit) (hG : s.heap.Ns mainGlobals mg) (hB : s.heap.Ns builtinsNs mb) (hs0 : mg "super" = none) (hs1 : mb "super" = some (.type "super"))
    (hx : s.heap.get? x = some (excRec (.ref C) t0 none .none .none (.bool false))) (hroom : A.depth < recursionLimit) (notK : K.lookup x = none)
    (hq : ∀ h' tk dx t1, (∀ b o, b ≠ x → s.heap.get? b = some o → h'.get? b = some o) → h'.get? x = some { cls := .ref C, dict := some dx, data := .fields #[.ref t1, .none, .none, .none, .bool false, .none] } → s.heap.objs.size ≤ dx → dx ≠ x →
      h'.Ns1 dx (fun y => if y = "part" then some v else none) → R (.ok (.ret .none)) { s with heap := h', toks := tk }) :
    codeAny (model prog w) A (.call (.ref fI) ⟨[.ref x, v], []⟩) R s := by
  obtain ⟨fI', cc, cda, e1, tI, ⟨cl, cld, csl, hcc⟩, ⟨ccl, cdd, vs, ccs, file, tf, hcda, hvs, hfile⟩, qual, msg, oc, od, doc, pm, an, ct, osl, j, a1, a2, p1, p2, p3, p4, p5, p6, q1, q2, q3, q4, ho, hcd, hev⟩ := T.init
  rw [hfI] at e1
  cases e1
  obtain ⟨nm, q, N, bs, bm, sn, sub, ab, col, dd, k0, k1, k2, k3, k5, hC, hbm⟩ := T.cls
  have hclC : clsIn K C = some { name := nm, bases := bs, mro := .ref C :: bm, ns := N, qualname := q, hasDict := true, slotNames := sn, subclasses := sub, abstract := ab, collection := col, hasDel := false } := by unfold clsIn; rw [hC] <;> rfl
  refine ks_codeAny_call_defAt (binds := [("self", .ref x), ("part", v)]) (body := sB msg j p1 p2 p3 p4 p5 p6 q1 q2 q3 q4) hroom (X _ _ ho) rfl hlim (codeRec_of X hcd) rfl (BindsTo.of_eq (by first | rfl | with_unfolding_all rfl)) (show ∀ x ∈ sS.names, x.2 ≠ .cell from by decide) (fun y hy => ?_) (fun h0 hns k => ?_) rfl rfl rfl
  · rcases List.mem_cons.mp hy with z | z
    · rw [z]; rfl
    · rcases List.mem_cons.mp z with z | z
      · rw [z]; rfl
      · cases z
  have X0 : K.In h0 := X.keeps k
  have hx0 := k _ _ hx
  have hG0 := hG.keeps k
  have hB0 := hB.keeps k
  have hself : (fun y : Str => ([("self", Value.ref x), ("part", v)] : List (Str × Value)).reverse.lookup y) "self" = some (.ref x) := by
    show List.lookup ("self" : Str) [("part", v), ("self", Value.ref x)] = some (.ref x)
    rfl
  have hpar : (fun y : Str => ([("self", Value.ref x), ("part", v)] : List (Str × Value)).reverse.lookup y) "part" = some v := by
    show List.lookup "part" [("part", v), ("self", Value.ref x)] = some v
    rfl
  -- super().__init__(msg)
  obtain ⟨pl, hev⟩ := hev (callEnv (ksFn "__init__" qual (sA a1 a2) (sB msg j p1 p2 p3 p4 p5 p6 q1 q2 q3 q4) sS .none .none doc pm an (.ref cda) ct cc) s.heap.objs.size fI)
  refine ks_wpAt_execs_cons (ks_wpAt_Expr_any (ks_wpAt_MethodCall ?_ hev))
  refine ks_wpAt_super_base (env := callEnv (ksFn "__init__" qual (sA a1 a2) (sB msg j p1 p2 p3 p4 p5 p6 q1 q2 q3 q4) sS .none .none doc pm an (.ref cda) ct cc) s.heap.objs.size fI) rfl rfl rfl rfl (X0 _ _ ho) rfl rfl rfl (X0 _ _ hcda) rfl hvs hfile T.top ?_
  refine ks_loadName_global rfl rfl (loadGlobal_builtin hG0 hs0 hB0 hs1 ⟨rfl, ?_⟩)
  refine wpAny_loadName_free rfl rfl (by rfl) ⟨_, X0 _ _ hcc, rfl⟩ ?_
  refine wpAny_loadName_local rfl rfl hns hself ?_
  refine ks_wpAny_isType_cls (X0 _ _ hC) rfl ⟨rfl, ?_⟩
  refine ks_wpAny_call_super (X0 _ _ hC) rfl hx0 rfl (fun c e => nomatch e) (looks_mroIn X0 T.selfC) (fun h1 hso kk => ?_)
  have X1 := X0.keeps kk
  have hx1 := kk _ _ hx0
  have hxC : x ≠ C := fun z => by
    rw [z] at hx0
    have := (X0 _ _ hC).symm.trans hx0
    cases this
  have hm : alongIn K "__init__" (((Value.ref C :: bm).dropWhile (· != .ref C)).drop 1) = some (some (.builtin "ValueError.__init__")) := by
    have z := T.sup
    unfold ks_superIn at z
    rw [hclC] at z
    exact z
  refine kxs_getMethod kxs_ValueError hso (looks_opaque X1 T.opq) (l₀ := .ref C :: bm) (fun A Q E s k q => wpAny_bind ((looks_clsIn X1 hclC) A _ E s k (wpAny_pure q))) rfl X1 hm
    (Looks.andThen (a := .ref C) (fun A Q E s k q => wpAny_typeOf_ref (k _ _ hx1) q) (looks_subIn X1 T.veC)) hxC rfl ?_
  have X2 : K.In (h1.push (kxs_mw "ValueError.__init__" x)) := X1.keeps fun b o e => Heap.get?_push_of_some _ e
  have hx2 : (h1.push (kxs_mw "ValueError.__init__" x)).get? x = some (excRec (.ref C) t0 none .none .none (.bool false)) := Heap.get?_push_of_some _ hx1
  have hu2 : (h1.push (kxs_mw "ValueError.__init__" x)).get? h1.objs.size = some (kxs_mw "ValueError.__init__" x) := Heap.get?_push_at rfl rfl
  refine kxs_callWith (i := "ValueError.__init__") (x := x) (by rfl) (evalArgs_plain (spliced_cons (Constant_str (k := j) (pos := p4) (spliced_nil ⟨hu2, ?_⟩))))
  refine bw_call T X2 hu2 hx2 (by rw [sizeLine_eq]; exact (by decide : 1 ≤ 16777216)) fun h3 t3 k3 hx3 => ?_
  have k03 : ∀ b o, b ≠ x → h0.get? b = some o → h3.get? b = some o := fun b o hb e => k3 b o hb (Heap.get?_push_of_some _ (kk b o e))
  have X3 : K.In h3 := fun b o e => k3 b o (fun z => by rw [z, notK] at e; cases e) (X2 b o e)
  have hLx : s.heap.objs.size ≠ x := fun z => by
    have := Heap.lt_size hx
    rw [← z] at this
    exact absurd this (Nat.lt_irrefl _)
  have hns3 : h3.Ns s.heap.objs.size (fun y => ([("self", Value.ref x), ("part", v)] : List (Str × Value)).reverse.lookup y) := by
    obtain ⟨oL, es, ep, hL, r⟩ := hns
    exact ⟨oL, es, ep, k03 _ _ hLx hL, r⟩
  -- self.part = part
  refine ks_wpAt_execs_cons (wpAt_of_wpAny (plainObj_wpAny_Assign_Attribute ?_))
  refine wpAny_Name (wpAny_loadName_local rfl rfl hns3 hpar ?_) (by decide)
  refine wpAny_Name (wpAny_loadName_local rfl rfl hns3 hself ?_) (by decide)
  refine set_plain X3 (ox := excRec (.ref C) t3 none .none .none (.bool false)) (od := none) ⟨hx3, rfl, rfl, trivial⟩ T.sa ?_
  refine HandSPX.exc_osa X3 hx3 hclC (show HandSPX.refsVE (.ref C :: bm) = true from hbm) rfl T.noN (fun h4 tk4 dx k4 dn dne hx4 hn4 => ?_)
  have dbig : s.heap.objs.size ≤ dx := Nat.le_trans (Nat.le_of_lt hns3.lt) dn
  refine wpAt_of_wpAny (wpAny_execs_nil (hq h4 tk4 dx t3 (fun b o hb e => ?_) hx4 dbig dne hn4))
  exact k4 b o hb (k03 b o hb (k b o e))
/-- the making, whole -/
theorem sup_made (T : SupTxt prog K C) {v : Value} (X : K.In s.heap) (hlim : s.heap.NoLimit) (hG : s.heap.Ns mainGlobals mg) (hB : s.heap.Ns builtinsNs mb) (hs0 : mg "super" = none) (hs1 : mb "super" = some (.type "super")) (hroom : A.depth + 1 < recursionLimit)
    (hq : ∀ h' tk e d, SupMade s.heap h' e C d v → R (.ok (.ret (.ref e))) { s with heap := h', toks := tk }) :
    codeAny (model prog w) A (.call (.ref C) ⟨[v], []⟩) R s := by
  obtain ⟨nm, q, N, bs, bm, sn, sub, ab, col, dd, k0, k1, k2, k3, k5, hC, hbm⟩ := T.cls
  obtain ⟨fI, cc, cda, hfI, tI, _⟩ := T.init
  obtain ⟨hp, g, dr, tk, os⟩ := s
  have k : ∀ b o, hp.get? b = some o → ((hp.push (kdv_tup [v])).push (HandSPX.excO C hp.objs.size)).get? b = some o := fun b o e => Heap.get?_push_of_some _ (Heap.get?_push_of_some _ e)
  have hget : ((hp.push (kdv_tup [v])).push (HandSPX.excO C hp.objs.size)).get? (hp.objs.size + 1) = some (HandSPX.excO C hp.objs.size) := by heap_get
  have hnx : K.lookup (hp.objs.size + 1) = none := by
    cases e : K.lookup (hp.objs.size + 1) with
    | none => rfl
    | some o => exact absurd (Nat.lt_of_succ_lt (Heap.lt_size (X _ _ e))) (Nat.lt_irrefl _)
  refine HandSPX.call_own F.excBase_ValueError (fun Y => HandSPX.refsVE_contains Y bm hbm) (X _ _ hC) (looks_findIn X hfI) (fun self => bind_fn X self tI) (by rw [sizeLine_eq]; exact (by decide : 1 ≤ 16777216)) ?_
  refine sup_init (s := ⟨(hp.push (kdv_tup [v])).push (HandSPX.excO C hp.objs.size), g, dr, tk, os⟩) T hfI (X.keeps k) (hlim.keeps k) (hG.keeps k) (hB.keeps k) hs0 hs1 hget ?_ hnx fun h' tk' dx t1 k' hx dn dne hns => ?_
  · show (A.under (.builtin "type.__call__" ⟨[.ref C, v], []⟩)).depth < recursionLimit
    rw [show (A.under (.builtin "type.__call__" ⟨[.ref C, v], []⟩)).depth = A.depth + 1 from L2.make_depth]
    exact hroom
  · have z : hp.objs.size + 1 + 1 ≤ dx := by
      have q := dn
      simp only [Heap.size_push] at q
      exact q
    have z1 : hp.objs.size ≤ dx := Nat.le_trans (Nat.le_trans (Nat.le_succ _) (Nat.le_succ _)) z
    exact ⟨rfl, hq h' tk' (hp.objs.size + 1) dx ⟨fun b o e => k' b o (Nat.ne_of_lt (Nat.lt_succ_of_lt (Heap.lt_size e))) (k b o e), Nat.le_succ _, ⟨_, hx⟩, z1, dne, hns⟩⟩
end
end OcX
end PySem

namespace L2
open PySem PySem.Spec PyProof.Rows
theorem relO_part {v : V} {v' : Value} (r : RelV v v') (f : Str) : RelO (List.lookup f [(("part" : Str), v)]) (if f = "part" then some v' else none) := by
  by_cases hw : f = "part"
  · subst hw
    rw [if_pos rfl]
    exact r
  · rw [if_neg hw]
    have qw : (f == ("part" : Str)) = false := by simpa using hw
    have q2 : List.lookup f [(("part" : Str), v)] = none := by simp [List.lookup, qw]
    rw [q2]
    trivial
section
variable {X : Cx} {C : Addr}
/-- C(e), an own exception with such an __init__ -/
def tMkSup (C : Addr) (te : TE) : St → Hp → XK → Prop := fun σ H Q => te σ H fun v H1 => ∀ d, H1 d = none → Q (.ref C) (some d) (upd H1 d (.xd [(("part" : Str), v)]))
theorem pmk_sup {a : Expr} {te : TE} {x : Str} {p pos : Pos} {k : Nat} (T : PySem.OcX.SupTxt X.prog X.K C) (hr : Room k X.A) (hm : X.mg x = some (.ref C)) (hsup : X.mg "super" = none) (ha : PE X a te) (hg : Gl X x := by rfl) (hdb : (x == ("__debug__" : Str)) = false := by decide)
    (he : starEach (a :: []) X.env = (false, eval a X.env) :: starEach [] X.env := by rfl) (hpl : (backTo pos (starEach [] X.env)).any (·.1) = false := by rfl) :
    PMk X (.Call (.Name x p) [a] [] pos) (tMkSup C te) := by
  intro pins s σ H Q I h
  refine wpAny_Call_Name_kw (ld_glob I hg hm ?_ hdb)
  refine PySem.W.callWith_K (h₀ := X.base) I.ok.mod.kin T.kC (thn ((pa_cons ha pa_nil he).run pos pins s σ H (fun vs H1 => ∃ v, vs = [v] ∧ ∀ d, H1 d = none → Q (.ref C) (some d) (upd H1 d (.xd [(("part" : Str), v)]))) I ?_) fun us s1 hh => ?_) he hpl
  · unfold tMkSup at h
    show te σ H fun v H1 => tNil σ H1 fun xs H2 => ∃ v', v :: xs = [v'] ∧ ∀ d, H2 d = none → Q (.ref C) (some d) (upd H2 d (.xd [(("part" : Str), v')]))
    have conv : (fun (v : V) (H1 : Hp) => ∀ d, H1 d = none → Q (.ref C) (some d) (upd H1 d (.xd [(("part" : Str), v)]))) = fun v H1 => tNil σ H1 fun xs H2 => ∃ v', v :: xs = [v'] ∧ ∀ d, H2 d = none → Q (.ref C) (some d) (upd H2 d (.xd [(("part" : Str), v')])) := by
      funext v H1
      unfold tNil
      refine propext ⟨fun z => ⟨v, rfl, z⟩, fun ⟨v', e, z⟩ => ?_⟩
      cases e
      exact z
    rw [← conv]
    exact h
  obtain ⟨vs, H1, I1, r1, v, ev, q1⟩ := hh
  subst ev
  refine ⟨I1.kIn, ?_⟩
  cases r1 with
  | cons rv rn =>
    rename_i v' us'
    cases rn
    show wpAny _ _ (call (.ref C) [v']) _ _ _
    have hlim := I1.nolimit
    obtain ⟨mb, hmb, hmb2⟩ := I1.mod.blt
    have hG := I1.mod.glob.keeps I1.bk
    have hB := hmb.keeps I1.bk
    have hs1 : mb "super" = some (.type "super") := (hmb2 "super" (by decide)).trans (by first | rfl | decide +kernel)
    obtain ⟨hp, g, dr, tk, os⟩ := s1
    refine wpAny_call (PySem.OcX.sup_made T I1.kIn hlim hG hB hsup hs1 (by have := hr.dp; omega) fun h' tk' e d M => ?_)
    show MkP X pins σ Q (.ref e) ⟨h', g, dr, tk', os⟩
    obtain ⟨t0, hoe⟩ := M.obj
    have hns := M.ns
    obtain ⟨G', g1, g2⟩ := restrict h' fun b => decide (b ≠ e)
    have gk : ∀ b, b ≠ e → G'.get? b = h'.get? b := fun b hb => g1 b (decide_eq_true hb)
    have ge : G'.get? e = none := g2 e (by simp)
    have old : ∀ b o, hp.get? b = some o → G'.get? b = some o := fun b o q => (gk b (Nat.ne_of_lt (Nat.lt_of_lt_of_le (Heap.lt_size q) M.new))).trans (M.keep b o q)
    have ob : ObjOk X.prog X.w (upd H1 d (.xd [(("part" : Str), v)])) G' d (.xd [(("part" : Str), v)]) :=
      ⟨_, hns.at (fun o q => (gk d M.dne).trans q), fun f => relO_part rv f⟩
    have J : Inv X pins σ (upd H1 d (.xd [(("part" : Str), v)])) ⟨G', g, dr, tk', os⟩ := I1.laid (t' := tk') old M.dbig ob
    refine ⟨e, _, _, ⟨G', g, dr, tk', os⟩, _, .ref C, some d, rfl, J, fun b o q => ?_, ge, hoe, ⟨rfl, rfl⟩, rfl, rfl, ?_, rfl, I1.bare, raises_own T.exC T.tyC, q1 d (I1.hok.fresh M.dbig)⟩
    · by_cases hb : b = e
      · have q' : G'.get? b = some o := q
        rw [hb, ge] at q'; cases q'
      · exact (gk b hb).symm.trans q
    · rw [upd_ne (Ne.symm M.dne)]
      exact I1.hok.fresh M.new
end
end L2
end
section
/-! try: body / except X as n: y = n: the error is kept in y, tracked from then on; isinstance and a field of a kept error. -/
namespace L2
open PySem PySem.Spec PyProof.Rows
/-- at a: an error of the class cls, its own dict at d -/
def exc (cls : Value) (d : Option Addr) (a : Addr) : HO := .ext fun h => ∃ (oe : Obj) (vs : Array Value), h.get? a = some oe ∧ Zc cls d oe ∧ oe.data = .fields vs
theorem exc_ok {P : Program} {w : World} {H : Hp} {h : Heap} {a : Addr} {cls : Value} {d : Option Addr} {oe : Obj} {vs : Array Value} (e : h.get? a = some oe) (z : Zc cls d oe) (q : oe.data = .fields vs) : ObjOk P w H h a (exc cls d a) :=
  ⟨⟨oe, vs, e, z, q⟩, ⟨oe, e⟩, fun _ _ ⟨o, v, q, r⟩ k => ⟨o, v, k o q, r⟩⟩
theorem exc_at {P : Program} {w : World} {H : Hp} {h : Heap} {a : Addr} {cls : Value} {d : Option Addr} (hok : HOk P w H h) (e : H a = some (exc cls d a)) : ∃ (oe : Obj) (vs : Array Value), h.get? a = some oe ∧ Zc cls d oe ∧ oe.data = .fields vs := by
  have x : ObjOk P w H h a (.ext fun h => ∃ (oe : Obj) (vs : Array Value), h.get? a = some oe ∧ Zc cls d oe ∧ oe.data = .fields vs) := hok a _ e
  exact x.1
section
variable {X : Cx} {pins : List (Addr × Obj)} {σ : St} {H : Hp} {s : Shared}
/-- an object that nobody tracks is tracked from now on -/
theorem Inv.track {a : Addr} {o : HO} (I : Inv X pins σ H s) (na : H a = none) (n0 : X.s_0.heap.get? a = none) (nL : a ≠ X.env.locals) (nC : ∀ x c, X.env.cells.lookup x = some c → c ≠ a) (nP : ∀ p ∈ X.pn ++ pins, p.1 ≠ a)
    (new : ObjOk X.prog X.w (upd H a o) s.heap a o) : Inv X pins σ (upd H a o) s where
  ok := I.ok
  os := I.os
  bare := I.bare
  base := ⟨I.base.keep, I.base.slot, fun b ob e n hx => by rw [upd_ne (fun z => by rw [z, n0] at e; cases e)]; exact I.base.free b ob e n hx, I.base.there,
    fun b xs e => by rw [upd_ne (ne_of_none (I.base.tups b xs e) na)]; exact I.base.tups b xs e,
    fun b ob u e => by rw [upd_ne (ne_of_none (I.base.frzs b ob u e) na)]; exact I.base.frzs b ob u e,
    fun b ps e => by
      obtain ⟨m, q⟩ := I.base.tbls b ps e
      exact ⟨m, by rw [upd_ne (ne_of_none q na)]; exact q⟩⟩
  loc := I.loc
  cell := I.cell
  free := by rw [upd_ne (Ne.symm nL)]; exact I.free
  freeC := fun x c e => by rw [upd_ne (nC x c e)]; exact I.freeC x c e
  pin := fun p hp => by
    obtain ⟨h1, h2, h3⟩ := I.pin p hp
    exact ⟨h1, by rw [upd_ne (nP p hp)]; exact h2, h3⟩
  hok := fun b u e => by
    by_cases hb : b = a
    · subst hb
      rw [upd_same] at e
      cases e
      exact new
    · rw [upd_ne hb] at e
      exact (I.hok b u e).stay (fun c v _ q => q) (fun c q => by rw [upd_ne (ne_of_none q na)]; exact q) fun c xs q => by rw [upd_ne (ne_of_none q na)]; exact q
  len := I.len
end
/-- what the clause wishes: the error is kept in slot m -/
def wKeep (K : PySem.W.Frag) (c : Value) (i m : Nat) (Wout : WX) (D : Ends) : WX := fun cls d σ H =>
  ∃ b, PySem.W.exmOne K cls c = some b ∧ (b = true → ∀ a, H a = none → D.nx (((σ.set i (some (.ref a))).set m (some (.ref a))).set i none) (upd H a (exc cls d a))) ∧ (b = false → Wout cls d σ H)
section
variable {X : Cx} {x n y : Str} {c : Value} {i m : Nat} {body : List Stmt} {np pos pos' py pn' ps : Pos} {tb : WX → TS} {Wout : WX}
theorem ps_try_keep (hs : X.stack = X.env :: X.outer) (hf : X.env.frame = some X.env.locals) (hex : X.ex = []) (hN : X.N.Nodup) (hi : X.N[i]? = some n) (hln : X.env.kindOf n = some .local) (hm : X.N[m]? = some y) (hly : X.env.kindOf y = some .local) (him : i ≠ m) (hnd : (n == ("__debug__" : Str)) = false)
    (hc : Names X x c) (tk : Takes X Wout)
    (hb : ∀ (W : WX) (pn : List (Addr × Obj)) (xe : Value → Shared → Prop), Takes (X.tr pn xe) W → PassesOwn (model X.prog X.w) X.A X.env xe → PSs (X.tr pn xe) body (tb W))
    (hsw : ∀ a pn, PS (X.suite a pn) (.Assign [.Name y py] (.Name n pn') ps) (tAsg (tVar i) (gName m))) :
    PS X (.Try body [.ExceptHandler (some (.Name x np)) (some n) [.Assign [.Name y py] (.Name n pn') ps] pos'] [] [] pos) (fun D σ H => tb (wKeep X.K c i m Wout D) D σ H) := by
  refine ⟨fun pins s σ H D I h => ?_⟩
  have ok := I.ok
  have hfr : X.A.frames = some (X.env :: X.outer) := by rw [ok.frames, hs]
  refine wpAny_Try_except ?_
  refine wpAny_mono ((hb (wKeep X.K c i m Wout D) (X.pn ++ pins) (fun e s₁ => wpAny (model X.prog X.w) X.A (noteFrame e X.env) (fun _ s₂ => wpAny (model X.prog X.w) X.A (setFlight e none) (fun _ s₃ =>
      wpAny (model X.prog X.w) X.A (handleBy e X.env [.ExceptHandler (some (.Name x np)) (some n) [.Assign [.Name y py] (.Name n pn') ps] pos']) (SP X pins D) X.xe s₃) X.xe s₂) X.xe s₁) (fun u s' xx => ?_) PassesOwn.looking).run [] s σ H D (I.toTry _) h)
    (fun f s1 hsp => ?_) (fun e s1 he => he)
  · obtain ⟨a, B, sI, pins', σ', H', cls, d, rfl, J', nb, up, sky, na, os, ag, b, hb1, hyes, hno⟩ := xx
    have J : Inv X pins σ' H' sI := J'.ofTry ok
    have sky' : Sky B (X.env :: X.outer) a (Zc cls d) X.env.locals s'.heap := by rw [← hs]; exact sky
    show wpAny (model X.prog X.w) X.A (noteFrame (.ref a) X.env) _ _ _
    refine Sky.land Zc.steady hfr hf sky' fun h3 fl3 up3 => ?_
    have J3 : Inv X pins σ' H' { s' with heap := h3 } := J.landed nb fl3.1 (up.trans up3) os ag
    obtain ⟨oe3, vs3, he3, hz3, hd3⟩ := fl3.there
    have nfr : a ∉ frs (X.env :: X.outer) := fun hmm => by
      obtain ⟨_, o', e', hnf⟩ := fl3.2.2.1.mem hmm
      rw [he3] at e'
      cases e'
      exact hnf _ hd3
    have nL : a ≠ X.env.locals := fun z => nfr (List.mem_filterMap.mpr ⟨X.env, List.mem_cons_self, by rw [hf, z]⟩)
    have nF : a ∉ X.fs := fun hmm => by
      obtain ⟨e, he, q⟩ := List.mem_filterMap.mp hmm
      exact nfr (List.mem_filterMap.mpr ⟨e, List.mem_cons_of_mem _ he, q⟩)
    have nI : sI.heap.get? a = none := by
      cases e : sI.heap.get? a with
      | none => rfl
      | some o =>
        have q := nb a o e (by rw [hs]; exact nfr)
        rw [fl3.2.1] at q
        cases q
    have n0 : X.s_0.heap.get? a = none := by
      cases e : X.s_0.heap.get? a with
      | none => rfl
      | some o =>
        obtain ⟨o', q⟩ := J.base.there a o e (by rw [hex]; exact fun z => nomatch z)
        rw [nI] at q
        cases q
    have nP : ∀ p ∈ X.pn ++ pins, p.1 ≠ a := fun p hp z => by
      have q := (J.pin p hp).1
      rw [z, nI] at q
      cases q
    have S3 := J3.suite he3 hd3 na nL nF
    refine wpAny_handleBy_cons (codeAny_handlers_test ?_) (by intro q; cases q)
    have LT : PySem.W.Looks (model X.prog X.w) h3 (typeOf (.ref a)) cls := fun A Q E s k q => wpAny_typeOf_ref (k _ _ he3) (by rw [hz3.1]; exact q)
    have LM := PySem.W.exm_one (M := model X.prog X.w) (J3.kIn) LT hb1
    have test : ∀ {Q : Value → Shared → Prop} {E : Value → Shared → Prop}, Q c { s' with heap := h3 } → wpAny (model X.prog X.w) (X.A.mark (some (.ref a))) (eval (.Name x np) X.env) Q E { s' with heap := h3 } := fun {Q E} q => by
      obtain ⟨hg, hdbg, hmg | ⟨hmg, hv, hnn⟩⟩ := hc
      · exact ld_glob (X := X.suite a ((a, oe3) :: (X.pn ++ pins))) S3 hg hmg q hdbg
      · exact ld_blt (X := X.suite a ((a, oe3) :: (X.pn ++ pins))) S3 hg hmg hv q hnn hdbg
    refine test (LM.here ?_)
    cases b with
    | true =>
      refine codeAny_handlers_suite_as ?_
      refine HandSPX.lands_againZ fl3 fun h4 fl4 up4 => ?_
      have J4 : Inv X pins σ' H' { s' with heap := h4 } := J.landed nb fl4.1 ((up.trans up3).trans up4) os ag
      obtain ⟨oe4, vs4, he4, hz4, hd4⟩ := fl4.there
      have S4 := J4.suite he4 hd4 na nL nF
      have hlt : i < σ'.length := by
        rw [J4.len]
        exact (List.getElem?_eq_some_iff.mp hi).1
      refine store_ok (X := X.suite a ((a, oe4) :: (X.pn ++ pins))) (v := .ref a) S4 hN hi (.inl hln) rfl (fun s5 S5 => ?_) (.inr hln)
      refine wpAny_mono ((pss_one (hsw a ((a, oe4) :: (X.pn ++ pins)))).run [] s5 _ H' { nx := fun σ6 H6 => σ6 = (σ'.set i (some (.ref a))).set m (some (.ref a)) ∧ H6 = H', rt := fun _ _ => False } S5 ⟨.ref a, by rw [List.getElem?_set_self hlt], rfl, rfl⟩) (fun f s6 hsp => ?_) (fun _ _ z => False.elim z)
      cases f with
      | next =>
        obtain ⟨σ6, H6, S6, e1, e2⟩ := hsp
        rw [e1, e2] at S6
        refine gone_ok (X := X.suite a ((a, oe4) :: (X.pn ++ pins))) S6 hN hi hln fun s7 S7 => ?_
        obtain ⟨he7, hn7, _, _, hcell⟩ := S7.pin (a, oe4) (List.mem_append_left _ List.mem_cons_self)
        have J7 : Inv X pins _ H' s7 := S7.unsuite ok
        refine ⟨_, _, J7.track na n0 nL (fun y' c' ec z => ?_) nP (exc_ok he7 hz4 hd4), hyes rfl a na⟩
        obtain ⟨v', o', ho', hd'⟩ := J7.cell y' c' ec
        rw [z, he7] at ho'
        have q := Option.some.inj ho'
        rw [← q] at hd'
        exact hcell _ hd'
      | brk => obtain ⟨_, _, _, z⟩ := hsp; exact False.elim z
      | cont => obtain ⟨_, _, _, z⟩ := hsp; exact False.elim z
      | ret u => obtain ⟨_, _, _, _, _, z⟩ := hsp; exact False.elim z
    | false =>
      show wpAny _ X.A (handleBy (.ref a) X.env []) _ _ _
      refine wpAny_handleBy_nil ?_
      obtain ⟨k1, k2, k3, oe, vs, T, oT, ts', he, hz, hd, h1, hr⟩ := id fl3
      unfold PySem.passOn
      refine wpAny_bind (wpAny_field he hd h1 ?_)
      rw [if_neg (show ¬ ((Value.ref T == Value.none) = true) from by simp)]
      have fin : wpAny (model X.prog X.w) X.A (setFlight (.ref a) X.env.frame) (fun _ s4 => wpAny (model X.prog X.w) X.A (throw (.ref a) : Sem Flow) (SP X pins D) X.xe s4) X.xe { s' with heap := h3 } := by
        rw [hf]
        refine HandSPX.setFlight_upZ fl3 fun h4 hh4 up4 => wpAny_throw (tk _ _ ?_)
        exact ⟨a, B, sI, pins, σ', H', cls, d, rfl, J, nb, (up.trans up3).trans up4, .inr (.inr (by rw [hs]; exact hh4)), na, os, ag, hno rfl⟩
      first
        | exact wpAny_bind (wpAny_pure (wpAny_bind fin))
        | exact wpAny_bind fin
  · cases f with
    | next =>
      obtain ⟨σ', H', J', q⟩ := hsp
      exact wpAny_execs_nil ⟨σ', H', J'.ofTry ok, q⟩
    | brk =>
      obtain ⟨σ', H', J', q⟩ := hsp
      exact ⟨σ', H', J'.ofTry ok, q⟩
    | cont =>
      obtain ⟨σ', H', J', q⟩ := hsp
      exact ⟨σ', H', J'.ofTry ok, q⟩
    | ret u =>
      obtain ⟨v, σ', H', J', r, q⟩ := hsp
      exact ⟨v, σ', H', J'.ofTry ok, r, q⟩
end
/-! ### a kept error: isinstance, a field -/
theorem exc_inst {P : Program} {w : World} {H : Hp} {h : Heap} {a d : Addr} {C : Addr} {fs : List (Str × V)} (hok : HOk P w H h) (e : H a = some (exc (.ref C) (some d) a)) (ed : H d = some (.xd fs)) : ∃ oe od, PySem.W.InstAt h a oe C (some od) ∧ ∀ (mA : Str → Option Value), h.Ns1 d mA → ∀ f, PySem.W.lookIn f od = some (mA f) := by
  obtain ⟨oe, vs, he, hz, hd⟩ := exc_at hok e
  obtain ⟨mA, hns, hr⟩ := (show ObjOk P w H h d (.xd fs) from hok d _ ed)
  obtain ⟨od, ho, hl⟩ := lookIn_ns hns
  refine ⟨oe, od, ⟨he, hz.1, by unfold PySem.W.notCls; rw [hd] <;> rfl, by rw [hz.2]; exact ho⟩, fun m2 hn2 f => ?_⟩
  obtain ⟨od2, ho2, hl2⟩ := lookIn_ns hn2
  rw [ho] at ho2
  cases ho2
  exact hl2 f
/-- isinstance(e, c) of a kept error -/
def rIsX (K : PySem.W.Frag) : List V → Hp → VK → Prop := fun xs H Q => ∃ (a d D : Addr) (fs : List (Str × V)) (c : V) (cv : Value) (b : Bool), xs = [.ref a, c] ∧ (∀ u, RelV c u → u = cv) ∧ H a = some (exc (.ref D) (some d) a) ∧ H d = some (.xd fs) ∧ ExcC K D ∧ PySem.W.kitOne K (.ref D) cv = some b ∧ Q (.bl b) H
theorem call_isX {X : Cx} : CallR X (.builtin "isinstance") (rIsX X.K) := by
  intro pins s σ H xs us Q I r h
  obtain ⟨a, d, D, fs, c, cv, b, rfl, hcv, ha, hd, C, e, q⟩ := h
  obtain ⟨u1, u2, rfl, r1, r2⟩ := vals2 r
  cases (show u1 = Value.ref a from r1)
  cases hcv _ r2
  obtain ⟨oe, od, J, _⟩ := exc_inst I.hok ha hd
  have hcl : (PySem.W.clsIn X.K D).isSome = true := by
    obtain ⟨cd, hc, _⟩ := PySem.W.any_some C.hd
    rw [hc]
    rfl
  exact PySem.W.kia_one (PySem.W.kitx_exc (od := some od) hcl C.hg C.hk C.hs C.ha C.hn C.ht C.hm) I.kIn J e (fun z => nomatch z) fun tk => ⟨.bl b, H, I.kept (t' := tk) fun _ _ z => z, rfl, q⟩
/-- e.f of a kept error -/
def tXk (K : PySem.W.Frag) (f : Str) (te : TE) : TE := fun σ H Q => te σ H fun x H1 => ∃ (a d D : Addr) (fs : List (Str × V)) (v : V), x = .ref a ∧ H1 a = some (exc (.ref D) (some d) a) ∧ H1 d = some (.xd fs) ∧ XfC K D ∧ PySem.W.findIn K (.ref D) f = some none ∧ fs.lookup f = some v ∧ Q v H1
theorem pe_xk {X : Cx} {e : Expr} {te : TE} {pos : Pos} {n : Str} (he : PE X e te) (hb : attributeBase e n X.env (eval e X.env) = eval e X.env := by rfl) : PE X (.Attribute e n pos) (tXk X.K n te) := by
  refine ⟨fun pins s σ H Q I h => ?_⟩
  refine attr_of hb (thn (he.run pins s σ H _ I h) fun u s1 hh => ?_)
  obtain ⟨x, H1, I1, rx, a, d, D, fs, v, ex, ea, ed, T, hno, l, q⟩ := hh
  subst ex
  obtain rfl : u = Value.ref a := rx
  obtain ⟨oe, od, J, hlk⟩ := exc_inst I1.hok ea ed
  obtain ⟨mA, hns, hr⟩ := (show ObjOk X.prog X.w H1 s1.heap d (.xd fs) from I1.hok d _ ed)
  obtain ⟨u, hu, ru⟩ := RelO.some_of (v := v) (o := mA n) (by rw [← l]; exact hr n)
  exact HandSPX.exc_get I1.kIn J T.ga T.gg T.exC (PySem.W.findObj_own T.hdC hno rfl (by rw [hlk mA hns n, hu])) (handed_of ru) ⟨v, H1, I1.tok _, ru, q⟩
end L2
end
section
/-! x(lambda a=0: body): a lambda with one parameter that has a written default, handed to a def that calls it without arguments. -/
namespace LamD
open PySem PySem.Spec PyProof.Rows L2 LamX
/-- the function object of such a lambda: its defaults' tuple at q -/
abbrev dfn (qual : Str) (params : Arguments) (body : Expr) (scope : Scope) (cl : List (Str × Addr)) (q : Addr) (pm cdv ct : Value) : FuncData :=
  { name := "<lambda>", qualname := qual, params, body := .expr body, scope, globals := mainGlobals, closure := cl, defaults := .ref q, kwdefaults := .none, doc := .none, pyModule := pm, annotations := none, code := cdv, closureTuple := ct, builtins := builtinsNs }
abbrev dobj (qual : Str) (params : Arguments) (body : Expr) (scope : Scope) (cl : List (Str × Addr)) (q : Addr) (pm : Value) (c' : Addr) (ctv : Value) : Obj := { cls := .type "function", data := .func (dfn qual params body scope cl q pm (.ref c') ctv) }
abbrev tupO (v : Value) : Obj := { cls := .type "tuple", data := .seq [v].toArray }
section
open PySem.W
variable {M : Model} {A : Around} {E : Value → Shared → Prop} {s : Shared} {qual : Str} {params : Arguments} {body : Expr} {scope : Scope} {env : Env} {c P q : Addr} {ps : Array Value} {pos : Pos} {firstLine : Nat} {mg : Str → Option Value} {clos : List (Str × Addr)} {Q : Value → Shared → Prop}
theorem tail_new (hcl : closureFor scope env = pure clos) (hge0 : env.globals = mainGlobals) (hg : s.heap.Ns mainGlobals mg) (hcode : env.code = .ref c) (C : CodeHd s.heap c P) (hP : s.heap.get? P = some (tabObj ps)) (ht : TriplesOk ps.toList)
    (hnf : codeAmong pos ps.toList = none) (hgP : mainGlobals ≠ P) (hb : s.heap.BuiltinsAt mg P)
    (h : ∀ c' ctv h' tk, Heap.ExtBut P s.heap h' → s.heap.objs.size ≤ c' → c' < h'.objs.size → h'.CodeRec (.ref c') qual → h'.get? P = some (tabObj (ps ++ #[rawInt pos.line, rawInt pos.col, .ref c'])) →
      Q (.ref h'.objs.size) { s with heap := h'.push (dobj qual params body scope clos q ((mg "__name__").getD .none) c' ctv), toks := tk }) :
    wpAny M A (makeTail "<lambda>" qual params (.expr body) scope env (.ref q) .none none pos firstLine) Q E s := by
  obtain ⟨bm, ob, hbm, hne0, _, hneP, hbo, hcls, hdict, hdata⟩ := hb
  unfold makeTail
  rw [hcl, hge0]
  refine wpAny_bind (wpAny_pure ?_)
  cases clos with
  | nil =>
    simp only [List.isEmpty_nil, if_true]
    refine wpAny_bind (wpAny_pure (wpAny_bind (wpAny_functionCodeX hcode (C.code hP ht) (C.tab hP) hnf fun c' h' tk hx hge hlt _ hrec htb _ => ?_)))
    have hg' := hg.extBut hx hgP
    refine wpAny_bind (wpAny_builtinsFor hg' hbm hne0 (hx _ _ hneP hbo) hcls hdict hdata (wpAny_bind (wpAny_nsGet hg' ?_)))
    exact wpAny_bind (wpAny_pure (wpAny_newObj_type (h c' .none h' tk hx hge hlt hrec htb.2) (by size_fits)))
  | cons y r =>
    simp only [List.isEmpty_cons, Bool.false_eq_true, if_false]
    refine wpAny_bind (wpAny_newTextTuple ?_)
    have k1 : ∀ (oT : Obj) b o, s.heap.get? b = some o → (s.heap.push oT).get? b = some o := fun _ b o e => Heap.get?_push_of_some _ e
    refine wpAny_bind (wpAny_functionCodeX hcode ((C.keeps (k1 _)).code (k1 _ _ _ hP) ht) ((C.keeps (k1 _)).tab (k1 _ _ _ hP)) hnf fun c' h' tk hx hge hlt _ hrec htb _ => ?_)
    have hg' := (hg.push _).extBut hx hgP
    have hx' : Heap.ExtBut P s.heap h' := fun b o hb' e => hx b o hb' (k1 _ _ _ e)
    have hge' : s.heap.objs.size ≤ c' := Nat.le_trans (by rw [Heap.size_push]; omega) hge
    refine wpAny_bind (wpAny_builtinsFor hg' hbm hne0 (hx' _ _ hneP hbo) hcls hdict hdata (wpAny_bind (wpAny_nsGet hg' ?_)))
    exact wpAny_bind (wpAny_pure (wpAny_newObj_type (h c' _ h' tk hx' hge' hlt hrec htb.2) (by size_fits)))
theorem tail_hit {cv : Value} (hcl : closureFor scope env = pure clos) (hge0 : env.globals = mainGlobals) (hg : s.heap.Ns mainGlobals mg) (hcode : env.code = .ref c) (C : CodeHd s.heap c P) (hP : s.heap.get? P = some (tabObj ps)) (ht : TriplesOk ps.toList)
    (hf : codeAmong pos ps.toList = some cv) (hb : s.heap.BuiltinsAt mg P)
    (h : ∀ (ctv : Value) (h' : Heap) (tk : Tok), (∀ b o, s.heap.get? b = some o → h'.get? b = some o) → s.heap.objs.size ≤ h'.objs.size →
      Q (.ref h'.objs.size) { s with heap := h'.push { cls := .type "function", data := .func (dfn qual params body scope clos q ((mg "__name__").getD .none) cv ctv) }, toks := tk }) :
    wpAny M A (makeTail "<lambda>" qual params (.expr body) scope env (.ref q) .none none pos firstLine) Q E s := by
  obtain ⟨bm, ob, hbm, hne0, _, hneP, hbo, hcls, hdict, hdata⟩ := hb
  unfold makeTail
  rw [hcl, hge0]
  refine wpAny_bind (wpAny_pure ?_)
  cases clos with
  | nil =>
    simp only [List.isEmpty_nil, if_true]
    refine wpAny_bind (wpAny_pure (wpAny_bind (wpAny_functionCode_hit hcode (C.code hP ht) hf ?_)))
    refine wpAny_bind (wpAny_builtinsFor hg hbm hne0 hbo hcls hdict hdata (wpAny_bind (wpAny_nsGet hg ?_)))
    exact wpAny_bind (wpAny_pure (wpAny_newObj_type (h .none s.heap s.toks (fun _ _ e => e) (Nat.le_refl _)) (by size_fits)))
  | cons y r =>
    simp only [List.isEmpty_cons, Bool.false_eq_true, if_false]
    refine wpAny_bind (wpAny_newTextTuple ?_)
    have k1 : ∀ (oT : Obj) b o, s.heap.get? b = some o → (s.heap.push oT).get? b = some o := fun _ b o e => Heap.get?_push_of_some _ e
    refine wpAny_bind (wpAny_functionCode_hit hcode ((C.keeps (k1 _)).code (k1 _ _ _ hP) ht) hf ?_)
    refine wpAny_bind (wpAny_builtinsFor (hg.push _) hbm hne0 (k1 _ _ _ hbo) hcls hdict hdata (wpAny_bind (wpAny_nsGet (hg.push _) ?_)))
    have hsz : ∀ oT : Obj, s.heap.objs.size ≤ (s.heap.push oT).objs.size := fun oT => by rw [Heap.size_push]; omega
    exact wpAny_bind (wpAny_pure (wpAny_newObj_type (h _ _ s.toks (k1 _) (hsz _)) (by size_fits)))
/-- the lambda's making up to its tail -/
theorem lam_eval {i : Int} {j : Nat} {dp : Pos} (hdef : defaultsOf params env = ([eval (.Constant (.int i) j dp) env], [])) (hkw : params.kwonlyargs = [])
    (h : ∀ tk u, wpAny M A (makeTail "<lambda>" (env.qual ++ "<lambda>") params (.expr body) scope env (.ref s.heap.objs.size) .none none pos pos.line) Q E { s with heap := s.heap.push (tupO (.int i u)), toks := tk }) :
    wpAny M A (eval (.Lambda params body scope pos) env) Q E s := by
  rw [arm_eval_Lambda, hdef]
  show wpAny M A (do
    let dv ← evalAll [eval (.Constant (.int i) j dp) env]
    let kdv ← holding dv (evalAllOpt [])
    makeFunction "<lambda>" (env.qual ++ "<lambda>") params (.expr body) scope env dv kdv [] pos pos.line) Q E s
  refine wpAny_bind (wpAny_bind (wpAny_Constant_int (wpAny_bind (wpAny_holding (wpAny_pure (wpAny_pure ?_))))))
  refine wpAny_bind (wpAny_holding (wpAny_pure ?_))
  rw [makeFunction_eq, hkw]
  simp only [List.zip_nil_left, List.filterMap_nil, List.isEmpty_nil, List.isEmpty_cons, if_true, Bool.false_eq_true, if_false, pure_bind]
  exact wpAny_bind (wpAny_newTextTuple (h _ _))
end
section
variable {X : Cx} {pins : List (Addr × Obj)} {σ : L2.St} {H HZ : Hp} {s s1 : Shared}
/-- the lambda is made: its defaults' tuple is new and tracked, its code object new, or found in the table -/
theorem lam_make3 {T : List (Addr × Str)} {c P : Addr} {params : Arguments} {body : Expr} {scope : Scope} {pos : Pos} {i : Int} {j : Nat} {dp : Pos} {E : Value → Shared → Prop} {Q : Value → Shared → Prop} (I : Inv X pins σ H s) (TB : TabB X.base X.mg c P) (hcode : X.env.code = .ref c)
    (hm : (P, X.env.qual ++ "<lambda>") ∈ T) (hu : ∀ p ∈ T, p.1 = P → p.2 = X.env.qual ++ "<lambda>") (hT : Tabs T H) (hdef : defaultsOf params X.env = ([eval (.Constant (.int i) j dp) X.env], [])) (hkw : params.kwonlyargs = []) (hfree : ∀ y ∈ scope.names, y.2 = .free → ∃ c, X.env.cells.lookup y.1 = some c)
    (h : ∀ (f c' q : Addr) (pm ctv : Value) (H1 : Hp) (s' : Shared), Inv X pins σ H1 s' → ExtN H H1 → Tabs T H1 →
      s'.heap.get? f = some (dobj (X.env.qual ++ "<lambda>") params body scope (cloFrom X.env.cells scope.names []) q pm c' ctv) → H1 f = none → f ∉ frs X.stack → H1 c' = some (CodeO c' (X.env.qual ++ "<lambda>")) → H1 q = some (.tup [.int i]) → Q (.ref f) s') :
    wpAny (model X.prog X.w) X.A (eval (.Lambda params body scope pos) X.env) Q E s := by
  refine lam_eval hdef hkw fun tk0 u0 => ?_
  have nQ : H s.heap.objs.size = none := I.hok.fresh (Nat.le_refl _)
  have kT : ∀ b o, s.heap.get? b = some o → (s.heap.push (tupO (.int i u0))).get? b = some o := fun b o e => Heap.get?_push_of_some _ e
  have I0 : Inv X pins σ (upd H s.heap.objs.size (.tup [.int i])) { s with heap := s.heap.push (tupO (.int i u0)), toks := tk0 } :=
    I.laid (t' := tk0) kT (Nat.le_refl _) ⟨by rw [sizeLine_eq]; exact (by decide : 1 ≤ 16777216), [.int i u0], .cons ⟨u0, rfl⟩ .nil, ⟨_, Heap.get?_push_size _ rfl, rfl, _, rfl⟩⟩
  have eT : ∀ b o, H b = some o → upd H s.heap.objs.size (.tup [.int i]) b = some o := fun b o e => by rw [upd_ne (ne_of_none e nQ)]; exact e
  have hT0 : Tabs T (upd H s.heap.objs.size (.tup [.int i])) := hT.ext eT
  have qT : upd H s.heap.objs.size (.tup [.int i]) s.heap.objs.size = some (.tup [.int i]) := upd_same
  revert I0 hT0 qT eT
  generalize hq0 : s.heap.objs.size = q0
  generalize hH0 : upd H q0 (.tup [.int i]) = H0
  generalize hs0 : ({ s with heap := s.heap.push (tupO (.int i u0)), toks := tk0 } : Shared) = s0
  intro I0 eT hT0 qT
  obtain ⟨ps, hP, ht, ha⟩ := hT0 _ hm
  have bP : s0.heap.BuiltinsAt X.mg P := TB.bm.keeps I0.bk
  have hP' : s0.heap.get? P = some { cls := .none, data := .fields ps } := I0.hok P _ hP
  have nofr : ∀ f, s0.heap.objs.size ≤ f → f ∉ frs X.stack := fun f hf z => by
    rcases List.mem_cons.mp (I0.stkSub _ z) with e | e
    · have h1 := I0.lt
      rw [← e] at h1
      exact Nat.lt_irrefl _ (Nat.lt_of_lt_of_le h1 hf)
    · exact I0.nofs hf e
  have eN : ExtN H H0 := ExtN.of eT
  cases hc : codeAmong pos ps.toList with
  | none =>
    refine tail_new (mg := X.mg) (c := c) (P := P) (ps := ps) (closure_ok hfree) I0.ok.glob (I0.mod.glob.keeps I0.bk) hcode (TB.code.keeps I0.bk) hP' ht hc TB.gP bP fun c' ctv h' tk hx hge hlt hrec htb => ?_
    obtain ⟨c2, oc, vs, t, e2, hoc, hd, hv⟩ := hrec
    cases e2
    have hsz : s0.heap.objs.size ≤ h'.objs.size := Nat.le_trans hge (Nat.le_of_lt hlt)
    have nC : H0 c' = none := I0.hok.fresh hge
    have I1 := inv_table (t' := tk) (more := #[rawInt pos.line, rawInt pos.col, .ref c']) (h' := h'.push (dobj (X.env.qual ++ "<lambda>") params body scope (cloFrom X.env.cells scope.names []) q0 ((X.mg "__name__").getD .none) c' ctv)) I0 hP
      (fun b o hb e => Heap.get?_push_of_some _ (hx b o hb e)) (Heap.get?_push_of_some _ htb) hge ⟨oc, vs, t, Heap.get?_push_of_some _ hoc, hd, hv⟩
    have hE : ExtN H0 (upd (upd H0 P (.tbl (ps ++ #[rawInt pos.line, rawInt pos.col, .ref c']))) c' (CodeO c' (X.env.qual ++ "<lambda>"))) := fun b o e n => by
      rw [upd_ne (ne_of_none e nC), upd_ne (fun z => n ps (Option.some.inj (e.symm.trans (by rw [z]; exact hP))))]
      exact e
    have eL : (ps ++ #[rawInt pos.line, rawInt pos.col, .ref c']).toList = ps.toList ++ [rawInt pos.line, rawInt pos.col, .ref c'] := by simp
    refine h h'.objs.size c' q0 ((X.mg "__name__").getD .none) ctv _ _ I1 (eN.trans hE) (fun p hp => ?_) (Heap.get?_push_size _ rfl) ?_ (nofr _ hsz) upd_same (hE _ _ qT (fun _ z => by cases z))
    · by_cases hb : p.1 = P
      · rw [hu p hp hb, hb]
        refine ⟨_, by rw [upd_ne (ne_of_none hP nC), upd_same], by rw [eL]; exact PySem.TriplesOk_snoc _ _ _ _ ht, fun p' cv hcv => ?_⟩
        rw [eL] at hcv
        rcases among_app _ ht hcv with z | z
        · obtain ⟨c0, e1, e2⟩ := ha p' cv z
          exact ⟨c0, e1, hE _ _ e2 codeO_ne⟩
        · exact ⟨c', z, upd_same⟩
      · obtain ⟨ps', a1, a2, a3⟩ := hT0 p hp
        refine ⟨ps', by rw [upd_ne (ne_of_none a1 nC), upd_ne hb]; exact a1, a2, fun p' cv hcv => ?_⟩
        obtain ⟨c0, e1, e2⟩ := a3 p' cv hcv
        exact ⟨c0, e1, hE _ _ e2 codeO_ne⟩
    · have n1 : h'.objs.size ≠ c' := Nat.ne_of_gt hlt
      have n2 : h'.objs.size ≠ P := Nat.ne_of_gt (Nat.lt_of_lt_of_le (Heap.lt_size hP') hsz)
      rw [upd_ne n1, upd_ne n2]
      exact I0.hok.fresh hsz
  | some cv =>
    obtain ⟨c', e, hco⟩ := ha pos cv hc
    subst e
    refine tail_hit (mg := X.mg) (c := c) (P := P) (ps := ps) (closure_ok hfree) I0.ok.glob (I0.mod.glob.keeps I0.bk) hcode (TB.code.keeps I0.bk) hP' ht hc bP fun ctv h' tk hx hsz => ?_
    have I1 : Inv X pins σ H0 { s0 with heap := h'.push (dobj (X.env.qual ++ "<lambda>") params body scope (cloFrom X.env.cells scope.names []) q0 ((X.mg "__name__").getD .none) c' ctv), toks := tk } := I0.kept fun b o e => Heap.get?_push_of_some _ (hx b o e)
    exact h h'.objs.size c' q0 ((X.mg "__name__").getD .none) ctv H0 _ I1 eN hT0 (Heap.get?_push_size _ rfl) (I0.hok.fresh hsz) (nofr _ hsz) hco qT
end
/-! ### the lambda's names: one parameter, captured ones, globals -/
structure LamS1 (a : Str) (sc scope : Scope) : Prop where
  kind : scope.kind = .function
  co : scope.isCoroutine = false
  gen : scope.isGenerator = false
  own : ∀ y ∈ scope.names, y.2 ≠ .cell ∧ (y.2 = .local → y.1 = a)
  free : ∀ y ∈ scope.names, y.2 = .free → sc.names.lookup y.1 = some .cell ∨ sc.names.lookup y.1 = some .free
  par : scope.names.lookup a = some .local
theorem LamS1.has {X : Cx} {a : Str} {scope : Scope} (L : LamS1 a X.env.scope scope) (ok : X.Ok) : ∀ y ∈ scope.names, y.2 = .free → ∃ c, X.env.cells.lookup y.1 = some c := fun y hy e => by
  rcases L.free y hy e with k | k
  · exact ok.has _ (.inl k)
  · exact ok.has _ (.inr k)
section
variable {X : Cx} {pins : List (Addr × Obj)} {σ : L2.St} {H HZ : Hp} {s s1 : Shared}
theorem lam_start3 {A : Around} {outer : List Env} {E : XK} {scope : Scope} {f c' : Addr} {h₁ : Heap} {tk : Nat} {a : Str} {m0 : Str → Option Value} (I : Inv X pins σ H s) (L : LamS1 a X.env.scope scope) (hσ : ∀ (i : Nat) (v : V), X.N[i]? = some a → σ[i]? ≠ some (some v)) (e0 : Env0 X.prog X.w X.K X.mg X.base A outer s1 HZ) (hd : A.handled = none)
    (un : Un (frs X.stack) [] H HZ s.heap s1.heap) (hns : h₁.Ns s1.heap.objs.size m0) (kp : ∀ b o, s1.heap.get? b = some o → h₁.get? b = some o) :
    Inv (lamCx X A outer s1 HZ E scope f c') [] σ HZ { s1 with heap := h₁, toks := tk } := by
  have hfree := L.has I.ok
  have cm : ∀ {y c}, (cloFrom X.env.cells scope.names []).lookup y = some c → X.env.cells.lookup y = some c := fun {y c} e => by
    rcases cloFrom_mem (PySem.mem_of_lookup e) with hm | ⟨h1, h2⟩
    · cases hm
    · obtain ⟨c1, hc⟩ := hfree _ h1 rfl
      have hc : X.env.cells.lookup y = some c1 := hc
      have e2 : c = c1 := by
        rw [h2, hc] <;> rfl
      rw [e2]
      exact hc
  have look : ∀ {y}, scope.names.lookup y = some .free → ∃ c, (cloFrom X.env.cells scope.names []).lookup y = some c := fun {y} hl =>
    mem_lookup (cloFrom_has (cells := X.env.cells) (acc := []) (PySem.mem_of_lookup hl))
  have cellK : ∀ {c : Addr} {v : Option Value}, H c = none → s.heap.IsCell c v → h₁.IsCell c v := fun {c v} n ⟨o, ho, hd⟩ => by
    obtain ⟨sl, q⟩ := un.any ho n (by simp)
    exact ⟨_, kp _ _ q, hd⟩
  have noA : ∀ b : Addr, b ∉ (lamCx X A outer s1 HZ E scope f c').ex := fun b z => absurd (show b ∈ ([] : List Addr) from z) (by simp)
  refine ⟨⟨e0.mod, L.kind, rfl, rfl, Nat.le_refl _, fun y z c e1 e2 => I.ok.inj y z c (cm e1) (cm e2), fun y hy => ?_, fun y c z _ => ?_, fun _ => hd, Around.frames_deeper e0.frames, .inr ⟨rfl, rfl⟩, fun b z => absurd z (noA b), e0.bs, e0.bsz, fun b _ _ => noA b,
      fun b z => absurd z (noA b), e0.funs, e0.frf⟩,
    rfl, e0.bare, Un.kept kp, ⟨_, hns, fun i y v e1 e2 e3 => ?_⟩, fun y c e => ?_, e0.hok.fresh (Nat.le_refl _), fun y c e => ?_, fun q hq => absurd (show q ∈ ([] : List (Addr × Obj)) ++ [] from hq) (by simp), e0.hok.kept kp, I.len⟩
  · have hy : scope.names.lookup y = some .cell ∨ scope.names.lookup y = some .free := hy
    rcases hy with hy | hy
    · exact absurd rfl (L.own _ (PySem.mem_of_lookup hy)).1
    · exact look hy
  · have z : false = true := z
    cases z
  · have e3 : Vis scope y := e3
    rcases e3 with k | k | k
    · have ey : y = a := (L.own _ (PySem.mem_of_lookup k)).2 rfl
      rw [ey] at e1
      exact absurd e2 (hσ i v e1)
    · exact absurd rfl (L.own _ (PySem.mem_of_lookup k)).1
    · obtain ⟨m, hn, hl⟩ := I.loc
      have hvis : Vis X.env.scope y := (L.free _ (PySem.mem_of_lookup k) rfl).elim (fun k => .inr (.inl k)) (fun k => .inr (.inr k))
      obtain ⟨w', r, q⟩ := hl i y v e1 e2 hvis
      obtain ⟨c2, h2⟩ := look k
      refine ⟨w', r, .inr ⟨.inr k, c2, h2, ?_⟩⟩
      have c1 := cm h2
      rcases q with ⟨k', _⟩ | ⟨_, c3, e', z⟩
      · have k' : X.env.scope.names.lookup y = some .local := k'
        rcases L.free _ (PySem.mem_of_lookup k) rfl with k2 | k2 <;> rw [show X.env.scope.names.lookup y = _ from k2] at k' <;> cases k'
      · rw [c1] at e'
        cases e'
        exact cellK (I.freeC y _ c1) z
  · obtain ⟨w', z⟩ := I.cell y c (cm e)
    exact ⟨w', cellK (I.freeC y c (cm e)) z⟩
  · obtain ⟨v, o, ho, hd⟩ := I.cell y c (cm e)
    exact un.free c o ho (I.freeC y c (cm e)) (by simp)
/-- x(), in the def that got the lambda -/
theorem pe_act3 {CXg : CXT} {Eg : XK} {Ng : List Str} {qg : Str} {sg : Scope} {g f c' q : Addr} {cdg pm ctv : Value} {params : Arguments} {body : Expr} {scope : Scope} {k i : Nat} {a x : Str} {iv : Int} {pn : List (Addr × Obj)} {xe : Value → Shared → Prop} {W : WX} {E : XK} {tb : TE} {p1 p2 : Pos}
    (I : Inv X pins σ H s) (L : LamS1 a X.env.scope scope) (hσ : ∀ (i : Nat) (v : V), X.N[i]? = some a → σ[i]? ≠ some (some v)) (hf : s.heap.get? f = some (dobj (X.env.qual ++ "<lambda>") params body scope (cloFrom X.env.cells scope.names []) q pm c' ctv)) (hfn : H f = none) (hfr : f ∉ frs X.stack) (hq : H q = some (.tup [.int iv]))
    (hbind : ∀ (s : Shared) (o : Obj) (v : Value) (n : Nat), s.heap.get? q = some o → o.data = .seq #[v] n → BindsTo s (dfn (X.env.qual ++ "<lambda>") params body scope (cloFrom X.env.cells scope.names []) q pm (.ref c') ctv) ⟨[], []⟩ [(a, v)])
    (tk : Takes ((cxOf CXg X.prog X.w X.K X.mg X.base Ng qg sg g cdg X.A X.stack s H Eg).tr pn xe) W) (hW : ∀ cls d σ' H', E cls d H' → W cls d σ' H') (hr : Room (k + 1) (X.A.deeper (envOfC qg sg s.heap.objs.size g cdg)))
    (hbody : ∀ (A : Around) (outer : List Env) (s : Shared) (H : Hp), Room k (A.deeper (lamEnv X scope s.heap.objs.size f c')) → PE (lamCx X A outer s H E scope f c') body tb)
    (hN : Ng[i]? = some x) (hv : Vis sg x) (hd : (x == ("__debug__" : Str)) = false := by decide) (hcd : (x == ("__classdict__" : Str)) = false := by decide) :
    PE ((cxOf CXg X.prog X.w X.K X.mg X.base Ng qg sg g cdg X.A X.stack s H Eg).tr pn xe) (.Call (.Name x p1) [] [] p2)
      (fun σZ HZ Q => σZ[i]? = some (some (.ref f)) ∧ HZ c' = some (CodeO c' (X.env.qual ++ "<lambda>")) ∧ tb σ HZ Q) := by
  refine ⟨fun pinsZ sZ σZ HZ Q IZ h => ?_⟩
  obtain ⟨hs, hc, ht⟩ := h
  refine wpAny_Call_Name_kw (thn ((pe_var (pos := p1) (i := i) hN hv hd hcd).run pinsZ sZ σZ HZ (fun v H1 => v = .ref f ∧ H1 = HZ) IZ ⟨.ref f, hs, rfl, rfl⟩) fun u s1 ⟨v, H1, I1, r1, q1⟩ => ?_)
  obtain ⟨ev, eH⟩ := q1
  subst ev
  rw [eH] at I1
  obtain rfl : u = Value.ref f := r1
  have of1 : s1.heap.get? f = some (dobj (X.env.qual ++ "<lambda>") params body scope (cloFrom X.env.cells scope.names []) q pm c' ctv) := I1.base.keep f _ hf hfn hfr (fun z => nomatch (show f ∈ ([] : List Addr) from z))
  refine PySem.W.callWith_F0 ⟨_, _, _, _, of1⟩ ?_
  have un : Un (frs X.stack) [] H HZ s.heap s1.heap := I1.base
  have hqZ : HZ q = some (.tup [.int iv]) := un.tups q _ hq
  obtain ⟨_, its, rv, oq, hoq, _, nq, hdq⟩ := (show ObjOk X.prog X.w HZ s1.heap q (.tup [.int iv]) from I1.hok q _ hqZ)
  obtain ⟨⟨oc, vs, t, hoc, hdc, hvc⟩, _, _⟩ := I1.hok c' _ hc
  cases rv with
  | cons rv0 rvn =>
  rename_i v0 _
  cases rvn
  have rc : codeAny (model X.prog X.w) (X.A.deeper (envOfC qg sg s.heap.objs.size g cdg)) (.call (.ref f) ⟨[], []⟩) (CR (L2.CX X.prog X.w) (envOfC qg sg s.heap.objs.size g cdg :: X.stack) X.prog X.w HZ s1 Q E) s1 := by
    refine PySem.W.kla_callFunE hr.depth of1 rfl L.co L.gen rfl ⟨c', oc, vs, t, rfl, hoc, hdc, hvc⟩ ?_
    refine hbind s1 oq v0 nq hoq hdq _ _ _ _ ?_
    refine wpAny_newFunctionEnv (fun y hy => (L.own y hy).1) (fun y hy => ?_) (fun h₁ hns hsb => ⟨I1.nolimit.fresh _ hsb, ?_⟩) L.kind
    · rcases List.mem_cons.mp hy with z | z
      · rw [z]
        exact L.par
      · cases z
    show codeAny _ _ (.expr body (lamEnv X scope s1.heap.objs.size f c')) _ _
    have kp : ∀ b o, s1.heap.get? b = some o → h₁.get? b = some o := fun b o e => hsb.extBut b o (Nat.ne_of_lt (Heap.lt_size e)) (Heap.get?_push_of_some _ e)
    have J : Inv (lamCx X (X.A.deeper (envOfC qg sg s.heap.objs.size g cdg)) (envOfC qg sg s.heap.objs.size g cdg :: X.stack) s1 HZ E scope f c') [] σ HZ { s1 with heap := h₁, toks := s1.toks + ([(a, v0)] : List (Str × Value)).length } :=
      lam_start3 I L hσ I1.env0 hr.hd un hns kp
    refine PySem.W.kla_codeExpr (wpAny_mono ((hbody _ _ s1 HZ (hr.deeper _)).run [] _ _ HZ Q J ht) (fun v s' hq => ?_) fun e s' hq => hq)
    obtain ⟨w', H', J', rv, q⟩ := hq
    exact ⟨w', H', J'.os, J'.bare, J'.base, J'.hok, rv, q⟩
  have hx : Passes (L2.CX X.prog X.w) ((cxOf CXg X.prog X.w X.K X.mg X.base Ng qg sg g cdg X.A X.stack s H Eg).tr pn xe) E := passes_call tk hW
  refine wpAny_call (codeAny_mono rc fun r s' hq => ?_)
  cases r with
  | error e => exact hx pinsZ σZ HZ s1 e s' I1 hq
  | ok fl =>
    cases fl with
    | ret u => exact I1.after hq
    | next => exact False.elim hq
    | brk => exact False.elim hq
    | cont => exact False.elim hq
end
def tLamD (T : List (Addr × Str)) (N : List Str) (a : Str) (TT : (XK → Hp → VK → Prop) → Hp → VK → Prop) (t : XK → TE) : TE := fun σ H Q => (∀ (i : Nat) (v : V), N[i]? = some a → σ[i]? ≠ some (some v)) ∧ Tabs T H ∧ ∀ H1, ExtN H H1 → Tabs T H1 → TT (fun E H' Q' => t E σ H' Q') H1 Q
section
variable {X : Cx}
/-- x(lambda a=0: body) -/
theorem pe_lamcallD {T : List (Addr × Str)} {TT : (XK → Hp → VK → Prop) → Hp → VK → Prop} {x a b : Str} {g c P : Addr} {k : Nat} {pg : Arguments} {bg : List Stmt} {sg : Scope} {dV kV doc pm cdv ct oc : Value} {an od : Option Addr} {osl : Array (Option Value)} {Ng : List Str} {iv : Int} {j : Nat} {dp : Pos}
    {params : Arguments} {body : Expr} {scope : Scope} {t : XK → TE} {p lpos pos : Pos} (hg : Gl X x) (hm : X.mg x = some (.ref g)) (hk : PySem.W.keepIn X.K (.ref g) = true)
    (lk : X.K.lookup g = some ⟨oc, od, .func (PySem.W.fnOf x x pg bg sg dV kV doc pm an cdv ct), osl⟩) (hcg : PySem.W.codeIn X.K cdv x = true) (hb : L2.Binds X.K (PySem.W.fnOf x x pg bg sg dV kV doc pm an cdv ct) [b] []) (Sg : FnScope Ng [b] sg) (hNg : Ng[0]? = some b) (hva : Vis sg b)
    (hG : GivesTo X Ng x sg g cdv bg b (X.env.qual ++ "<lambda>") TT)
    (TB : TabB X.base X.mg c P) (hcode : X.env.code = .ref c) (hmT : (P, X.env.qual ++ "<lambda>") ∈ T) (hu : ∀ p ∈ T, p.1 = P → p.2 = X.env.qual ++ "<lambda>") (hr : Room (k + 2) X.A) (L : LamS1 a X.env.scope scope) (hdef : defaultsOf params X.env = ([eval (.Constant (.int iv) j dp) X.env], [])) (hkw : params.kwonlyargs = [])
    (hbind : ∀ (qn : Str) (cl : List (Str × Addr)) (q : Addr) (pm cv ctv : Value) (s : Shared) (o : Obj) (v : Value) (n : Nat), s.heap.get? q = some o → o.data = .seq #[v] n → BindsTo s (dfn qn params body scope cl q pm cv ctv) ⟨[], []⟩ [(a, v)])
    (hbody : ∀ (A : Around) (outer : List Env) (s : Shared) (H : Hp) (E : XK) (f c' : Addr), Room k (A.deeper (lamEnv X scope s.heap.objs.size f c')) → PE (lamCx X A outer s H E scope f c') body (t E))
    (hdb : (x == ("__debug__" : Str)) = false := by decide) (hd : (b == ("__debug__" : Str)) = false := by decide) (hcd : (b == ("__classdict__" : Str)) = false := by decide) :
    PE X (.Call (.Name x p) [.Lambda params body scope lpos] [] pos) (tLamD T X.N a TT t) := by
  refine ⟨fun pins s σ H Q I h => ?_⟩
  obtain ⟨hσ, hT, h⟩ := h
  refine wpAny_Call_Name_kw (ld_glob I hg hm ?_ hdb)
  refine PySem.W.callWith_K (h₀ := X.base) I.ok.mod.kin hk ?_ (by rfl) (by rfl)
  show wpAny _ _ (spliced ((false, eval (.Lambda params body scope lpos) X.env) :: backTo pos (starEach [] X.env))) _ _ s
  refine Calls.spliced_cons (lam_make3 I TB hcode hmT hu hT hdef hkw (L.has I.ok) fun f c' q pm' ctv H1 s' I1 eN T1 hf hfn hfr hco hq1 => ?_)
  refine Calls.spliced_nil ⟨I1.kIn, ?_⟩
  have rc : codeAny (model X.prog X.w) X.A (.call (.ref g) ⟨[.ref f], []⟩) (CR C8.CX0 X.stack X.prog X.w H1 s' Q C8.E0) s' := by
    refine run_ofS (N := Ng) (ps := [b]) (us := [.ref f]) (vs := [.ref f]) lk hcg Sg hr I1.env0 (hb s' [.ref f] I1.kIn rfl) (.cons rfl .nil) rfl fun hr' => ?_
    obtain ⟨t', ht', hq'⟩ := hG f c' s' H1 Q (fun E H' Q' => t E σ H' Q') (fun W pn xe E p1 p2 tk hW => pe_act3 (i := 0) I1 L hσ hf hfn hfr hq1 (hbind _ _ _ _ _ _) tk hW hr' (fun A outer s H hr2 => hbody A outer s H E f c' hr2) hNg hva hd hcd) hco (h H1 eN T1)
    exact ⟨t', ht'.nox, hq'⟩
  refine wpAny_call (codeAny_mono rc fun r s2 hq => ?_)
  cases r with
  | error e => exact (show False from hq).elim
  | ok fl =>
    cases fl with
    | ret u => exact I1.after hq
    | next => exact False.elim hq
    | brk => exact False.elim hq
    | cont => exact False.elim hq
end
end LamD
end
section
/-! Further rules: repr of data, d.update(e), either of two readings, the law's own call where nothing is being shown. -/
namespace L2
open PySem PySem.Spec PyProof.Rows
section
variable {X : Cx}
/-! ### either reading -/
theorem PE.either {e : Expr} {t u : TE} (h : PE X e t) (h' : PE X e u) : PE X e (fun σ H Q => t σ H Q ∨ u σ H Q) :=
  ⟨fun pins s σ H Q I q => q.elim (h.run pins s σ H Q I) (h'.run pins s σ H Q I)⟩
theorem PI.either {tg e : Expr} {t u : TI} (h : PI X tg e t) (h' : PI X tg e u) : PI X tg e (fun σ H R => t σ H R ∨ u σ H R) :=
  ⟨fun pins s σ H R I q => q.elim (h.run pins s σ H R I) (h'.run pins s σ H R I)⟩
theorem PG.either {tg : Expr} {t u : TG} (h : PG X tg t) (h' : PG X tg u) : PG X tg (fun v σ H Q => t v σ H Q ∨ u v σ H Q) :=
  ⟨fun pins s σ H v w Q I r q => q.elim (h.run pins s σ H v w Q I r) (h'.run pins s σ H v w Q I r)⟩
/-! ### repr of a list, a tuple -/
def rRepr (K : PySem.W.Frag) : List V → Hp → VK → Prop := fun xs H Q => ∃ (a : Addr) (d : PyData), xs = [.ref a] ∧ Dp K H (.ref a) d ∧ d.showable = true ∧ d.hasDict = false ∧ d.depth ≤ 20 ∧ d.shown.length ≤ sizeLine ∧ Q (.str d.shown) H
theorem call_reprD (hg : X.A.guards = some []) (hu : X.A.units + 64 < cLine) : CallR X (.builtin "repr") (rRepr X.K) := by
  intro pins s σ H xs us Q I r h
  obtain ⟨a, d, rfl, hd, h1, h2, h3, h4, q⟩ := h
  cases r with
  | cons rx rr =>
    cases rr
    cases rx
    obtain ⟨as, hr⟩ := Dp.reads I d (.ref a) (.ref a) hd rfl
    exact repr_of_reads' hr h1 (fun z => by rw [h2] at z; cases z) hg (by omega) (fun _ _ e => e) (fun h' u tk hk => ⟨.str d.shown, H, I.kept (t' := tk) hk, ⟨u, rfl⟩, q⟩) h4
/-! ### d.update(e) -/
def rUpdD : V → List V → Hp → VK → Prop := fun x vs H Q => ∃ (a b : Addr) (kvs more : List (Key × V)), x = .ref a ∧ vs = [.ref b] ∧ a ≠ b ∧ H a = some (.dK kvs) ∧ H b = some (.dK more) ∧ kvs.length + more.length ≤ sizeLine ∧ Q .non (upd H a (.dK (mergeK kvs more)))
theorem mt_update : MtR X "dict.update" rUpdD := by
  intro pins s σ H x vs v us Q I rx rv h
  obtain ⟨a, b, kvs, more, ex, ev, hne, ea, eb, hz, q⟩ := h
  subst ex
  subst ev
  obtain rfl : v = Value.ref a := rx
  cases rv with
  | cons r1 r2 =>
    cases r2
    cases r1
    obtain ⟨z, hd, ws, rel, dd⟩ := dk_of I.hok ea
    obtain ⟨z2, hd2, ws2, rel2, dd2⟩ := dk_of I.hok eb
    refine call_meetsIn PySem.F.slot_dict_update dd.typeIs PySem.F.entry_dict_update (PySem.F.args_dict_update_1 _) (meets_dict_update (mixKind X.prog X.w) a b hne hd2) ⟨ws, ws2, dd, dd2, by rw [← rel.length, ← rel2.length]; exact hz, fun h' dd' _ hs => ?_⟩
    have he : ∃ q, h'.get? a = some q := let ⟨q, _, _, hq, _⟩ := dd'; ⟨q, hq⟩
    exact ⟨.non, _, d_write (t' := s.toks) I (by rw [ea]; exact True.intro) hs he (dk_new (Nat.le_trans (length_mergeK more kvs) hz) hd (KV.merge rel2 rel) dd'), rfl, q⟩
end
end L2
end
section
/-! The end of a law row: the law's own call, at the caller's very surroundings (nothing is being shown there), with its table of code objects tracked. -/
namespace OcE
open PySem PySem.Spec PyProof.Rows PyProof L2 LamX
/-- what the law's call may lean on: where it is entered -/
structure AtLaw (Pr : Program) (w : World) (K : PySem.W.Frag) (mg : Str → Option Value) (base : Heap) (c P a : Addr) (ns : List Int) (s : Shared) (H : Hp) : Prop where
  kin : K.In base
  glob : base.Ns mainGlobals mg
  tb : TabB base mg c P
  tab : H P = some (.tbl #[])
  script : SqL K H a (ns.map V.int)
  env : Env0 Pr w K mg base callerA [] s H
theorem lawG {Pr : Program} {w : World} {K : PySem.W.Frag} {mg mb : Str → Option Value} {fa a c P : Addr} {s₁ : Shared} {vs : List Value} {ns : List Int}
    (KX : K.In s₁.heap) (hns : s₁.heap.Ns mainGlobals mg) (hb : s₁.heap.Ns builtinsNs mb) (hbb : ∀ x : Str, x ≠ "__name__" → mb x = bootBuiltins x) (hlim : s₁.heap.NoLimit) (hg : s₁.gens = #[])
    (hT : s₁.heap.get? P = some { cls := .none, data := .fields #[] }) (nT : K.lookup P = none) (C : PySem.W.CodeHd s₁.heap c P)
    (hbm : ∃ (bm : Addr) (ob : Obj), mg "__builtins__" = some (.ref bm) ∧ bm ≠ builtinsNs ∧ s₁.heap.get? bm = some ob ∧ ob.cls = .type "module" ∧ ob.dict = some builtinsNs ∧ ob.data = .plain)
    (ha : s₁.heap.get? a = some { cls := .type "list", data := .seq vs.toArray }) (hi : IntsAre vs ns) (hl : ns.length ≤ sizeLine)
    (RUN : ∀ (base : Heap) (H : Hp), AtLaw Pr w K mg base c P a ns s₁ H → codeAny (model Pr w) callerA (.call (.ref fa) ⟨[.ref a], []⟩) (CR C8.CX0 [] Pr w H s₁ (fun v _ => v = .bl true) (fun _ _ _ => False)) s₁) :
    codeAny (model Pr w) callerA (.call (.ref fa) ⟨[.ref a], []⟩) (fun r s' => r = .ok (.ret (.bool true)) ∧ OldK s₁.heap s'.heap ∧ s'.os = s₁.os ∧ AllBare s'.gens) s₁ := by
  have rv := vals_ints hi
  have lenV := hi.length
  have aP : a ≠ P := fun z => by
    rw [z, hT] at ha
    have q : Data.fields #[] = Data.seq vs.toArray _ := congrArg Obj.data (Option.some.inj ha)
    cases q
  -- the abstract heap: the table, and the script unless it is one of the module's own objects
  have core : ∀ H : Hp, H P = some (.tbl #[]) → (∀ b, b ≠ P → H b = none ∨ (b = a ∧ K.lookup a = none ∧ ∃ o xs, H b = some (.frz o (.lst xs)))) → SqL K H a (ns.map V.int) → HOk Pr w H s₁.heap →
      codeAny (model Pr w) callerA (.call (.ref fa) ⟨[.ref a], []⟩) (fun r s' => r = .ok (.ret (.bool true)) ∧ OldK s₁.heap s'.heap ∧ s'.os = s₁.os ∧ AllBare s'.gens) s₁ := by
    intro H hP hO hS hok
    have keepB : ∀ {b : Addr} {o : Obj}, s₁.heap.get? b = some o → (∀ ws n, o.data ≠ .seq ws n) → o.data ≠ .fields #[] → (hidT s₁.heap H).get? b = some o := fun {b o} e h1 h2 => by
      refine hidT_get e ?_
      by_cases hb : b = P
      · rw [hb, hT] at e
        cases e
        exact (h2 rfl).elim
      · rcases hO b hb with z | ⟨z, _, _⟩
        · exact z
        · rw [z, ha] at e
          cases e
          exact (h1 _ _ rfl).elim
    have dict_ok : ∀ {o : Obj} {es : Array DictEntry} {ep : Nat}, o.data = .dict es ep → (∀ ws n, o.data ≠ .seq ws n) ∧ o.data ≠ .fields #[] := fun {o es ep} d => ⟨fun ws n z => (by rw [d] at z; cases z), fun z => by rw [d] at z; cases z⟩
    have nsK : ∀ {b : Addr} {m : Str → Option Value}, s₁.heap.Ns b m → (hidT s₁.heap H).Ns b m := fun {b m} ⟨o, es, ep, e, d, r⟩ => ⟨o, es, ep, keepB e (dict_ok d).1 (dict_ok d).2, d, r⟩
    have hKb : K.In (hidT s₁.heap H) := fun b o e => hidT_get (KX b o e) (by
      by_cases hb : b = P
      · rw [hb, nT] at e
        cases e
      · rcases hO b hb with z | ⟨z, hk, _⟩
        · exact z
        · rw [z, hk] at e
          cases e)
    have hM : L2.Mod K mg (hidT s₁.heap H) := ⟨hKb, nsK hns, ⟨mb, nsK hb, hbb⟩, let ⟨mc, h1, h2⟩ := hlim; ⟨mc, nsK h1, h2⟩⟩
    have TB : TabB (hidT s₁.heap H) mg c P := by
      refine ⟨?_, ?_, fun z => ?_⟩
      · obtain ⟨o, us, file, tf, flags, tg, inF, text, tt, e1, r1, r2, r3, r⟩ := C
        exact ⟨o, us, file, tf, flags, tg, inF, text, tt, keepB e1 (fun ws n z => by rw [r2] at z; cases z) (fun z => by rw [r2] at z; cases z; simp at r3), r1, r2, r3, r⟩
      · obtain ⟨bm, ob, b1, b2, b3, b4, b5, b6⟩ := hbm
        refine ⟨bm, ob, b1, b2, fun q => ?_, fun q => ?_, keepB b3 (fun ws n z => by rw [b6] at z; cases z) (fun z => by rw [b6] at z; cases z), b4, b5, b6⟩
        · obtain ⟨o, es, ep, e, hd, _⟩ := hns
          rw [q, e] at b3
          cases b3
          rw [hd] at b6
          cases b6
        · rw [q, hT] at b3
          cases b3
          cases b6
      · obtain ⟨o, es, ep, e, hd, _⟩ := hns
        rw [z, hT] at e
        cases e
        cases hd
    have e0 : Env0 Pr w K mg (hidT s₁.heap H) callerA [] s₁ H := ⟨rfl, hM, fun b o e => of_hidT e, Nat.le_of_eq (hidT_size _ _), trivial, fun b hb => absurd (show b ∈ ([] : List Addr) from hb) (by simp), hok, .of_eq hg⟩
    refine codeAny_mono (RUN _ H ⟨hKb, nsK hns, TB, hP, hS, e0⟩) fun r s' h => ?_
    cases r with
    | error e => exact False.elim h
    | ok fl =>
      cases fl with
      | next => exact False.elim h
      | brk => exact False.elim h
      | cont => exact False.elim h
      | ret u =>
        obtain ⟨v, H', os, bare, un, hok', r', q⟩ := h
        have q' : v = .bl true := q
        subst q'
        obtain rfl : u = Value.bool true := r'
        have key : ∀ b o, b ≠ P → s₁.heap.get? b = some o → s'.heap.get? b = some o := fun b o nb e => by
          rcases hO b nb with z | ⟨_, _, ob, xs, z⟩
          · exact un.keep b o e z (by intro y; exact absurd (show b ∈ ([] : List Addr) from y) (by simp)) (by simp)
          · obtain ⟨e1, _⟩ := hok b _ z
            obtain ⟨e2, _⟩ := hok' b _ (un.frzs b ob _ z)
            rw [e] at e1
            cases e1
            exact e2
        obtain ⟨more, hmore⟩ := un.tbls P #[] hP
        have hPm : s'.heap.get? P = some { cls := .none, data := .fields (#[] ++ more) } := hok' P _ hmore
        refine ⟨rfl, ⟨fun b o e => ?_, fun b o e => ?_⟩, os, bare⟩
        · by_cases hb : b = P
          · rw [hb] at e ⊢
            rw [hT] at e
            cases e
            exact .inr (.inl ⟨(C.tab hT).isCodeTable, rfl, #[], more, rfl, hPm⟩)
          · exact .inl (key b o hb e)
        · by_cases hb : b = P
          · rw [hb]
            exact ⟨_, hPm⟩
          · exact ⟨o, key b o hb e⟩
  have tblok : ∀ H : Hp, ObjOk Pr w H s₁.heap P (.tbl #[]) := fun _ => hT
  cases hk : K.lookup a with
  | some o =>
    have e := KX a o hk
    rw [ha] at e
    cases e
    refine core (fun b => if b = P then some (.tbl #[]) else none) (if_pos rfl) (fun b hb => .inl (if_neg hb)) (.inr ⟨_, vs.toArray, _, hk, rfl, rfl, rfl, by rw [List.size_toArray, lenV]; exact hl, by simpa using rv⟩) fun b u z => ?_
    by_cases hb : b = P
    · have z' := (if_pos hb).symm.trans z
      cases z'
      rw [hb]
      exact tblok _
    · have z' := (if_neg hb).symm.trans z
      cases z'
  | none =>
    refine core (fun b => if b = P then some (.tbl #[]) else if b = a then some (.frz { cls := .type "list", data := .seq vs.toArray } (.lst (ns.map V.int))) else none) (if_pos rfl) (fun b hb => ?_)
      (.inl (.inr ⟨{ cls := .type "list", data := .seq vs.toArray }, (if_neg aP).trans (if_pos rfl)⟩)) fun b u z => ?_
    · by_cases hb2 : b = a
      · exact .inr ⟨hb2, hk, _, _, (if_neg hb).trans (if_pos hb2)⟩
      · exact .inl ((if_neg hb).trans (if_neg hb2))
    · by_cases hb : b = P
      · have z' := (if_pos hb).symm.trans z
        cases z'
        rw [hb]
        exact tblok _
      · have z1 := (if_neg hb).symm.trans z
        by_cases hb2 : b = a
        · have z' := (if_pos hb2).symm.trans z1
          cases z'
          rw [hb2]
          exact ⟨ha, by rw [List.length_map]; exact hl, vs, _, rv, ha⟩
        · have z' := (if_neg hb2).symm.trans z1
          cases z'
/-- what is to be shown of the law: its call, the code object and its table told -/
def LawRun (l : PySem.W.OpenLaw) (w : World) (K : PySem.W.Frag) (mg : Str → Option Value) (fa : Addr) (n : Nat) (x : Str) : Prop :=
  ∃ (c P : Addr), PySem.W.tabIn K x = some (c, P) ∧ K.lookup P = none ∧
    ∀ (base : Heap) (H : Hp) (a : Addr) (ns : List Int) (s : Shared), ns.length ≤ n → (∀ z ∈ ns, Builtin.Int.intBits z ≤ 1048576) → AtLaw l.prog w K mg base c P a ns s H →
      codeAny (model l.prog w) callerA (.call (.ref fa) ⟨[.ref a], []⟩) (CR C8.CX0 [] l.prog w H s (fun v _ => v = .bl true) (fun _ _ _ => False)) s
theorem walkG {l : PySem.W.OpenLaw} {n : Nat} {q : Program} {loose : List Str} {XP : (Str → Option Value) → Heap → Prop} {YP : World → Heap → Prop} {d : DefRec} {K : Params → PySem.W.Frag} {x : Str}
    (hn : l.most = some n) (hn2 : n ≤ sizeLine) (hdf : d.params.defaults = []) (hr : ((recsOf q).find? fun e => e.name == x).isSome = true) (hY : ∀ (w : World) (h : Heap), YP w h → (K w.params).In h)
    (F : ∀ (w : World) (mg : Str → Option Value) (fa : Addr) (h : Heap), XP mg h → (K w.params).In h → h.Ns mainGlobals mg → mg d.name = some (.ref fa) → LawRun l w (K w.params) mg fa n x) :
    PySem.W.WalkO q loose XP YP l.row.toRowW d [] (fun f vs => PySem.call f vs) := by
  refine Att.attach_callB hn hdf fun w s₀ s₁ mg mb fa o pm cd doc a vs ns G Y ho hd hcd hmg hobj hints hlen hbits hg => ?_
  have KX := hY w _ Y
  obtain ⟨d', hr⟩ := Option.isSome_iff_exists.mp hr
  obtain ⟨c, P, ht, nT, R⟩ := F w mg fa _ G.X KX G.T.g hmg
  obtain ⟨C, hT⟩ := PySem.W.tab_of G.T KX hr ht
  exact lawG KX G.T.g G.T.b G.T.builtins G.T.nolimit hg hT nT C G.T.bmain hobj hints (Nat.le_trans hlen hn2) fun base H A => R base H a ns s₁ hlen hbits A
/-- a whole number that the top makes and the head reads -/
theorem loose_int {p : Program} {lv : List (Str × PySem.W.WData)} {mg : Str → Option Value} {h : Heap} {x : Str} {i : Int} (L : PySem.W.XL p lv mg h) (hm : (x, PySem.W.WData.int i) ∈ lv) : ∃ t, mg x = some (.int i t) := by
  obtain ⟨v, e, r⟩ := L.2.val _ hm
  cases r with
  | int i t => exact ⟨t, e⟩
end OcE
end
section
/-! k49: the walk, first part: the checks. -/
namespace W49
open PySem PySem.Spec PyProof.Rows L2
/-! ### the text -/
def topS (i : Nat) : Stmt := PySem.Challenge.pw_opencuts_k49_verdicts_of_lines.main.body.getD i (.Pass ⟨0, 0, 0, 0⟩)
/-- a def of the top -/
structure DefF (K : PySem.W.Frag) (mg : Str → Option Value) (x : Str) (st : Stmt) : Prop where
  ex : ∃ (f : Addr) (fd : FuncData), Fun K x x st f fd ∧ mg x = some (.ref f)
/-- one that may be called -/
structure CalX (P : Program) (w : World) (K : PySem.W.Frag) (mg : Str → Option Value) (base : Heap) (CX : CXT) (k : Nat) (x : Str) (sp : Sp) : Prop where
  ex : ∃ (f : Addr) (fd : FuncData) (ps : List Str), FnOk P w K mg base CX k f fd ps sp ∧ mg x = some (.ref f) ∧ PySem.W.keepIn K (.ref f) = true ∧ Binds K fd ps [] ∧ ∃ oc od osl, K.lookup f = some ⟨oc, od, .func fd, osl⟩
theorem pe_cx {X : Cx} {CX : CXT} {j k : Nat} {x : Str} {sp : Sp} {E : XK} {e : Expr} {es : List Expr} {t : TA} {p pos : Pos} (c : CalX X.prog X.w X.K X.mg X.base CX k x sp) (hr : Room j X.A) (hk : k ≤ j) (hg : Gl X x) (hp : Passes CX X E) (ha : PA X (e :: es) t)
    (hdb : (x == ("__debug__" : Str)) = false := by decide) (he : starEach (e :: es) X.env = (false, eval e X.env) :: starEach es X.env := by rfl) (hpl : (backTo pos (starEach es X.env)).any (·.1) = false := by rfl) :
    PE X (.Call (.Name x p) (e :: es) [] pos) (tCall sp [] E t) := by
  obtain ⟨f, fd, ps, F, hm, kp, b, _⟩ := c.ex
  exact pe_call F (hr.mono hk) hg hm kp b .nil hp ha hdb he hpl
theorem RelV_ty (n : String) : RelV (.ty n) (.type n) := rfl
/-- what the module says of the names that are not defs -/
structure MG (mg : Str → Option Value) : Prop where
  z_isinstance : mg "isinstance" = none
  z_int : mg "int" = none
  z_bool : mg "bool" = none
  z_list : mg "list" = none
  z_tuple : mg "tuple" = none
  z_len : mg "len" = none
  z_all : mg "all" = none
  z_any : mg "any" = none
  z_max : mg "max" = none
  z_min : mg "min" = none
  z_sorted : mg "sorted" = none
  z_zip : mg "zip" = none
  z_range : mg "range" = none
  z_repr : mg "repr" = none
  z_abs : mg "abs" = none
  z_super : mg "super" = none
  c_SURE : ∃ u, mg "SURE" = some u ∧ RelV (.str "sure") u
  c_OPEN : ∃ u, mg "OPEN" = some u ∧ RelV (.str "open") u
  c_NEVER : ∃ u, mg "NEVER" = some u ∧ RelV (.str "never") u
  c_MOST_RINGS : ∃ u, mg "MOST_RINGS" = some u ∧ RelV (.int (10 ^ 60)) u
theorem boot_intN : bootBuiltins "int" = some (.type "int") := by decide +kernel
theorem boot_boolN : bootBuiltins "bool" = some (.type "bool") := by decide +kernel
theorem boot_listN : bootBuiltins "list" = some (.type "list") := by decide +kernel
theorem boot_tupleN : bootBuiltins "tuple" = some (.type "tuple") := by decide +kernel
theorem bootI : bootBuiltins "int" = some (.type "int") := by decide +kernel
theorem bootL : bootBuiltins "list" = some (.type "list") := by decide +kernel
theorem bootT : bootBuiltins "tuple" = some (.type "tuple") := by decide +kernel
theorem passC {X : Cx} {W : WX} {E : XK} (tk : Takes X W) (hW : ∀ cls d σ H, E cls d H → W cls d σ H := by exact fun _ _ _ _ h => h) : Passes (L2.CX X.prog X.w) X E := passes_call tk hW
/-! ### kinds -/
def kinds : List String := ["NoneType", "int", "bool", "str", "list", "tuple", "dict"]
theorem kit_i {K : PySem.W.Frag} {n : String} (h : n ∈ kinds) : PySem.W.kitOne K (.type n) (.type "int") = some (n == "int" || n == "bool") := by
  simp only [kinds, List.mem_cons, List.not_mem_nil, or_false] at h
  rcases h with rfl | rfl | rfl | rfl | rfl | rfl | rfl <;> exact kit_ty (by decide +kernel)
theorem kit_b {K : PySem.W.Frag} {n : String} (h : n ∈ kinds) : PySem.W.kitOne K (.type n) (.type "bool") = some (n == "bool") := by
  simp only [kinds, List.mem_cons, List.not_mem_nil, or_false] at h
  rcases h with rfl | rfl | rfl | rfl | rfl | rfl | rfl <;> exact kit_ty (by decide +kernel)
theorem kit_l {K : PySem.W.Frag} {n : String} (h : n ∈ kinds) : PySem.W.kitAny K (.type n) [.type "list", .type "tuple"] = some (n == "list" || n == "tuple") := by
  have a : PySem.W.kitOne K (.type n) (.type "list") = some (n == "list") := by
    simp only [kinds, List.mem_cons, List.not_mem_nil, or_false] at h
    rcases h with rfl | rfl | rfl | rfl | rfl | rfl | rfl <;> exact kit_ty (by decide +kernel)
  have b : PySem.W.kitOne K (.type n) (.type "tuple") = some (n == "tuple") := by
    simp only [kinds, List.mem_cons, List.not_mem_nil, or_false] at h
    rcases h with rfl | rfl | rfl | rfl | rfl | rfl | rfl <;> exact kit_ty (by decide +kernel)
  refine kitAny_cons a (fun z => ?_) fun z => by rw [z]; rfl
  rw [z, Bool.false_or]
  refine kitAny_cons b (fun y => ?_) fun y => y
  rw [y]
  exact kitAny_nil
/-- a value of one of these kinds -/
def IsK (K : PySem.W.Frag) (H : Hp) (v : V) (n : String) : Prop := n ∈ kinds ∧ TyX K H v (.type n)
section
variable {P : Program} {w : World} {K : PySem.W.Frag} {mg : Str → Option Value} {base : Heap}
theorem cal_mk {x : Str} {st : Stmt} {N ps : List Str} {k : Nat} {sp : Sp} (D : DefF K mg x st) (S : FnScope N ps (defScope st))
    (hb : ∀ (kV doc pm : Value) (an : Option Addr) (cdv ct : Value) (us : List Value), us.length = ps.length → bindArgs (PySem.W.fnOf x x (defArgs st) (defBody st) (defScope st) .none kV doc pm an cdv ct) ⟨us, []⟩ = pure (ps.zip us))
    (len : ∀ vs H Q E, sp vs H Q E → vs.length = ps.length)
    (hbody : ∀ (f : Addr) (cdv : Value) (A : Around) (outer : List Env) (s : Shared) (H : Hp) (vs : List V) (Q : VK) (E : XK), Room k (A.deeper (envOfC x (defScope st) s.heap.objs.size f cdv)) → sp vs H Q E →
      ∃ t, PSs (cxOf CX0 P w K mg base N x (defScope st) f cdv A outer s H E).nox (defBody st) t ∧ t { nx := fun _ H' => Q .non H', rt := Q } (start N vs) H) : CalX P w K mg base CX0 (k + 1) x sp := by
  obtain ⟨f, fd, F, hm⟩ := D.ex
  exact ⟨f, fd, ps, F.ok S len fun cdv A outer s H vs Q E hr h => hbody f cdv A outer s H vs Q E hr h, hm, F.kp, F.binds hb, let ⟨oc, od, _, _, _, _, _, _, osl, _, l, _⟩ := F.ex; ⟨oc, od, osl, l⟩⟩
theorem cal_mkX {x : Str} {st : Stmt} {N ps : List Str} {k : Nat} {sp : Sp} (D : DefF K mg x st) (S : FnScope N ps (defScope st))
    (hb : ∀ (kV doc pm : Value) (an : Option Addr) (cdv ct : Value) (us : List Value), us.length = ps.length → bindArgs (PySem.W.fnOf x x (defArgs st) (defBody st) (defScope st) .none kV doc pm an cdv ct) ⟨us, []⟩ = pure (ps.zip us))
    (len : ∀ vs H Q E, sp vs H Q E → vs.length = ps.length)
    (hbody : ∀ (f : Addr) (cdv : Value) (A : Around) (outer : List Env) (s : Shared) (H : Hp) (vs : List V) (Q : VK) (E : XK), Room k (A.deeper (envOfC x (defScope st) s.heap.objs.size f cdv)) → sp vs H Q E →
      ∃ t, PSs (cxOf (L2.CX P w) P w K mg base N x (defScope st) f cdv A outer s H E) (defBody st) t ∧ t { nx := fun _ H' => Q .non H', rt := Q } (start N vs) H) : CalX P w K mg base (L2.CX P w) (k + 1) x sp := by
  obtain ⟨f, fd, F, hm⟩ := D.ex
  exact ⟨f, fd, ps, F.okX S len fun cdv A outer s H vs Q E hr h => hbody f cdv A outer s H vs Q E hr h, hm, F.kp, F.binds hb, let ⟨oc, od, _, _, _, _, _, _, osl, _, l, _⟩ := F.ex; ⟨oc, od, osl, l⟩⟩
/-! ### is_integer -/
abbrev s_is_integer : Stmt := topS 12
theorem sc_is_integer : FnScope ["value"] ["value"] (defScope s_is_integer) := ⟨rfl, rfl, rfl, by decide +kernel, rfl, by decide +kernel, by decide +kernel⟩
def spIsInt (K : PySem.W.Frag) : Sp := fun vs H Q _ => ∃ v n, vs = [v] ∧ IsK K H v n ∧ Q (.bl (n == "int")) H
theorem cal_is_integer (D : DefF K mg "is_integer" s_is_integer) (M : MG mg) : CalX P w K mg base CX0 1 "is_integer" (spIsInt K) := by
  refine cal_mk D sc_is_integer (fun _ _ _ _ _ _ us hl => match us, hl with | [_], _ => rfl) (fun vs H Q E h => ?_) (fun f cdv A outer s H vs Q E hr h => ?_)
  · obtain ⟨v, n, rfl, _⟩ := h
    rfl
  · obtain ⟨v, n, rfl, ⟨hn, ty⟩, q⟩ := h
    refine ⟨_, (pss_one (ps_ret (pe_and (pe_callB call_isi (by rfl) M.z_isinstance boot_isinstance (pa_cons (pv 0) (pa_cons (pe_bltn (by rfl) M.z_int boot_intN (RelV_ty _)) pa_nil))) (pe_one (pe_not (pe_callB call_isi (by rfl) M.z_isinstance boot_isinstance (pa_cons (pv 0) (pa_cons (pe_bltn (by rfl) M.z_bool boot_boolN (RelV_ty _)) pa_nil)))))))), ?_⟩
    refine ⟨_, rfl, _, _, _, _, _, rfl, .ty _, ty, kit_i hn, _, rfl, ite2 (fun e => ?_) (fun e => ?_)⟩
    · refine ⟨_, rfl, _, _, _, _, _, rfl, .ty _, ty, kit_b hn, _, rfl, ?_⟩
      have k : (!(n == "bool")) = (n == "int") := by
        simp only [kinds, List.mem_cons, List.not_mem_nil, or_false] at hn
        rcases hn with rfl | rfl | rfl | rfl | rfl | rfl | rfl <;> first | rfl | exact absurd e (by decide) | decide
      rw [k]
      exact q
    · have k : (n == "int") = false := by
        cases z : (n == "int") with
        | false => rfl
        | true => exact absurd (by rw [z]; rfl) e
      rw [k] at q
      exact q
/-! ### is_listed -/
abbrev s_is_listed : Stmt := topS 14
theorem sc_is_listed : FnScope ["value"] ["value"] (defScope s_is_listed) := ⟨rfl, rfl, rfl, by decide +kernel, rfl, by decide +kernel, by decide +kernel⟩
def spIsListed (K : PySem.W.Frag) : Sp := fun vs H Q _ => ∃ v n, vs = [v] ∧ IsK K H v n ∧ ∀ H', Same H H' → Q (.bl (n == "list" || n == "tuple")) H'
theorem same_new {H : Hp} {p : Addr} {o : HO} (h : H p = none) : Same H (upd H p o) := fun b x e => by
  rw [upd_ne (ne_of_none e h)]
  exact e
theorem TyX_same {K : PySem.W.Frag} {H H' : Hp} {v : V} {t : Value} (s : Same H H') (h : TyX K H v t) : TyX K H' v t := by
  cases h with
  | base b =>
    cases b with
    | non => exact .base .non
    | bl y => exact .base (.bl y)
    | int i => exact .base (.int i)
    | str y => exact .base (.str y)
    | flt y => exact .base (.flt y)
    | lst e => exact .base (.lst (s _ _ e))
    | frz e => exact .base (.frz (s _ _ e))
    | tup e => exact .base (.tup (s _ _ e))
    | dK e => exact .base (.dK (s _ _ e))
    | dT e => exact .base (.dT (s _ _ e))
    | ins e cl ha hn htk hm => exact .base (.ins (s _ _ e) cl ha hn htk hm)
  | byt y => exact .byt y
  | set e => exact .set (s _ _ e)
  | kList e c => exact .kList e c
  | kTuple e c => exact .kTuple e c
  | kDict e c => exact .kDict e c
  | fTuple e => exact .fTuple (s _ _ e)
  | fDict e => exact .fDict (s _ _ e)
theorem IsK.same {H H' : Hp} {v : V} {n : String} (h : IsK K H v n) (s : Same H H') : IsK K H' v n := ⟨h.1, TyX_same s h.2⟩
theorem cal_is_listed (D : DefF K mg "is_listed" s_is_listed) (M : MG mg) : CalX P w K mg base CX0 1 "is_listed" (spIsListed K) := by
  refine cal_mk D sc_is_listed (fun _ _ _ _ _ _ us hl => match us, hl with | [_], _ => rfl) (fun vs H Q E h => ?_) (fun f cdv A outer s H vs Q E hr h => ?_)
  · obtain ⟨v, n, rfl, _⟩ := h
    rfl
  · obtain ⟨v, n, rfl, k, q⟩ := h
    refine ⟨_, (pss_one (ps_ret (pe_callB call_isiT (by rfl) M.z_isinstance boot_isinstance (pa_cons (pv 0) (pa_cons (pe_tup (pa_cons (pe_bltn (by rfl) M.z_list boot_listN (RelV_ty _)) (pa_cons (pe_bltn (by rfl) M.z_tuple boot_tupleN (RelV_ty _)) pa_nil))) pa_nil))))), ?_⟩
    refine ⟨_, rfl, by decide, fun p hp => ?_⟩
    exact ⟨_, p, _, _, _, _, rfl, upd_same, .cons (.ty _) (.cons (.ty _) .nil), (k.same (same_new hp)).2, kit_l k.1, q _ (same_new hp)⟩
/-! ### is_within: whole numbers within two bounds -/
abbrev s_is_within : Stmt := topS 13
theorem sc_is_within : FnScope ["value", "least", "most"] ["value", "least", "most"] (defScope s_is_within) := ⟨rfl, rfl, rfl, by decide +kernel, rfl, by decide +kernel, by decide +kernel⟩
def spWithin (K : PySem.W.Frag) : Sp := fun vs H Q _ => ∃ (v : V) (n : String) (l m : Int), vs = [v, .int l, .int m] ∧ IsK K H v n ∧ (n = "int" → ∃ i, v = .int i ∧ Q (.bl (decide (l ≤ i) && decide (i ≤ m))) H) ∧ (n ≠ "int" → Q (.bl false) H)
theorem cal_is_within (D : DefF K mg "is_within" s_is_within) (M : MG mg) (C_is_integer : CalX P w K mg base CX0 1 "is_integer" (spIsInt K)) : CalX P w K mg base CX0 2 "is_within" (spWithin K) := by
  refine cal_mk D sc_is_within (fun _ _ _ _ _ _ us hl => match us, hl with | [_, _, _], _ => rfl) (fun vs H Q E h => ?_) (fun f cdv A outer s H vs Q E hr h => ?_)
  · obtain ⟨v, n, l, m, rfl, _⟩ := h
    rfl
  · obtain ⟨v, n, l, m, rfl, k, q1, q2⟩ := h
    refine ⟨_, (pss_one (ps_ret (pe_and (pe_cx C_is_integer hr (by decide) (by rfl) pass0 (pa_cons (pv 0) pa_nil)) (pe_and (pe_or (pe_cmpR op_isN (pv 1) pe_non (nomark _)) (pe_one (pe_cmpR op_ge (pv 0) (pv 1) (nomark _)))) (pe_one (pe_or (pe_cmpR op_isN (pv 2) pe_non (nomark _)) (pe_one (pe_cmpR op_le (pv 0) (pv 2) (nomark _))))))))), ?_⟩
    refine ⟨_, rfl, v, n, rfl, k, _, rfl, ite2 (fun e => ?_) (fun e => ?_)⟩
    · obtain ⟨i, rfl, q⟩ := q1 (by simpa using e)
      refine ⟨_, rfl, rfl, _, rfl, iteF ?_⟩
      refine ⟨_, rfl, _, rfl, _, _, rfl, rfl, _, rfl, ite2 (fun e => ?_) (fun e => ?_)⟩
      · refine ⟨_, rfl, rfl, _, rfl, iteF ?_⟩
        refine ⟨_, rfl, _, rfl, _, _, rfl, rfl, ?_⟩
        rw [e, Bool.true_and] at q
        exact q
      · rw [Bool.eq_false_iff.mpr e, Bool.false_and] at q
        exact q
    · exact q2 (by simpa using e)
/-! ### need_integer -/
abbrev s_need_integer : Stmt := topS 15
theorem sc_need_integer : FnScope ["value", "part", "least", "most"] ["value", "part", "least", "most"] (defScope s_need_integer) := ⟨rfl, rfl, rfl, by decide +kernel, rfl, by decide +kernel, by decide +kernel⟩
def spNeed (K : PySem.W.Frag) (C : Addr) : Sp := fun vs H Q E => ∃ (v : V) (n : String) (z : Str) (l m : Int), vs = [v, .str z, .int l, .int m] ∧ IsK K H v n ∧
  ((∃ i, n = "int" ∧ v = .int i ∧ l ≤ i ∧ i ≤ m ∧ Q .non H) ∨ ((n = "int" → ∃ i, v = .int i ∧ ¬ (l ≤ i ∧ i ≤ m)) ∧ ∀ d, H d = none → E (.ref C) (some d) (upd H d (.xd [(("part" : Str), .str z)]))))
theorem cal_need_integer {C : Addr} (D : DefF K mg "need_integer" s_need_integer) (M : MG mg) (M_C : mg "BadNumber" = some (.ref C)) (T_BadNumber : PySem.OcX.SupTxt P K C) (C_is_within : CalX P w K mg base CX0 2 "is_within" (spWithin K)) : CalX P w K mg base (L2.CX P w) 4 "need_integer" (spNeed K C) := by
  refine cal_mkX D sc_need_integer (fun _ _ _ _ _ _ us hl => match us, hl with | [_, _, _, _], _ => rfl) (fun vs H Q E h => ?_) (fun f cdv A outer s H vs Q E hr h => ?_)
  · obtain ⟨v, n, z, l, m, rfl, _⟩ := h
    rfl
  · obtain ⟨v, n, z, l, m, rfl, k, q⟩ := h
    have tk := takes_of (X := cxOf (L2.CX P w) P w K mg base ["value", "part", "least", "most"] "need_integer" (defScope s_need_integer) f cdv A outer s H E) rfl rfl rfl rfl
    refine ⟨_, (pss_one (ps_if (pt_not (pt_val (pe_cx C_is_within hr (by decide) (by rfl) pass0 (pa_cons (pv 0) (pa_cons (pv 2) (pa_cons (pv 3) pa_nil))))))
  (pss_one (ps_raise rfl tk (pmk_sup T_BadNumber hr M_C M.z_super (pv 1))))
  pss_nil)), ?_⟩
    refine ⟨_, rfl, _, rfl, _, rfl, v, n, l, m, rfl, k, ?_⟩
    rcases q with ⟨i, hn, rfl, h1, h2, q⟩ | ⟨hn, q⟩
    · refine ⟨fun _ => ⟨i, rfl, _, rfl, ?_⟩, fun y => absurd hn y⟩
      rw [decide_eq_true h1, decide_eq_true h2]
      exact iteF q
    · refine ⟨fun y => ?_, fun y => ⟨_, rfl, iteT ?_⟩⟩
      · obtain ⟨i, rfl, hi⟩ := hn y
        refine ⟨i, rfl, _, rfl, ?_⟩
        have e : (decide (l ≤ i) && decide (i ≤ m)) = false := by
          rw [← Bool.decide_and]
          exact decide_eq_false hi
        rw [e]
        exact iteT ⟨_, rfl, q⟩
      · exact ⟨_, rfl, q⟩
end
end W49
end
section
/-! k49: the walk, second part: frames, comprehensions, spans, verdicts of lines. -/
namespace W49
open PySem PySem.Spec PyProof.Rows L2
/-! ### frames: all but S is kept -/
def Kx (S : List Addr) (H H' : Hp) : Prop := ∀ b o, b ∉ S → H b = some o → H' b = some o
theorem Kx.refl {S : List Addr} {H : Hp} : Kx S H H := fun _ _ _ e => e
theorem Kx.trans {S : List Addr} {H H1 H2 : Hp} (k : Kx S H H1) (k' : Kx S H1 H2) : Kx S H H2 := fun b o n e => k' b o n (k b o n e)
theorem Kx.mono {S S' : List Addr} {H H1 : Hp} (k : Kx S H H1) (h : ∀ b, b ∈ S → b ∈ S') : Kx S' H H1 := fun b o n e => k b o (fun z => n (h b z)) e
theorem Kx.same {H H1 : Hp} (k : Kx [] H H1) : Same H H1 := fun b o e => k b o (by simp) e
theorem Kx.of {S : List Addr} {H H1 : Hp} (k : Same H H1) : Kx S H H1 := fun b o _ e => k b o e
theorem Kx.new {S : List Addr} {H : Hp} {p : Addr} {o : HO} (h : H p = none) : Kx S H (upd H p o) := fun b x _ e => by
  rw [upd_ne (ne_of_none e h)]
  exact e
theorem Kx.put {S : List Addr} {H : Hp} {p : Addr} {o : HO} (h : p ∈ S) : Kx S H (upd H p o) := fun b x n e => by
  rw [upd_ne (fun z => n (by rw [z]; exact h))]
  exact e
theorem Kx.sql {S : List Addr} {K : PySem.W.Frag} {H H' : Hp} {a : Addr} {xs : List V} (k : Kx S H H') (n : a ∉ S) (h : SqL K H a xs) : SqL K H' a xs := by
  rcases h with (h | ⟨o, h⟩) | h
  · exact .inl (.inl (k _ _ n h))
  · exact .inl (.inr ⟨o, k _ _ n h⟩)
  · exact .inr h
theorem Kx.sqt {S : List Addr} {K : PySem.W.Frag} {H H' : Hp} {a : Addr} {xs : List V} (k : Kx S H H') (n : a ∉ S) (h : SqT K H a xs) : SqT K H' a xs := by
  rcases h with (h | ⟨o, h⟩) | h
  · exact .inl (.inl (k _ _ n h))
  · exact .inl (.inr ⟨o, k _ _ n h⟩)
  · exact .inr h
theorem Same.sqt {K : PySem.W.Frag} {H H' : Hp} {a : Addr} {xs : List V} (k : Same H H') (h : SqT K H a xs) : SqT K H' a xs := by
  rcases h with (h | ⟨o, h⟩) | h
  · exact .inl (.inl (k _ _ h))
  · exact .inl (.inr ⟨o, k _ _ h⟩)
  · exact .inr h
theorem Kx.drop {S : List Addr} {H H' : Hp} {D : Addr} (hD : H D = none) (k : Kx (D :: S) H H') : Kx S H H' := fun b o n e => k b o (fun z => by
  rcases List.mem_cons.mp z with z | z
  · rw [z, hD] at e; cases e
  · exact n z) e
/-! ### a comprehension without filter, its items told one by one -/
theorem lcM {J : It} {n : Nat} {G : Hp → Prop} {Y : Nat → Hp → V → Hp → Prop} {ok : Nat → V → Prop} (w : Walk J n G Y) (hy : ∀ i H x H', Y i H x H' → H' = H ∧ ok i x) {g : TG} {tt : TT} {te : TE} {vs : List Nat} {σ : L2.St} {H1 : Hp} {D : Addr} {Qd : Hp → Prop}
    (S : List Addr) (Jp : Nat → Hp → Prop) (R : Nat → V → Hp → Prop) (hn : n < sizeLine) (hD : H1 D = none) (hDS : D ∉ S) (hG : ∀ H, Kx S H1 H → G H)
    (Ju : ∀ i H acc, Jp i H → Jp i (upd H D (.lst acc))) (Rm : ∀ i y H H', (∃ acc, H D = some (.lst acc)) → Kx (D :: S) H H' → R i y H → R i y H') (j0 : Jp 0 H1)
    (step : ∀ (i : Nat) (x : V) (H : Hp) (Ny : V → Hp → Prop) (Nn : Hp → Prop), i < n → ok i x → Kx S H1 H → Jp i H → (∃ acc, H D = some (.lst acc)) → (∀ y H4, Kx S H H4 → Jp (i + 1) H4 → R i y H4 → Ny y H4) →
      g x (wipe σ vs) H fun σ2 H2 => wipe σ2 vs = wipe σ vs ∧ tt σ2 H2 fun b H3 => if b = true then te σ2 H3 Ny else Nn H3)
    (fin : ∀ (H : Hp) (ys : List V), Kx S H1 H → Jp n H → H D = some (.lst ys) → ys.length = n → (∀ i y, ys[i]? = some y → R i y H) → Qd H) :
    ∃ W : Nat → Nat → Hp → Prop, (∃ m, W 0 m (upd H1 D (.lst []))) ∧ ∀ i m H, W i m H →
      (J.stop i H ∧ Qd H) ∨ (J.go i H ∧ ∃ Nx : Hp → Prop, (∀ H', Nx H' → ∃ m', m' < m ∧ W (i + 1) m' H') ∧ ∀ x H', J.yld i H x H' → g x (wipe σ vs) H' fun σ2 H2 => wipe σ2 vs = wipe σ vs ∧ tt σ2 H2 fun b H3 =>
        if b = true then te σ2 H3 fun y H4 => ∃ acc, H4 D = some (.lst acc) ∧ acc.length < sizeLine ∧ Nx (upd H4 D (.lst (acc ++ [y]))) else Nx H3) := by
  refine lc_it w (fun i H => Kx S H1 H ∧ Jp i H ∧ ∃ ys : List V, H D = some (.lst ys) ∧ ys.length = i ∧ ∀ j y, ys[j]? = some y → R j y H) ⟨Kx.new hD, Ju _ _ _ j0, [], upd_same, rfl, fun j y z => by simp at z⟩
    (fun i H _ q => hG H q.1) (fun i x H H' hi ⟨k, hj, ys, e, hl, hr⟩ yy => ?_) fun H ⟨k, hj, ys, e, hl, hr⟩ => fin H ys k hj e hl hr
  obtain ⟨rfl, hx⟩ := hy _ _ _ _ yy
  refine step i x H' _ _ hi hx k hj ⟨ys, e⟩ fun y H4 k4 j4 r4 => ⟨ys, k4 _ _ hDS e, by omega, ?_⟩
  have kD : Kx (D :: S) H4 (upd H4 D (.lst (ys ++ [y]))) := Kx.put List.mem_cons_self
  refine ⟨fun b o nb eb => ?_, Ju _ _ _ j4, ys ++ [y], upd_same, by simp [hl], fun j z hz => ?_⟩
  · rw [upd_ne (ne_of_none eb hD)]
    exact (k.trans k4) b o nb eb
  · by_cases hj' : j < ys.length
    · rw [List.getElem?_append_left hj'] at hz
      exact Rm _ _ _ _ ⟨ys, k4 _ _ hDS e⟩ kD (Rm _ _ _ _ ⟨ys, e⟩ (k4.mono fun b hb => List.mem_cons_of_mem _ hb) (hr j z hz))
    · have ej : j = ys.length := by
        have := (List.getElem?_eq_some_iff.mp hz).1
        simp at this
        omega
      subst ej
      rw [List.getElem?_append_right (Nat.le_refl _), Nat.sub_self] at hz
      cases hz
      rw [hl]
      exact Rm _ _ _ _ ⟨ys, k4 _ _ hDS e⟩ kD r4
theorem szL {n : Nat} (h : n ≤ 1000) : n ≤ sizeLine := Nat.le_of_lt (small1000 h)
/-! ### lines, spans -/
def hiV : Option Int → V
  | some h => .int h
  | none => .non
def SpanAt (H : Hp) (v : V) : Option (Int × Int) → Prop
  | none => v = .non
  | some (f, l) => ∃ p, v = .ref p ∧ H p = some (.tup [.int f, .int l])
theorem SpanAt.kx {S : List Addr} {H H' : Hp} {v : V} {s : Option (Int × Int)} (h : SpanAt H v s) (k : Kx S H H') (hS : ∀ b ∈ S, ∀ xs, H b ≠ some (.tup xs)) : SpanAt H' v s := by
  cases s with
  | none => exact h
  | some q =>
    obtain ⟨f, l⟩ := q
    obtain ⟨p, e, z⟩ := h
    exact ⟨p, e, k _ _ (fun y => hS p y _ z) z⟩
theorem SpanAt.same {H H' : Hp} {v : V} {s : Option (Int × Int)} (h : SpanAt H v s) (k : Same H H') : SpanAt H' v s := h.kx (S := []) (Kx.of k) (by simp)
def PairAt (K : PySem.W.Frag) (H : Hp) (v : V) (l : Int × Int) : Prop := ∃ q, v = .ref q ∧ (SqT K H q [.int l.1, .int l.2] ∨ SqL K H q [.int l.1, .int l.2])
theorem PairAt.same {K : PySem.W.Frag} {H H' : Hp} {v : V} {l : Int × Int} (h : PairAt K H v l) (k : Same H H') : PairAt K H' v l := by
  obtain ⟨q, e, z | z⟩ := h
  · exact ⟨q, e, .inl (Same.sqt k z)⟩
  · exact ⟨q, e, .inr (k.seq z)⟩
section
variable {P : Program} {w : World} {K : PySem.W.Frag} {mg : Str → Option Value} {base : Heap}
abbrev s_times_within : Stmt := topS 21
theorem sc_times_within : FnScope ["line", "top", "low", "high", "a", "b", "first", "last"] ["line", "top", "low", "high"] (defScope s_times_within) := ⟨rfl, rfl, rfl, by decide +kernel, rfl, by decide +kernel, by decide +kernel⟩
def spTimes (K : PySem.W.Frag) : Sp := fun vs H Q _ => ∃ (v : V) (a b top low : Int) (high : Option Int), vs = [v, .int top, .int low, hiV high] ∧ PairAt K H v (a, b) ∧ b.natAbs < 1073741824 ∧ ∀ H' u, Same H H' → SpanAt H' u (K49.tw a b top low high) → Q u H'
theorem hiV_non {high : Option Int} : decide (hiV high = V.non) = high.isNone := by
  cases high with
  | none => rfl
  | some h => rfl
theorem cal_times_within (D : DefF K mg "times_within" s_times_within) (M : MG mg) : CalX P w K mg base CX0 1 "times_within" (spTimes K) := by
  refine cal_mk D sc_times_within (fun _ _ _ _ _ _ us hl => match us, hl with | [_, _, _, _], _ => rfl) (fun vs H Q E h => ?_) (fun f cdv A outer s H vs Q E hr h => ?_)
  · obtain ⟨v, a, b, top, low, high, rfl, _⟩ := h
    rfl
  · obtain ⟨v, a, b, top, low, high, rfl, ⟨q, rfl, hq⟩, hb, k⟩ := h
    refine ⟨_, (pss_cons (ps_asg (pe_tup (pa_cons (pv 0) (pa_cons pe_int (pa_cons (pv 1) pa_nil)))) (pg_tup rfl (pgs_cons (PG.either (pg_tup rfl (pgs_cons (pg_name (i := 4) sc_times_within.nd rfl (.inl rfl)) (pgs_cons (pg_name (i := 5) sc_times_within.nd rfl (.inl rfl)) pgs_nil))) (pg_lst rfl (pgs_cons (pg_name (i := 4) sc_times_within.nd rfl (.inl rfl)) (pgs_cons (pg_name (i := 5) sc_times_within.nd rfl (.inl rfl)) pgs_nil)))) (pgs_cons (pg_name (i := 6) sc_times_within.nd rfl (by first | exact .inl rfl | exact .inr rfl)) (pgs_cons (pg_name (i := 7) sc_times_within.nd rfl (by first | exact .inl rfl | exact .inr rfl)) pgs_nil)))))
  (pss_cons (ps_if (pt_cmpR op_eq (pv 5) pe_int (nomark _))
  (pss_one (ps_ret (pe_ifExp (PW.pt (pw_and (pt_cmpR op_le (pv 2) (pv 4) (nomark _)) (pw_and1 (PW.pt (pw_or (pt_cmpR op_isN (pv 3) pe_non (nomark _)) (pw_or1 (pt_cmpR op_le (pv 4) (pv 3) (nomark _)))))))) (pe_tup (pa_cons pe_int (pa_cons (pv 1) pa_nil))) pe_non)))
  pss_nil)
  (pss_cons (ps_if (pt_cmpR op_gt (pv 5) pe_int (nomark _))
  (pss_cons (ps_set (i := 6) sc_times_within.nd rfl (by first | exact .inl rfl | exact .inr rfl) (pe_callB (call_max2 rfl) (by rfl) M.z_max boot_max (pa_cons (pv 6) (pa_cons (pe_un un_neg (pe_op op_fdivN (pe_op op_sub (pv 4) (pv 2)) (pv 5))) pa_nil))))
  (pss_one (ps_set (i := 7) sc_times_within.nd rfl (by first | exact .inl rfl | exact .inr rfl) (pe_ifExp (pt_cmpR op_isN (pv 3) pe_non (nomark _)) (pv 7) (pe_callB (call_min2 rfl) (by rfl) M.z_min boot_min (pa_cons (pv 7) (pa_cons (pe_op op_fdivN (pe_op op_sub (pv 3) (pv 4)) (pv 5)) pa_nil)))))))
  (pss_cons (ps_set (i := 6) sc_times_within.nd rfl (by first | exact .inl rfl | exact .inr rfl) (pe_ifExp (pt_cmpR op_isN (pv 3) pe_non (nomark _)) (pv 6) (pe_callB (call_max2 rfl) (by rfl) M.z_max boot_max (pa_cons (pv 6) (pa_cons (pe_un un_neg (pe_op op_fdivN (pe_op op_sub (pv 3) (pv 4)) (pe_un un_neg (pv 5)))) pa_nil)))))
  (pss_one (ps_set (i := 7) sc_times_within.nd rfl (by first | exact .inl rfl | exact .inr rfl) (pe_callB (call_min2 rfl) (by rfl) M.z_min boot_min (pa_cons (pv 7) (pa_cons (pe_op op_fdivN (pe_op op_sub (pv 4) (pv 2)) (pe_un un_neg (pv 5))) pa_nil)))))))
  (pss_one (ps_ret (pe_ifExp (pt_cmpR op_le (pv 6) (pv 7) (nomark _)) (pe_tup (pa_cons (pv 6) (pa_cons (pv 7) pa_nil))) pe_non)))))), ?_⟩
    refine ⟨_, rfl, _, rfl, szL (by show 3 ≤ 1000; decide), fun p hp => ⟨p, [V.ref q, V.int 0, V.int top], rfl, SqT.of upd_same, rfl, _, _, rfl, ?_⟩⟩
    have sp : Same H (upd H p (.tup [V.ref q, V.int 0, V.int top])) := same_new hp
    revert sp
    generalize upd H p (.tup [V.ref q, V.int 0, V.int top]) = H1
    intro sp
    have fin : ∀ H2 u, Same H1 H2 → SpanAt H2 u (K49.tw a b top low high) → Q u H2 := fun H2 u s2 e => k H2 u (sp.trans s2) e
    have tupF : ∀ (f l : Int), K49.tw a b top low high = some (f, l) → [V.int f, V.int l].length ≤ sizeLine ∧ ∀ r, H1 r = none → Q (.ref r) (upd H1 r (.tup [.int f, .int l])) := fun f l e => ⟨szL (by show 2 ≤ 1000; decide), fun r hr => fin _ _ (same_new hr) (by rw [e]; exact ⟨r, rfl, upd_same⟩)⟩
    have nonF : K49.tw a b top low high = none → Q .non H1 := fun e => fin _ _ (Same.refl _) (by rw [e]; rfl)
    have cd0 : ∀ x : Int, b ≠ 0 → b ≠ 0 ∧ b.natAbs < 1073741824 := fun x h => ⟨h, hb⟩
    refine Or.elim hq (fun hq => .inl ⟨q, _, rfl, Same.sqt sp hq, rfl, _, _, rfl, _, _, rfl, rfl, _, _, rfl, _, _, rfl, rfl, ?_⟩) (fun hq => .inr ⟨q, _, rfl, sp.seq hq, rfl, _, _, rfl, _, _, rfl, rfl, _, _, rfl, _, _, rfl, rfl, ?_⟩)
    all_goals
      refine ⟨_, rfl, rfl, _, rfl, ite2 (fun e => ?_) (fun e => ?_)⟩
      · have hb0 : b = 0 := V.int.inj (of_decide_eq_true e)
        refine ⟨_, rfl, _, rfl, _, _, rfl, rfl, _, rfl, ite2 (fun e1 => ?_) (fun e1 => ?_)⟩
        · have h1 : low ≤ a := of_decide_eq_true e1
          refine ⟨_, rfl, rfl, _, rfl, ?_⟩
          cases high with
          | none => exact iteT (iteT ⟨_, rfl, tupF 0 top (by simp [K49.tw, K49.within, hb0, h1])⟩)
          | some h =>
            refine iteF ⟨_, rfl, _, rfl, _, _, rfl, rfl, _, rfl, ite2 (fun e2 => ?_) (fun e2 => ?_)⟩
            · exact ⟨_, rfl, tupF 0 top (by simp [K49.tw, K49.within, hb0, h1, of_decide_eq_true e2])⟩
            · exact nonF (by simp [K49.tw, K49.within, hb0, h1, show ¬ a ≤ h from fun z => e2 (decide_eq_true z)])
        · exact iteF (nonF (by simp [K49.tw, K49.within, hb0, show ¬ low ≤ a from fun z => e1 (decide_eq_true z)]))
      · have hb0 : b ≠ 0 := fun z => e (by rw [z]; exact decide_eq_true rfl)
        refine ⟨_, rfl, _, _, rfl, rfl, _, rfl, ite2 (fun e1 => ?_) (fun e1 => ?_)⟩
        · have h1 : 0 < b := of_decide_eq_true e1
          refine ⟨_, rfl, _, rfl, _, rfl, _, _, rfl, rfl, _, rfl, _, _, rfl, rfl, ⟨hb0, hb⟩, _, rfl, _, _, rfl, ?_⟩
          refine ⟨_, rfl, rfl, _, rfl, ?_⟩
          cases high with
          | none =>
            refine iteT ⟨_, rfl, _, rfl, _, rfl, _, _, rfl, rfl, _, rfl, ite2 (fun e2 => ?_) (fun e2 => ?_)⟩
            · have h2 := of_decide_eq_true e2
              exact ⟨_, rfl, _, rfl, tupF _ _ (by unfold K49.tw; rw [if_neg hb0]; unfold K49.fstOf K49.lstOf K49.maxP; rw [if_pos h1, if_pos h1]; exact if_pos h2)⟩
            · exact nonF (by unfold K49.tw; rw [if_neg hb0]; unfold K49.fstOf K49.lstOf K49.maxP; rw [if_pos h1, if_pos h1]; exact if_neg fun z => e2 (decide_eq_true z))
          | some h =>
            refine iteF ⟨_, rfl, _, rfl, _, rfl, _, _, rfl, rfl, _, rfl, _, _, rfl, rfl, ⟨hb0, hb⟩, _, _, rfl, ?_⟩
            refine ⟨_, rfl, _, rfl, _, _, rfl, rfl, _, rfl, ite2 (fun e2 => ?_) (fun e2 => ?_)⟩
            · have h2 := of_decide_eq_true e2
              exact ⟨_, rfl, _, rfl, tupF _ _ (by unfold K49.tw; rw [if_neg hb0]; unfold K49.fstOf K49.lstOf K49.maxP; rw [if_pos h1, if_pos h1]; exact if_pos h2)⟩
            · exact nonF (by unfold K49.tw; rw [if_neg hb0]; unfold K49.fstOf K49.lstOf K49.maxP; rw [if_pos h1, if_pos h1]; exact if_neg fun z => e2 (decide_eq_true z))
        · have h1 : ¬ 0 < b := fun z => e1 (decide_eq_true z)
          have hb' : -b ≠ 0 ∧ (-b).natAbs < 1073741824 := ⟨by omega, by rw [Int.natAbs_neg]; exact hb⟩
          refine ⟨_, rfl, rfl, _, rfl, ?_⟩
          cases high with
          | none =>
            refine iteT ⟨_, rfl, ?_⟩
            refine ⟨_, rfl, _, rfl, _, rfl, _, _, rfl, rfl, _, rfl, _, rfl, _, _, rfl, rfl, hb', _, _, rfl, ?_⟩
            refine ⟨_, rfl, _, rfl, _, _, rfl, rfl, _, rfl, ite2 (fun e2 => ?_) (fun e2 => ?_)⟩
            · have h2 := of_decide_eq_true e2
              exact ⟨_, rfl, _, rfl, tupF _ _ (by unfold K49.tw; rw [if_neg hb0]; unfold K49.fstOf K49.lstOf K49.minP; rw [if_neg h1, if_neg h1]; exact if_pos h2)⟩
            · exact nonF (by unfold K49.tw; rw [if_neg hb0]; unfold K49.fstOf K49.lstOf K49.minP; rw [if_neg h1, if_neg h1]; exact if_neg fun z => e2 (decide_eq_true z))
          | some h =>
            refine iteF ⟨_, rfl, _, rfl, _, rfl, _, _, rfl, rfl, _, rfl, _, rfl, _, _, rfl, rfl, hb', _, rfl, _, _, rfl, ?_⟩
            refine ⟨_, rfl, _, rfl, _, rfl, _, _, rfl, rfl, _, rfl, _, rfl, _, _, rfl, rfl, hb', _, _, rfl, ?_⟩
            refine ⟨_, rfl, _, rfl, _, _, rfl, rfl, _, rfl, ite2 (fun e2 => ?_) (fun e2 => ?_)⟩
            · have h2 := of_decide_eq_true e2
              exact ⟨_, rfl, _, rfl, tupF _ _ (by unfold K49.tw; rw [if_neg hb0]; unfold K49.fstOf K49.lstOf K49.maxP K49.minP; rw [if_neg h1, if_neg h1]; exact if_pos h2)⟩
            · exact nonF (by unfold K49.tw; rw [if_neg hb0]; unfold K49.fstOf K49.lstOf K49.maxP K49.minP; rw [if_neg h1, if_neg h1]; exact if_neg fun z => e2 (decide_eq_true z))
end
end W49
end
section
/-! k49: the walk, third part: verdicts of a day, rows as data, marks. -/
namespace W49
open PySem PySem.Spec PyProof.Rows L2
/-! ### lists side by side -/
def AllAt {β : Type} (R : V → β → Prop) (xs : List V) (ys : List β) : Prop := xs.length = ys.length ∧ ∀ (i : Nat) (x : V), xs[i]? = some x → ∃ y, ys[i]? = some y ∧ R x y
theorem AllAt.imp {β : Type} {R R' : V → β → Prop} {xs : List V} {ys : List β} (h : AllAt R xs ys) (k : ∀ x y, R x y → R' x y) : AllAt R' xs ys := ⟨h.1, fun i x e => let ⟨y, e', r⟩ := h.2 i x e; ⟨y, e', k _ _ r⟩⟩
theorem AllAt.nil {β : Type} {R : V → β → Prop} : AllAt R [] [] := ⟨rfl, fun i x e => by simp at e⟩
theorem AllAt.cons {β : Type} {R : V → β → Prop} {x : V} {y : β} {xs : List V} {ys : List β} (h : R x y) (t : AllAt R xs ys) : AllAt R (x :: xs) (y :: ys) := ⟨by simp [t.1], fun i z e => by
  cases i with
  | zero => cases e; exact ⟨y, rfl, h⟩
  | succ i => exact t.2 i z (by simpa using e)⟩
theorem AllAt.uncons {β : Type} {R : V → β → Prop} {xs : List V} {y : β} {ys : List β} (h : AllAt R xs (y :: ys)) : ∃ x xs', xs = x :: xs' ∧ R x y ∧ AllAt R xs' ys := by
  cases xs with
  | nil => exact absurd h.1 (by simp)
  | cons x xs' =>
    obtain ⟨y', e, r⟩ := h.2 0 x rfl
    cases e
    exact ⟨x, xs', rfl, r, by have := h.1; simpa using this, fun i z e => h.2 (i + 1) z (by simpa using e)⟩
theorem AllAt.nil_inv {β : Type} {R : V → β → Prop} {xs : List V} (h : AllAt R xs []) : xs = [] := List.eq_nil_of_length_eq_zero h.1
theorem AllAt.snoc {β : Type} {R : V → β → Prop} {x : V} {y : β} : ∀ {xs : List V} {ys : List β}, AllAt R xs ys → R x y → AllAt R (xs ++ [x]) (ys ++ [y])
  | xs, [], h, r => by
    rw [h.nil_inv]
    exact .cons r .nil
  | xs, z :: zs, h, r => by
    obtain ⟨w, ws, rfl, r0, t⟩ := h.uncons
    exact .cons r0 (t.snoc r)
theorem AllAt.set {β : Type} {R : V → β → Prop} {x : V} {y : β} {xs : List V} {ys : List β} (h : AllAt R xs ys) (r : R x y) (j : Nat) : AllAt R (xs.set j x) (ys.set j y) := ⟨by simp [h.1], fun i z e => by
  rw [List.getElem?_set] at e
  rw [List.getElem?_set]
  by_cases hji : j = i
  · rw [if_pos hji] at e
    rw [if_pos hji]
    by_cases hl : j < xs.length
    · rw [if_pos hl] at e
      cases e
      rw [if_pos (by rw [← h.1]; exact hl)]
      exact ⟨y, rfl, r⟩
    · rw [if_neg hl] at e
      cases e
  · rw [if_neg hji] at e
    rw [if_neg hji]
    exact h.2 i z e⟩
theorem AllAt.last {β : Type} {R : V → β → Prop} {xs : List V} {ys : List β} {y : β} (h : AllAt R xs ys) (e : ys.getLast? = some y) : ∃ x, atI xs (-1) = some x ∧ R x y := by
  have hne : xs ≠ [] := fun z => by
    have := h.1
    rw [z] at this
    have e2 := List.eq_nil_of_length_eq_zero this.symm
    rw [e2] at e
    cases e
  have hx : xs = xs.dropLast ++ [xs.getLast hne] := (List.dropLast_concat_getLast hne).symm
  have hl : xs[xs.length - 1]? = some (xs.getLast hne) := by rw [← List.getLast?_eq_getElem?, List.getLast?_eq_getLast hne]
  obtain ⟨y', e', r⟩ := h.2 _ _ hl
  have ey : ys.getLast? = some y' := by rw [List.getLast?_eq_getElem?, ← h.1]; exact e'
  rw [e] at ey
  cases ey
  refine ⟨xs.getLast hne, ?_, r⟩
  have q := atI_last xs.dropLast (xs.getLast hne)
  rw [← hx] at q
  exact q
theorem map_at {β : Type} {f : β → V} : ∀ {ys : List V} {l : List β}, ys.length = l.length → (∀ (i : Nat) (y : V), ys[i]? = some y → ∃ s, l[i]? = some s ∧ y = f s) → ys = l.map f
  | [], [], _, _ => rfl
  | y :: ys, s :: l, hl, h => by
    obtain ⟨s', e, ey⟩ := h 0 y rfl
    cases e
    have t := map_at (f := f) (ys := ys) (l := l) (by simpa using hl) fun i z hz => h (i + 1) z (by simpa using hz)
    rw [ey, List.map_cons, ← t]
  | [], _ :: _, hl, _ => by simp at hl
  | _ :: _, [], hl, _ => by simp at hl
theorem yes_go {σ : L2.St} {H : Hp} {te : TE} {Ny : V → Hp → Prop} {Nn : Hp → Prop} (h : te σ H Ny) : tYes σ H (fun b H3 => if b = true then te σ H3 Ny else Nn H3) := by
  show (if true = true then te σ H Ny else Nn H)
  rw [if_pos rfl]
  exact h
/-! ### rows as data -/
abbrev Row := Int × Int × Str
def RowAt (H : Hp) (v : V) (r : Row) : Prop := ∃ q, v = .ref q ∧ H q = some (.tup [.int r.1, .int r.2.1, .str r.2.2])
theorem RowAt.kx {S : List Addr} {H H' : Hp} {v : V} {r : Row} (h : RowAt H v r) (k : Kx S H H') (hS : ∀ b ∈ S, ∀ xs, H b ≠ some (.tup xs)) : RowAt H' v r := by
  obtain ⟨q, e, z⟩ := h
  exact ⟨q, e, k _ _ (fun y => hS q y _ z) z⟩
theorem RowAt.same {H H' : Hp} {v : V} {r : Row} (h : RowAt H v r) (k : Same H H') : RowAt H' v r := h.kx (S := []) (Kx.of k) (by simp)
def rowD (r : Row) : PyData := .tuple [.int r.1, .int r.2.1, .str r.2.2]
theorem rows_dp {K : PySem.W.Frag} {H : Hp} : ∀ {xs : List V} {rows : List Row}, AllAt (RowAt H) xs rows → DpAll K H xs (rows.map rowD)
  | xs, [], h => by rw [h.nil_inv]; exact .nil
  | xs, r :: rows, h => by
    obtain ⟨x, xs', rfl, ⟨q, rfl, e⟩, t⟩ := h.uncons
    exact .cons (.tup (SqT.of e) (.cons (.int _) (.cons (.int _) (.cons (.str _) .nil)))) (rows_dp t)
def okW (s : Str) : Prop := s = "sure" ∨ s = "open" ∨ s = "never"
theorem okW_lay {s : Str} (h : okW s) : PyData.strOk s = true := by
  rcases h with rfl | rfl | rfl <;> decide +kernel
theorem rows_lay : ∀ {rows : List Row}, (∀ r ∈ rows, okW r.2.2) → PyData.canLayAll0 (rows.map rowD) = true ∧ PyData.depthAll (rows.map rowD) ≤ 1
  | [], _ => ⟨by simp [PyData.canLayAll0], by simp [PyData.depthAll]⟩
  | r :: rows, h => by
    obtain ⟨a, b⟩ := rows_lay (rows := rows) fun x hx => h x (List.mem_cons_of_mem _ hx)
    have w := okW_lay (h r List.mem_cons_self)
    exact ⟨by simp [PyData.canLayAll0, rowD, PyData.canLay0, a, w], by simp only [List.map_cons, PyData.depthAll, rowD, PyData.depth]; omega⟩
theorem shaped_l {rows : List Row} (h : ∀ r ∈ rows, okW r.2.2) : SeqAt.shaped (.list (rows.map rowD)) = true := by
  obtain ⟨a, b⟩ := rows_lay h
  unfold SeqAt.shaped
  rw [Bool.and_eq_true]
  exact ⟨by simp [PyData.canLay0, a], decide_eq_true (by simp only [PyData.depth]; omega)⟩
theorem shaped_t {rows : List Row} (h : ∀ r ∈ rows, okW r.2.2) : SeqAt.shaped (.tuple (rows.map rowD)) = true := by
  obtain ⟨a, b⟩ := rows_lay h
  unfold SeqAt.shaped
  rw [Bool.and_eq_true]
  exact ⟨by simp [PyData.canLay0, a], decide_eq_true (by simp only [PyData.depth]; omega)⟩
theorem shaped_nil : SeqAt.shaped (.list []) = true := by decide +kernel
theorem eqv_nil {rows : List Row} : PyData.eqv (.list (rows.map rowD)) (.list []) = rows.isEmpty := by
  cases rows with
  | nil => simp [PyData.eqv, PyData.eqvAll]
  | cons r rows => simp [PyData.eqv, PyData.eqvAll]
theorem eqv_rows : ∀ {rows : List Row}, PyData.eqvAll (rows.map rowD) (rows.map rowD) = true
  | [] => by simp [PyData.eqvAll]
  | r :: rows => by simp [PyData.eqvAll, rowD, PyData.eqv, eqv_rows (rows := rows)]
/-! ### marks -/
def KeysI (kvs : List (Key × V)) (ks : List Int) : Prop := kvs.map (·.1) = ks.map Sum.inl ∧ ks.Nodup
theorem keysI_mem {kvs : List (Key × V)} {ks : List Int} (h : KeysI kvs ks) {x : Int} : (Sum.inl x : Key) ∈ kvs.map (·.1) ↔ x ∈ ks := by
  rw [h.1, List.mem_map]
  constructor
  · rintro ⟨y, hy, e⟩
    cases e
    exact hy
  · exact fun hx => ⟨x, hx, rfl⟩
theorem putK_keys {kvs : List (Key × V)} {ks : List Int} (h : KeysI kvs ks) (x : Int) (v : V) : ∃ ks', KeysI (putK kvs (.inl x) v) ks' ∧ ∀ k, k ∈ ks' ↔ k ∈ ks ∨ k = x := by
  cases e : valV kvs (.inl x : Key) with
  | none =>
    have nx : x ∉ ks := fun z => valV_not e ((keysI_mem h).mpr z)
    refine ⟨ks ++ [x], ?_, fun k => by simp⟩
    rw [putK_new v e]
    exact ⟨by rw [List.map_append, h.1, List.map_append]; rfl, List.nodup_append.mpr ⟨h.2, by simp, fun a ha b hb => by simp at hb; rw [hb]; exact fun z => nx (z ▸ ha)⟩⟩
  | some u =>
    have hx : x ∈ ks := (keysI_mem h).mp (valV_in e)
    refine ⟨ks, ⟨?_, h.2⟩, fun k => ⟨.inl, fun z => z.elim id fun y => y ▸ hx⟩⟩
    have ha : (kvs.any fun kv => decide (kv.1 = (Sum.inl x : Key))) = true := by rw [valV_any, e]; rfl
    unfold putK
    rw [if_pos ha, List.map_map, ← h.1]
    refine List.map_congr_left fun p _ => ?_
    show (if p.1 = Sum.inl x then (p.1, v) else p).1 = p.1
    split <;> rfl
section
variable {P : Program} {w : World} {K : PySem.W.Frag} {mg : Str → Option Value} {base : Heap}
/-! ### verdict_of -/
abbrev s_verdict_of : Stmt := topS 22
theorem sc_verdict_of : FnScope ["spans", "t", "some", "span"] ["spans", "t"] (defScope s_verdict_of) := ⟨rfl, rfl, rfl, by decide +kernel, rfl, by decide +kernel, by decide +kernel⟩
def verdS (bs : List Bool) : Str := K49.verd ("sure" : Str) ("open" : Str) ("never" : Str) bs
theorem verdS_ok (bs : List Bool) : okW (verdS bs) := by
  unfold verdS K49.verd okW
  split
  · exact .inl rfl
  · split
    · exact .inr (.inl rfl)
    · exact .inr (.inr rfl)
def spVerdict (K : PySem.W.Frag) : Sp := fun vs H Q _ => ∃ (a : Addr) (xs : List V) (t : Int) (spans : List (Option (Int × Int))), vs = [.ref a, .int t] ∧ SqL K H a xs ∧ AllAt (SpanAt H) xs spans ∧ xs.length ≤ 1000 ∧
  ∀ H', Same H H' → Q (.str (verdS (spans.map fun s => K49.inSpan s t))) H'
theorem cal_verdict_of (D : DefF K mg "verdict_of" s_verdict_of) (M : MG mg) : CalX P w K mg base CX0 1 "verdict_of" (spVerdict K) := by
  refine cal_mk D sc_verdict_of (fun _ _ _ _ _ _ us hl => match us, hl with | [_, _], _ => rfl) (fun vs H Q E h => ?_) (fun f cdv A outer s H vs Q E hr h => ?_)
  · obtain ⟨a, xs, t, spans, rfl, _⟩ := h
    rfl
  · obtain ⟨a, xs, t, spans, rfl, hx, hs, hl, k⟩ := h
    refine ⟨_, (pss_cons (ps_setLc (i := 2) (own := [(("span" : Str), 3)]) rfl sc_verdict_of.nd rfl rfl rfl (pi_list (pv 0)) (blkOk_by (own := [(("span" : Str), 3)]) (N := [("spans" : Str), ("t" : Str), ("some" : Str), ("span" : Str)]) (sc := defScope s_verdict_of) (by decide +kernel)) (fun _ _ _ _ _ => (pg_name (i := 3) sc_verdict_of.nd rfl (by first | exact .inl rfl | exact .inr rfl))) (fun _ _ _ _ _ => pts_nil) (fun _ _ _ _ _ => (pe_and (pe_cmpR op_notN (pv 3) pe_non (nomark _)) (pe_one (pe_chain op_le op_le (pe_ix (r := rIxT K) ix_tup (pv 3) pe_int (fun _ _ => rfl)) (pv 1) (pe_ix (r := rIxT K) ix_tup (pv 3) pe_int (fun _ _ => rfl)))))))
  (pss_one (ps_ret (pe_ifExp (pt_val (pe_callB (cr_all rfl) (by rfl) M.z_all boot_all (pa_cons (pv 2) pa_nil))) (C8.pe_gc (by rfl) M.c_SURE) (pe_ifExp (pt_val (pe_callB (cr_any rfl) (by rfl) M.z_any boot_any (pa_cons (pv 2) pa_nil))) (C8.pe_gc (by rfl) M.c_OPEN) (C8.pe_gc (by rfl) M.c_NEVER)))))), ?_⟩
    refine ⟨_, rfl, a, rfl, ⟨xs, hx⟩, fun D hD => lcM (walk_list (xs := xs)) (fun _ _ _ _ y => y) [] (fun _ _ => True) (fun (i : Nat) (y : V) (H : Hp) => ∃ s, spans[i]? = some s ∧ y = .bl (K49.inSpan s t)) (small1000 hl) hD (by simp) (fun H1 k1 => k1.sql (by simp) hx)
      (fun _ _ _ _ => True.intro) (fun _ _ _ _ _ _ r => r) True.intro (fun i x H1 Ny Nn hi hxi k1 _ _ fin => ?_) (fun H1 ys k1 _ eD hly hr1 => ?_)⟩
    · obtain ⟨sp, esp, hsp⟩ := hs.2 i x hxi
      have hsp := hsp.same k1.same
      refine ⟨rfl, yes_go ?_⟩
      have fin' : ∀ b, b = K49.inSpan sp t → Ny (.bl b) H1 := fun b e => fin _ _ Kx.refl True.intro ⟨sp, esp, by rw [e]⟩
      cases sp with
      | none =>
        have ex : x = .non := hsp
        subst ex
        exact ⟨_, rfl, rfl, _, rfl, iteF (fin' _ rfl)⟩
      | some q =>
        obtain ⟨f0, l0⟩ := q
        obtain ⟨p, rfl, hp⟩ := hsp
        refine ⟨_, rfl, rfl, _, rfl, iteT ⟨_, rfl, p, _, 0, _, rfl, rfl, SqT.of hp, rfl, _, rfl, _, _, rfl, rfl, _, rfl, ite2 (fun e => ?_) (fun e => ?_)⟩⟩
        · refine ⟨_, rfl, p, _, 1, _, rfl, rfl, SqT.of hp, rfl, _, _, rfl, rfl, fin' _ ?_⟩
          show decide (t ≤ l0) = (decide (f0 ≤ t) && decide (t ≤ l0))
          rw [e, Bool.true_and]
        · refine fin' _ ?_
          show false = (decide (f0 ≤ t) && decide (t ≤ l0))
          rw [Bool.eq_false_iff.mpr e, Bool.false_and]
    · have ey : ys = (spans.map fun s => K49.inSpan s t).map V.bl := by
        rw [List.map_map]
        exact map_at (by rw [hly]; exact hs.1) hr1
      subst ey
      have fin : ∀ z, z = verdS (spans.map fun s => K49.inSpan s t) → Q (.str z) H1 := fun z e => by rw [e]; exact k H1 k1.same
      refine ⟨_, rfl, D, _, rfl, SqL.of eD, _, rfl, ite2 (fun e => ?_) (fun e => ?_)⟩
      · exact fin _ (by unfold verdS K49.verd; rw [if_pos e])
      · refine ⟨_, rfl, D, _, rfl, SqL.of eD, _, rfl, ite2 (fun e' => ?_) (fun e' => ?_)⟩
        · exact fin _ (by unfold verdS K49.verd; rw [if_neg e, if_pos e'])
        · exact fin _ (by unfold verdS K49.verd; rw [if_neg e, if_neg e'])
end
end W49
end
section
/-! k49: the walk, fourth part: the strips. -/
namespace W49
open PySem PySem.Spec PyProof.Rows L2
theorem cut1 (xs : List V) : cutV xs (some 1) none = xs.drop 1 := by
  unfold cutV
  rw [show HT.sIx xs.length 0 (some 1) = min 1 xs.length from HT.sIx_nat xs.length 0 1, HT.sIx_none]
  cases xs with
  | nil => rfl
  | cons x r =>
    rw [show min 1 (x :: r).length = 1 by
      rw [List.length_cons]
      omega]
    show (List.take ((x :: r).length - 1) r) = r
    rw [List.length_cons, Nat.add_sub_cancel]
    exact List.take_length
theorem rows_okW {g : Int → Str} (hg : ∀ t, okW (g t)) : ∀ (ps : List (Int × Int)) (acc : List Row), (∀ r ∈ acc, okW r.2.2) → ∀ r ∈ K49.stripsOf g ps acc, okW r.2.2
  | [], acc, h => h
  | p :: ps, acc, h => by
    refine rows_okW hg ps (K49.push acc p.1 (p.2 - 1) (g p.1)) fun r hr => ?_
    unfold K49.push at hr
    split at hr
    · split at hr
      · rcases List.mem_or_eq_of_mem_set hr with z | z
        · exact h r z
        · rw [z]; exact hg _
      · rcases List.mem_append.mp hr with z | z
        · exact h r z
        · simp at z; rw [z]; exact hg _
    · rcases List.mem_append.mp hr with z | z
      · exact h r z
      · simp at z; rw [z]; exact hg _
theorem push_len {x y : Int} {v : Str} (acc : List Row) : (K49.push acc x y v).length ≤ acc.length + 1 := by
  unfold K49.push
  split
  · split
    · simp
    · simp
  · simp
theorem strips_len {g : Int → Str} : ∀ (ps : List (Int × Int)) (acc : List Row), (K49.stripsOf g ps acc).length ≤ acc.length + ps.length
  | [], acc => Nat.le_refl _
  | p :: ps, acc => by
    have a := strips_len (g := g) ps (K49.push acc p.1 (p.2 - 1) (g p.1))
    have b := push_len (x := p.1) (y := p.2 - 1) (v := g p.1) acc
    show (K49.stripsOf g ps (K49.push acc p.1 (p.2 - 1) (g p.1))).length ≤ _
    rw [List.length_cons]
    omega
theorem strips_snoc {g : Int → Str} (ps : List (Int × Int)) (p : Int × Int) (acc : List Row) : K49.stripsOf g (ps ++ [p]) acc = K49.push (K49.stripsOf g ps acc) p.1 (p.2 - 1) (g p.1) := by
  unfold K49.stripsOf
  rw [List.foldl_append]
  rfl
theorem take_more {α : Type} : ∀ {l : List α} {i : Nat} {x : α}, l[i]? = some x → l.take (i + 1) = l.take i ++ [x]
  | [], i, x, h => by simp at h
  | a :: l, 0, x, h => by
    have e : a = x := Option.some.inj h
    subst e
    rfl
  | a :: l, i + 1, x, h => by
    have ih := take_more (l := l) (i := i) (x := x) h
    show a :: l.take (i + 1) = a :: l.take i ++ [x]
    rw [ih]
    rfl
/-- the marks so far -/
def MarkOk (spans : List (Option (Int × Int))) (k : Int) : Prop := k = 0 ∨ ∃ f l, some (f, l) ∈ spans ∧ (k = f ∨ k = l + 1)
/-- the promise of the rows -/
def RowsAt (H : Hp) (p : Addr) (rows : List Row) : Prop := ∃ xs, H p = some (.tup xs) ∧ AllAt (RowAt H) xs rows
def lineV (low : Int) (high : Option Int) (lines : List (Int × Int)) (t : Int) : Str := verdS (lines.map fun p => K49.within low high (p.1 + p.2 * t))
/-- the lines, and few marks -/
def FewMarks (lines : List (Int × Int)) (top low : Int) (high : Option Int) : Prop := ∃ S : List Int, S.length < 60 ∧ (0 : Int) ∈ S ∧ ∀ p ∈ lines, p.2.natAbs < 1073741824 ∧ ∀ f l, K49.tw p.1 p.2 top low high = some (f, l) → f ∈ S ∧ l + 1 ∈ S
theorem nodup_len : ∀ {ks S : List Int}, ks.Nodup → (∀ k ∈ ks, k ∈ S) → ks.length ≤ S.length
  | [], S, _, _ => Nat.zero_le _
  | x :: r, S, h, k => by
    obtain ⟨h1, h2⟩ := List.nodup_cons.mp h
    have hx := k x List.mem_cons_self
    have t := nodup_len (ks := r) (S := S.erase x) h2 fun y hy => (List.mem_erase_of_ne (fun z => h1 (by rw [z] at hy; exact hy))).mpr (k y (List.mem_cons_of_mem _ hy))
    have l := List.length_erase_of_mem hx
    have p : 0 < S.length := List.length_pos_of_mem hx
    rw [List.length_cons]
    omega
theorem merge_keys : ∀ (more : List (Key × V)) (ms : List Int), more.map (·.1) = ms.map Sum.inl → ∀ (kvs : List (Key × V)) (ks : List Int), KeysI kvs ks → ∃ ks', KeysI (mergeK kvs more) ks' ∧ ∀ k, k ∈ ks' ↔ k ∈ ks ∨ k ∈ ms
  | [], [], _, kvs, ks, h => ⟨ks, h, fun k => by simp⟩
  | [], _ :: _, e, _, _, _ => by simp at e
  | _ :: _, [], e, _, _, _ => by simp at e
  | p :: more, x :: ms, e, kvs, ks, h => by
    rw [List.map_cons, List.map_cons, List.cons.injEq] at e
    obtain ⟨ks1, h1, m1⟩ := putK_keys h x p.2
    obtain ⟨ks2, h2, m2⟩ := merge_keys more ms e.2 (putK kvs p.1 p.2) ks1 (by rw [e.1]; exact h1)
    exact ⟨ks2, h2, fun k => by rw [m2, m1, List.mem_cons]; exact or_assoc⟩
theorem sorted_lt : ∀ {l : List Int}, l.Pairwise (· ≤ ·) → l.Nodup → l.Pairwise (· < ·)
  | [], _, _ => .nil
  | x :: r, h, n => by
    obtain ⟨h1, h2⟩ := List.pairwise_cons.mp h
    obtain ⟨n1, n2⟩ := List.nodup_cons.mp n
    refine List.pairwise_cons.mpr ⟨fun y hy => ?_, sorted_lt h2 n2⟩
    have a := h1 y hy
    have b : x ≠ y := fun z => n1 (by rw [z]; exact hy)
    omega
section
variable {P : Program} {w : World} {K : PySem.W.Frag} {mg : Str → Option Value} {base : Heap}
abbrev s_strips_of : Stmt := topS 23
theorem sc_strips_of : FnScope ["lines", "top", "low", "high", "spans", "marks", "span", "t", "begins", "found", "after", "verdict", "line"] ["lines", "top", "low", "high"] (defScope s_strips_of) := ⟨rfl, rfl, rfl, by decide +kernel, rfl, by decide +kernel, by decide +kernel⟩
def spStrips (K : PySem.W.Frag) : Sp := fun vs H Q _ => ∃ (a : Addr) (xs : List V) (lines : List (Int × Int)) (top low : Int) (high : Option Int), vs = [.ref a, .int top, .int low, hiV high] ∧ SqL K H a xs ∧ AllAt (PairAt K H) xs lines ∧ xs.length ≤ 200 ∧ 0 ≤ top ∧
  FewMarks lines top low high ∧ ∀ H' p rows, Same H H' → RowsAt H' p rows → rows.length ≤ 60 → (∀ r ∈ rows, okW r.2.2) → K49.isRuns (lineV low high lines) 0 none rows (top + 1) → Q (.ref p) H'
theorem cal_strips_of (D : DefF K mg "strips_of" s_strips_of) (M : MG mg) (C_times_within : CalX P w K mg base CX0 1 "times_within" (spTimes K)) (C_verdict_of : CalX P w K mg base CX0 1 "verdict_of" (spVerdict K)) : CalX P w K mg base CX0 2 "strips_of" (spStrips K) := by
  refine cal_mk D sc_strips_of (fun _ _ _ _ _ _ us hl => match us, hl with | [_, _, _, _], _ => rfl) (fun vs H Q E h => ?_) (fun f cdv A outer s H vs Q E hr h => ?_)
  · obtain ⟨a, xs, lines, top, low, high, rfl, _⟩ := h
    rfl
  · obtain ⟨a, xs, lines, top, low, high, rfl, hx, hxl, hlen, htop, ⟨MS, hMS, hM0, hM⟩, k⟩ := h
    refine ⟨_, (pss_cons (ps_setLc (i := 4) (own := [(("line" : Str), 12)]) rfl sc_strips_of.nd rfl rfl rfl (pi_list (pv 0)) (blkOk_by (own := [(("line" : Str), 12)]) (N := [("lines" : Str), ("top" : Str), ("low" : Str), ("high" : Str), ("spans" : Str), ("marks" : Str), ("span" : Str), ("t" : Str), ("begins" : Str), ("found" : Str), ("after" : Str), ("verdict" : Str), ("line" : Str)]) (sc := defScope s_strips_of) (by decide +kernel)) (fun _ _ _ _ _ => (pg_name (i := 12) sc_strips_of.nd rfl (by first | exact .inl rfl | exact .inr rfl))) (fun _ _ _ _ _ => pts_nil) (fun _ _ _ _ _ => (pe_cx C_times_within hr (by decide) (by rfl) pass0 (pa_cons (pv 12) (pa_cons (pv 1) (pa_cons (pv 2) (pa_cons (pv 3) pa_nil)))))))
  (pss_cons (ps_set (i := 5) sc_strips_of.nd rfl (by first | exact .inl rfl | exact .inr rfl) (pe_disp (pps_cons pe_int pe_bl pps_nil) (by rfl) (by rfl) (by simp) (by decide)))
  (pss_cons (ps_for PassesOwn.never rfl (pi_list (pv 4)) (pg_name (i := 6) sc_strips_of.nd rfl (by first | exact .inl rfl | exact .inr rfl))
  (pss_one (ps_if (pt_cmpR op_notN (pv 6) pe_non (nomark _))
  (pss_one (ps_expr (pe_bm PySem.F.plainAttrs_dict PySem.F.slot_dict_update PySem.F.type_dict_update mt_update (pv 5) (pa_cons (pe_disp (pps_cons (pe_ix ix_tup (pv 6) pe_int (fun _ _ => rfl)) pe_bl (pps_cons (pe_op op_add (pe_ix ix_tup (pv 6) pe_int (fun _ _ => rfl)) pe_int) pe_bl pps_nil)) (by rfl) (by rfl) (by simp) (by decide)) pa_nil))))
  pss_nil)))
  (pss_cons (ps_setLc (i := 8) (own := [(("t" : Str), 7)]) rfl sc_strips_of.nd rfl rfl rfl (pi_list (pe_callB (call_sortedDI rfl) (by rfl) M.z_sorted boot_sorted (pa_cons (pv 5) pa_nil))) (blkOk_by (own := [(("t" : Str), 7)]) (N := [("lines" : Str), ("top" : Str), ("low" : Str), ("high" : Str), ("spans" : Str), ("marks" : Str), ("span" : Str), ("t" : Str), ("begins" : Str), ("found" : Str), ("after" : Str), ("verdict" : Str), ("line" : Str)]) (sc := defScope s_strips_of) (by decide +kernel)) (fun _ _ _ _ _ => (pg_name (i := 7) sc_strips_of.nd rfl (by first | exact .inl rfl | exact .inr rfl))) (fun _ _ _ _ _ => (pts_one (pt_cmpR op_le (pv 7) (pv 1) (nomark _)))) (fun _ _ _ _ _ => (pv 7)))
  (pss_cons (ps_set (i := 9) sc_strips_of.nd rfl (by first | exact .inl rfl | exact .inr rfl) (pe_lst pa_nil))
  (pss_cons (ps_for PassesOwn.never rfl (pi_zip (by rfl) M.z_zip (pa_cons (pv 8) (pa_cons (pe_lst (StX.pa_star (pe_slice sl_list (pv 8) (po_some pe_int) po_none) (pa_cons (pe_op op_add (pv 1) pe_int) pa_nil))) pa_nil))) (pg_tup rfl (pgs_cons (pg_name (i := 7) sc_strips_of.nd rfl (by first | exact .inl rfl | exact .inr rfl)) (pgs_cons (pg_name (i := 10) sc_strips_of.nd rfl (by first | exact .inl rfl | exact .inr rfl)) pgs_nil)))
  (pss_cons (ps_set (i := 11) sc_strips_of.nd rfl (by first | exact .inl rfl | exact .inr rfl) (pe_cx C_verdict_of hr (by decide) (by rfl) pass0 (pa_cons (pv 4) (pa_cons (pv 7) pa_nil))))
  (pss_one (ps_if (PW.pt (pw_and (pt_cmpR (op_neD hr.units) (pv 9) (pe_lst pa_nil) (nomark _)) (pw_and1 (pt_cmpR op_eq (pe_ix ix_tup (pe_ix ix_list (pv 9) (pe_un un_neg pe_int) (fun _ _ => rfl)) pe_int (fun _ _ => rfl)) (pv 11) (nomark _)))))
  (pss_one (ps_asg (pe_tup (pa_cons (pe_ix ix_tup (pe_ix ix_list (pv 9) (pe_un un_neg pe_int) (fun _ _ => rfl)) pe_int (fun _ _ => rfl)) (pa_cons (pe_op op_sub (pv 10) pe_int) (pa_cons (pv 11) pa_nil)))) (pg_sub (pv 9) (pe_un un_neg pe_int) set_list)))
  (pss_one (ps_expr (pe_bm PySem.F.plainAttrs_list PySem.F.slot_list_append PySem.F.type_list_append mt_append (pv 9) (pa_cons (pe_tup (pa_cons (pv 7) (pa_cons (pe_op op_sub (pv 10) pe_int) (pa_cons (pv 11) pa_nil)))) pa_nil))))))))
  (pss_one (ps_ret (pe_callTy call_tuple_of (by rfl) M.z_tuple bootT (pa_cons (pv 9) pa_nil)))))))))), ?_⟩
    -- spans
    refine ⟨_, rfl, a, rfl, ⟨xs, hx⟩, fun S hS => lcM (walk_list (xs := xs)) (fun _ _ _ _ y => y) [] (fun _ _ => True) (fun (i : Nat) (y : V) (H : Hp) => ∃ l, lines[i]? = some l ∧ SpanAt H y (K49.tw l.1 l.2 top low high)) (small1000 (by omega)) hS (by simp) (fun H1 k1 => k1.sql (by simp) hx)
      (fun _ _ _ _ => True.intro) (fun i y H1 H2 eD kk r => ?_) True.intro (fun i x H1 Ny Nn hi hxi k1 _ _ fin => ?_) (fun H1 ss k1 _ eS hly hr1 => ?_)⟩
    · obtain ⟨l, e, z⟩ := r
      obtain ⟨acc, eD⟩ := eD
      exact ⟨l, e, z.kx kk fun b hb xs hz => by
        simp at hb
        rw [hb, eD] at hz
        cases hz⟩
    · obtain ⟨l, el, hl⟩ := hxl.2 i x hxi
      have hl := hl.same k1.same
      obtain ⟨la, lb⟩ := l
      refine ⟨rfl, yes_go ?_⟩
      exact ⟨_, rfl, _, rfl, _, rfl, _, rfl, x, la, lb, top, low, high, rfl, hl, (hM _ (List.mem_of_getElem? el)).1, fun H2 u s2 hu => fin _ _ (Kx.of s2) True.intro ⟨(la, lb), el, hu⟩⟩
    · -- marks
      have hspan : AllAt (SpanAt H1) ss (lines.map fun l => K49.tw l.1 l.2 top low high) := ⟨by rw [hly, List.length_map]; exact hxl.1, fun i x e => by
        obtain ⟨l, el, z⟩ := hr1 i x e
        exact ⟨_, by rw [List.getElem?_map, el]; rfl, z⟩⟩
      have hsl : ss.length ≤ 200 := by omega
      generalize hSP : (lines.map fun l => K49.tw l.1 l.2 top low high) = spans at hspan
      clear hr1
      refine fun m hm => ⟨upd_same, [((.inl 0 : Key), V.bl true)], rfl, by decide, ?_⟩
      have k2 : Kx [] H1 (upd (upd H1 m (.dK [])) m (.dK [((.inl 0 : Key), V.bl true)])) := fun b o _ e => by
        rw [upd_ne (ne_of_none e hm), upd_ne (ne_of_none e hm)]
        exact e
      have em : (upd (upd H1 m (.dK [])) m (.dK [((.inl 0 : Key), V.bl true)])) m = some (.dK [((.inl 0 : Key), V.bl true)]) := upd_same
      show tSeq _ _ _ _ (upd (upd H1 m (.dK [])) m (.dK [((.inl 0 : Key), V.bl true)]))
      revert k2 em
      generalize upd (upd H1 m (.dK [])) m (.dK [((.inl 0 : Key), V.bl true)]) = H2
      intro k2 em
      have eS2 := k2 _ _ (by simp) eS
      have hspan2 : AllAt (SpanAt H2) ss spans := hspan.imp fun x y z => z.same k2.same
      have kH2 : Kx [] H H2 := k1.trans k2
      have nSm : S ≠ m := fun z => by rw [z, hm] at eS; cases eS
      have hmH : H m = none := k1.same.free hm
      clear hspan k1 k2 eS hm
      refine ⟨_, rfl, S, rfl, ⟨ss, SqL.of eS2⟩, for_list (K := K) (a := S) (xs := ss) (fun i σ H' => ∃ v : Option V, σ = [some (.ref a), some (.int top), some (.int low), some (hiV high), some (.ref S), some (.ref m), v, none, none, none, none, none, none] ∧ Kx [m] H2 H' ∧
          ∃ kvs ks, H' m = some (.dK kvs) ∧ KeysI kvs ks ∧ kvs.length ≤ 1 + 2 * i ∧ ∀ k, k ∈ ks ↔ MarkOk (spans.take i) k)
        ⟨none, rfl, Kx.refl, _, [0], em, ⟨rfl, by simp⟩, by simp, fun k => by simp [MarkOk]⟩ (fun i σ H' _ h => ?_) (fun i x σ H' hi h => ?_) (fun σ H' h => ?_)⟩
      · obtain ⟨v, _, kk, _⟩ := h
        exact SqL.of (kk _ _ (by simp; exact nSm) eS2)
      · obtain ⟨v, rfl, kk, kvs, ks, e, hk, hkl, hks⟩ := h
        obtain ⟨sp, esp, hsp⟩ := hspan2.2 i x hi
        have hsp := hsp.kx kk fun b hb xs hz => by
          simp at hb
          rw [hb, em] at hz
          cases hz
        have hti := take_more esp
        have hil : i < 200 := Nat.lt_of_lt_of_le (List.getElem?_eq_some_iff.mp hi).1 hsl
        cases sp with
        | none =>
          have ex : x = .non := hsp
          subst ex
          refine ⟨_, rfl, rfl, _, rfl, iteF ⟨_, rfl, kk, kvs, ks, e, hk, by omega, fun k => ?_⟩⟩
          rw [hks, hti]
          simp [MarkOk]
        | some q =>
          obtain ⟨f0, l0⟩ := q
          obtain ⟨p, rfl, hp⟩ := hsp
          refine ⟨_, rfl, rfl, _, rfl, iteT ⟨_, rfl, .inr (.inr (.inl ⟨rfl, .inl ⟨kvs, e⟩⟩)), fun d hd => ?_⟩⟩
          have npd : p ≠ d := ne_of_none hp hd
          have nmd : m ≠ d := ne_of_none e hd
          have hp' : (upd H' d (.dK [])) p = some (.tup [.int f0, .int l0]) := by rw [upd_ne npd]; exact hp
          obtain ⟨ms, hms, hmm⟩ := merge_keys [((.inl f0 : Key), V.bl true), ((.inl (l0 + 1) : Key), V.bl true)] [f0, l0 + 1] rfl [] [] ⟨rfl, by simp⟩
          have hml := length_mergeK [((.inl f0 : Key), V.bl true), ((.inl (l0 + 1) : Key), V.bl true)] []
          refine ⟨_, rfl, p, _, 0, _, rfl, rfl, SqT.of hp', rfl, _, rfl, p, _, 1, _, rfl, rfl, SqT.of hp', rfl, _, _, rfl, rfl, upd_same, [((.inl f0 : Key), V.bl true), ((.inl (l0 + 1) : Key), V.bl true)], rfl, by show 2 ≤ 15; decide, ?_⟩
          revert hms hml
          generalize mergeK [] [((.inl f0 : Key), V.bl true), ((.inl (l0 + 1) : Key), V.bl true)] = more
          intro hms hml
          obtain ⟨ks', hk', hm'⟩ := merge_keys more ms hms.1 kvs ks hk
          have hml' : more.length ≤ 2 := by simpa using hml
          have hl2 := length_mergeK more kvs
          refine ⟨m, d, kvs, more, rfl, rfl, nmd, by rw [upd_ne nmd, upd_ne nmd]; exact e, upd_same, szL (by omega), ?_⟩
          refine ⟨_, rfl, fun b o nb eb => ?_, _, ks', upd_same, hk', by omega, fun k => ?_⟩
          · have e1 := kk b o nb eb
            rw [upd_ne (fun z => nb (by rw [z]; simp)), upd_ne (ne_of_none e1 hd), upd_ne (ne_of_none e1 hd)]
            exact e1
          · rw [hm', hks, hmm, hti]
            simp only [List.not_mem_nil, false_or, List.mem_cons, MarkOk, List.mem_append]
            constructor
            · rintro ((z | ⟨f, l, z1, z2⟩) | z | z)
              · exact .inl z
              · exact .inr ⟨f, l, .inl z1, z2⟩
              · exact .inr ⟨f0, l0, .inr (.inl rfl), .inl z⟩
              · rcases z with z | z
                · exact .inr ⟨f0, l0, .inr (.inl rfl), .inr z⟩
                · exact absurd z (by simp)
            · rintro (z | ⟨f, l, z1 | z1, z2⟩)
              · exact .inl (.inl z)
              · exact .inl (.inr ⟨f, l, z1, z2⟩)
              · rcases z1 with z1 | z1
                · cases z1
                  rcases z2 with z2 | z2
                  · exact .inr (.inl z2)
                  · exact .inr (.inr (.inl z2))
                · exact absurd z1 (by simp)
      · obtain ⟨v, rfl, kk, kvs, ks, e, hk, hkl, hks⟩ := h
        rw [hspan2.1, List.take_length] at hks
        have eS' := kk _ _ (show S ∉ [m] by simp; exact nSm) eS2
        have hspan' : AllAt (SpanAt H') ss spans := hspan2.imp fun x y z => z.kx kk fun b hb xs hz => by
          simp at hb
          rw [hb, em] at hz
          cases hz
        have SH : Same H H' := fun b o eb => kk b o (by simp; exact fun z => by rw [z, hmH] at eb; cases eb) (kH2.same b o eb)
        have hall : ∀ k ∈ ks, k ∈ MS := fun k hk1 => by
          rcases (hks k).mp hk1 with z | ⟨f0, l0, z, y⟩
          · rw [z]; exact hM0
          · rw [← hSP] at z
            obtain ⟨l, hl1, hl2⟩ := List.mem_map.mp z
            have q := (hM l hl1).2 f0 l0 hl2
            rcases y with y | y
            · rw [y]; exact q.1
            · rw [y]; exact q.2
        have hkl60 : ks.length < 60 := Nat.lt_of_le_of_lt (nodup_len hk.2 hall) hMS
        clear kk eS2 hspan2 kH2 em hkl
        -- begins
        refine ⟨_, rfl, m, kvs, ks, rfl, Rd.of e, hk.1, by omega, fun ys Z0 perm pw hZ0 => ⟨Z0, rfl, ⟨_, SqL.of upd_same⟩, fun B hB => ?_⟩⟩
        have hnd : ys.Nodup := perm.nodup_iff.mpr hk.2
        have hlt : ys.Pairwise (· < ·) := sorted_lt pw hnd
        have hym : ∀ k, k ∈ ys ↔ MarkOk spans k := fun k => (perm.mem_iff).trans (hks k)
        have hyl : ys.length < 60 := by rw [perm.length_eq]; exact hkl60
        refine lc_it (walk_list (xs := ys.map V.int)) (fun i H2 => Kx [] (upd H' Z0 (.lst (ys.map V.int))) H2 ∧ H2 B = some (.lst (((ys.take i).filter fun t => decide (t ≤ top)).map V.int))) ⟨Kx.new hB, upd_same⟩ (fun i H2 _ q => q.1.sql (by simp) (SqL.of upd_same)) (fun i x H2 H3 hi q y => ?_) fun H2 q => ?_
        · obtain ⟨q1, q2⟩ := q
          obtain ⟨rfl, hx2⟩ := y
          rw [List.length_map] at hi
          obtain ⟨t, ht, rfl⟩ : ∃ t, ys[i]? = some t ∧ x = .int t := by
            rw [List.getElem?_map] at hx2
            cases z : ys[i]? with
            | none => rw [z] at hx2; cases hx2
            | some t => rw [z] at hx2; exact ⟨t, rfl, (Option.some.inj hx2).symm⟩
          have hti := take_more ht
          refine ⟨rfl, _, rfl, _, rfl, _, _, rfl, rfl, _, rfl, ite2 (fun c => ?_) (fun c => ?_)⟩
          · refine ⟨_, rfl, _, q2, Nat.lt_of_le_of_lt (Nat.le_trans (by rw [List.length_map]; exact List.length_filter_le _ _) (Nat.le_trans (List.length_take_le _ _) (Nat.le_of_lt hi))) (small1000 (by omega)), ?_, ?_⟩
            · exact fun b o _ eb => by
                rw [upd_ne (ne_of_none eb hB)]
                exact q1 b o (by simp) eb
            · rw [upd_same, hti, List.filter_append, List.map_append, List.filter_cons, if_pos c]
              rfl
          · refine ⟨q1, ?_⟩
            rw [q2, hti, List.filter_append, List.filter_cons, if_neg c]
            simp
        · obtain ⟨q1, q2⟩ := q
          rw [List.length_map, List.take_length] at q2
          have SH2 : Same H' H2 := fun b o eb => q1 b o (by simp) (by rw [upd_ne (ne_of_none eb hZ0)]; exact eb)
          have hbs : (ys.filter fun t => decide (t ≤ top)) ≠ [] := List.ne_nil_of_mem (a := 0) (List.mem_filter.mpr ⟨(hym 0).mpr (.inl rfl), decide_eq_true htop⟩)
          have hbl : (ys.filter fun t => decide (t ≤ top)).length < 60 := Nat.lt_of_le_of_lt (List.length_filter_le _ _) hyl
          have ROWS := K49.strips_law (S := ("sure" : Str)) (O := ("open" : Str)) (N := ("never" : Str)) (top := top) (low := low) (high := high) (lines := lines) (ks := ys) htop hlt (fun k => by
            rw [hym]
            unfold MarkOk
            rw [← hSP]
            constructor
            · rintro (z | ⟨f, l, z, y⟩)
              · exact .inl z
              · obtain ⟨p, hp, ep⟩ := List.mem_map.mp z
                exact .inr ⟨p, hp, f, l, ep, y⟩
            · rintro (z | ⟨p, hp, f, l, ep, y⟩)
              · exact .inl z
              · exact .inr ⟨f, l, List.mem_map.mpr ⟨p, hp, ep⟩, y⟩)
          have eg : (fun t => K49.verd ("sure" : Str) ("open" : Str) ("never" : Str) (lines.map fun p => K49.inSpan (K49.tw p.1 p.2 top low high) t)) = fun t => verdS (spans.map fun s => K49.inSpan s t) := by
            funext t
            rw [← hSP, List.map_map]
            rfl
          rw [eg] at ROWS
          have ROWS : K49.isRuns (lineV low high lines) 0 none _ (top + 1) := ROWS
          have hspan2 := hspan'.imp fun x y z => z.same SH2
          have eS2 := SH2 _ _ eS'
          have SH3 : Same H H2 := SH.trans SH2
          clear hspan' eS' SH SH2 q1 hym perm pw hks hk e hall hkl60 hlt hnd
          generalize hBS : (ys.filter fun t => decide (t ≤ top)) = bs at ROWS hbs q2 hbl
          clear hBS
          have hgg : ∀ t, verdS (spans.map fun s => K49.inSpan s t) = (fun t => verdS (spans.map fun s => K49.inSpan s t)) t := fun _ => rfl
          have hgo : ∀ t, okW ((fun t => verdS (spans.map fun s => K49.inSpan s t)) t) := fun t => verdS_ok _
          revert hgg hgo ROWS
          generalize (fun t => verdS (spans.map fun s => K49.inSpan s t)) = gg
          intro ROWS hgg hgo
          -- found
          refine ⟨szL (by show 0 ≤ 1000; decide), fun F hF => ?_⟩
          have nFB : B ≠ F := ne_of_none q2 hF
          have q2F : (upd H2 F (.lst [])) B = some (.lst (bs.map V.int)) := by rw [upd_ne nFB]; exact q2
          refine ⟨_, rfl, _, rfl, 1, rfl, B, bs.map V.int, rfl, SqL.of q2F, fun c hc => ⟨c, _, rfl, .inr (SqL.of upd_same), _, rfl, _, _, rfl, rfl, szL ?_, fun Z hZ => ?_⟩⟩
          · rw [cut1, List.length_append, List.length_drop, List.length_map, List.length_singleton]
            omega
          have eB : (upd (upd (upd H2 F (.lst [])) c (.lst (cutV (bs.map V.int) (some 1) none))) Z (.lst (cutV (bs.map V.int) (some 1) none ++ [V.int (top + 1)]))) B = some (.lst (bs.map V.int)) := by
            have n1 : B ≠ c := ne_of_none q2F hc
            rw [upd_ne (ne_of_none (o := .lst (bs.map V.int)) (by rw [upd_ne n1]; exact q2F) hZ), upd_ne n1]
            exact q2F
          have eZ : (upd (upd (upd H2 F (.lst [])) c (.lst (cutV (bs.map V.int) (some 1) none))) Z (.lst (cutV (bs.map V.int) (some 1) none ++ [V.int (top + 1)]))) Z = some (.lst ((bs.drop 1 ++ [top + 1]).map V.int)) := by
            rw [upd_same, cut1, List.map_append, List.map_drop]
            rfl
          have nFc : F ≠ c := ne_of_none (H := upd H2 F (.lst [])) upd_same hc
          have eF : (upd (upd (upd H2 F (.lst [])) c (.lst (cutV (bs.map V.int) (some 1) none))) Z (.lst (cutV (bs.map V.int) (some 1) none ++ [V.int (top + 1)]))) F = some (.lst []) := by
            have e1 : (upd (upd H2 F (.lst [])) c (.lst (cutV (bs.map V.int) (some 1) none))) F = some (.lst []) := by rw [upd_ne nFc]; exact upd_same
            rw [upd_ne (ne_of_none e1 hZ)]
            exact e1
          have nFZ : F ≠ Z := ne_of_none (H := upd (upd H2 F (.lst [])) c (.lst (cutV (bs.map V.int) (some 1) none))) (by rw [upd_ne nFc]; exact upd_same) hZ
          have nBF : B ≠ F := nFB
          have SH4 : Same H2 (upd (upd (upd H2 F (.lst [])) c (.lst (cutV (bs.map V.int) (some 1) none))) Z (.lst (cutV (bs.map V.int) (some 1) none ++ [V.int (top + 1)]))) := ((same_new hF).trans (same_new hc)).trans (same_new hZ)
          revert eB eZ eF SH4
          generalize upd (upd (upd H2 F (.lst [])) c (.lst (cutV (bs.map V.int) (some 1) none))) Z (.lst (cutV (bs.map V.int) (some 1) none ++ [V.int (top + 1)])) = H5
          intro eB eZ eF SH4
          have eS5 := SH4 _ _ eS2
          have hspan5 := hspan2.imp fun x y z => z.same SH4
          have hFH : H F = none := (SH3).free hF
          have SH5 : Same H H5 := SH3.trans SH4
          have nSF : S ≠ F := fun z => by rw [z, hF] at eS2; cases eS2
          have lz : (bs.map V.int).length = ((bs.drop 1 ++ [top + 1]).map V.int).length := by
            have : 0 < bs.length := List.length_pos_iff.mpr hbs
            rw [List.length_map, List.length_map, List.length_append, List.length_drop, List.length_singleton]
            omega
          clear SH3 SH4 eS2 hspan2 q2 q2F hF
          refine ⟨B, Z, _, _, rfl, SqL.of eB, SqL.of eZ, RZ.for_zipL (K := K) (a := B) (b := Z) lz (fun i σ H' => ∃ (sp' t' af vd : Option V), σ = [some (.ref a), some (.int top), some (.int low), some (hiV high), some (.ref S), some (.ref m), sp', t', some (.ref B), some (.ref F), af, vd, none] ∧ Kx [F] H5 H' ∧
              ∃ xs, H' F = some (.lst xs) ∧ AllAt (RowAt H') xs (K49.stripsOf gg ((bs.zip (bs.drop 1 ++ [top + 1])).take i) [])) ⟨_, _, _, _, rfl, Kx.refl, [], eF, AllAt.nil⟩ (fun i σ H' h => ?_) (fun i x y T σ H' hxi hyi h hT => ?_) (fun σ H' h => ?_)⟩
          · obtain ⟨_, _, _, _, _, kk, _⟩ := h
            exact ⟨SqL.of (kk _ _ (by simp; exact nBF) eB), SqL.of (kk _ _ (by simp; exact fun z => nFZ z.symm) eZ)⟩
          · obtain ⟨sp', t', af, vd, rfl, kk, xs, eF', hrows⟩ := h
            obtain ⟨t, ht, rfl⟩ : ∃ t, bs[i]? = some t ∧ x = .int t := by
              rw [List.getElem?_map] at hxi
              cases z : bs[i]? with
              | none => rw [z] at hxi; cases hxi
              | some t => rw [z] at hxi; exact ⟨t, rfl, (Option.some.inj hxi).symm⟩
            obtain ⟨u, hu, rfl⟩ : ∃ u, (bs.drop 1 ++ [top + 1])[i]? = some u ∧ y = .int u := by
              rw [List.getElem?_map] at hyi
              cases z : (bs.drop 1 ++ [top + 1])[i]? with
              | none => rw [z] at hyi; cases hyi
              | some t => rw [z] at hyi; exact ⟨t, rfl, (Option.some.inj hyi).symm⟩
            have hz : (bs.zip (bs.drop 1 ++ [top + 1]))[i]? = some (t, u) := by
              rw [List.getElem?_zip_eq_some]
              exact ⟨ht, hu⟩
            have hil : i < 60 := Nat.lt_trans (List.getElem?_eq_some_iff.mp ht).1 hbl
            have hrl : (K49.stripsOf gg ((bs.zip (bs.drop 1 ++ [top + 1])).take i) []).length ≤ i := Nat.le_trans (strips_len _ _) (by
              rw [List.length_nil, Nat.zero_add]
              exact List.length_take_le _ _)
            have hro : ∀ r ∈ K49.stripsOf gg ((bs.zip (bs.drop 1 ++ [top + 1])).take i) [], okW r.2.2 := rows_okW hgo _ _ fun r z => by simp at z
            rw [take_more hz, strips_snoc]
            generalize K49.stripsOf gg ((bs.zip (bs.drop 1 ++ [top + 1])).take i) [] = rows at hrows hrl hro
            clear hz hxi hyi
            have eS' := kk _ _ (show S ∉ [F] by simp; exact nSF) eS5
            have hspan' : AllAt (SpanAt H') ss spans := hspan5.imp fun x y z => z.kx kk fun b hb xs hz => by
              simp at hb
              rw [hb, eF] at hz
              cases hz
            have nFT : F ≠ T := ne_of_none eF' hT
            have ST : Same H' (upd H' T (.tup [.int t, .int u])) := same_new hT
            refine ⟨T, [.int t, .int u], rfl, SqT.of upd_same, rfl, _, _, rfl, _, _, rfl, rfl, ?_⟩
            refine ⟨_, rfl, _, rfl, S, ss, t, spans, rfl, SqL.of (ST _ _ eS'), hspan'.imp fun x y z => z.same ST, by omega, fun H6 S6 => ?_⟩
            have ST6 : Same H' H6 := ST.trans S6
            have eF6 := ST6 _ _ eF'
            have hrows6 := hrows.imp fun x y z => z.same ST6
            have k6 : Kx [F] H5 H6 := kk.trans (Kx.of ST6)
            clear kk eF' hrows ST S6 ST6 eS' hspan' hT
            rw [hgg]
            -- found != []
            refine ⟨_, rfl, szL (by show 0 ≤ 1000; decide), fun N0 hN0 => ?_⟩
            have eF7 : (upd H6 N0 (.lst [])) F = some (.lst xs) := by rw [upd_ne (ne_of_none eF6 hN0)]; exact eF6
            have hrows7 := hrows6.imp fun x y z => z.same (same_new (o := .lst []) hN0)
            have k7 : Kx [F] H5 (upd H6 N0 (.lst [])) := k6.trans (Kx.new hN0)
            have eN7 : (upd H6 N0 (.lst [])) N0 = some (.lst []) := upd_same
            revert eF7 hrows7 k7 eN7
            generalize upd H6 N0 (.lst []) = H7
            intro eF7 hrows7 k7 eN7
            refine ⟨_, _, .lst (SqL.of eF7) (rows_dp hrows7), .lst (SqL.of eN7) .nil, shaped_l hro, shaped_nil, _, rfl, ?_⟩
            rw [eqv_nil]
            have hxl7 : xs.length ≤ 60 := by rw [hrows7.1]; omega
            -- the append
            have fin : ∀ (H8 : Hp) (xs8 : List V) (rows8 : List Row), Kx [F] H7 H8 → H8 F = some (.lst xs8) → AllAt (RowAt H8) xs8 rows8 → K49.push rows t (u - 1) (gg t) = rows8 →
                ∃ (s1 s2 s3 s4 : Option V), [some (.ref a), some (.int top), some (.int low), some (hiV high), some (.ref S), some (.ref m), sp', some (V.int t), some (.ref B), some (.ref F), some (V.int u), some (V.str (gg t)), none] = [some (.ref a), some (.int top), some (.int low), some (hiV high), some (.ref S), some (.ref m), s1, s2, some (.ref B), some (.ref F), s3, s4, none] ∧ Kx [F] H5 H8 ∧
                ∃ xs, H8 F = some (.lst xs) ∧ AllAt (RowAt H8) xs (K49.push rows t (u - 1) (gg t)) := fun H8 xs8 rows8 k8 e8 r8 eq => ⟨sp', _, _, _, rfl, k7.trans k8, xs8, e8, by rw [eq]; exact r8⟩
            have hF_tup : ∀ (H8 : Hp) (ys : List V), H8 F = some (.lst ys) → ∀ b ∈ [F], ∀ zs, H8 b ≠ some (.tup zs) := fun H8 ys e b hb zs hz => by
              simp at hb
              rw [hb, e] at hz
              cases hz
            have app : K49.push rows t (u - 1) (gg t) = rows ++ [(t, u - 1, gg t)] → ∀ r, H7 r = none → ∃ l ws y, V.ref F = .ref l ∧ [V.ref r] = [y] ∧ (upd H7 r (.tup [.int t, .int (u - 1), .str (gg t)])) l = some (.lst ws) ∧ ws.length < sizeLine ∧
                ∃ (s1 s2 s3 s4 : Option V), [some (.ref a), some (.int top), some (.int low), some (hiV high), some (.ref S), some (.ref m), sp', some (V.int t), some (.ref B), some (.ref F), some (V.int u), some (V.str (gg t)), none] = [some (.ref a), some (.int top), some (.int low), some (hiV high), some (.ref S), some (.ref m), s1, s2, some (.ref B), some (.ref F), s3, s4, none] ∧ Kx [F] H5 (upd (upd H7 r (.tup [.int t, .int (u - 1), .str (gg t)])) l (.lst (ws ++ [y]))) ∧
                ∃ xs, (upd (upd H7 r (.tup [.int t, .int (u - 1), .str (gg t)])) l (.lst (ws ++ [y]))) F = some (.lst xs) ∧ AllAt (RowAt (upd (upd H7 r (.tup [.int t, .int (u - 1), .str (gg t)])) l (.lst (ws ++ [y])))) xs (K49.push rows t (u - 1) (gg t)) := fun ep r hr => by
              have nFr : F ≠ r := ne_of_none eF7 hr
              have e1 : (upd H7 r (.tup [.int t, .int (u - 1), .str (gg t)])) F = some (.lst xs) := by rw [upd_ne nFr]; exact eF7
              have kk1 : Kx [F] H7 (upd H7 r (.tup [.int t, .int (u - 1), .str (gg t)])) := Kx.new hr
              have kk2 : Kx [F] (upd H7 r (.tup [.int t, .int (u - 1), .str (gg t)])) (upd (upd H7 r (.tup [.int t, .int (u - 1), .str (gg t)])) F (.lst (xs ++ [V.ref r]))) := Kx.put (by simp)
              refine ⟨F, xs, V.ref r, rfl, rfl, e1, small1000 (by omega), ?_⟩
              obtain ⟨s1, s2, s3, s4, q1, q2, q3⟩ := fin _ (xs ++ [V.ref r]) (rows ++ [(t, u - 1, gg t)]) (kk1.trans kk2) upd_same (AllAt.snoc (hrows7.imp fun x y z => (z.same (same_new hr)).kx kk2 (hF_tup _ _ e1)) ⟨r, rfl, by rw [upd_ne nFr.symm]; exact upd_same⟩) ep
              exact ⟨s1, s2, s3, s4, q1, q2, q3⟩
            cases hrw : rows.getLast? with
            | none =>
              have er : rows = [] := by simpa using hrw
              rw [er]
              refine iteF ?_
              refine iteF ⟨_, rfl, .inl ⟨rfl, _, SqL.of eF7⟩, _, rfl, _, rfl, _, _, rfl, rfl, _, rfl, szL (by show 3 ≤ 1000; decide), fun r hr => ?_⟩
              have ep : K49.push rows t (u - 1) (gg t) = rows ++ [(t, u - 1, gg t)] := by rw [er]; rfl
              have q := app ep r hr
              rw [er] at q
              exact q
            | some last =>
              obtain ⟨x0, y0, v0⟩ := last
              have er : rows.isEmpty = false := by
                cases rows with
                | nil => cases hrw
                | cons _ _ => rfl
              rw [er]
              obtain ⟨xl, hxl, q, rfl, hq⟩ := hrows7.last hrw
              refine iteT ⟨_, rfl, _, rfl, F, xs, -1, _, rfl, rfl, SqL.of eF7, hxl, q, _, 2, _, rfl, rfl, SqT.of hq, rfl, _, rfl, rfl, _, rfl, ite2 (fun c => ?_) (fun c => ?_)⟩
              · have ev : v0 = gg t := V.str.inj (of_decide_eq_true c)
                have ep : K49.push rows t (u - 1) (gg t) = rows.set (rows.length - 1) (x0, u - 1, gg t) := by
                  unfold K49.push
                  rw [hrw]
                  exact if_pos ev
                have hix : ixN xs.length (-1) = some (rows.length - 1) := by
                  have hp : 0 < rows.length := by
                    cases rows with
                    | nil => cases hrw
                    | cons _ _ => simp
                  rw [hrows7.1]
                  unfold ixN
                  rw [if_neg (by omega), if_pos (by omega)]
                  congr 1
                  omega
                refine ⟨_, rfl, _, rfl, F, xs, -1, _, rfl, rfl, SqL.of eF7, hxl, q, _, 0, _, rfl, rfl, SqT.of hq, rfl, _, rfl, _, _, rfl, rfl, _, rfl, szL (by show 3 ≤ 1000; decide), fun r hr => ?_⟩
                have nFr : F ≠ r := ne_of_none eF7 hr
                have e1 : (upd H7 r (.tup [.int x0, .int (u - 1), .str (gg t)])) F = some (.lst xs) := by rw [upd_ne nFr]; exact eF7
                have kk1 : Kx [F] H7 (upd H7 r (.tup [.int x0, .int (u - 1), .str (gg t)])) := Kx.new hr
                have kk2 : Kx [F] (upd H7 r (.tup [.int x0, .int (u - 1), .str (gg t)])) (upd (upd H7 r (.tup [.int x0, .int (u - 1), .str (gg t)])) F (.lst (xs.set (rows.length - 1) (V.ref r)))) := Kx.put (by simp)
                exact ⟨_, rfl, _, rfl, F, xs, -1, rows.length - 1, rfl, rfl, e1, hix, fin _ (xs.set (rows.length - 1) (V.ref r)) (rows.set (rows.length - 1) (x0, u - 1, gg t)) (kk1.trans kk2) upd_same (AllAt.set (hrows7.imp fun x y z => (z.same (same_new hr)).kx kk2 (hF_tup _ _ e1)) ⟨r, rfl, by rw [upd_ne nFr.symm]; exact upd_same⟩ _) ep⟩
              · have ep : K49.push rows t (u - 1) (gg t) = rows ++ [(t, u - 1, gg t)] := by
                  unfold K49.push
                  rw [hrw]
                  exact if_neg fun z => c (decide_eq_true (by rw [z]))
                exact ⟨_, rfl, .inl ⟨rfl, _, SqL.of eF7⟩, _, rfl, _, rfl, _, _, rfl, rfl, _, rfl, szL (by show 3 ≤ 1000; decide), fun r hr => app ep r hr⟩
          · obtain ⟨sp', t', af, vd, rfl, kk, xs, eF', hrows⟩ := h
            rw [List.take_of_length_le (by
              rw [List.length_zip, List.length_map]
              omega)] at hrows
            have hrl := strips_len (g := gg) (bs.zip (bs.drop 1 ++ [top + 1])) []
            have hro : ∀ r ∈ K49.stripsOf gg (bs.zip (bs.drop 1 ++ [top + 1])) [], okW r.2.2 := rows_okW hgo _ _ fun r z => by simp at z
            rw [List.length_nil, Nat.zero_add, List.length_zip] at hrl
            have SHf : Same H H' := fun b o eb => kk b o (by simp; exact fun z => by rw [z, hFH] at eb; cases eb) (SH5 b o eb)
            refine ⟨_, rfl, F, xs, rfl, .inl ⟨SqL.of eF', fun r hr => ?_⟩⟩
            refine k _ r _ (SHf.trans (same_new hr)) ⟨xs, upd_same, hrows.imp fun x y z => z.same (same_new hr)⟩ (by omega) hro ROWS
end
end W49
end
section
/-! k49: the walk, fifth part: the checks of the call, the call. -/
namespace W49
open PySem PySem.Spec PyProof.Rows L2
def rLenS (K : PySem.W.Frag) : List V → Hp → VK → Prop := fun xs H Q => ∃ p ys, xs = [.ref p] ∧ (SqL K H p ys ∨ SqT K H p ys) ∧ Q (.int ((ys.length : Nat) : Int)) H
def rListOf (K : PySem.W.Frag) : List V → Hp → VK → Prop := fun xs H Q => ∃ p ys, xs = [.ref p] ∧ (SqL K H p ys ∨ SqT K H p ys) ∧ ∀ l, H l = none → Q (.ref l) (upd H l (.lst ys))
theorem it_loop {J : It} {n : Nat} {G : Hp → Prop} {Y : Nat → Hp → V → Hp → Prop} (w : Walk J n G Y) {Z : Hp} {Qd : Hp → Prop} {B : V → Hp → (Hp → Prop) → Prop} (Pv : Nat → Hp → Prop) (h0 : Pv 0 Z) (hG : ∀ i H, i ≤ n → Pv i H → G H)
    (hs : ∀ i x H H', i < n → Pv i H → Y i H x H' → B x H' (Pv (i + 1))) (hd : ∀ H, Pv n H → Qd H) :
    ∃ W : Nat → Nat → Hp → Prop, (∃ m, W 0 m Z) ∧ ∀ i m H, W i m H → (J.stop i H ∧ Qd H) ∨ (J.go i H ∧ ∃ Nx : Hp → Prop, (∀ H', Nx H' → ∃ m', m' < m ∧ W (i + 1) m' H') ∧ ∀ x H', J.yld i H x H' → B x H' Nx) := by
  refine ⟨fun i m H => m = n - i ∧ i ≤ n ∧ Pv i H, ⟨n, by simp, Nat.zero_le _, h0⟩, ?_⟩
  rintro i m H ⟨rfl, hi, p⟩
  have q := hG i H hi p
  by_cases hlt : i < n
  · exact .inr ⟨w.goes i H hlt q, Pv (i + 1), fun H' p' => ⟨n - (i + 1), by omega, rfl, hlt, p'⟩, fun x H' y => hs i x H H' hlt p (w.yields i H x H' hlt q y)⟩
  · have e : i = n := by omega
    subst e
    exact .inl ⟨w.stops H q, hd H p⟩
/-! ### kinds of what is read -/
theorem sql_is {K : PySem.W.Frag} {H : Hp} {a : Addr} {xs : List V} (h : SqL K H a xs) : IsK K H (.ref a) "list" := by
  refine ⟨by decide, ?_⟩
  rcases h with (h | ⟨o, h⟩) | ⟨o, its, n, h, c, _⟩
  · exact .base (.lst h)
  · exact .base (.frz h)
  · exact .kList h c
theorem sqt_is {K : PySem.W.Frag} {H : Hp} {a : Addr} {xs : List V} (h : SqT K H a xs) : IsK K H (.ref a) "tuple" := by
  refine ⟨by decide, ?_⟩
  rcases h with (h | ⟨o, h⟩) | ⟨o, its, n, h, c, _⟩
  · exact .base (.tup h)
  · exact .fTuple h
  · exact .kTuple h c
theorem int_is {K : PySem.W.Frag} {H : Hp} {i : Int} : IsK K H (.int i) "int" := ⟨by decide, .base (.int i)⟩
theorem non_is {K : PySem.W.Frag} {H : Hp} : IsK K H .non "NoneType" := ⟨by decide, .base .non⟩
theorem bl_is {K : PySem.W.Frag} {H : Hp} {b : Bool} : IsK K H (.bl b) "bool" := ⟨by decide, .base (.bl b)⟩
theorem str_is {K : PySem.W.Frag} {H : Hp} {z : Str} : IsK K H (.str z) "str" := ⟨by decide, .base (.str z)⟩
theorem dict_is {K : PySem.W.Frag} {H : Hp} {a : Addr} {kvs : List (Key × V)} (h : H a = some (.dK kvs)) : IsK K H (.ref a) "dict" := ⟨by decide, .base (.dK h)⟩
/-! ### items of a list, as are_lines sees them -/
def FlagAt (K : PySem.W.Frag) (H : Hp) (y : V) (b : Bool) : Prop := ∃ n, IsK K H y n ∧ b = (n == "int")
def ItemAt (K : PySem.W.Frag) (H : Hp) (x : V) : Option (List Bool) → Prop
  | none => ∃ n, IsK K H x n ∧ n ≠ "list" ∧ n ≠ "tuple"
  | some fl => ∃ q ys, x = .ref q ∧ (SqL K H q ys ∨ SqT K H q ys) ∧ AllAt (FlagAt K H) ys fl
theorem FlagAt.same {K : PySem.W.Frag} {H H' : Hp} {y : V} {b : Bool} (h : FlagAt K H y b) (s : Same H H') : FlagAt K H' y b := let ⟨n, k, e⟩ := h; ⟨n, k.same s, e⟩
theorem ItemAt.same {K : PySem.W.Frag} {H H' : Hp} {x : V} {it : Option (List Bool)} (h : ItemAt K H x it) (s : Same H H') : ItemAt K H' x it := by
  cases it with
  | none => exact let ⟨n, k, e⟩ := h; ⟨n, k.same s, e⟩
  | some fl =>
    obtain ⟨q, ys, e, z, f⟩ := h
    exact ⟨q, ys, e, z.imp s.seq (Same.sqt s), f.imp fun y b z => z.same s⟩
def len2 : Option (List Bool) → Bool
  | none => false
  | some fl => fl.length == 2
def flags (it : Option (List Bool)) : List Bool := it.getD []
def okIts (its : List (Option (List Bool))) : Bool := !its.isEmpty && its.all len2 && (its.flatMap flags).all id
theorem yes_goI {σ : L2.St} {H : Hp} {F Nn : Hp → Prop} (h : F H) : tYes σ H (fun b H3 => if b = true then F H3 else Nn H3) := by
  show (if true = true then F H else Nn H)
  rw [if_pos rfl]
  exact h
theorem flat_take {its : List (Option (List Bool))} {i : Nat} {it : Option (List Bool)} (h : its[i]? = some it) : (its.take (i + 1)).flatMap flags = (its.take i).flatMap flags ++ flags it := by
  rw [take_more h, List.flatMap_append]
  simp
section
variable {P : Program} {w : World} {K : PySem.W.Frag} {mg : Str → Option Value} {base : Heap}
theorem pi_list1 {X : Cx} {tg l : Expr} {tl : TE} (hl : PE X l tl) (hK : X.K = K := by rfl) : PI X tg l (iList K tl) := by
  subst hK
  exact pi_list hl
theorem pi_tup1 {X : Cx} {tg l : Expr} {tl : TE} (hl : PE X l tl) (hK : X.K = K := by rfl) : PI X tg l (iTup K tl) := by
  subst hK
  exact pi_tup hl
theorem pg_tupK {X : Cx} {pos : Pos} {es : List Expr} {k : Nat} {t : TGs} {n : Nat} (hc : X.calm = true) (h : PGs X es t) (hK : X.K = K := by rfl)
    (hn : (assignEach es X.env).length = n := by rfl) (hst : (assignEach es X.env).findIdx? (·.1) = none := by rfl) : PG X (.Tuple es k pos) (gTup K n t) := by
  subst hK
  exact pg_tup hc h hn hst
abbrev s_are_lines : Stmt := topS 25
theorem sc_are_lines : FnScope ["value", "one", "part"] ["value"] (defScope s_are_lines) := ⟨rfl, rfl, rfl, by decide +kernel, rfl, by decide +kernel, by decide +kernel⟩
def spAre (K : PySem.W.Frag) : Sp := fun vs H Q _ => ∃ v, vs = [v] ∧ ((∃ n, IsK K H v n ∧ n ≠ "list" ∧ n ≠ "tuple" ∧ ∀ H', Same H H' → Q (.bl false) H') ∨
  ∃ a xs its, v = .ref a ∧ SqL K H a xs ∧ xs.length ≤ 200 ∧ AllAt (ItemAt K H) xs its ∧ ∀ H', Same H H' → Q (.bl (okIts its)) H')
theorem cal_are_lines (D : DefF K mg "are_lines" s_are_lines) (M : MG mg) (C_is_listed : CalX P w K mg base CX0 1 "is_listed" (spIsListed K)) (C_is_integer : CalX P w K mg base CX0 1 "is_integer" (spIsInt K)) : CalX P w K mg base CX0 2 "are_lines" (spAre K) := by
  refine cal_mk D sc_are_lines (fun _ _ _ _ _ _ us hl => match us, hl with | [_], _ => rfl) (fun vs H Q E h => ?_) (fun f cdv A outer s H vs Q E hr h => ?_)
  · obtain ⟨v, rfl, _⟩ := h
    rfl
  · obtain ⟨v, rfl, h⟩ := h
    refine ⟨_, (pss_cons (ps_if (PW.pt (pw_or (pt_not (pt_val (pe_cx C_is_listed hr (by decide) (by rfl) pass0 (pa_cons (pv 0) pa_nil)))) (pw_or (pt_cmpR op_eq (pe_callB call_len_seq (by rfl) M.z_len PySem.boot_len (pa_cons (pv 0) pa_nil)) pe_int (nomark _)) (pw_or1 (pt_not (pt_val (pe_callB (cr_all rfl) (by rfl) M.z_all boot_all (pa_cons (pe_lc (own := [(("one" : Str), 1)]) rfl sc_are_lines.nd (pi_list (pv 0)) (blkOk_by (own := [(("one" : Str), 1)]) (N := [("value" : Str), ("one" : Str), ("part" : Str)]) (sc := defScope s_are_lines) (by decide +kernel)) (fun _ _ _ _ _ => (pg_name (i := 1) sc_are_lines.nd rfl (by first | exact .inl rfl | exact .inr rfl))) (fun _ _ _ _ _ => pts_nil) (fun _ _ _ _ _ => (pe_and (pe_cx C_is_listed hr (by decide) (by rfl) pass0 (pa_cons (pv 1) pa_nil)) (pe_one (pe_cmpR op_eq (pe_callB (r := rLenS K) call_len_seq (by rfl) M.z_len PySem.boot_len (pa_cons (pv 1) pa_nil)) pe_int (nomark _)))))) pa_nil))))))))
  (pss_one (ps_ret pe_bl))
  pss_nil)
  (pss_one (ps_ret (pe_callB (cr_all rfl) (by rfl) M.z_all boot_all (pa_cons (pe_lc2 (own := [(("one" : Str), 1), (("part" : Str), 2)]) (vs1 := [2]) rfl sc_are_lines.nd (pi_list (pv 0)) (blkOk_by (own := [(("one" : Str), 1), (("part" : Str), 2)]) (N := [("value" : Str), ("one" : Str), ("part" : Str)]) (sc := defScope s_are_lines) (by decide +kernel)) (by simp) (fun _ _ _ _ _ => (pg_name (i := 1) sc_are_lines.nd rfl (by first | exact .inl rfl | exact .inr rfl))) (fun _ _ _ _ _ => pts_nil) (fun _ _ _ _ _ => (PI.either (pi_list1 (pv 1)) (pi_tup1 (pv 1)))) (fun _ _ _ _ _ => (pg_name (i := 2) sc_are_lines.nd rfl (by first | exact .inl rfl | exact .inr rfl))) (fun _ _ _ _ _ => pts_nil) (fun _ _ _ _ _ => (pe_cx C_is_integer hr (by decide) (by rfl) pass0 (pa_cons (pv 2) pa_nil)))) pa_nil))))), ?_⟩
    rcases h with ⟨n, hn, n1, n2, k⟩ | ⟨a, xs, its, rfl, hx, hlen, hits, k⟩
    · refine ⟨_, rfl, v, n, rfl, hn, fun H1 s1 => ⟨_, rfl, ?_⟩⟩
      have e : (n == "list" || n == "tuple") = false := by simp [n1, n2]
      rw [e]
      exact iteT (iteT (k H1 s1))
    · refine ⟨_, rfl, .ref a, "list", rfl, sql_is hx, fun H1 s1 => ⟨_, rfl, iteF ?_⟩⟩
      have hx1 := s1.seq hx
      refine ⟨_, rfl, a, xs, rfl, .inl hx1, rfl, _, rfl, ite2 (fun c => ?_) (fun c => ?_)⟩
      · have e0 : xs.length = 0 := by
          have := V.int.inj (of_decide_eq_true c)
          omega
        have ei : its = [] := List.eq_nil_of_length_eq_zero (by rw [← hits.1]; exact e0)
        have e : okIts its = false := by rw [ei]; rfl
        rw [e] at k
        exact iteT (k H1 s1)
      · have hne : its.isEmpty = false := by
          cases its with
          | nil => exact absurd (decide_eq_true (by rw [hits.1]; rfl)) c
          | cons _ _ => rfl
        refine ⟨_, rfl, a, rfl, ⟨xs, hx1⟩, fun B hB => lcM (walk_list (xs := xs)) (fun _ _ _ _ y => y) [] (fun _ _ => True) (fun (i : Nat) (y : V) (H : Hp) => ∃ it, its[i]? = some it ∧ y = .bl (len2 it)) (small1000 (by omega)) hB (by simp) (fun H1 k1 => k1.sql (by simp) hx1)
          (fun _ _ _ _ => True.intro) (fun _ _ _ _ _ _ r => r) True.intro (fun i x H2 Ny Nn hi hxi k2 _ _ fin => ?_) (fun H2 ys k2 _ eB hly hr1 => ?_)⟩
        · obtain ⟨it, eit, hit⟩ := hits.2 i x hxi
          have hit := hit.same (s1.trans k2.same)
          refine ⟨rfl, yes_go ?_⟩
          cases it with
          | none =>
            obtain ⟨n, hn, n1, n2⟩ := hit
            refine ⟨_, rfl, x, n, rfl, hn, fun H3 s3 => ⟨_, rfl, ?_⟩⟩
            have e : (n == "list" || n == "tuple") = false := by simp [n1, n2]
            rw [e]
            exact iteF (fin _ _ (Kx.of s3) True.intro ⟨_, eit, rfl⟩)
          | some fl =>
            obtain ⟨q, ys, rfl, hq, hf⟩ := hit
            have go : ∀ n, IsK K H2 (.ref q) n → (n == "list" || n == "tuple") = true → ∃ x0 n, [V.ref q] ++ [] = [x0] ∧ IsK K H2 x0 n ∧ ∀ H', Same H2 H' → ∃ c, V.bl (n == "list" || n == "tuple") = .bl c ∧ if c = true then ∃ v, some (some (V.ref q)) = some (some v) ∧ ∃ p ys, [v] = [V.ref p] ∧ (SqL K H' p ys ∨ SqT K H' p ys) ∧
                scal (.int ((ys.length : Nat) : Int)) (.int 2) = true ∧ Ny (.bl (decide (V.int ((ys.length : Nat) : Int) = V.int 2))) H' else Ny (.bl false) H' := fun n hn e => by
              refine ⟨_, n, rfl, hn, fun H3 s3 => ⟨_, rfl, ?_⟩⟩
              rw [e]
              refine iteT ⟨_, rfl, q, ys, rfl, hq.imp s3.seq (Same.sqt s3), rfl, fin _ _ (Kx.of s3) True.intro ⟨_, eit, ?_⟩⟩
              have e2 : decide (V.int ((ys.length : Nat) : Int) = V.int 2) = (fl.length == 2) := by
                rw [dec_int, hf.1]
                rw [Bool.eq_iff_iff, beq_iff_eq, beq_iff_eq]
                omega
              rw [e2]
              rfl
            rcases hq with hq' | hq'
            · exact ⟨_, rfl, go "list" (sql_is hq') rfl⟩
            · exact ⟨_, rfl, go "tuple" (sqt_is hq') rfl⟩
        · have ey : ys = (its.map len2).map V.bl := by
            rw [List.map_map]
            exact map_at (by rw [hly]; exact hits.1) hr1
          subst ey
          refine ⟨B, its.map len2, rfl, SqL.of eB, _, rfl, ite2 (fun c2 => ?_) (fun c2 => ?_)⟩
          · have e : okIts its = false := by
              unfold okIts
              have z : its.all len2 = false := by
                have q := c2
                rw [List.all_map, Bool.not_eq_true'] at q
                exact q
              rw [z, Bool.and_false, Bool.false_and]
            rw [e] at k
            exact k H2 (s1.trans k2.same)
          · have hall : its.all len2 = true := by
              have q := c2
              rw [List.all_map, Bool.not_eq_true', Bool.not_eq_false] at q
              exact q
            have s2 : Same H H2 := s1.trans k2.same
            have hx2 := s2.seq hx
            have hits2 := hits.imp fun x it z => z.same s2
            refine ⟨_, rfl, a, rfl, ⟨xs, hx2⟩, fun B2 hB2 => it_loop (walk_list (xs := xs)) (fun i H3 => Same H2 H3 ∧ H3 B2 = some (.lst (((its.take i).flatMap flags).map V.bl)) ∧ ((its.take i).flatMap flags).length ≤ 2 * i)
              ⟨same_new hB2, upd_same, by simp⟩ (fun i H3 _ q => q.1.seq hx2) (fun i x H3 H4 hi q y => ?_) fun H3 q => ?_⟩
            · obtain ⟨q1, q2, q3⟩ := q
              obtain ⟨rfl, hxi⟩ := y
              obtain ⟨it, eit, hit⟩ := hits2.2 i x hxi
              have hl2 : len2 it = true := List.all_eq_true.mp hall it (List.mem_of_getElem? eit)
              rw [flat_take eit]
              cases it with
              | none => cases hl2
              | some fl =>
                have hfl : fl.length = 2 := by simpa [len2] using hl2
                obtain ⟨q, ys, rfl, hq, hf⟩ := hit
                refine ⟨rfl, yes_goI ?_⟩
                have fin : ∀ j y H5, Same H2 H5 → H5 B2 = some (.lst (((its.take i).flatMap flags ++ fl.take j).map V.bl)) → ys[j]? = some y → ∃ n, IsK K H5 y n ∧ ((((its.take i).flatMap flags ++ fl.take j).map V.bl)).length < sizeLine ∧
                    Same H2 (upd H5 B2 (.lst ((((its.take i).flatMap flags ++ fl.take j).map V.bl) ++ [V.bl (n == "int")]))) ∧ (upd H5 B2 (.lst ((((its.take i).flatMap flags ++ fl.take j).map V.bl) ++ [V.bl (n == "int")]))) B2 = some (.lst (((its.take i).flatMap flags ++ fl.take (j + 1)).map V.bl)) := fun j y H5 p1 p2 hyj => by
                  obtain ⟨b, eb, n, hn, ebn⟩ := hf.2 j y hyj
                  refine ⟨n, hn.same p1, ?_, fun b o e => ?_, ?_⟩
                  · rw [List.length_map, List.length_append]
                    exact Nat.lt_of_le_of_lt (Nat.add_le_add q3 (List.length_take_le' _ _)) (small1000 (by omega))
                  · rw [upd_ne (ne_of_none e hB2)]
                    exact p1 b o e
                  · rw [upd_same, take_more eb, ebn, ← List.append_assoc]
                    simp only [List.map_append, List.map_cons, List.map_nil]
                have stop : ∀ H5, Same H2 H5 → H5 B2 = some (.lst (((its.take i).flatMap flags ++ fl.take ys.length).map V.bl)) → Same H2 H5 ∧ H5 B2 = some (.lst (((its.take i).flatMap flags ++ flags (some fl)).map V.bl)) ∧ ((its.take i).flatMap flags ++ flags (some fl)).length ≤ 2 * (i + 1) := fun H5 p1 p2 => by
                  rw [hf.1, List.take_length] at p2
                  refine ⟨p1, p2, ?_⟩
                  rw [List.length_append]
                  show _ + fl.length ≤ _
                  omega
                refine Or.elim hq (fun hq => .inl ⟨_, rfl, q, rfl, ⟨ys, q1.seq hq⟩, it_loop (walk_list (xs := ys)) (fun j H5 => Same H2 H5 ∧ H5 B2 = some (.lst (((its.take i).flatMap flags ++ fl.take j).map V.bl)))
                    ⟨q1, by rw [List.take_zero, List.append_nil]; exact q2⟩ (fun _ _ _ q => q.1.seq hq) (fun j y H5 H6 hj q yy => ?_) fun H5 q => stop H5 q.1 q.2⟩)
                  (fun hq => .inr ⟨_, rfl, q, rfl, ⟨ys, Same.sqt q1 hq⟩, it_loop (walk_tup (xs := ys)) (fun j H5 => Same H2 H5 ∧ H5 B2 = some (.lst (((its.take i).flatMap flags ++ fl.take j).map V.bl)))
                    ⟨q1, by rw [List.take_zero, List.append_nil]; exact q2⟩ (fun _ _ _ q => Same.sqt q.1 hq) (fun j y H5 H6 hj q yy => ?_) fun H5 q => stop H5 q.1 q.2⟩)
                all_goals
                  obtain ⟨p1, p2⟩ := q
                  obtain ⟨rfl, hyj⟩ := yy
                  obtain ⟨n, hn, hl, hs, he⟩ := fin j y _ p1 p2 hyj
                  exact ⟨rfl, yes_goI ⟨_, rfl, y, n, rfl, hn, _, p2, hl, hs, he⟩⟩
            · obtain ⟨q1, q2, q3⟩ := q
              rw [hits.1, List.take_length] at q2
              refine ⟨B2, _, rfl, SqL.of q2, ?_⟩
              have e : okIts its = ((its.flatMap flags).all id) := by
                unfold okIts
                rw [hne, hall]
                rfl
              rw [e] at k
              exact k H3 (s2.trans q1)
/-! ### bounds -/
/-- not a whole number within these -/
def BadV (K : PySem.W.Frag) (H : Hp) (v : V) (lo hi : Int) : Prop := ∃ n, IsK K H v n ∧ (n = "int" → ∃ i, v = .int i ∧ ¬ (lo ≤ i ∧ i ≤ hi))
theorem BadV.same {H H' : Hp} {v : V} {lo hi : Int} (h : BadV K H v lo hi) (s : Same H H') : BadV K H' v lo hi := let ⟨n, k, e⟩ := h; ⟨n, k.same s, e⟩
def EX (E : XK) (C : Addr) (H : Hp) (z : Str) : Prop := ∀ d, H d = none → E (.ref C) (some d) (upd H d (.xd [(("part" : Str), .str z)]))
/-- the two bounds: fit, or what is wrong with them -/
def Bnds (K : PySem.W.Frag) (C : Addr) (E : XK) (H : Hp) (lv hv : V) (ok : Int → Option Int → Prop) : Prop :=
  (∃ lo high, lv = .int lo ∧ hv = hiV high ∧ 0 ≤ lo ∧ lo ≤ 10 ^ 60 ∧ (∀ h, high = some h → lo ≤ h ∧ h ≤ 10 ^ 60) ∧ ok lo high) ∨
  (BadV K H lv 0 (10 ^ 60) ∧ EX E C H "low") ∨
  (∃ lo, lv = .int lo ∧ 0 ≤ lo ∧ lo ≤ 10 ^ 60 ∧ hv ≠ .non ∧ BadV K H hv lo (10 ^ 60) ∧ EX E C H "high")
abbrev s_need_bounds : Stmt := topS 24
theorem sc_need_bounds : FnScope ["low", "high"] ["low", "high"] (defScope s_need_bounds) := ⟨rfl, rfl, rfl, by decide +kernel, rfl, by decide +kernel, by decide +kernel⟩
def spBounds (K : PySem.W.Frag) (C : Addr) : Sp := fun vs H Q E => ∃ lv hv, vs = [lv, hv] ∧ Bnds K C E H lv hv fun _ _ => Q .non H
theorem cal_need_bounds {C : Addr} (D : DefF K mg "need_bounds" s_need_bounds) (M : MG mg) (C_need_integer : CalX P w K mg base (L2.CX P w) 4 "need_integer" (spNeed K C)) : CalX P w K mg base (L2.CX P w) 5 "need_bounds" (spBounds K C) := by
  refine cal_mkX D sc_need_bounds (fun _ _ _ _ _ _ us hl => match us, hl with | [_, _], _ => rfl) (fun vs H Q E h => ?_) (fun f cdv A outer s H vs Q E hr h => ?_)
  · obtain ⟨lv, hv, rfl, _⟩ := h
    rfl
  · obtain ⟨lv, hv, rfl, h⟩ := h
    have tk := takes_of (X := cxOf (L2.CX P w) P w K mg base ["low", "high"] "need_bounds" (defScope s_need_bounds) f cdv A outer s H E) rfl rfl rfl rfl
    refine ⟨_, (pss_cons (ps_expr (pe_cx C_need_integer hr (by decide) (by rfl) (passC tk) (pa_cons (pv 0) (pa_cons pe_str (pa_cons pe_int (pa_cons (C8.pe_gc (by rfl) M.c_MOST_RINGS) pa_nil))))))
  (pss_one (ps_if (pt_cmpR op_notN (pv 1) pe_non (nomark _))
  (pss_one (ps_expr (pe_cx C_need_integer hr (by decide) (by rfl) (passC tk) (pa_cons (pv 1) (pa_cons pe_str (pa_cons (pv 0) (pa_cons (C8.pe_gc (by rfl) M.c_MOST_RINGS) pa_nil)))))))
  pss_nil))), ?_⟩
    rcases h with ⟨lo, high, rfl, rfl, h0, h1, hh, q⟩ | ⟨⟨n, hn, hb⟩, e⟩ | ⟨lo, rfl, h0, h1, hne, ⟨n, hn, hb⟩, e⟩
    · refine ⟨_, rfl, .int lo, "int", "low", 0, 10 ^ 60, rfl, int_is, .inl ⟨lo, rfl, rfl, h0, h1, ?_⟩⟩
      cases high with
      | none => exact ⟨_, rfl, rfl, _, rfl, iteF q⟩
      | some h => exact ⟨_, rfl, rfl, _, rfl, iteT ⟨_, rfl, _, rfl, .int h, "int", "high", lo, 10 ^ 60, rfl, int_is, .inl ⟨h, rfl, rfl, (hh h rfl).1, (hh h rfl).2, q⟩⟩⟩
    · exact ⟨_, rfl, lv, n, "low", 0, 10 ^ 60, rfl, hn, .inr ⟨hb, e⟩⟩
    · refine ⟨_, rfl, .int lo, "int", "low", 0, 10 ^ 60, rfl, int_is, .inl ⟨lo, rfl, rfl, h0, h1, ?_⟩⟩
      refine ⟨_, rfl, rfl, _, rfl, ?_⟩
      have e1 : (!decide (hv = V.non)) = true := by rw [decide_eq_false hne]; rfl
      rw [e1]
      exact iteT ⟨_, rfl, _, rfl, hv, n, "high", lo, 10 ^ 60, rfl, hn, .inr ⟨hb, e⟩⟩
/-! ### the call -/
abbrev s_verdicts : Stmt := topS 26
theorem sc_verdicts : FnScope ["lines", "top", "low", "high"] ["lines", "top", "low", "high"] (defScope s_verdicts) := ⟨rfl, rfl, rfl, by decide +kernel, rfl, by decide +kernel, by decide +kernel⟩
/-- lines that are none -/
def BadL (K : PySem.W.Frag) (H : Hp) (v : V) : Prop := (∃ n, IsK K H v n ∧ n ≠ "list" ∧ n ≠ "tuple") ∨ ∃ a xs its, v = .ref a ∧ SqL K H a xs ∧ xs.length ≤ 200 ∧ AllAt (ItemAt K H) xs its ∧ okIts its = false
def spVerdicts (K : PySem.W.Frag) (CR C : Addr) : Sp := fun vs H Q E => ∃ v tv lv hv, vs = [v, tv, lv, hv] ∧
  ((BadL K H v ∧ ∀ H1, Same H H1 → EX E CR H1 "lines") ∨
  ∃ a xs lines, v = .ref a ∧ SqL K H a xs ∧ AllAt (PairAt K H) xs lines ∧ lines ≠ [] ∧ xs.length ≤ 200 ∧
    ((BadV K H tv 0 (10 ^ 60) ∧ ∀ H1, Same H H1 → EX E C H1 "top") ∨
     ∃ top, tv = .int top ∧ 0 ≤ top ∧ top ≤ 10 ^ 60 ∧ ∀ H1, Same H H1 → Bnds K C E H1 lv hv fun low high => FewMarks lines top low high ∧
       ∀ H' p rows, Same H H' → RowsAt H' p rows → rows.length ≤ 60 → (∀ r ∈ rows, okW r.2.2) → K49.isRuns (lineV low high lines) 0 none rows (top + 1) → Q (.ref p) H'))
theorem items_lines {H : Hp} {xs : List V} {lines : List (Int × Int)} (h : AllAt (PairAt K H) xs lines) : AllAt (ItemAt K H) xs (lines.map fun _ => some [true, true]) := ⟨by rw [h.1, List.length_map], fun i x e => by
  obtain ⟨l, el, q, rfl, hq⟩ := h.2 i x e
  exact ⟨some [true, true], by rw [List.getElem?_map, el]; rfl, q, _, rfl, hq.symm, .cons ⟨"int", int_is, rfl⟩ (.cons ⟨"int", int_is, rfl⟩ .nil)⟩⟩
theorem okIts_lines {lines : List (Int × Int)} (h : lines ≠ []) : okIts (lines.map fun _ => some [true, true]) = true := by
  have a : ∀ l : List (Int × Int), (l.map fun _ => some [true, true]).all len2 = true := fun l => by rw [List.all_map]; exact List.all_eq_true.mpr fun _ _ => rfl
  have b : ∀ l : List (Int × Int), ((l.map fun _ => some [true, true]).flatMap flags).all id = true := fun l => by
    induction l with
    | nil => rfl
    | cons x l ih => rw [List.map_cons, List.flatMap_cons, List.all_append, ih]; rfl
  unfold okIts
  rw [a, b]
  cases lines with
  | nil => exact absurd rfl h
  | cons _ _ => rfl
theorem fn_verdicts {CR C f : Addr} {fd : FuncData} (F : Fun K "verdicts" "verdicts" s_verdicts f fd) (M : MG mg) (M_R : mg "BadRow" = some (.ref CR)) (T_BadRow : PySem.OcX.SupTxt P K CR) (C_are_lines : CalX P w K mg base CX0 2 "are_lines" (spAre K)) (C_need_integer : CalX P w K mg base (L2.CX P w) 4 "need_integer" (spNeed K C))
    (C_need_bounds : CalX P w K mg base (L2.CX P w) 5 "need_bounds" (spBounds K C)) (C_strips_of : CalX P w K mg base CX0 2 "strips_of" (spStrips K)) : FnOk P w K mg base (L2.CX P w) 6 f fd ["lines", "top", "low", "high"] (spVerdicts K CR C) := by
  refine F.okX sc_verdicts (fun vs H Q E h => ?_) (fun cdv A outer s H vs Q E hr h => ?_)
  · obtain ⟨v, tv, lv, hv, rfl, _⟩ := h
    rfl
  · obtain ⟨v, tv, lv, hv, rfl, h⟩ := h
    have tk := takes_of (X := cxOf (L2.CX P w) P w K mg base ["lines", "top", "low", "high"] "verdicts" (defScope s_verdicts) f cdv A outer s H E) rfl rfl rfl rfl
    refine ⟨_, (pss_cons (ps_if (pt_not (pt_val (pe_cx C_are_lines hr (by decide) (by rfl) pass0 (pa_cons (pv 0) pa_nil))))
  (pss_one (ps_raise rfl tk (pmk_sup T_BadRow hr M_R M.z_super pe_str)))
  pss_nil)
  (pss_cons (ps_expr (pe_cx C_need_integer hr (by decide) (by rfl) (passC tk) (pa_cons (pv 1) (pa_cons pe_str (pa_cons pe_int (pa_cons (C8.pe_gc (by rfl) M.c_MOST_RINGS) pa_nil))))))
  (pss_cons (ps_expr (pe_cx C_need_bounds hr (by decide) (by rfl) (passC tk) (pa_cons (pv 2) (pa_cons (pv 3) pa_nil))))
  (pss_one (ps_ret (pe_cx C_strips_of hr (by decide) (by rfl) pass0 (pa_cons (pv 0) (pa_cons (pv 1) (pa_cons (pv 2) (pa_cons (pv 3) pa_nil)))))))))), ?_⟩
    rcases h with ⟨hb, e⟩ | ⟨a, xs, lines, rfl, hx, hl, hne, hlen, h⟩
    · refine ⟨_, rfl, v, rfl, ?_⟩
      rcases hb with ⟨n, hn, n1, n2⟩ | ⟨a, xs, its, rfl, hx, hlen, hits, hok⟩
      · exact .inl ⟨n, hn, n1, n2, fun H1 s1 => ⟨_, rfl, iteT (e H1 s1)⟩⟩
      · refine .inr ⟨a, xs, its, rfl, hx, hlen, hits, fun H1 s1 => ⟨_, rfl, ?_⟩⟩
        rw [hok]
        exact iteT (e H1 s1)
    · refine ⟨_, rfl, _, rfl, .inr ⟨a, xs, _, rfl, hx, hlen, items_lines hl, fun H1 s1 => ⟨_, rfl, ?_⟩⟩⟩
      rw [okIts_lines hne]
      refine iteF ?_
      rcases h with ⟨⟨n, hn, hb⟩, e⟩ | ⟨top, rfl, t0, t1, h⟩
      · exact ⟨_, rfl, tv, n, "top", 0, 10 ^ 60, rfl, hn.same s1, .inr ⟨hb, e H1 s1⟩⟩
      · refine ⟨_, rfl, .int top, "int", "top", 0, 10 ^ 60, rfl, int_is, .inl ⟨top, rfl, rfl, t0, t1, ?_⟩⟩
        refine ⟨_, rfl, _, rfl, lv, hv, rfl, ?_⟩
        rcases h H1 s1 with ⟨lo, high, rfl, rfl, h0, h1, hh, few, k⟩ | q | q
        · exact .inl ⟨lo, high, rfl, rfl, h0, h1, hh, _, rfl, _, rfl, _, rfl, _, rfl, a, xs, lines, top, lo, high, rfl, s1.seq hx, hl.imp fun x y z => z.same s1, hlen, t0, few, fun H' p rows s' hr hl ho hrun => k H' p rows (s1.trans s') hr hl ho hrun⟩
        · exact .inr (.inl q)
        · exact .inr (.inr q)
theorem bi_verdicts {f : Addr} {fd : FuncData} (F : Fun K "verdicts" "verdicts" s_verdicts f fd) : Binds K fd ["lines", "top", "low", "high"] [] := F.binds fun _ _ _ _ _ _ us hl => match us, hl with | [_, _, _, _], _ => rfl
end
end W49
end
section
/-! k49: the walk, sixth part: the law's helpers. -/
namespace W49
open PySem PySem.Spec PyProof.Rows L2
theorem cut_ints (ns : List Int) (lo hi : Option Int) : ∃ ms : List Int, cutV (ns.map V.int) lo hi = ms.map V.int ∧ ms.length ≤ ns.length := by
  refine ⟨(ns.drop (HT.sIx (ns.map V.int).length 0 lo)).take (HT.sIx (ns.map V.int).length (ns.map V.int).length hi - HT.sIx (ns.map V.int).length 0 lo), ?_, ?_⟩
  · unfold cutV
    rw [List.map_take, List.map_drop]
  · rw [List.length_take, List.length_drop]
    omega
/-- where the law's table of code objects stands -/
class TbA where
  pt : Addr
section
variable [TbA]
def Pen (H : Hp) (p c : Addr) (n : Nat) : Prop := ∃ (cells : List Int) (at' rest : Int), H p = some (.lst [.ref c, .int at', .int rest]) ∧ c ≠ p ∧ H c = some (.lst (cells.map V.int)) ∧ 0 ≤ at' ∧ at' ≤ (n : Int) ∧ 0 ≤ rest ∧ H TbA.pt = some (.tbl #[])
theorem Pen.mono {H : Hp} {p c : Addr} {n m : Nat} (h : Pen H p c n) (k : n ≤ m) : Pen H p c m := by
  obtain ⟨cells, a, r, h1, h2, h3, h4, h5, h6, h7⟩ := h
  exact ⟨cells, a, r, h1, h2, h3, h4, by omega, h6, h7⟩
theorem Pen.same {H H' : Hp} {p c : Addr} {n : Nat} (h : Pen H p c n) (s : Same H H') : Pen H' p c n := by
  obtain ⟨cells, a, r, h1, h2, h3, h4, h5, h6, h7⟩ := h
  exact ⟨cells, a, r, s _ _ h1, h2, s _ _ h3, h4, h5, h6, s _ _ h7⟩
theorem Pen.some {H : Hp} {p c : Addr} {n : Nat} (h : Pen H p c n) : ∃ o, H p = some o := let ⟨_, _, _, h1, _⟩ := h; ⟨_, h1⟩
theorem Pen.tb {H : Hp} {p c : Addr} {n : Nat} (h : Pen H p c n) : H TbA.pt = Option.some (.tbl #[]) := by
  obtain ⟨_, _, _, _, _, _, _, _, _, h7⟩ := h
  exact h7
theorem Pen.upd {H : Hp} {p c L : Addr} {o : HO} {n : Nat} (h : Pen H p c n) (n1 : L ≠ p) (n2 : L ≠ c ∧ L ≠ TbA.pt) : Pen (upd H L o) p c n := by
  obtain ⟨cells, a, r, h1, h2, h3, h4, h5, h6, h7⟩ := h
  exact ⟨cells, a, r, by rw [upd_ne (Ne.symm n1)]; exact h1, h2, by rw [upd_ne (Ne.symm n2.1)]; exact h3, h4, h5, h6, by rw [upd_ne (Ne.symm n2.2)]; exact h7⟩
theorem Pen.ne {H : Hp} {p c L : Addr} {n : Nat} (h : Pen H p c n) (hL : H L = none) : L ≠ p ∧ L ≠ c ∧ L ≠ TbA.pt := by
  obtain ⟨cells, a, r, h1, h2, h3, h4, h5, h6, h7⟩ := h
  exact ⟨fun z => (by rw [z, h1] at hL; cases hL), fun z => (by rw [z, h3] at hL; cases hL), fun z => (by rw [z, h7] at hL; cases hL)⟩
section
variable {P : Program} {w : World} {K : PySem.W.Frag} {mg : Str → Option Value} {base : Heap}
abbrev s__law_pen : Stmt := topS 28
theorem sc__law_pen : FnScope ["script", "cell"] ["script"] (defScope s__law_pen) := ⟨rfl, rfl, rfl, by decide +kernel, rfl, by decide +kernel, by decide +kernel⟩
def spPen (K : PySem.W.Frag) : Sp := fun vs H Q _ => ∃ (a : Addr) (ns : List Int), vs = [.ref a] ∧ SqL K H a (ns.map V.int) ∧ ns.length ≤ 63 ∧ H TbA.pt = some (.tbl #[]) ∧ ∀ H' p c, Same H H' → H p = none → Pen H' p c 0 → Q (.ref p) H'
theorem cal_law_pen (D : DefF K mg "_law_pen" s__law_pen) (M : MG mg) : CalX P w K mg base CX0 1 "_law_pen" (spPen K) := by
  refine cal_mk D sc__law_pen (fun _ _ _ _ _ _ us hl => match us, hl with | [_], _ => rfl) (fun vs H Q E h => ?_) (fun f cdv A outer s H vs Q E hr h => ?_)
  · obtain ⟨a, ns, rfl, _⟩ := h
    rfl
  · obtain ⟨a, ns, rfl, hx, hl, htb, k⟩ := h
    refine ⟨_, (pss_one (ps_ret (pe_lst (pa_cons (pe_lc (own := [(("cell" : Str), 1)]) rfl sc__law_pen.nd (pi_list (pe_slice sl_list (pv 0) po_none (po_some pe_int))) (blkOk_by (own := [(("cell" : Str), 1)]) (N := [("script" : Str), ("cell" : Str)]) (sc := defScope s__law_pen) (by decide +kernel)) (fun _ _ _ _ _ => (pg_name (i := 1) sc__law_pen.nd rfl (by first | exact .inl rfl | exact .inr rfl))) (fun _ _ _ _ _ => pts_nil) (fun _ _ _ _ _ => (pe_callTy call_int1 (by rfl) M.z_int bootI (pa_cons (pv 1) pa_nil)))) (pa_cons pe_int (pa_cons pe_int pa_nil)))))), ?_⟩
    obtain ⟨ms, em, hml⟩ := cut_ints ns none (some 63)
    refine ⟨_, rfl, 63, rfl, a, _, rfl, hx, fun c hc => ?_⟩
    rw [em]
    have s1 : Same H (upd H c (.lst (ms.map V.int))) := same_new hc
    refine ⟨c, rfl, ⟨_, SqL.of upd_same⟩, fun B hB => lcM (walk_list (xs := ms.map V.int)) (fun _ _ _ _ y => y) [] (fun _ _ => True) (fun (i : Nat) (y : V) (H : Hp) => ∃ t, ms[i]? = some t ∧ y = .int t) (small1000 (by rw [List.length_map]; omega)) hB (by simp) (fun H1 k1 => k1.sql (by simp) (SqL.of upd_same))
      (fun _ _ _ _ => True.intro) (fun _ _ _ _ _ _ r => r) True.intro (fun i x H2 Ny Nn hi hxi k2 _ _ fin => ?_) (fun H2 ys k2 _ eB hly hr1 => ?_)⟩
    · obtain ⟨t, ht, rfl⟩ : ∃ t, ms[i]? = some t ∧ x = .int t := by
        rw [List.getElem?_map] at hxi
        cases z : ms[i]? with
        | none => rw [z] at hxi; cases hxi
        | some t => rw [z] at hxi; exact ⟨t, rfl, (Option.some.inj hxi).symm⟩
      exact ⟨rfl, yes_go ⟨_, rfl, .inl ⟨t, rfl, fin _ _ Kx.refl True.intro ⟨t, ht, rfl⟩⟩⟩⟩
    · have ey : ys = ms.map V.int := map_at (by rw [hly, List.length_map]) hr1
      subst ey
      refine ⟨szL (by show 3 ≤ 1000; decide), fun p hp => ?_⟩
      have s2 : Same H H2 := s1.trans k2.same
      have nBp : B ≠ p := ne_of_none eB hp
      exact k _ p B (s2.trans (same_new hp)) (s2.free hp) ⟨ms, 0, 0, upd_same, nBp, by rw [upd_ne nBp]; exact eB, by omega, by omega, by omega, (s2.trans (same_new hp)) _ _ htb⟩
abbrev s__law_draw : Stmt := topS 29
theorem sc__law_draw : FnScope ["pen", "many", "rest", "at", "cell", "mixed"] ["pen", "many"] (defScope s__law_draw) := ⟨rfl, rfl, rfl, by decide +kernel, rfl, by decide +kernel, by decide +kernel⟩
def spDraw : Sp := fun vs H Q _ => ∃ (p c : Addr) (many : Int) (n : Nat), vs = [.ref p, .int many] ∧ 0 < many ∧ many.natAbs.log2 < 9000 ∧ n < 10000 ∧ Pen H p c n ∧ ∀ H' r, Kx [p] H H' → Pen H' p c (n + 1) → 0 ≤ r → r < many → Q (.int r) H'
theorem shaped_ints (cells : List Int) : SeqAt.shaped (.list (cells.map PyData.int)) = true := by
  have a : ∀ l : List Int, PyData.canLayAll0 (l.map PyData.int) = true ∧ PyData.depthAll (l.map PyData.int) = 0 := fun l => by
    induction l with
    | nil => exact ⟨by simp [PyData.canLayAll0], by simp [PyData.depthAll]⟩
    | cons x l ih => exact ⟨by simp [PyData.canLayAll0, PyData.canLay0, ih.1], by simp [PyData.depthAll, PyData.depth, ih.2]⟩
  obtain ⟨b, c⟩ := a cells
  unfold SeqAt.shaped
  rw [Bool.and_eq_true]
  exact ⟨by simp [PyData.canLay0, b], decide_eq_true (by simp only [PyData.depth]; omega)⟩
theorem ints_dp {H : Hp} : ∀ (cells : List Int), DpAll K H (cells.map V.int) (cells.map PyData.int)
  | [] => .nil
  | x :: r => .cons (.int x) (ints_dp r)
theorem eqv_ints {cells : List Int} : PyData.eqv (.list (cells.map PyData.int)) (.list []) = cells.isEmpty := by
  cases cells with
  | nil => simp [PyData.eqv, PyData.eqvAll]
  | cons r rows => simp [PyData.eqv, PyData.eqvAll]
theorem fmod_lt {a m : Int} (h : 0 < m) : 0 ≤ Int.fmod a m ∧ Int.fmod a m < m := ⟨Int.fmod_nonneg_of_pos a h, Int.fmod_lt_of_pos a h⟩
theorem nz1 : (2147483549 : Int) ≠ 0 := by decide
theorem nz2 : (2147483629 : Int) ≠ 0 := by decide
theorem nz3 : (2147483587 : Int) ≠ 0 := by decide
theorem cal_law_draw (D : DefF K mg "_law_draw" s__law_draw) (M : MG mg) : CalX P w K mg base CX0 1 "_law_draw" spDraw := by
  refine cal_mk D sc__law_draw (fun _ _ _ _ _ _ us hl => match us, hl with | [_, _], _ => rfl) (fun vs H Q E h => ?_) (fun f cdv A outer s H vs Q E hr h => ?_)
  · obtain ⟨p, c, many, n, rfl, _⟩ := h
    rfl
  · obtain ⟨p, c, many, n, rfl, hm, hmw, hn, ⟨cells, at', rest, hp, ncp, hc, h0, h1, h2, htb⟩, k⟩ := h
    have npt : TbA.pt ≠ p := fun z => by rw [z, hp] at htb; cases htb
    refine ⟨_, (pss_cons (ps_if (pt_cmpR op_gt (pe_ix ix_list (pv 0) pe_int (fun _ _ => rfl)) pe_int (nomark _))
  (pss_cons (ps_set (i := 2) sc__law_draw.nd rfl (by first | exact .inl rfl | exact .inr rfl) (pe_callTy call_int1 (by rfl) M.z_int bootI (pa_cons (pe_ix ix_list (pv 0) pe_int (fun _ _ => rfl)) pa_nil)))
  (pss_cons (ps_asg (pe_op op_fdivW (pv 2) (pv 1)) (pg_sub (pv 0) pe_int set_list))
  (pss_one (ps_ret (pe_op op_modN (pe_callTy call_int1 (by rfl) M.z_int bootI (pa_cons (pv 2) pa_nil)) (pv 1))))))
  pss_nil)
  (pss_cons (ps_set (i := 3) sc__law_draw.nd rfl (by first | exact .inl rfl | exact .inr rfl) (pe_ix ix_list (pv 0) pe_int (fun _ _ => rfl)))
  (pss_cons (ps_asg (pe_op op_add (pv 3) pe_int) (pg_sub (pv 0) pe_int set_list))
  (pss_cons (ps_set (i := 4) sc__law_draw.nd rfl (by first | exact .inl rfl | exact .inr rfl) (pe_op op_add (pe_op op_mul pe_int (pv 3)) pe_int))
  (pss_cons (ps_if (pt_cmpR (op_neD hr.units) (pe_ix ix_list (pv 0) pe_int (fun _ _ => rfl)) (pe_lst pa_nil) (nomark _))
  (pss_one (ps_set (i := 4) sc__law_draw.nd rfl (by first | exact .inl rfl | exact .inr rfl) (pe_ix ix_list (pe_ix ix_list (pv 0) pe_int (fun _ _ => rfl)) (pe_op op_modN (pe_callTy call_int1 (by rfl) M.z_int bootI (pa_cons (pv 3) pa_nil)) (pe_callB call_len_seq (by rfl) M.z_len PySem.boot_len (pa_cons (pe_ix ix_list (pv 0) pe_int (fun _ _ => rfl)) pa_nil))) (fun _ _ => rfl))))
  pss_nil)
  (pss_cons (ps_if (PW.pt (pw_and (pt_cmpR op_lt (pv 3) (pe_callB call_len_seq (by rfl) M.z_len PySem.boot_len (pa_cons (pe_ix ix_list (pv 0) pe_int (fun _ _ => rfl)) pa_nil)) (nomark _)) (pw_and1 (pt_cmpR op_ge (pe_callB call_abs (by rfl) M.z_abs boot_abs (pa_cons (pv 4) pa_nil)) (pe_op op_pow pe_int pe_int) (nomark _)))))
  (pss_cons (ps_set (i := 2) sc__law_draw.nd rfl (by first | exact .inl rfl | exact .inr rfl) (pe_op op_add (pe_op op_mul pe_int (pe_op op_sub (pe_callB call_abs (by rfl) M.z_abs boot_abs (pa_cons (pv 4) pa_nil)) (pe_op op_pow pe_int pe_int))) (pe_callTy call_int1 (by rfl) M.z_int bootI (pa_cons (pe_cmpR op_lt (pv 4) pe_int (nomark _)) pa_nil))))
  (pss_cons (ps_asg (pe_op op_fdivW (pe_callTy call_int1 (by rfl) M.z_int bootI (pa_cons (pv 2) pa_nil)) (pv 1)) (pg_sub (pv 0) pe_int set_list))
  (pss_one (ps_ret (pe_op op_modN (pe_callTy call_int1 (by rfl) M.z_int bootI (pa_cons (pv 2) pa_nil)) (pv 1))))))
  pss_nil)
  (pss_cons (ps_set (i := 5) sc__law_draw.nd rfl (by first | exact .inl rfl | exact .inr rfl) (pe_op op_modN (pe_callTy call_int1 (by rfl) M.z_int bootI (pa_cons (pe_op op_pow (pe_op op_add (pe_op op_add (pe_op op_modN (pe_callTy call_int1 (by rfl) M.z_int bootI (pa_cons (pv 4) pa_nil)) pe_int) (pe_op op_mul pe_int (pv 3))) pe_int) pe_int) pa_nil)) pe_int))
  (pss_cons (ps_set (i := 5) sc__law_draw.nd rfl (by first | exact .inl rfl | exact .inr rfl) (pe_op op_modN (pe_callTy call_int1 (by rfl) M.z_int bootI (pa_cons (pe_op op_pow (pe_op op_add (pe_op op_add (pe_op op_mul (pv 5) (pe_op op_add (pe_op op_mul pe_int (pv 3)) pe_int)) (pe_op op_mul (pe_op op_mul pe_int (pv 3)) (pv 3))) pe_int) pe_int) pa_nil)) pe_int))
  (pss_one (ps_ret (pe_op op_modN (pe_callTy call_int1 (by rfl) M.z_int bootI (pa_cons (pe_op op_fdivN (pv 5) pe_int) pa_nil)) (pv 1)))))))))))), ?_⟩
    have divM : CDivW = fun (_ j : Int) => 0 < j ∧ j.natAbs.log2 < 9000 := rfl
    refine ⟨_, rfl, p, _, 2, _, rfl, rfl, SqL.of hp, rfl, _, _, rfl, rfl, _, rfl, ite2 (fun e => ?_) (fun e => ?_)⟩
    · refine ⟨_, rfl, p, _, 2, _, rfl, rfl, SqL.of hp, rfl, .inl ⟨_, rfl, ?_⟩⟩
      refine ⟨_, rfl, _, rfl, _, _, rfl, rfl, ⟨hm, hmw⟩, _, rfl, p, _, 2, 2, rfl, rfl, hp, rfl, ?_⟩
      refine ⟨_, rfl, .inl ⟨_, rfl, _, rfl, _, _, rfl, rfl, fun z => by omega, ?_⟩⟩
      exact k _ _ (Kx.put (by simp)) ⟨cells, at', rest / many, upd_same, ncp, by rw [upd_ne ncp]; exact hc, h0, by omega, Int.ediv_nonneg h2 (Int.le_of_lt hm), by rw [upd_ne npt]; exact htb⟩ (fmod_lt hm).1 (fmod_lt hm).2
    · -- at = pen[1]; pen[1] = at + 1
      refine ⟨_, rfl, p, _, 1, _, rfl, rfl, SqL.of hp, rfl, ?_⟩
      refine ⟨_, rfl, _, _, rfl, rfl, _, rfl, p, _, 1, 1, rfl, rfl, hp, rfl, ?_⟩
      have hpen : Pen (upd H p (.lst [V.ref c, V.int (at' + 1), V.int rest])) p c (n + 1) := ⟨cells, at' + 1, rest, upd_same, ncp, by rw [upd_ne ncp]; exact hc, by omega, by omega, h2, by rw [upd_ne npt]; exact htb⟩
      have hp1 : (upd H p (.lst [V.ref c, V.int (at' + 1), V.int rest])) p = some (.lst [V.ref c, V.int (at' + 1), V.int rest]) := upd_same
      have hc1 : (upd H p (.lst [V.ref c, V.int (at' + 1), V.int rest])) c = some (.lst (cells.map V.int)) := by rw [upd_ne ncp]; exact hc
      have k1 : Kx [p] H (upd H p (.lst [V.ref c, V.int (at' + 1), V.int rest])) := Kx.put (by simp)
      show tSeq _ _ _ _ (upd H p (.lst [V.ref c, V.int (at' + 1), V.int rest]))
      revert hpen hp1 hc1 k1
      generalize upd H p (.lst [V.ref c, V.int (at' + 1), V.int rest]) = H1
      intro hpen hp1 hc1 k1
      refine ⟨_, rfl, _, _, rfl, rfl, .inl ⟨by decide, by decide⟩, _, _, rfl, rfl, ?_⟩
      -- pen[0] != []
      refine ⟨_, rfl, p, _, 0, _, rfl, rfl, SqL.of hp1, rfl, szL (by show 0 ≤ 1000; decide), fun N0 hN0 => ?_⟩
      have s2 : Same H1 (upd H1 N0 (.lst [])) := same_new hN0
      have hN2 : (upd H1 N0 (.lst [])) N0 = some (.lst []) := upd_same
      have hc2 := s2 _ _ hc1
      have hp2 := s2 _ _ hp1
      have hpen2 := hpen.same s2
      have k2 : Kx [p] H (upd H1 N0 (.lst [])) := k1.trans (Kx.of s2)
      revert hN2 hc2 hp2 hpen2 k2
      generalize upd H1 N0 (.lst []) = H2
      intro hN2 hc2 hp2 hpen2 k2
      clear s2 hN0
      have bigm : ∀ x : Int, 0 ≤ x → x < 2147483629 → ∀ a : Int, 0 ≤ a → a ≤ 10000 → (x * (2 * a + 7179) + 72677 * a * a + 35855).natAbs < 2 ^ 64 := fun x x0 x1 a a0 a1 => by
        have h1 : x * (2 * a + 7179) ≤ 2147483629 * 27179 := Int.mul_le_mul (by omega) (by omega) (by omega) (by omega)
        have h2 : 0 ≤ x * (2 * a + 7179) := Int.mul_nonneg x0 (by omega)
        have h3 : 72677 * a * a ≤ 726770000 * 10000 := Int.mul_le_mul (by omega) a1 a0 (by omega)
        have h4 : 0 ≤ 72677 * a * a := Int.mul_nonneg (by omega) a0
        omega
      have pow1 : ∀ x : Int, (Int.fmod x 2147483549 + 35855 * at' + 10275).natAbs < 2 ^ 64 := fun x => by
        have q := fmod_lt (a := x) (m := 2147483549) (by decide)
        generalize Int.fmod x 2147483549 = y at q
        omega
      have sm : ∀ x : Int, CMul (Int.fmod x 2147483629) (2 * at' + 7179) := fun x => by
        have q := fmod_lt (a := x) (m := 2147483629) (by decide)
        exact .inl ⟨by omega, by omega⟩
      have pow2 : ∀ x : Int, (Int.fmod x 2147483629 * (2 * at' + 7179) + 72677 * at' * at' + 35855).natAbs < 2 ^ 64 := fun x => by
        have q := fmod_lt (a := x) (m := 2147483629) (by decide)
        exact bigm _ q.1 q.2 at' h0 (by omega)
      have nn : ∀ (x : Int) (b : Bool) (y : Int), y ≤ x → 0 ≤ 2 * (x - y) + (if b = true then 1 else 0) := fun x b y h => by
        cases b
        · show 0 ≤ 2 * (x - y) + 0
          omega
        · show 0 ≤ 2 * (x - y) + 1
          omega
      refine ⟨_, _, .lst (SqL.of hc2) (ints_dp cells), .lst (SqL.of hN2) .nil, shaped_ints cells, shaped_nil, _, rfl, ?_⟩
      rw [eqv_ints]
      refine ite2 (fun e0 => ?_) (fun e0 => ?_)
      · have hpos : 0 < cells.length := by
          cases cells with
          | nil => cases e0
          | cons _ _ => simp
        have hm0 := fmod_lt (a := at') (m := (((cells.map V.int).length : Nat) : Int)) (by rw [List.length_map]; omega)
        have hlt : (Int.fmod at' (((cells.map V.int).length : Nat) : Int)).toNat < cells.length := by
          have := hm0.2
          rw [List.length_map] at this ⊢
          omega
        have hat : atI (cells.map V.int) (Int.fmod at' (((cells.map V.int).length : Nat) : Int)) = some (.int cells[(Int.fmod at' (((cells.map V.int).length : Nat) : Int)).toNat]) := by
          have q := atI_nat (xs := cells.map V.int) (j := (Int.fmod at' (((cells.map V.int).length : Nat) : Int)).toNat) (v := .int cells[(Int.fmod at' (((cells.map V.int).length : Nat) : Int)).toNat]) (by
            rw [List.getElem?_map, List.getElem?_eq_getElem hlt]
            rfl)
          rw [Int.toNat_of_nonneg hm0.1] at q
          exact q
        refine ⟨_, rfl, p, _, 0, _, rfl, rfl, SqL.of hp2, rfl, _, rfl, .inl ⟨_, rfl, _, rfl, p, _, 0, _, rfl, rfl, SqL.of hp2, rfl, c, _, rfl, .inl (SqL.of hc2), _, _, rfl, rfl, fun z => by omega, c, _, _, _, rfl, rfl, SqL.of hc2, hat, ?_⟩⟩
        refine ⟨_, rfl, _, rfl, p, _, 0, _, rfl, rfl, SqL.of hp2, rfl, c, _, rfl, .inl (SqL.of hc2), _, _, rfl, rfl, _, rfl, ite2 (fun e1 => ?_) (fun e1 => iteF ?_)⟩
        · refine ⟨_, rfl, _, rfl, _, _, rfl, rfl, ⟨by decide, by decide, by decide⟩, _, _, rfl, rfl, _, rfl, ite2 (fun e2 => ?_) (fun e2 => ?_)⟩
          · have hge := of_decide_eq_true e2
            refine ⟨_, rfl, _, rfl, _, _, rfl, rfl, ⟨by decide, by decide, by decide⟩, _, _, rfl, rfl, _, _, rfl, rfl, .inl ⟨by decide, by decide⟩, _, rfl, _, _, rfl, rfl, .inr ⟨_, rfl, _, _, rfl, rfl, ?_⟩⟩
            refine ⟨_, rfl, .inl ⟨_, rfl, _, rfl, _, _, rfl, rfl, ⟨hm, hmw⟩, _, rfl, p, _, 2, 2, rfl, rfl, hp2, rfl, ?_⟩⟩
            refine ⟨_, rfl, .inl ⟨_, rfl, _, rfl, _, _, rfl, rfl, fun z => by omega, ?_⟩⟩
            refine k _ _ (k2.trans (Kx.put (by simp))) ⟨cells, at' + 1, _, upd_same, ncp, by rw [upd_ne ncp]; exact hc2, by omega, by omega, ?_, by rw [upd_ne npt]; exact hpen2.tb⟩ (fmod_lt hm).1 (fmod_lt hm).2
            refine Int.ediv_nonneg ?_ (Int.le_of_lt hm)
            exact nn _ _ _ hge
          · refine ⟨_, rfl, .inl ⟨_, rfl, _, _, rfl, rfl, nz1, _, rfl, _, _, rfl, rfl, .inl ⟨by decide, by decide⟩, _, _, rfl, rfl, _, _, rfl, rfl, _, _, rfl, rfl, ⟨by decide, by decide, pow1 _⟩, .inl ⟨_, rfl, _, _, rfl, rfl, nz2, ?_⟩⟩⟩
            refine ⟨_, rfl, _, rfl, _, _, rfl, rfl, .inl ⟨by decide, by decide⟩, _, _, rfl, rfl, _, _, rfl, rfl, sm _, _, rfl, _, _, rfl, rfl, .inl ⟨by decide, by decide⟩, _, rfl, _, _, rfl, rfl, .inr ⟨by omega, by omega⟩, _, _, rfl, rfl, _, _, rfl, rfl, _, _, rfl, rfl, ⟨by decide, by decide, pow2 _⟩, .inl ⟨_, rfl, _, _, rfl, rfl, nz3, ?_⟩⟩
            exact ⟨_, rfl, _, _, rfl, rfl, ⟨by decide, by decide⟩, .inl ⟨_, rfl, _, rfl, _, _, rfl, rfl, fun z => by omega, k _ _ k2 hpen2 (fmod_lt hm).1 (fmod_lt hm).2⟩⟩
        · refine ⟨_, rfl, .inl ⟨_, rfl, _, _, rfl, rfl, nz1, _, rfl, _, _, rfl, rfl, .inl ⟨by decide, by decide⟩, _, _, rfl, rfl, _, _, rfl, rfl, _, _, rfl, rfl, ⟨by decide, by decide, pow1 _⟩, .inl ⟨_, rfl, _, _, rfl, rfl, nz2, ?_⟩⟩⟩
          refine ⟨_, rfl, _, rfl, _, _, rfl, rfl, .inl ⟨by decide, by decide⟩, _, _, rfl, rfl, _, _, rfl, rfl, sm _, _, rfl, _, _, rfl, rfl, .inl ⟨by decide, by decide⟩, _, rfl, _, _, rfl, rfl, .inr ⟨by omega, by omega⟩, _, _, rfl, rfl, _, _, rfl, rfl, _, _, rfl, rfl, ⟨by decide, by decide, pow2 _⟩, .inl ⟨_, rfl, _, _, rfl, rfl, nz3, ?_⟩⟩
          exact ⟨_, rfl, _, _, rfl, rfl, ⟨by decide, by decide⟩, .inl ⟨_, rfl, _, rfl, _, _, rfl, rfl, fun z => by omega, k _ _ k2 hpen2 (fmod_lt hm).1 (fmod_lt hm).2⟩⟩
      · refine ⟨_, rfl, _, rfl, p, _, 0, _, rfl, rfl, SqL.of hp2, rfl, c, _, rfl, .inl (SqL.of hc2), _, _, rfl, rfl, _, rfl, ite2 (fun e1 => ?_) (fun e1 => iteF ?_)⟩
        · refine ⟨_, rfl, _, rfl, _, _, rfl, rfl, ⟨by decide, by decide, by decide⟩, _, _, rfl, rfl, _, rfl, ite2 (fun e2 => ?_) (fun e2 => ?_)⟩
          · have hge := of_decide_eq_true e2
            refine ⟨_, rfl, _, rfl, _, _, rfl, rfl, ⟨by decide, by decide, by decide⟩, _, _, rfl, rfl, _, _, rfl, rfl, .inl ⟨by decide, by decide⟩, _, rfl, _, _, rfl, rfl, .inr ⟨_, rfl, _, _, rfl, rfl, ?_⟩⟩
            refine ⟨_, rfl, .inl ⟨_, rfl, _, rfl, _, _, rfl, rfl, ⟨hm, hmw⟩, _, rfl, p, _, 2, 2, rfl, rfl, hp2, rfl, ?_⟩⟩
            refine ⟨_, rfl, .inl ⟨_, rfl, _, rfl, _, _, rfl, rfl, fun z => by omega, ?_⟩⟩
            refine k _ _ (k2.trans (Kx.put (by simp))) ⟨cells, at' + 1, _, upd_same, ncp, by rw [upd_ne ncp]; exact hc2, by omega, by omega, ?_, by rw [upd_ne npt]; exact hpen2.tb⟩ (fmod_lt hm).1 (fmod_lt hm).2
            refine Int.ediv_nonneg ?_ (Int.le_of_lt hm)
            exact nn _ _ _ hge
          · refine ⟨_, rfl, .inl ⟨_, rfl, _, _, rfl, rfl, nz1, _, rfl, _, _, rfl, rfl, .inl ⟨by decide, by decide⟩, _, _, rfl, rfl, _, _, rfl, rfl, _, _, rfl, rfl, ⟨by decide, by decide, pow1 _⟩, .inl ⟨_, rfl, _, _, rfl, rfl, nz2, ?_⟩⟩⟩
            refine ⟨_, rfl, _, rfl, _, _, rfl, rfl, .inl ⟨by decide, by decide⟩, _, _, rfl, rfl, _, _, rfl, rfl, sm _, _, rfl, _, _, rfl, rfl, .inl ⟨by decide, by decide⟩, _, rfl, _, _, rfl, rfl, .inr ⟨by omega, by omega⟩, _, _, rfl, rfl, _, _, rfl, rfl, _, _, rfl, rfl, ⟨by decide, by decide, pow2 _⟩, .inl ⟨_, rfl, _, _, rfl, rfl, nz3, ?_⟩⟩
            exact ⟨_, rfl, _, _, rfl, rfl, ⟨by decide, by decide⟩, .inl ⟨_, rfl, _, rfl, _, _, rfl, rfl, fun z => by omega, k _ _ k2 hpen2 (fmod_lt hm).1 (fmod_lt hm).2⟩⟩
        · refine ⟨_, rfl, .inl ⟨_, rfl, _, _, rfl, rfl, nz1, _, rfl, _, _, rfl, rfl, .inl ⟨by decide, by decide⟩, _, _, rfl, rfl, _, _, rfl, rfl, _, _, rfl, rfl, ⟨by decide, by decide, pow1 _⟩, .inl ⟨_, rfl, _, _, rfl, rfl, nz2, ?_⟩⟩⟩
          refine ⟨_, rfl, _, rfl, _, _, rfl, rfl, .inl ⟨by decide, by decide⟩, _, _, rfl, rfl, _, _, rfl, rfl, sm _, _, rfl, _, _, rfl, rfl, .inl ⟨by decide, by decide⟩, _, rfl, _, _, rfl, rfl, .inr ⟨by omega, by omega⟩, _, _, rfl, rfl, _, _, rfl, rfl, _, _, rfl, rfl, ⟨by decide, by decide, pow2 _⟩, .inl ⟨_, rfl, _, _, rfl, rfl, nz3, ?_⟩⟩
          exact ⟨_, rfl, _, _, rfl, rfl, ⟨by decide, by decide⟩, .inl ⟨_, rfl, _, rfl, _, _, rfl, rfl, fun z => by omega, k _ _ k2 hpen2 (fmod_lt hm).1 (fmod_lt hm).2⟩⟩
abbrev s__law_pick : Stmt := topS 30
theorem sc__law_pick : FnScope ["pen", "some"] ["pen", "some"] (defScope s__law_pick) := ⟨rfl, rfl, rfl, by decide +kernel, rfl, by decide +kernel, by decide +kernel⟩
def spPick (K : PySem.W.Frag) : Sp := fun vs H Q _ => ∃ (p c l : Addr) (xs : List V) (n : Nat), vs = [.ref p, .ref l] ∧ SqL K H l xs ∧ l ≠ p ∧ xs ≠ [] ∧ xs.length ≤ 1000 ∧ n < 10000 ∧ Pen H p c n ∧ ∀ H' y, Kx [p] H H' → Pen H' p c (n + 1) → y ∈ xs → Q y H'
theorem cal_law_pick (D : DefF K mg "_law_pick" s__law_pick) (M : MG mg) (C__law_draw : CalX P w K mg base CX0 1 "_law_draw" spDraw) : CalX P w K mg base CX0 2 "_law_pick" (spPick K) := by
  refine cal_mk D sc__law_pick (fun _ _ _ _ _ _ us hl => match us, hl with | [_, _], _ => rfl) (fun vs H Q E h => ?_) (fun f cdv A outer s H vs Q E hr h => ?_)
  · obtain ⟨p, c, l, xs, n, rfl, _⟩ := h
    rfl
  · obtain ⟨p, c, l, xs, n, rfl, hx, nlp, hne, hlen, hn, hpen, k⟩ := h
    refine ⟨_, (pss_one (ps_ret (pe_ix ix_list (pv 1) (pe_cx C__law_draw hr (by decide) (by rfl) pass0 (pa_cons (pv 0) (pa_cons (pe_callB call_len_seq (by rfl) M.z_len PySem.boot_len (pa_cons (pv 1) pa_nil)) pa_nil))) (fun _ _ => rfl)))), ?_⟩
    have hpos : 0 < xs.length := List.length_pos_iff.mpr hne
    refine ⟨_, rfl, _, rfl, _, rfl, l, xs, rfl, .inl hx, p, c, _, n, rfl, by omega, ?_, hn, hpen, fun H' r k1 p1 r0 r1 => ?_⟩
    · rw [Int.natAbs_natCast]
      refine Nat.lt_of_le_of_lt (Nat.log2_le_self _) (by omega)
    · have hr' : r.toNat < xs.length := by omega
      refine ⟨l, xs, r, xs[r.toNat], rfl, rfl, k1.sql (by simp; exact nlp) hx, ?_, k H' _ k1 p1 (List.getElem_mem hr')⟩
      have q := atI_nat (xs := xs) (j := r.toNat) (List.getElem?_eq_getElem hr')
      rw [Int.toNat_of_nonneg r0] at q
      exact q
abbrev s__law_verdict : Stmt := topS 32
theorem sc__law_verdict : FnScope ["numbers", "low", "high", "some", "number"] ["numbers", "low", "high"] (defScope s__law_verdict) := ⟨rfl, rfl, rfl, by decide +kernel, rfl, by decide +kernel, by decide +kernel⟩
def spLawVerdict (K : PySem.W.Frag) : Sp := fun vs H Q _ => ∃ (a : Addr) (ns : List Int) (low : Int) (high : Option Int), vs = [.ref a, .int low, hiV high] ∧ SqL K H a (ns.map V.int) ∧ ns.length ≤ 200 ∧ ∀ H', Same H H' → Q (.str (verdS (ns.map fun n => K49.within low high n))) H'
theorem inV_bl (b : Bool) : ∀ bs : List Bool, inV (.bl b) (bs.map V.bl) = bs.any (fun x => x == b)
  | [] => rfl
  | x :: r => by
    have t := inV_bl b r
    unfold inV at t ⊢
    rw [List.map_cons, List.any_cons, t, List.any_cons]
    rfl
theorem flat_bl (bs : List Bool) : (bs.map V.bl).all flatV = true := by
  rw [List.all_map]
  exact List.all_eq_true.mpr fun _ _ => rfl
theorem cal_law_verdict (D : DefF K mg "_law_verdict" s__law_verdict) (M : MG mg) : CalX P w K mg base CX0 1 "_law_verdict" (spLawVerdict K) := by
  refine cal_mk D sc__law_verdict (fun _ _ _ _ _ _ us hl => match us, hl with | [_, _, _], _ => rfl) (fun vs H Q E h => ?_) (fun f cdv A outer s H vs Q E hr h => ?_)
  · obtain ⟨a, ns, low, high, rfl, _⟩ := h
    rfl
  · obtain ⟨a, ns, low, high, rfl, hx, hlen, k⟩ := h
    refine ⟨_, (pss_cons (ps_setLc (i := 3) (own := [(("number" : Str), 4)]) rfl sc__law_verdict.nd rfl rfl rfl (pi_list (pv 0)) (blkOk_by (own := [(("number" : Str), 4)]) (N := [("numbers" : Str), ("low" : Str), ("high" : Str), ("some" : Str), ("number" : Str)]) (sc := defScope s__law_verdict) (by decide +kernel)) (fun _ _ _ _ _ => (pg_name (i := 4) sc__law_verdict.nd rfl (by first | exact .inl rfl | exact .inr rfl))) (fun _ _ _ _ _ => pts_nil) (fun _ _ _ _ _ => (pe_and (pe_cmpR op_le (pv 1) (pv 4) (nomark _)) (pe_one (pe_or (pe_cmpR op_isN (pv 2) pe_non (nomark _)) (pe_one (pe_cmpR op_le (pv 4) (pv 2) (nomark _))))))))
  (pss_one (ps_ret (pe_ifExp (pt_cmpR op_notIn_seq pe_bl (pv 3) (by rfl)) pe_str (pe_ifExp (pt_cmpR op_in_seq pe_bl (pv 3) (by rfl)) pe_str pe_str))))), ?_⟩
    refine ⟨_, rfl, a, rfl, ⟨_, hx⟩, fun B hB => lcM (walk_list (xs := ns.map V.int)) (fun _ _ _ _ y => y) [] (fun _ _ => True) (fun (i : Nat) (y : V) (H : Hp) => ∃ t, ns[i]? = some t ∧ y = .bl (K49.within low high t)) (small1000 (by rw [List.length_map]; omega)) hB (by simp) (fun H1 k1 => k1.sql (by simp) hx)
      (fun _ _ _ _ => True.intro) (fun _ _ _ _ _ _ r => r) True.intro (fun i x H2 Ny Nn hi hxi k2 _ _ fin => ?_) (fun H2 ys k2 _ eB hly hr1 => ?_)⟩
    · obtain ⟨t, ht, rfl⟩ : ∃ t, ns[i]? = some t ∧ x = .int t := by
        rw [List.getElem?_map] at hxi
        cases z : ns[i]? with
        | none => rw [z] at hxi; cases hxi
        | some t => rw [z] at hxi; exact ⟨t, rfl, (Option.some.inj hxi).symm⟩
      have fin' : ∀ b, b = K49.within low high t → Ny (.bl b) H2 := fun b e => fin _ _ Kx.refl True.intro ⟨t, ht, by rw [e]⟩
      refine ⟨rfl, yes_go ⟨_, rfl, _, rfl, _, _, rfl, rfl, _, rfl, ite2 (fun e => ?_) (fun e => ?_)⟩⟩
      · refine ⟨_, rfl, rfl, _, rfl, ?_⟩
        cases high with
        | none => exact iteT (fin' _ (by show true = (decide (low ≤ t) && true); rw [e]; rfl))
        | some h =>
          refine iteF ⟨_, rfl, _, rfl, _, _, rfl, rfl, fin' _ ?_⟩
          show decide (t ≤ h) = (decide (low ≤ t) && decide (t ≤ h))
          rw [e, Bool.true_and]
      · refine fin' _ ?_
        unfold K49.within
        rw [Bool.eq_false_iff.mpr e, Bool.false_and]
    · have ey : ys = (ns.map fun n => K49.within low high n).map V.bl := by
        rw [List.map_map]
        exact map_at (by rw [hly, List.length_map]) hr1
      subst ey
      generalize hbs : (ns.map fun n => K49.within low high n) = bs at eB k
      have fin : ∀ z, z = verdS bs → Q (.str z) H2 := fun z e => by rw [e]; exact k H2 k2.same
      have any1 : inV (.bl true) (bs.map V.bl) = bs.any id := by
        rw [inV_bl]
        congr 1
        funext x
        cases x <;> rfl
      have all1 : (!inV (.bl false) (bs.map V.bl)) = bs.all id := by
        rw [inV_bl, List.not_any_eq_all_not]
        congr 1
        funext x
        cases x <;> rfl
      refine ⟨_, rfl, B, _, rfl, .inl (SqL.of eB), rfl, flat_bl bs, _, rfl, ite2 (fun e => ?_) (fun e => ?_)⟩
      · have e' : bs.all id = true := by rw [← all1]; exact e
        exact fin _ (by unfold verdS K49.verd; rw [if_pos e'])
      · have e' : ¬ bs.all id = true := by rw [← all1]; exact e
        refine ⟨_, rfl, B, _, rfl, .inl (SqL.of eB), rfl, flat_bl bs, _, rfl, ite2 (fun e2 => ?_) (fun e2 => ?_)⟩
        · have e2' : bs.any id = true := by rw [← any1]; exact e2
          exact fin _ (by unfold verdS K49.verd; rw [if_neg e', if_pos e2'])
        · have e2' : ¬ bs.any id = true := by rw [← any1]; exact e2
          exact fin _ (by unfold verdS K49.verd; rw [if_neg e', if_neg e2'])
end
end
end W49
end
section
/-! k49: the walk, seventh part: what is heard of a call. -/
namespace W49
open PySem PySem.Spec PyProof.Rows L2 LamX
/-- what stands of an error's class, at D: bN a BadNumber, bR a BadRow -/
structure EH (K : PySem.W.Frag) (mg : Str → Option Value) (D : Addr) (bN bR : Bool) : Prop where
  bell : ∃ B, mg "BellError" = some (.ref B) ∧ PySem.W.exmOne K (.ref D) (.ref B) = some true
  i_TooMany : ∃ C, mg "TooMany" = some (.ref C) ∧ PySem.W.kitOne K (.ref D) (.ref C) = some false
  i_NoName : ∃ C, mg "NoName" = some (.ref C) ∧ PySem.W.kitOne K (.ref D) (.ref C) = some false
  i_BadNumber : ∃ C, mg "BadNumber" = some (.ref C) ∧ PySem.W.kitOne K (.ref D) (.ref C) = some bN
  i_BadBits : ∃ C, mg "BadBits" = some (.ref C) ∧ PySem.W.kitOne K (.ref D) (.ref C) = some false
  i_BadBook : ∃ C, mg "BadBook" = some (.ref C) ∧ PySem.W.kitOne K (.ref D) (.ref C) = some false
  i_BadRow : ∃ C, mg "BadRow" = some (.ref C) ∧ PySem.W.kitOne K (.ref D) (.ref C) = some bR
  i_BadPattern : ∃ C, mg "BadPattern" = some (.ref C) ∧ PySem.W.kitOne K (.ref D) (.ref C) = some false
  i_BadPaper : ∃ C, mg "BadPaper" = some (.ref C) ∧ PySem.W.kitOne K (.ref D) (.ref C) = some false
  i_Misfit : ∃ C, mg "Misfit" = some (.ref C) ∧ PySem.W.kitOne K (.ref D) (.ref C) = some false
  ex : ExcC K D
  xf : XfC K D
  nop : PySem.W.findIn K (.ref D) "part" = some none
def TTh (D : Addr) (word z : Str) : (XK → Hp → VK → Prop) → Hp → VK → Prop := fun tl H Q =>
  ∀ (H1 : Hp) (Qn : VK), Same H H1 → tl (fun cls d H' => cls = .ref D ∧ ∃ dd, d = some dd ∧ H' dd = some (.xd [(("part" : Str), .str z)]) ∧ ∀ H2 p, Same H' H2 → H2 p = some (.tup [.str word, .str z]) → Q (.ref p) H2) H1 Qn
theorem takes_len {X : Cx} {W : WX} (tk : Takes X W) : Takes X (fun cls d σ H => σ.length = X.N.length → W cls d σ H) := fun u s' x => by
  obtain ⟨a, B, sI, pins, σ, H, cls, d, e, I, nb, up, sky, na, os, ag, w⟩ := x
  exact tk u s' ⟨a, B, sI, pins, σ, H, cls, d, e, I, nb, up, sky, na, os, ag, w I.len⟩
theorem len8 {σ : L2.St} (h : σ.length = 8) : ∃ x0 x1 x2 x3 x4 x5 x6 x7, σ = [x0, x1, x2, x3, x4, x5, x6, x7] := by
  match σ, h with
  | [x0, x1, x2, x3, x4, x5, x6, x7], _ => exact ⟨x0, x1, x2, x3, x4, x5, x6, x7, rfl⟩
abbrev s__law_heard : Stmt := topS 31
theorem sc__law_heard : FnScope ["ask", "caught", "told", "error", "some", "words", "word", "is_one"] ["ask"] (defScope s__law_heard) := ⟨rfl, rfl, rfl, by decide +kernel, rfl, by decide +kernel, by decide +kernel⟩
def PairW (H : Hp) (x : V) (p : Str × Bool) : Prop := ∃ q, x = .ref q ∧ H q = some (.tup [.str p.1, .bl p.2])
theorem PairW.same {H H' : Hp} {x : V} {p : Str × Bool} (h : PairW H x p) (s : Same H H') : PairW H' x p := let ⟨q, e, z⟩ := h; ⟨q, e, s _ _ z⟩
def wordOf (bN : Bool) : Str := if bN = true then "number" else "row"
section
variable {X : Cx}
theorem heard_gives {D g : Addr} {cdg : Value} {q : Str} {bN bR : Bool} (z : Str) (M : MG X.mg) (hE : EH X.K X.mg D bN bR) (hb : bR = !bN) :
    GivesTo X ["ask", "caught", "told", "error", "some", "words", "word", "is_one"] "_law_heard" (defScope s__law_heard) g cdg (defBody s__law_heard) "ask" q (TTh D (wordOf bN) z) := by
  intro f c' s H Q tl act hc h
  obtain ⟨B, mB, eB⟩ := hE.bell
  obtain ⟨a_TooMany, g_TooMany, e_TooMany⟩ := hE.i_TooMany
  obtain ⟨a_NoName, g_NoName, e_NoName⟩ := hE.i_NoName
  obtain ⟨a_BadNumber, g_BadNumber, e_BadNumber⟩ := hE.i_BadNumber
  obtain ⟨a_BadBits, g_BadBits, e_BadBits⟩ := hE.i_BadBits
  obtain ⟨a_BadBook, g_BadBook, e_BadBook⟩ := hE.i_BadBook
  obtain ⟨a_BadRow, g_BadRow, e_BadRow⟩ := hE.i_BadRow
  obtain ⟨a_BadPattern, g_BadPattern, e_BadPattern⟩ := hE.i_BadPattern
  obtain ⟨a_BadPaper, g_BadPaper, e_BadPaper⟩ := hE.i_BadPaper
  obtain ⟨a_Misfit, g_Misfit, e_Misfit⟩ := hE.i_Misfit
  refine ⟨_, (pss_cons (ps_asg (pe_tup (pa_cons pe_non (pa_cons pe_non pa_nil))) (pg_tup rfl (pgs_cons (pg_name (i := 1) sc__law_heard.nd rfl (by first | exact .inl rfl | exact .inr rfl)) (pgs_cons (pg_name (i := 2) sc__law_heard.nd rfl (by first | exact .inl rfl | exact .inr rfl)) pgs_nil))))
  (pss_cons (ps_try_keep (X := (cxOf C8.CX0 X.prog X.w X.K X.mg X.base ["ask", "caught", "told", "error", "some", "words", "word", "is_one"] "_law_heard" (defScope s__law_heard) g cdg X.A X.stack s H C8.E0).nox) (x := "BellError") (n := "error") (y := "caught") (c := .ref B) (i := 3) (m := 1)
      (tb := fun W D σ H => ∃ Ech : XK, (∀ cls d σ' H', σ'.length = 8 → Ech cls d H' → W cls d σ' H') ∧ σ[0]? = some (some (.ref f)) ∧ H c' = some (CodeO c' q) ∧ tl Ech H (fun v H' => D.nx (σ.set 2 (some v)) H'))
      rfl rfl rfl sc__law_heard.nd rfl ?_ rfl ?_ (by decide) ?_ ⟨rfl, rfl, .inl mB⟩ L2.takes0 (fun W pn xe tk _ => ?_) ?_)
  (pss_cons (ps_if (pt_cmpR op_isN (pv 1) pe_non (nomark _))
  (pss_one ps_never)
  pss_nil)
  (pss_cons (ps_if (pt_val (pe_callB call_isX (by rfl) M.z_isinstance boot_isinstance (pa_cons (pv 1) (pa_cons (pe_glob (v := .ref a_TooMany) (by rfl) g_TooMany rfl) pa_nil))))
  (pss_one ps_never)
  pss_nil)
  (pss_cons (ps_if (pt_val (pe_callB call_isX (by rfl) M.z_isinstance boot_isinstance (pa_cons (pv 1) (pa_cons (pe_glob (v := .ref a_NoName) (by rfl) g_NoName rfl) pa_nil))))
  (pss_one ps_never)
  pss_nil)
  (pss_cons (ps_set (i := 4) sc__law_heard.nd rfl (by first | exact .inl rfl | exact .inr rfl) (pe_lst (pa_cons (pe_tup (pa_cons pe_str (pa_cons (pe_callB call_isX (by rfl) M.z_isinstance boot_isinstance (pa_cons (pv 1) (pa_cons (pe_glob (v := .ref a_BadNumber) (by rfl) g_BadNumber rfl) pa_nil))) pa_nil))) (pa_cons (pe_tup (pa_cons pe_str (pa_cons (pe_callB call_isX (by rfl) M.z_isinstance boot_isinstance (pa_cons (pv 1) (pa_cons (pe_glob (v := .ref a_BadBits) (by rfl) g_BadBits rfl) pa_nil))) pa_nil))) (pa_cons (pe_tup (pa_cons pe_str (pa_cons (pe_callB call_isX (by rfl) M.z_isinstance boot_isinstance (pa_cons (pv 1) (pa_cons (pe_glob (v := .ref a_BadBook) (by rfl) g_BadBook rfl) pa_nil))) pa_nil))) (pa_cons (pe_tup (pa_cons pe_str (pa_cons (pe_callB call_isX (by rfl) M.z_isinstance boot_isinstance (pa_cons (pv 1) (pa_cons (pe_glob (v := .ref a_BadRow) (by rfl) g_BadRow rfl) pa_nil))) pa_nil))) pa_nil))))))
  (pss_cons (ps_set (i := 4) sc__law_heard.nd rfl (by first | exact .inl rfl | exact .inr rfl) (pe_op op_cat (pv 4) (pe_lst (pa_cons (pe_tup (pa_cons pe_str (pa_cons (pe_callB call_isX (by rfl) M.z_isinstance boot_isinstance (pa_cons (pv 1) (pa_cons (pe_glob (v := .ref a_BadPattern) (by rfl) g_BadPattern rfl) pa_nil))) pa_nil))) (pa_cons (pe_tup (pa_cons pe_str (pa_cons (pe_callB call_isX (by rfl) M.z_isinstance boot_isinstance (pa_cons (pv 1) (pa_cons (pe_glob (v := .ref a_BadPaper) (by rfl) g_BadPaper rfl) pa_nil))) pa_nil))) (pa_cons (pe_tup (pa_cons pe_str (pa_cons (pe_callB call_isX (by rfl) M.z_isinstance boot_isinstance (pa_cons (pv 1) (pa_cons (pe_glob (v := .ref a_Misfit) (by rfl) g_Misfit rfl) pa_nil))) pa_nil))) pa_nil))))))
  (pss_cons (ps_setLc (i := 5) (own := [(("word" : Str), 6), (("is_one" : Str), 7)]) rfl sc__law_heard.nd rfl rfl rfl (pi_list (pv 4)) (blkOk_by (own := [(("word" : Str), 6), (("is_one" : Str), 7)]) (N := [("ask" : Str), ("caught" : Str), ("told" : Str), ("error" : Str), ("some" : Str), ("words" : Str), ("word" : Str), ("is_one" : Str)]) (sc := defScope s__law_heard) (by decide +kernel)) (fun _ _ _ _ _ => (pg_tupK (n := 2) rfl (pgs_cons (pg_name (i := 6) sc__law_heard.nd rfl (by first | exact .inl rfl | exact .inr rfl)) (pgs_cons (pg_name (i := 7) sc__law_heard.nd rfl (by first | exact .inl rfl | exact .inr rfl)) pgs_nil)))) (fun _ _ _ _ _ => (pts_one (pt_val (pv 7)))) (fun _ _ _ _ _ => (pv 6)))
  (pss_one (ps_ret (pe_ifExp (pt_cmpR op_eq (pe_callB call_len_seq (by rfl) M.z_len PySem.boot_len (pa_cons (pv 5) pa_nil)) pe_int (nomark _)) (pe_tup (pa_cons (pe_ix ix_list (pv 5) pe_int (fun _ _ => rfl)) (pa_cons (pe_xk (pv 1)) pa_nil))) (pe_tup (pa_cons pe_str pa_nil))))))))))))), ?_⟩
  · rfl
  · rfl
  · rfl
  · refine ⟨fun pins s' σ H' D I h' => ?_⟩
    obtain ⟨Ech, hW, h1, h2, h3⟩ := h'
    exact (pss_one (ps_set (i := 2) sc__law_heard.nd rfl (.inl rfl) (act _ pn xe Ech _ _ (takes_len tk) (fun cls d σ' H' e l => hW cls d σ' H' l e)))).run pins s' σ H' D I ⟨h1, h2, h3⟩
  · intro a pn
    exact ps_set (i := 1) sc__law_heard.nd rfl (.inl rfl) (pv 3)
  · refine ⟨szL (by show 2 ≤ 1000; decide), fun p0 hp0 => ⟨p0, [.non, .non], rfl, SqT.of upd_same, rfl, _, _, rfl, _, _, rfl, rfl, ?_⟩⟩
    have s0 : Same H (upd H p0 (.tup [.non, .non])) := same_new hp0
    refine ⟨_, fun cls d σ' H' hl h1 => ?_, rfl, s0 _ _ hc, h _ _ s0⟩
    obtain ⟨rfl, dd, rfl, hd, k⟩ := h1
    obtain ⟨x0, x1, x2, x3, x4, x5, x6, x7, rfl⟩ := len8 hl
    refine ⟨true, eB, fun _ e he0 => ?_, fun z => nomatch z⟩
    have sE : Same H' (upd H' e (exc (.ref D) (some dd) e)) := same_new he0
    have he : (upd H' e (exc (.ref D) (some dd) e)) e = some (exc (.ref D) (some dd) e) := upd_same
    have hd := sE _ _ hd
    show tSeq _ _ _ _ (upd H' e (exc (.ref D) (some dd) e))
    revert sE he hd
    generalize upd H' e (exc (.ref D) (some dd) e) = H1
    intro sE he hd
    clear he0
    refine ⟨_, rfl, rfl, _, rfl, iteF ?_⟩
    refine ⟨_, rfl, e, dd, D, _, _, _, _, rfl, fun u r => r, he, hd, hE.ex, e_TooMany, _, rfl, iteF ?_⟩
    refine ⟨_, rfl, e, dd, D, _, _, _, _, rfl, fun u r => r, he, hd, hE.ex, e_NoName, _, rfl, iteF ?_⟩
    refine ⟨_, rfl, e, dd, D, _, _, _, _, rfl, fun u r => r, he, hd, hE.ex, e_BadNumber, szL (by show 2 ≤ 1000; decide), fun p1 h_p1 => ?_⟩
    have s1 : Same H1 (upd H1 p1 (.tup [.str "number", .bl bN])) := same_new h_p1
    have t_p1 : (upd H1 p1 (.tup [.str "number", .bl bN])) p1 = some (.tup [.str "number", .bl bN]) := upd_same
    replace he := s1 _ _ he
    replace hd := s1 _ _ hd
    replace sE : Same H' (upd H1 p1 (.tup [.str "number", .bl bN])) := sE.trans s1
    clear s1 h_p1
    revert sE he hd t_p1 
    generalize upd H1 p1 (.tup [.str "number", .bl bN]) = H2
    intro t_p1 he hd sE
    refine ⟨_, rfl, e, dd, D, _, _, _, _, rfl, fun u r => r, he, hd, hE.ex, e_BadBits, szL (by show 2 ≤ 1000; decide), fun p2 h_p2 => ?_⟩
    have s1 : Same H2 (upd H2 p2 (.tup [.str "bits", .bl false])) := same_new h_p2
    have t_p2 : (upd H2 p2 (.tup [.str "bits", .bl false])) p2 = some (.tup [.str "bits", .bl false]) := upd_same
    replace he := s1 _ _ he
    replace hd := s1 _ _ hd
    replace t_p1 := s1 _ _ t_p1
    replace sE : Same H' (upd H2 p2 (.tup [.str "bits", .bl false])) := sE.trans s1
    clear s1 h_p2
    revert sE he hd t_p2 t_p1
    generalize upd H2 p2 (.tup [.str "bits", .bl false]) = H3
    intro t_p2 he hd t_p1 sE
    refine ⟨_, rfl, e, dd, D, _, _, _, _, rfl, fun u r => r, he, hd, hE.ex, e_BadBook, szL (by show 2 ≤ 1000; decide), fun p3 h_p3 => ?_⟩
    have s1 : Same H3 (upd H3 p3 (.tup [.str "book", .bl false])) := same_new h_p3
    have t_p3 : (upd H3 p3 (.tup [.str "book", .bl false])) p3 = some (.tup [.str "book", .bl false]) := upd_same
    replace he := s1 _ _ he
    replace hd := s1 _ _ hd
    replace t_p1 := s1 _ _ t_p1
    replace t_p2 := s1 _ _ t_p2
    replace sE : Same H' (upd H3 p3 (.tup [.str "book", .bl false])) := sE.trans s1
    clear s1 h_p3
    revert sE he hd t_p3 t_p1 t_p2
    generalize upd H3 p3 (.tup [.str "book", .bl false]) = H4
    intro t_p3 he hd t_p1 t_p2 sE
    refine ⟨_, rfl, e, dd, D, _, _, _, _, rfl, fun u r => r, he, hd, hE.ex, e_BadRow, szL (by show 2 ≤ 1000; decide), fun p4 h_p4 => ?_⟩
    have s1 : Same H4 (upd H4 p4 (.tup [.str "row", .bl bR])) := same_new h_p4
    have t_p4 : (upd H4 p4 (.tup [.str "row", .bl bR])) p4 = some (.tup [.str "row", .bl bR]) := upd_same
    replace he := s1 _ _ he
    replace hd := s1 _ _ hd
    replace t_p1 := s1 _ _ t_p1
    replace t_p2 := s1 _ _ t_p2
    replace t_p3 := s1 _ _ t_p3
    replace sE : Same H' (upd H4 p4 (.tup [.str "row", .bl bR])) := sE.trans s1
    clear s1 h_p4
    revert sE he hd t_p4 t_p1 t_p2 t_p3
    generalize upd H4 p4 (.tup [.str "row", .bl bR]) = H5
    intro t_p4 he hd t_p1 t_p2 t_p3 sE
    refine ⟨szL (by show 4 ≤ 1000; decide), fun l1 h_l1 => ?_⟩
    have s1 : Same H5 (upd H5 l1 (.lst [.ref p1, .ref p2, .ref p3, .ref p4])) := same_new h_l1
    have t_l1 : (upd H5 l1 (.lst [.ref p1, .ref p2, .ref p3, .ref p4])) l1 = some (.lst [.ref p1, .ref p2, .ref p3, .ref p4]) := upd_same
    replace he := s1 _ _ he
    replace hd := s1 _ _ hd
    replace t_p1 := s1 _ _ t_p1
    replace t_p2 := s1 _ _ t_p2
    replace t_p3 := s1 _ _ t_p3
    replace t_p4 := s1 _ _ t_p4
    replace sE : Same H' (upd H5 l1 (.lst [.ref p1, .ref p2, .ref p3, .ref p4])) := sE.trans s1
    clear s1 h_l1
    revert sE he hd t_l1 t_p1 t_p2 t_p3 t_p4
    generalize upd H5 l1 (.lst [.ref p1, .ref p2, .ref p3, .ref p4]) = H6
    intro t_l1 he hd t_p1 t_p2 t_p3 t_p4 sE
    refine ⟨_, rfl, ?_⟩
    refine ⟨_, rfl, e, dd, D, _, _, _, _, rfl, fun u r => r, he, hd, hE.ex, e_BadPattern, szL (by show 2 ≤ 1000; decide), fun p5 h_p5 => ?_⟩
    have s1 : Same H6 (upd H6 p5 (.tup [.str "pattern", .bl false])) := same_new h_p5
    have t_p5 : (upd H6 p5 (.tup [.str "pattern", .bl false])) p5 = some (.tup [.str "pattern", .bl false]) := upd_same
    replace he := s1 _ _ he
    replace hd := s1 _ _ hd
    replace t_p1 := s1 _ _ t_p1
    replace t_p2 := s1 _ _ t_p2
    replace t_p3 := s1 _ _ t_p3
    replace t_p4 := s1 _ _ t_p4
    replace t_l1 := s1 _ _ t_l1
    replace sE : Same H' (upd H6 p5 (.tup [.str "pattern", .bl false])) := sE.trans s1
    clear s1 h_p5
    revert sE he hd t_p5 t_p1 t_p2 t_p3 t_p4 t_l1
    generalize upd H6 p5 (.tup [.str "pattern", .bl false]) = H7
    intro t_p5 he hd t_p1 t_p2 t_p3 t_p4 t_l1 sE
    refine ⟨_, rfl, e, dd, D, _, _, _, _, rfl, fun u r => r, he, hd, hE.ex, e_BadPaper, szL (by show 2 ≤ 1000; decide), fun p6 h_p6 => ?_⟩
    have s1 : Same H7 (upd H7 p6 (.tup [.str "paper", .bl false])) := same_new h_p6
    have t_p6 : (upd H7 p6 (.tup [.str "paper", .bl false])) p6 = some (.tup [.str "paper", .bl false]) := upd_same
    replace he := s1 _ _ he
    replace hd := s1 _ _ hd
    replace t_p1 := s1 _ _ t_p1
    replace t_p2 := s1 _ _ t_p2
    replace t_p3 := s1 _ _ t_p3
    replace t_p4 := s1 _ _ t_p4
    replace t_l1 := s1 _ _ t_l1
    replace t_p5 := s1 _ _ t_p5
    replace sE : Same H' (upd H7 p6 (.tup [.str "paper", .bl false])) := sE.trans s1
    clear s1 h_p6
    revert sE he hd t_p6 t_p1 t_p2 t_p3 t_p4 t_l1 t_p5
    generalize upd H7 p6 (.tup [.str "paper", .bl false]) = H8
    intro t_p6 he hd t_p1 t_p2 t_p3 t_p4 t_l1 t_p5 sE
    refine ⟨_, rfl, e, dd, D, _, _, _, _, rfl, fun u r => r, he, hd, hE.ex, e_Misfit, szL (by show 2 ≤ 1000; decide), fun p7 h_p7 => ?_⟩
    have s1 : Same H8 (upd H8 p7 (.tup [.str "misfit", .bl false])) := same_new h_p7
    have t_p7 : (upd H8 p7 (.tup [.str "misfit", .bl false])) p7 = some (.tup [.str "misfit", .bl false]) := upd_same
    replace he := s1 _ _ he
    replace hd := s1 _ _ hd
    replace t_p1 := s1 _ _ t_p1
    replace t_p2 := s1 _ _ t_p2
    replace t_p3 := s1 _ _ t_p3
    replace t_p4 := s1 _ _ t_p4
    replace t_l1 := s1 _ _ t_l1
    replace t_p5 := s1 _ _ t_p5
    replace t_p6 := s1 _ _ t_p6
    replace sE : Same H' (upd H8 p7 (.tup [.str "misfit", .bl false])) := sE.trans s1
    clear s1 h_p7
    revert sE he hd t_p7 t_p1 t_p2 t_p3 t_p4 t_l1 t_p5 t_p6
    generalize upd H8 p7 (.tup [.str "misfit", .bl false]) = H9
    intro t_p7 he hd t_p1 t_p2 t_p3 t_p4 t_l1 t_p5 t_p6 sE
    refine ⟨szL (by show 3 ≤ 1000; decide), fun l2 h_l2 => ?_⟩
    have s1 : Same H9 (upd H9 l2 (.lst [.ref p5, .ref p6, .ref p7])) := same_new h_l2
    have t_l2 : (upd H9 l2 (.lst [.ref p5, .ref p6, .ref p7])) l2 = some (.lst [.ref p5, .ref p6, .ref p7]) := upd_same
    replace he := s1 _ _ he
    replace hd := s1 _ _ hd
    replace t_p1 := s1 _ _ t_p1
    replace t_p2 := s1 _ _ t_p2
    replace t_p3 := s1 _ _ t_p3
    replace t_p4 := s1 _ _ t_p4
    replace t_l1 := s1 _ _ t_l1
    replace t_p5 := s1 _ _ t_p5
    replace t_p6 := s1 _ _ t_p6
    replace t_p7 := s1 _ _ t_p7
    replace sE : Same H' (upd H9 l2 (.lst [.ref p5, .ref p6, .ref p7])) := sE.trans s1
    clear s1 h_l2
    revert sE he hd t_l2 t_p1 t_p2 t_p3 t_p4 t_l1 t_p5 t_p6 t_p7
    generalize upd H9 l2 (.lst [.ref p5, .ref p6, .ref p7]) = H10
    intro t_l2 he hd t_p1 t_p2 t_p3 t_p4 t_l1 t_p5 t_p6 t_p7 sE
    refine ⟨l1, l2, _, _, rfl, rfl, t_l1, t_l2, szL (by show 4 + 3 ≤ 1000; decide), fun l3 h_l3 => ?_⟩
    have s1 : Same H10 (upd H10 l3 (.lst ([.ref p1, .ref p2, .ref p3, .ref p4] ++ [.ref p5, .ref p6, .ref p7]))) := same_new h_l3
    have t_l3 : (upd H10 l3 (.lst ([.ref p1, .ref p2, .ref p3, .ref p4] ++ [.ref p5, .ref p6, .ref p7]))) l3 = some (.lst ([.ref p1, .ref p2, .ref p3, .ref p4] ++ [.ref p5, .ref p6, .ref p7])) := upd_same
    replace he := s1 _ _ he
    replace hd := s1 _ _ hd
    replace t_p1 := s1 _ _ t_p1
    replace t_p2 := s1 _ _ t_p2
    replace t_p3 := s1 _ _ t_p3
    replace t_p4 := s1 _ _ t_p4
    replace t_l1 := s1 _ _ t_l1
    replace t_p5 := s1 _ _ t_p5
    replace t_p6 := s1 _ _ t_p6
    replace t_p7 := s1 _ _ t_p7
    replace t_l2 := s1 _ _ t_l2
    replace sE : Same H' (upd H10 l3 (.lst ([.ref p1, .ref p2, .ref p3, .ref p4] ++ [.ref p5, .ref p6, .ref p7]))) := sE.trans s1
    clear s1 h_l3
    revert sE he hd t_l3 t_p1 t_p2 t_p3 t_p4 t_l1 t_p5 t_p6 t_p7 t_l2
    generalize upd H10 l3 (.lst ([.ref p1, .ref p2, .ref p3, .ref p4] ++ [.ref p5, .ref p6, .ref p7])) = H11
    intro t_l3 he hd t_p1 t_p2 t_p3 t_p4 t_l1 t_p5 t_p6 t_p7 t_l2 sE
    have hall : AllAt (PairW H11) ([.ref p1, .ref p2, .ref p3, .ref p4] ++ [.ref p5, .ref p6, .ref p7]) [(("number" : Str), bN), (("bits" : Str), false), (("book" : Str), false), (("row" : Str), bR), (("pattern" : Str), false), (("paper" : Str), false), (("misfit" : Str), false)] := .cons ⟨p1, rfl, t_p1⟩ (.cons ⟨p2, rfl, t_p2⟩ (.cons ⟨p3, rfl, t_p3⟩ (.cons ⟨p4, rfl, t_p4⟩ (.cons ⟨p5, rfl, t_p5⟩ (.cons ⟨p6, rfl, t_p6⟩ (.cons ⟨p7, rfl, t_p7⟩ .nil))))))
    have hfil : (([(("number" : Str), bN), (("bits" : Str), false), (("book" : Str), false), (("row" : Str), bR), (("pattern" : Str), false), (("paper" : Str), false), (("misfit" : Str), false)] : List (Str × Bool)).filter (·.2)).map (fun p => V.str p.1) = [.str (wordOf bN)] := by
      subst hb
      cases bN <;> rfl
    have hxl : ([.ref p1, .ref p2, .ref p3, .ref p4] ++ [.ref p5, .ref p6, .ref p7] : List V).length = 7 := rfl
    generalize ([.ref p1, .ref p2, .ref p3, .ref p4] ++ [.ref p5, .ref p6, .ref p7] : List V) = xs at t_l3 hall hxl
    generalize ([(("number" : Str), bN), (("bits" : Str), false), (("book" : Str), false), (("row" : Str), bR), (("pattern" : Str), false), (("paper" : Str), false), (("misfit" : Str), false)] : List (Str × Bool)) = its at hall hfil
    refine ⟨_, rfl, l3, rfl, ⟨_, SqL.of t_l3⟩, fun B hB => lc_it (walk_list (xs := xs)) (fun i HX => Same H11 HX ∧ HX B = some (.lst (((its.take i).filter (·.2)).map fun p => V.str p.1))) ⟨same_new hB, upd_same⟩ (fun i HX _ q => q.1.seq (SqL.of t_l3)) (fun i x HX HY hi q y => ?_) fun HX q => ?_⟩
    · obtain ⟨q1, q2⟩ := q
      obtain ⟨rfl, hxi⟩ := y
      obtain ⟨pr, epr, hp⟩ := hall.2 i x hxi
      obtain ⟨t, rfl, ht⟩ := hp.same q1
      have hti := take_more epr
      refine ⟨t, _, rfl, SqT.of ht, rfl, _, _, rfl, _, _, rfl, rfl, rfl, _, rfl, _, rfl, ite2 (fun c => ?_) (fun c => ?_)⟩
      · refine ⟨_, rfl, _, q2, ?_, ?_, ?_⟩
        · refine Nat.lt_of_le_of_lt ?_ (small1000 (show 7 ≤ 1000 by decide))
          rw [List.length_map]
          refine Nat.le_trans (List.length_filter_le _ _) (Nat.le_trans (List.length_take_le' _ _) ?_)
          rw [← hall.1, hxl]
          exact Nat.le_refl _
        · exact fun b o eb => by
            rw [upd_ne (ne_of_none eb hB)]
            exact q1 b o eb
        · rw [upd_same, hti, List.filter_append, List.map_append, List.filter_cons, if_pos c]
          rfl
      · refine ⟨q1, ?_⟩
        rw [q2, hti, List.filter_append, List.filter_cons, if_neg c]
        simp
    · obtain ⟨q1, q2⟩ := q
      rw [hall.1, List.take_length, hfil] at q2
      have hd := q1 _ _ hd
      have he := q1 _ _ he
      refine ⟨_, rfl, B, _, rfl, .inl (SqL.of q2), rfl, _, rfl, iteT ?_⟩
      refine ⟨_, rfl, B, _, 0, _, rfl, rfl, SqL.of q2, rfl, _, rfl, e, dd, D, _, .str z, rfl, he, hd, hE.xf, hE.nop, ?_, szL (by show 2 ≤ 1000; decide), fun r hr => ?_⟩
      · simp [List.lookup]
      · exact k _ r (sE.trans (q1.trans (same_new hr))) upd_same
end
end W49
end
section
/-! k49: facts for the law's own body. -/
namespace W49
open PySem PySem.Spec PyProof.Rows L2
/-! ### few marks -/
theorem few_of {us vs : List (Int × Int)} {top low : Int} {high : Option Int} (hu : ∀ p ∈ us, p.2 = 0) (hv : vs.length ≤ 5) (hb : ∀ p ∈ vs, p.2.natAbs < 1073741824) : FewMarks (us ++ vs) top low high := by
  refine ⟨0 :: (top + 1) :: vs.flatMap (fun p => match K49.tw p.1 p.2 top low high with | none => [] | some (f, l) => [f, l + 1]), ?_, List.mem_cons_self, fun p hp => ⟨?_, fun f l e => ?_⟩⟩
  · have h : ∀ vs : List (Int × Int), (vs.flatMap (fun p => match K49.tw p.1 p.2 top low high with | none => ([] : List Int) | some (f, l) => [f, l + 1])).length ≤ 2 * vs.length := fun vs => by
      induction vs with
      | nil => exact Nat.le_refl _
      | cons x r ih =>
        rw [List.flatMap_cons, List.length_append, List.length_cons]
        have a : (match K49.tw x.1 x.2 top low high with | none => ([] : List Int) | some (f, l) => [f, l + 1]).length ≤ 2 := by
          cases K49.tw x.1 x.2 top low high with
          | none => exact Nat.zero_le _
          | some q => exact Nat.le_refl _
        omega
    have := h vs
    rw [List.length_cons, List.length_cons]
    omega
  · rcases List.mem_append.mp hp with h | h
    · rw [hu p h]
      decide
    · exact hb p h
  · rcases List.mem_append.mp hp with h | h
    · have e0 := hu p h
      unfold K49.tw at e
      rw [if_pos e0] at e
      split at e
      · cases e
        exact ⟨List.mem_cons_self, List.mem_cons_of_mem _ List.mem_cons_self⟩
      · cases e
    · have key : ∀ x, x = f ∨ x = l + 1 → x ∈ vs.flatMap (fun p => match K49.tw p.1 p.2 top low high with | none => ([] : List Int) | some (f, l) => [f, l + 1]) := fun x hx => List.mem_flatMap.mpr ⟨p, h, by
        rw [e]
        rcases hx with z | z <;> simp [z]⟩
      exact ⟨List.mem_cons_of_mem _ (List.mem_cons_of_mem _ (key f (.inl rfl))), List.mem_cons_of_mem _ (List.mem_cons_of_mem _ (key (l + 1) (.inr rfl)))⟩
theorem lineV_rev (low : Int) (high : Option Int) (ls : List (Int × Int)) : lineV low high ls.reverse = lineV low high ls := by
  funext t
  unfold lineV verdS K49.verd
  rw [List.map_reverse, List.all_reverse, List.any_reverse]
/-! ### runs: where they lie -/
theorem runs_in {f : Int → Str} : ∀ {rows : List Row} {a e : Int} {p : Option Str}, K49.isRuns f a p rows e → ∀ r ∈ rows, a ≤ r.1 ∧ r.1 ≤ r.2.1 ∧ r.2.1 < e
  | [], _, _, _, _, r, hr => absurd hr (by simp)
  | (x, y, v) :: rows, a, e, p, h, r, hr => by
    obtain ⟨h0, h1, _, _, h2⟩ := h
    have z := K49.isRuns.le h2
    rcases List.mem_cons.mp hr with q | q
    · subst q
      exact ⟨by show a ≤ x; omega, by show x ≤ y; omega, by show y < e; omega⟩
    · have := runs_in h2 r q
      omega
/-! ### rows shown -/
def shortR (r : Row) : Prop := r.1.natAbs < 10 ^ 12 ∧ r.2.1.natAbs < 10 ^ 12 ∧ okW r.2.2
theorem short_log {i : Int} (h : i.natAbs < 10 ^ 12) : i.natAbs.log2 < 40 := by
  by_cases z : i.natAbs = 0
  · rw [z]
    decide
  · exact (Nat.log2_lt z).mpr (Nat.lt_of_lt_of_le h (by decide))
theorem short_w {i : Int} (h : i.natAbs < 10 ^ 12) : PyData.weight (.int i) ≤ 40 := by
  have := short_log h
  simp only [PyData.weight]
  split <;> omega
theorem okW_size {s : Str} (h : okW s) : s.cps.size ≤ 5 := by
  rcases h with rfl | rfl | rfl <;> decide
theorem rows_w : ∀ {rows : List Row}, (∀ r ∈ rows, shortR r) → PyData.weightAll (rows.map rowD) ≤ 100 * rows.length ∧ PyData.intsShortAll 13 (rows.map rowD) = true ∧ PyData.showableAll (rows.map rowD) = true ∧ PyData.hasDictAll (rows.map rowD) = false
  | [], _ => ⟨by simp [PyData.weightAll], by simp [PyData.intsShortAll], by simp [PyData.showableAll], by simp [PyData.hasDictAll]⟩
  | r :: rows, h => by
    obtain ⟨a, b, c, d⟩ := rows_w (rows := rows) fun x hx => h x (List.mem_cons_of_mem _ hx)
    obtain ⟨h1, h2, h3⟩ := h r List.mem_cons_self
    have w1 := short_w h1
    have w2 := short_w h2
    have w3 := okW_size h3
    have l1 := short_log h1
    have l2 := short_log h2
    have s1 := PyData.shown_int_le h1
    have s2 := PyData.shown_int_le h2
    refine ⟨?_, ?_, ?_, ?_⟩
    · have e : PyData.weight (rowD r) ≤ 90 := by
        unfold rowD
        simp only [PyData.weight, PyData.weightAll] at w1 w2 ⊢
        omega
      simp only [List.map_cons, PyData.weightAll, List.length_cons]
      omega
    · simp only [List.map_cons, PyData.intsShortAll, rowD, PyData.intsShort, Bool.and_eq_true, decide_eq_true_eq]
      exact ⟨⟨s1, s2, True.intro, True.intro⟩, b⟩
    · simp only [List.map_cons, PyData.showableAll, rowD, PyData.showable, Bool.and_eq_true, decide_eq_true_eq]
      exact ⟨⟨by omega, by omega, True.intro, True.intro⟩, c⟩
    · simp only [List.map_cons, PyData.hasDictAll, rowD, PyData.hasDict, d, Bool.or_false]
theorem rows_show {rows : List Row} (h : ∀ r ∈ rows, shortR r) (hl : rows.length ≤ 60) : (PyData.tuple (rows.map rowD)).showable = true ∧ (PyData.tuple (rows.map rowD)).hasDict = false ∧ (PyData.tuple (rows.map rowD)).depth ≤ 20 ∧ (PyData.tuple (rows.map rowD)).shown.length ≤ sizeLine := by
  obtain ⟨a, b, c, d⟩ := rows_w h
  obtain ⟨e, f⟩ := rows_lay fun r hr => (h r hr).2.2
  refine ⟨by simp only [PyData.showable]; exact c, by simp only [PyData.hasDict]; exact d, by simp only [PyData.depth]; omega, PyData.shown_fits_of_layable0 (B := 13) (by decide) (by decide) ?_ (by simp only [PyData.intsShort]; exact b)⟩
  unfold PyData.layable0
  simp only [Bool.and_eq_true, decide_eq_true_eq]
  refine ⟨⟨by simp only [PyData.canLay0]; exact e, by simp only [PyData.depth]; omega⟩, ?_⟩
  simp only [PyData.weight]
  omega
theorem eqv_tup {rows : List Row} : PyData.eqv (.tuple (rows.map rowD)) (.tuple (rows.map rowD)) = true := by
  simp only [PyData.eqv]
  exact eqv_rows
/-! ### a call by names alone -/
section
variable {X : Cx} {CX : CXT} {k : Nat} {f : Addr} {fd : FuncData} {ps ks : List Str} {sp : Sp} {E : XK} {x : Str} {p pos : Pos} {kws : List Keyword} {tk : TA} {g : List Value → List Value → List Value} {gV : List V → List V → List V}
theorem pe_callK0 (F : FnOk X.prog X.w X.K X.mg X.base CX k f fd ps sp) (hr : Room k X.A) (hg : Gl X x) (hm : X.mg x = some (.ref f)) (hk : PySem.W.keepIn X.K (.ref f) = true) (hb : KBinds X.K fd ps ks g gV) (hx : Passes CX X E)
    (hkw : PK X kws tk) (hall : (backToKw pos (keywordEach kws X.env)).all (·.1.isSome) = true := by rfl) (hks : (backToKw pos (keywordEach kws X.env)).filterMap (·.1) = ks := by rfl)
    (hdb : (x == ("__debug__" : Str)) = false := by decide)
    (hpl : ((backTo pos (starEach [] X.env)).any (·.1) || (backToKw pos (keywordEach kws X.env)).any (·.1.isNone)) = false := by rfl) :
    PE X (.Call (.Name x p) [] kws pos) (tCallK sp gV E tNil tk) := by
  refine ⟨fun pins s σ H Q I h => ?_⟩
  refine wpAny_Call_Name_kw (ld_glob I hg hm ?_ hdb)
  refine PySem.W.callWith_KW0 (h₀ := X.base) I.ok.mod.kin hk hall (thn (hkw.run pos pins s σ H _ I h) fun ws s2 ⟨zs, H2, I2, rz, q2⟩ => ⟨I2.kIn, ?_⟩) hpl
  rw [hks]
  exact run_fnk (us := []) (vs := []) F hr hb hx I2 .nil rz q2
end
def gK {α : Type} : List α → List α → List α
  | [], [h, l, t, x] => [x, t, l, h]
  | _, _ => []
section
variable {P : Program} {w : World} {K : PySem.W.Frag} {mg : Str → Option Value} {base : Heap}
theorem kb_verdicts {f : Addr} {fd : FuncData} (F : Fun K "verdicts" "verdicts" s_verdicts f fd) : KBinds K fd ["lines", "top", "low", "high"] ["high", "low", "top", "lines"] gK gK := by
  obtain ⟨oc, od, kV, doc, pm, an, cdv, ct, osl, rfl, lk, hcd⟩ := F.ex
  refine ⟨fun s us ws _ hl => ?_, fun {vs us zs ws} r rz => ?_⟩
  · match us, ws, hl with
    | [], [h, l, t, x], _ => exact BindsTo.of_eq rfl
  · cases r with
    | nil =>
      cases rz with
      | nil => exact .nil
      | cons a r1 =>
        cases r1 with
        | nil => exact .nil
        | cons b r2 =>
          cases r2 with
          | nil => exact .nil
          | cons c r3 =>
            cases r3 with
            | nil => exact .nil
            | cons d r4 =>
              cases r4 with
              | nil => exact .cons d (.cons c (.cons b (.cons a .nil)))
              | cons e r5 => exact .nil
    | cons a r1 => exact .nil
end
end W49
end
section
/-! k49: the law's laps. -/
namespace W49
open PySem PySem.Spec PyProof.Rows L2 LamX
/-! ### statements by what they leave -/
def HT1 {ι : Type} (X : Cx) (st : Stmt) (Pre Post : ι → L2.St → Hp → Prop) : Prop := ∃ t, PS X st t ∧ ∀ (j : ι) (D : Ends) (σ : L2.St) (H : Hp), Pre j σ H → (∀ σ' H', Post j σ' H' → D.nx σ' H') → t D σ H
def HTs {ι : Type} (X : Cx) (ss : List Stmt) (Pre Post : ι → L2.St → Hp → Prop) : Prop := ∃ t, PSs X ss t ∧ ∀ (j : ι) (D : Ends) (σ : L2.St) (H : Hp), Pre j σ H → (∀ σ' H', Post j σ' H' → D.nx σ' H') → t D σ H
structure Jx where
  a : Addr
  p : Addr
  c : Addr
  i : Nat
  n : Nat
  hn : n ≤ 9000
theorem HTs.cons {X : Cx} {st : Stmt} {rest : List Stmt} {ι : Type} {Pre Mid Post : ι → L2.St → Hp → Prop} (h1 : HT1 X st Pre Mid) (h2 : HTs X rest Mid Post) : HTs X (st :: rest) Pre Post := by
  obtain ⟨t, p, r⟩ := h1
  obtain ⟨u, p2, r2⟩ := h2
  exact ⟨_, pss_cons p p2, fun j D σ H hp hn => r j _ σ H hp fun σ' H' hm => r2 j D σ' H' hm hn⟩
theorem HTs.one {X : Cx} {st : Stmt} {ι : Type} {Pre Post : ι → L2.St → Hp → Prop} (h1 : HT1 X st Pre Post) : HTs X [st] Pre Post := by
  obtain ⟨t, p, r⟩ := h1
  exact ⟨_, pss_one p, r⟩
abbrev s_law : Stmt := topS 33
theorem sc_law : FnScope ["script", "pen", "lap", "lines", "far_t", "low", "high", "due", "t", "its", "told", "size", "ahead", "row", "heard", "bad", "far", "near", "none", "turn", "at", "a", "b", "line"] ["script"] (defScope s_law) := ⟨rfl, rfl, rfl, by decide +kernel, rfl, by decide +kernel, by decide +kernel⟩
abbrev NL : List Str := ["script", "pen", "lap", "lines", "far_t", "low", "high", "due", "t", "its", "told", "size", "ahead", "row", "heard", "bad", "far", "near", "none", "turn", "at", "a", "b", "line"]
abbrev pS : Stmt := .Pass ⟨0, 0, 0, 0⟩
def forBody : Stmt → List Stmt
  | .For _ _ b _ _ => b
  | _ => []
abbrev lawS (i : Nat) : Stmt := (defBody s_law).getD i pS
abbrev lapS (i : Nat) : Stmt := (forBody (lawS 1)).getD i pS
abbrev LX (P : Program) (w : World) (K : PySem.W.Frag) (mg : Str → Option Value) (base : Heap) (f : Addr) (cdv : Value) (s : Shared) (H0 : Hp) : Cx := (cxOf C8.CX0 P w K mg base NL "law" (defScope s_law) f cdv callerA [] s H0 C8.E0).nox
structure LF [TbA] (P : Program) (w : World) (K : PySem.W.Frag) (mg : Str → Option Value) (base : Heap) (C CR fv : Addr) (fdv : FuncData) : Prop where
  M : MG mg
  pen : CalX P w K mg base CX0 1 "_law_pen" (spPen K)
  draw : CalX P w K mg base CX0 1 "_law_draw" spDraw
  pick : CalX P w K mg base CX0 2 "_law_pick" (spPick K)
  lver : CalX P w K mg base CX0 1 "_law_verdict" (spLawVerdict K)
  F_v : Fun K "verdicts" "verdicts" s_verdicts fv fdv
  m_v : mg "verdicts" = some (.ref fv)
  G_v : FnOk P w K mg base (L2.CX P w) 6 fv fdv ["lines", "top", "low", "high"] (spVerdicts K CR C)
  cver : CalX P w K mg base (L2.CX P w) 6 "verdicts" (spVerdicts K CR C)
  EHN : EH K mg C true false
  EHR : EH K mg CR false true
abbrev lapSt (a p : Addr) (l2 l3 l4 l5 l6 l7 l8 l9 l10 : Option V) : L2.St := [some (.ref a), some (.ref p), l2, l3, l4, l5, l6, l7, l8, l9, l10, none, none, none, none, none, none, none, none, none, none, none, none, none]
def PairT (H : Hp) (v : V) (l : Int × Int) : Prop := ∃ q, v = .ref q ∧ H q = some (.tup [.int l.1, .int l.2])
theorem PairT.kx {S : List Addr} {H H' : Hp} {v : V} {l : Int × Int} (h : PairT H v l) (k : Kx S H H') (hS : ∀ b ∈ S, ∀ xs, H b ≠ some (.tup xs)) : PairT H' v l := by
  obtain ⟨q, e, z⟩ := h
  exact ⟨q, e, k _ _ (fun y => hS q y _ z) z⟩
theorem PairT.same {H H' : Hp} {v : V} {l : Int × Int} (h : PairT H v l) (s : Same H H') : PairT H' v l := h.kx (S := []) (Kx.of s) (by simp)
theorem PairT.at {K : PySem.W.Frag} {H : Hp} {v : V} {l : Int × Int} (h : PairT H v l) : PairAt K H v l := let ⟨q, e, z⟩ := h; ⟨q, e, .inl (SqT.of z)⟩
def LinesT (H : Hp) (p L : Addr) (ls : List (Int × Int)) : Prop := L ≠ p ∧ ∃ xs, H L = some (.lst xs) ∧ AllAt (PairT H) xs ls
theorem pen_tup [TbA] {H : Hp} {p c : Addr} {n : Nat} (h : Pen H p c n) : ∀ b ∈ [p], ∀ xs, H b ≠ some (.tup xs) := fun b hb xs e => by
  simp at hb
  obtain ⟨_, _, _, h1, _⟩ := h
  rw [hb, h1] at e
  cases e
theorem LinesT.kx [TbA] {H H' : Hp} {p L c : Addr} {n : Nat} {ls : List (Int × Int)} (h : LinesT H p L ls) (hp : Pen H p c n) (k : Kx [p] H H') : LinesT H' p L ls := by
  obtain ⟨ne, xs, e, r⟩ := h
  exact ⟨ne, xs, k _ _ (by simp; exact ne) e, r.imp fun x y z => z.kx k (pen_tup hp)⟩
theorem LinesT.same {H H' : Hp} {p L : Addr} {ls : List (Int × Int)} (h : LinesT H p L ls) (k : Same H H') : LinesT H' p L ls := by
  obtain ⟨ne, xs, e, r⟩ := h
  exact ⟨ne, xs, k _ _ e, r.imp fun x y z => z.same k⟩
theorem all_ex {β : Type} {R : V → β → Prop} : ∀ {ys : List V}, (∀ (i : Nat) (y : V), ys[i]? = some y → ∃ l, R y l) → ∃ ls, AllAt R ys ls
  | [], _ => ⟨[], .nil⟩
  | y :: ys, h => by
    obtain ⟨l, hl⟩ := h 0 y rfl
    obtain ⟨ls, hls⟩ := all_ex (ys := ys) fun i z e => h (i + 1) z (by simpa using e)
    exact ⟨l :: ls, .cons hl hls⟩
theorem AllAt.mem {β : Type} {R : V → β → Prop} : ∀ {ys : List V} {ls : List β}, AllAt R ys ls → ∀ l ∈ ls, ∃ y, R y l
  | ys, [], _, l, hl => absurd hl (by simp)
  | ys, x :: ls, h, l, hl => by
    obtain ⟨y, ys', rfl, r, t⟩ := h.uncons
    rcases List.mem_cons.mp hl with z | z
    · exact ⟨y, by rw [z]; exact r⟩
    · exact t.mem l z
def PairP (p : Addr) (H : Hp) (v : V) (l : Int × Int) : Prop := ∃ q, v = .ref q ∧ q ≠ p ∧ H q = some (.tup [.int l.1, .int l.2])
theorem PairP.kx {p D : Addr} {H H' : Hp} {v : V} {l : Int × Int} (h : PairP p H v l) (eD : ∃ acc, H D = some (.lst acc)) (k : Kx [D, p] H H') : PairP p H' v l := by
  obtain ⟨q, e, n, z⟩ := h
  obtain ⟨acc, eD⟩ := eD
  refine ⟨q, e, n, k _ _ (fun y => ?_) z⟩
  simp at y
  rcases y with y | y
  · rw [y, eD] at z
    cases z
  · exact n y
theorem PairP.t {p : Addr} {H : Hp} {v : V} {l : Int × Int} (h : PairP p H v l) : PairT H v l := let ⟨q, e, _, z⟩ := h; ⟨q, e, z⟩
theorem logS {i : Int} (h0 : 0 < i) (h : i < 10 ^ 100) : i.natAbs.log2 < 9000 := by
  have z : i.natAbs ≠ 0 := by omega
  refine Nat.lt_trans ((Nat.log2_lt z).mpr (?_ : i.natAbs < 2 ^ 400)) (by decide)
  have e : (10 : Int) ^ 100 < ((2 ^ 400 : Nat) : Int) := by decide +kernel
  generalize (2 ^ 400 : Nat) = B at e ⊢
  generalize (10 : Int) ^ 100 = T at e h
  omega
theorem mem_at {xs : List V} {ys : List Int} {y : V} (h : y ∈ xs) (e : xs = ys.map V.int) : ∃ i ∈ ys, y = .int i := by
  rw [e] at h
  obtain ⟨i, hi, rfl⟩ := List.mem_map.mp h
  exact ⟨i, hi, rfl⟩
section
variable [TbA] {P : Program} {w : World} {K : PySem.W.Frag} {mg : Str → Option Value} {base : Heap} {C CR fv f : Addr} {fdv : FuncData} {cdv : Value} {s : Shared} {H0 : Hp}
def Pre0 (a p c : Addr) (i n : Nat) (σ : L2.St) (H : Hp) : Prop := ∃ l3 l4 l5 l6 l7 l8 l9 l10, σ = lapSt a p (some (.int (i : Int))) l3 l4 l5 l6 l7 l8 l9 l10 ∧ Pen H p c n
def Mid1 (a p c : Addr) (i n : Nat) (σ : L2.St) (H : Hp) : Prop := ∃ L ls l4 l5 l6 l7 l8 l9 l10, σ = lapSt a p (some (.int (i : Int))) (some (.ref L)) l4 l5 l6 l7 l8 l9 l10 ∧ Pen H p c (n + 20) ∧ LinesT H p L ls ∧ ls.length ≤ 5 ∧ ls ≠ [] ∧ ∀ l ∈ ls, l.2.natAbs ≤ 7
theorem lap0 (F : LF P w K mg base C CR fv fdv) (hr : Room 10 (callerA.deeper (envOfC "law" (defScope s_law) s.heap.objs.size f cdv))) : HT1 (LX P w K mg base f cdv s H0) (lapS 0) (fun j : Jx => Pre0 j.a j.p j.c j.i j.n) (fun j => Mid1 j.a j.p j.c j.i j.n) := by
  obtain ⟨M, C__law_pen, C__law_draw, C__law_pick, C__law_verdict, F_v, m_v, G_v, C_verdicts, EHN, EHR⟩ := F
  refine ⟨_, (ps_setLc (i := 3) (own := [(("turn" : Str), 19)]) rfl sc_law.nd rfl rfl rfl (pi_range1 (by rfl) M.z_range (pa_cons (pe_op op_add pe_int (pe_cx C__law_draw hr (by decide) (by rfl) pass0 (pa_cons (pv 1) (pa_cons pe_int pa_nil)))) pa_nil)) (blkOk_by (own := [(("turn" : Str), 19)]) (N := [("script" : Str), ("pen" : Str), ("lap" : Str), ("lines" : Str), ("far_t" : Str), ("low" : Str), ("high" : Str), ("due" : Str), ("t" : Str), ("its" : Str), ("told" : Str), ("size" : Str), ("ahead" : Str), ("row" : Str), ("heard" : Str), ("bad" : Str), ("far" : Str), ("near" : Str), ("none" : Str), ("turn" : Str), ("at" : Str), ("a" : Str), ("b" : Str), ("line" : Str)]) (sc := defScope s_law) (by decide +kernel)) (fun _ _ _ _ _ => (pg_name (i := 19) sc_law.nd rfl (by first | exact .inl rfl | exact .inr rfl))) (fun _ _ _ _ _ => pts_nil) (fun _ _ _ _ _ => (pe_tup (pa_cons (pe_op op_sub (pe_cx C__law_draw hr (by decide) (by rfl) pass0 (pa_cons (pv 1) (pa_cons pe_int pa_nil))) pe_int) (pa_cons (pe_cx C__law_pick hr (by decide) (by rfl) pass0 (pa_cons (pv 1) (pa_cons (pe_lst (pa_cons pe_int (pa_cons pe_int (pa_cons pe_int (pa_cons (pe_un un_neg pe_int) (pa_cons pe_int (pa_cons (pe_un un_neg pe_int) (pa_cons pe_int pa_nil)))))))) pa_nil))) pa_nil))))), fun j D σ H h k => ?_⟩
  obtain ⟨a, p, c, i, n, hn⟩ := j
  have h : Pre0 a p c i n σ H := h
  have k : ∀ σ' H', Mid1 a p c i n σ' H' → D.nx σ' H' := k
  obtain ⟨l3, l4, l5, l6, l7, l8, l9, l10, rfl, pen⟩ := h
  refine ⟨_, rfl, p, c, 5, n, rfl, by decide, logS (by decide) (by decide +kernel), by omega, pen, fun H1 r k1 pen1 r0 r1 => ⟨_, _, rfl, rfl, _, rfl, by omega, by omega, fun L hL => ?_⟩⟩
  obtain ⟨nLp, nLc⟩ := pen1.ne hL
  refine lcM (walk_range (lo := 0) (n := (1 + r).toNat)) (fun _ _ _ _ y => y) [p] (fun j H => Pen H p c (n + 1 + 2 * j)) (fun (j : Nat) (y : V) (H : Hp) => ∃ l : Int × Int, PairP p H y l ∧ l.2.natAbs ≤ 7) (small1000 (by omega)) hL (by simp; exact nLp) (fun _ _ => True.intro)
    (fun j H acc hp => hp.upd nLp nLc) (fun j y H H' eD kk r => ?_) pen1 (fun j x H2 Ny Nn hj hx k2 pen2 eD fin => ?_) (fun H2 ys k2 pen2 eD hly hr1 => ?_)
  · obtain ⟨l, h1, h2⟩ := r
    exact ⟨l, h1.kx eD kk, h2⟩
  · refine ⟨rfl, yes_go ?_⟩
    refine ⟨_, rfl, p, c, 50, _, rfl, by decide, logS (by decide) (by decide +kernel), by omega, pen2, fun H3 r2 k3 pen3 _ _ => ⟨_, _, rfl, rfl, _, rfl, _, rfl, _, rfl, szL (by show 7 ≤ 1000; decide), fun q hq => ?_⟩⟩
    obtain ⟨nqp, nqc⟩ := pen3.ne hq
    refine ⟨p, c, q, _, _, rfl, SqL.of upd_same, nqp, by simp, by show 7 ≤ 1000; decide, ?_, pen3.upd nqp nqc, fun H4 y k4 pen4 hy => ⟨szL (by show 2 ≤ 1000; decide), fun z hz => ?_⟩⟩
    · omega
    · have k24 : Kx [p] H2 H4 := (k3.trans (Kx.new hq)).trans k4
      obtain ⟨yi, hyi, rfl⟩ := mem_at (ys := [0, 0, 1, -1, 2, -3, 7]) hy rfl
      have hb : yi.natAbs ≤ 7 := by
        simp only [List.mem_cons, List.not_mem_nil, or_false] at hyi
        rcases hyi with rfl | rfl | rfl | rfl | rfl | rfl | rfl <;> decide
      exact fin _ _ (k24.trans (Kx.new hz)) ((pen4.same (same_new hz)).mono (by omega)) ⟨(r2 - 5, yi), ⟨z, rfl, (pen4.ne hz).1, upd_same⟩, hb⟩
  · obtain ⟨ls, hls⟩ := all_ex hr1
    have hlen : ls.length = (1 + r).toNat := by rw [← hls.1]; exact hly
    refine k _ _ ⟨L, ls, l4, l5, l6, l7, l8, l9, l10, rfl, pen2.mono (by omega), ⟨nLp, ys, eD, hls.imp fun y l z => z.1.t⟩, by omega, fun z => ?_, fun l hl => let ⟨y, z⟩ := hls.mem l hl; z.2⟩
    rw [z] at hlen
    simp at hlen
    omega
structure GoodL (i : Nat) (us vs : List (Int × Int)) : Prop where
  z : ∀ l ∈ us, l.2 = 0
  v5 : vs.length ≤ 5
  b7 : ∀ l ∈ vs, l.2.natAbs ≤ 7
  u100 : us.length ≤ 100
  ne : us ++ vs ≠ []
  many : 10 ≤ i → 31 ≤ us.length
def Mid2 (a p c : Addr) (i n : Nat) (σ : L2.St) (H : Hp) : Prop := ∃ L us vs l4 l5 l6 l7 l8 l9 l10, σ = lapSt a p (some (.int (i : Int))) (some (.ref L)) l4 l5 l6 l7 l8 l9 l10 ∧ Pen H p c (n + 30) ∧ LinesT H p L (us ++ vs) ∧ GoodL i us vs
theorem lap1 (F : LF P w K mg base C CR fv fdv) (hr : Room 10 (callerA.deeper (envOfC "law" (defScope s_law) s.heap.objs.size f cdv))) : HT1 (LX P w K mg base f cdv s H0) (lapS 1) (fun j : Jx => Mid1 j.a j.p j.c j.i j.n) (fun j => Mid2 j.a j.p j.c j.i j.n) := by
  obtain ⟨M, C__law_pen, C__law_draw, C__law_pick, C__law_verdict, F_v, m_v, G_v, C_verdicts, EHN, EHR⟩ := F
  refine ⟨_, (ps_if (pt_cmpR op_gt (pv 2) pe_int (nomark _))
  (pss_one (ps_set (i := 3) sc_law.nd rfl (by first | exact .inl rfl | exact .inr rfl) (pe_op op_cat (pe_lc (own := [(("at" : Str), 20)]) rfl sc_law.nd (pi_range1 (by rfl) M.z_range (pa_cons (pe_op op_add pe_int (pe_cx C__law_draw hr (by decide) (by rfl) pass0 (pa_cons (pv 1) (pa_cons pe_int pa_nil)))) pa_nil)) (blkOk_by (own := [(("at" : Str), 20)]) (N := [("script" : Str), ("pen" : Str), ("lap" : Str), ("lines" : Str), ("far_t" : Str), ("low" : Str), ("high" : Str), ("due" : Str), ("t" : Str), ("its" : Str), ("told" : Str), ("size" : Str), ("ahead" : Str), ("row" : Str), ("heard" : Str), ("bad" : Str), ("far" : Str), ("near" : Str), ("none" : Str), ("turn" : Str), ("at" : Str), ("a" : Str), ("b" : Str), ("line" : Str)]) (sc := defScope s_law) (by decide +kernel)) (fun _ _ _ _ _ => (pg_name (i := 20) sc_law.nd rfl (by first | exact .inl rfl | exact .inr rfl))) (fun _ _ _ _ _ => pts_nil) (fun _ _ _ _ _ => (pe_tup (pa_cons (pv 20) (pa_cons pe_int pa_nil))))) (pe_ifExp (pt_cmpR op_eq (pe_cx C__law_draw hr (by decide) (by rfl) pass0 (pa_cons (pv 1) (pa_cons pe_int pa_nil))) pe_int (nomark _)) (pe_lst (pa_cons (pe_tup (pa_cons (pe_op op_add pe_int (pe_cx C__law_draw hr (by decide) (by rfl) pass0 (pa_cons (pv 1) (pa_cons pe_int pa_nil)))) (pa_cons (pe_cx C__law_pick hr (by decide) (by rfl) pass0 (pa_cons (pv 1) (pa_cons (pe_lst (pa_cons pe_int (pa_cons (pe_un un_neg pe_int) (pa_cons pe_int pa_nil)))) pa_nil))) pa_nil))) pa_nil)) (pe_lst pa_nil)))))
  pss_nil), fun j D σ H h k => ?_⟩
  obtain ⟨a, p, c, i, n, hn⟩ := j
  have h : Mid1 a p c i n σ H := h
  have k : ∀ σ' H', Mid2 a p c i n σ' H' → D.nx σ' H' := k
  obtain ⟨L, ls, l4, l5, l6, l7, l8, l9, l10, rfl, pen, hL, h5, hne, h7⟩ := h
  refine ⟨_, rfl, _, _, rfl, rfl, _, rfl, ite2 (fun e => ?_) (fun e => ?_)⟩
  · refine ⟨_, rfl, p, c, 50, _, rfl, by decide, logS (by decide) (by decide +kernel), by omega, pen, fun H1 r k1 pen1 r0 r1 => ⟨_, _, rfl, rfl, _, rfl, by omega, by omega, fun L1 hL1 => ?_⟩⟩
    obtain ⟨nLp, nLc⟩ := pen1.ne hL1
    refine lcM (walk_range (lo := 0) (n := (31 + r).toNat)) (fun _ _ _ _ y => y) [] (fun j H => Pen H p c (n + 21)) (fun (j : Nat) (y : V) (H : Hp) => ∃ l : Int × Int, PairP p H y l ∧ l.2 = 0) (small1000 (by omega)) hL1 (by simp) (fun _ _ => True.intro)
      (fun j H acc hp => hp.upd nLp nLc) (fun j y H H' eD kk r => ?_) pen1 (fun j x H2 Ny Nn hj hx k2 pen2 eD fin => ?_) (fun H2 ys k2 pen2 eD hly hr1 => ?_)
    · obtain ⟨l, h1, h2⟩ := r
      exact ⟨l, h1.kx eD (kk.mono fun b hb => by simp at hb; simp [hb]), h2⟩
    · have hx : x = .int (0 + (j : Int)) := hx
      subst hx
      exact ⟨rfl, yes_go ⟨_, rfl, szL (by show 2 ≤ 1000; decide), fun z hz => fin _ _ (Kx.new hz) (pen2.same (same_new hz)) ⟨(0 + (j : Int), 0), ⟨z, rfl, (pen2.ne hz).1, upd_same⟩, rfl⟩⟩⟩
    · obtain ⟨us, hus⟩ := all_ex hr1
      have hul : us.length = (31 + r).toNat := by rw [← hus.1]; exact hly
      have hus2 : AllAt (fun y l => PairP p H2 y l) ys us := hus.imp fun y l z => z.1
      have hz : ∀ l ∈ us, l.2 = 0 := fun l hl => let ⟨y, z⟩ := hus.mem l hl; z.2
      -- the two ends
      have fin : ∀ (H5 : Hp) (L2 : Addr) (zs : List V) (vs : List (Int × Int)), H5 L1 = some (.lst ys) → AllAt (PairT H5) ys us → H5 L2 = some (.lst zs) → AllAt (PairT H5) zs vs → vs.length ≤ 5 → (∀ l ∈ vs, l.2.natAbs ≤ 7) → Pen H5 p c (n + 30) →
          rCat (.ref L1) (.ref L2) H5 fun x H6 => D.nx ((lapSt a p (some (.int (i : Int))) (some (.ref L)) l4 l5 l6 l7 l8 l9 l10).set 3 (some x)) H6 := fun H5 L2 zs vs e1 a1 e2 a2 hv hv7 pen5 => by
        refine ⟨L1, L2, ys, zs, rfl, rfl, e1, e2, szL (by rw [a1.1, a2.1]; omega), fun q hq => ?_⟩
        refine k _ _ ⟨q, us, vs, l4, l5, l6, l7, l8, l9, l10, rfl, pen5.same (same_new hq), ⟨(pen5.ne hq).1, _, upd_same, ?_⟩, ⟨hz, hv, hv7, by omega, fun z => ?_, fun _ => by omega⟩⟩
        · have app : ∀ {xs : List V} {as : List (Int × Int)} {H : Hp} {zs : List V} {bs : List (Int × Int)}, AllAt (PairT H) xs as → AllAt (PairT H) zs bs → AllAt (PairT H) (xs ++ zs) (as ++ bs) := fun {xs as H zs bs} h1 h2 => by
            induction as generalizing xs with
            | nil => rw [h1.nil_inv]; exact h2
            | cons y ys ih =>
              obtain ⟨x, xs', rfl, r, t⟩ := h1.uncons
              exact .cons r (ih t)
          exact (app a1 a2).imp fun y l z => z.same (same_new hq)
        · have := congrArg List.length z
          rw [List.length_append, List.length_nil] at this
          omega
      refine ⟨_, rfl, p, c, 2, _, rfl, by decide, logS (by decide) (by decide +kernel), by omega, pen2, fun H3 r3 k3 pen3 _ _ => ⟨rfl, _, rfl, ite2 (fun e3 => ?_) (fun e3 => ?_)⟩⟩
      · refine ⟨_, rfl, p, c, 9, _, rfl, by decide, logS (by decide) (by decide +kernel), by omega, pen3, fun H4 r4 k4 pen4 _ _ => ⟨_, _, rfl, rfl, _, rfl, _, rfl, szL (by show 3 ≤ 1000; decide), fun q hq => ?_⟩⟩
        obtain ⟨nqp, nqc⟩ := pen4.ne hq
        refine ⟨p, c, q, _, _, rfl, SqL.of upd_same, nqp, by simp, by show 3 ≤ 1000; decide, ?_, pen4.upd nqp nqc, fun H5 y k5 pen5 hy => ⟨szL (by show 2 ≤ 1000; decide), fun z hz => ⟨szL (by show 1 ≤ 1000; decide), fun L2 hL2 => ?_⟩⟩⟩
        · omega
        · have k25 : Kx [p] H2 H5 := ((k3.trans k4).trans (Kx.new hq)).trans k5
          obtain ⟨yi, hyi, rfl⟩ := mem_at (ys := [0, -1, 1]) hy rfl
          have hb : yi.natAbs ≤ 7 := by
            simp only [List.mem_cons, List.not_mem_nil, or_false] at hyi
            rcases hyi with rfl | rfl | rfl <;> decide
          have s6 : Same H5 (upd (upd H5 z (.tup [.int (90 + r4), .int yi])) L2 (.lst [.ref z])) := (same_new hz).trans (same_new hL2)
          have hpt : ∀ b ∈ [p], ∀ xs, H2 b ≠ some (.tup xs) := pen_tup pen2
          refine fin _ L2 [.ref z] [(90 + r4, yi)] (s6 _ _ (k25 _ _ (by simp; exact nLp) eD)) (hus2.imp fun y l z => (z.t.kx k25 hpt).same s6) upd_same (.cons ⟨z, rfl, ?_⟩ .nil) (by show 1 ≤ 5; decide) (fun l hl => by simp at hl; rw [hl]; exact hb) ((pen5.same s6).mono (by omega))
          rw [upd_ne (ne_of_none (H := upd H5 z (.tup [.int (90 + r4), .int yi])) upd_same hL2)]
          exact upd_same
      · refine ⟨szL (by show 0 ≤ 1000; decide), fun L2 hL2 => ?_⟩
        have s4 : Same H3 (upd H3 L2 (.lst [])) := same_new hL2
        exact fin _ L2 [] [] (s4 _ _ (k3 _ _ (by simp; exact nLp) eD)) (hus2.imp fun y l z => (z.t.kx k3 (pen_tup pen2)).same s4) upd_same .nil (by decide) (fun l hl => by simp at hl) ((pen3.same s4).mono (by omega))
  · have hi : i < 10 := by
      have h9 : ¬ ((9 : Int) < (i : Int)) := fun z => e (decide_eq_true z)
      omega
    exact k _ _ ⟨L, [], ls, l4, l5, l6, l7, l8, l9, l10, rfl, pen.mono (by omega), hL, ⟨fun l hl => absurd hl (by simp), h5, h7, by decide, hne, fun z => by omega⟩⟩
def Mid3 (a p c : Addr) (i n : Nat) (σ : L2.St) (H : Hp) : Prop := ∃ (L : Addr) (us vs : List (Int × Int)) (ft lo : Int) (l6 l7 l8 l9 l10 : Option V), σ = lapSt a p (some (.int (i : Int))) (some (.ref L)) (some (.int ft)) (some (.int lo)) l6 l7 l8 l9 l10 ∧ Pen H p c (n + 32) ∧ LinesT H p L (us ++ vs) ∧ GoodL i us vs ∧ 0 ≤ ft ∧ ft ≤ 40 ∧ 0 ≤ lo ∧ lo ≤ 30
theorem lap2 (F : LF P w K mg base C CR fv fdv) (hr : Room 10 (callerA.deeper (envOfC "law" (defScope s_law) s.heap.objs.size f cdv))) : HT1 (LX P w K mg base f cdv s H0) (lapS 2) (fun j : Jx => Mid2 j.a j.p j.c j.i j.n) (fun j => Mid3 j.a j.p j.c j.i j.n) := by
  obtain ⟨M, C__law_pen, C__law_draw, C__law_pick, C__law_verdict, F_v, m_v, G_v, C_verdicts, EHN, EHR⟩ := F
  refine ⟨_, (ps_par (i := 4) (j := 5) rfl sc_law.nd rfl rfl (by decide) rfl rfl (pa_cons (pe_cx C__law_pick hr (by decide) (by rfl) pass0 (pa_cons (pv 1) (pa_cons (pe_lst (pa_cons pe_int (pa_cons pe_int (pa_cons pe_int (pa_cons pe_int pa_nil))))) pa_nil))) (pa_cons (pe_cx C__law_draw hr (by decide) (by rfl) pass0 (pa_cons (pv 1) (pa_cons pe_int pa_nil))) pa_nil)) (by rfl)), fun j D σ H h k => ?_⟩
  obtain ⟨a, p, c, i, n, hn⟩ := j
  have h : Mid2 a p c i n σ H := h
  have k : ∀ σ' H', Mid3 a p c i n σ' H' → D.nx σ' H' := k
  obtain ⟨L, us, vs, l4, l5, l6, l7, l8, l9, l10, rfl, pen, hL, hg⟩ := h
  refine ⟨_, rfl, szL (by show 4 ≤ 1000; decide), fun q hq => ?_⟩
  obtain ⟨nqp, nqc⟩ := pen.ne hq
  have hL1 := hL.same (same_new (o := .lst [.int 0, .int 1, .int 9, .int 40]) hq)
  refine ⟨p, c, q, _, _, rfl, SqL.of upd_same, nqp, by simp, by show 4 ≤ 1000; decide, ?_, pen.upd nqp nqc, fun H1 y k1 pen1 hy => ?_⟩
  · omega
  obtain ⟨ft, hft, rfl⟩ := mem_at (ys := [0, 1, 9, 40]) hy rfl
  have hb : 0 ≤ ft ∧ ft ≤ 40 := by
    simp only [List.mem_cons, List.not_mem_nil, or_false] at hft
    rcases hft with rfl | rfl | rfl | rfl <;> decide
  refine ⟨_, rfl, p, c, 30, _, rfl, by decide, logS (by decide) (by decide +kernel), by omega, pen1, fun H2 r k2 pen2 r0 r1 => ⟨_, _, rfl, ?_⟩⟩
  exact k _ _ ⟨L, us, vs, ft, r, l6, l7, l8, l9, l10, rfl, pen2, (hL1.kx (pen.upd nqp nqc) k1).kx pen1 k2, hg, hb.1, hb.2, r0, by omega⟩
def Mid4 (a p c : Addr) (i n : Nat) (σ : L2.St) (H : Hp) : Prop := ∃ (L : Addr) (us vs : List (Int × Int)) (ft lo : Int) (l6 l7 l8 l9 l10 : Option V), σ = lapSt a p (some (.int (i : Int))) (some (.ref L)) (some (.int ft)) (some (.int lo)) l6 l7 l8 l9 l10 ∧ Pen H p c (n + 32) ∧ LinesT H p L (us ++ vs) ∧ GoodL i us vs ∧ 0 ≤ ft ∧ ft ≤ 40 ∧ 0 ≤ lo ∧ lo ≤ 30 ∧ (10 ≤ i → lo = 0)
theorem lap3 (F : LF P w K mg base C CR fv fdv) (hr : Room 10 (callerA.deeper (envOfC "law" (defScope s_law) s.heap.objs.size f cdv))) : HT1 (LX P w K mg base f cdv s H0) (lapS 3) (fun j : Jx => Mid3 j.a j.p j.c j.i j.n) (fun j => Mid4 j.a j.p j.c j.i j.n) := by
  obtain ⟨M, C__law_pen, C__law_draw, C__law_pick, C__law_verdict, F_v, m_v, G_v, C_verdicts, EHN, EHR⟩ := F
  refine ⟨_, (ps_set (i := 5) sc_law.nd rfl (by first | exact .inl rfl | exact .inr rfl) (pe_ifExp (pt_cmpR op_lt (pv 2) pe_int (nomark _)) (pv 5) pe_int)), fun j D σ H h k => ?_⟩
  obtain ⟨a, p, c, i, n, hn⟩ := j
  have h : Mid3 a p c i n σ H := h
  have k : ∀ σ' H', Mid4 a p c i n σ' H' → D.nx σ' H' := k
  obtain ⟨L, us, vs, ft, lo, l6, l7, l8, l9, l10, rfl, pen, hL, hg, f0, f1, o0, o1⟩ := h
  refine ⟨_, rfl, _, _, rfl, rfl, _, rfl, ite2 (fun e => ⟨_, rfl, ?_⟩) (fun e => ?_)⟩
  · have h9 : (i : Int) < 10 := of_decide_eq_true e
    exact k _ _ ⟨L, us, vs, ft, lo, l6, l7, l8, l9, l10, rfl, pen, hL, hg, f0, f1, o0, o1, fun z => by omega⟩
  · exact k _ _ ⟨L, us, vs, ft, 0, l6, l7, l8, l9, l10, rfl, pen, hL, hg, f0, f1, by decide, by decide, fun _ => rfl⟩
def Mid5 (a p c : Addr) (i n : Nat) (σ : L2.St) (H : Hp) : Prop := ∃ (L : Addr) (us vs : List (Int × Int)) (ft lo : Int) (hi : Option Int) (l7 l8 l9 l10 : Option V), σ = lapSt a p (some (.int (i : Int))) (some (.ref L)) (some (.int ft)) (some (.int lo)) (some (hiV hi)) l7 l8 l9 l10 ∧ Pen H p c (n + 36) ∧ LinesT H p L (us ++ vs) ∧ GoodL i us vs ∧ 0 ≤ ft ∧ ft ≤ 40 ∧ 0 ≤ lo ∧ lo ≤ 30 ∧ ∀ h, hi = some h → lo ≤ h ∧ h ≤ 1000
theorem lap4 (F : LF P w K mg base C CR fv fdv) (hr : Room 10 (callerA.deeper (envOfC "law" (defScope s_law) s.heap.objs.size f cdv))) : HT1 (LX P w K mg base f cdv s H0) (lapS 4) (fun j : Jx => Mid4 j.a j.p j.c j.i j.n) (fun j => Mid5 j.a j.p j.c j.i j.n) := by
  obtain ⟨M, C__law_pen, C__law_draw, C__law_pick, C__law_verdict, F_v, m_v, G_v, C_verdicts, EHN, EHR⟩ := F
  refine ⟨_, (ps_set (i := 6) sc_law.nd rfl (by first | exact .inl rfl | exact .inr rfl) (pe_ifExp (pt_cmpR op_lt (pv 2) pe_int (nomark _)) (pe_cx C__law_pick hr (by decide) (by rfl) pass0 (pa_cons (pv 1) (pa_cons (pe_lst (pa_cons pe_non (pa_cons (pv 5) (pa_cons (pe_op op_add (pv 5) (pe_cx C__law_draw hr (by decide) (by rfl) pass0 (pa_cons (pv 1) (pa_cons pe_int pa_nil)))) pa_nil)))) pa_nil))) (pe_cx C__law_pick hr (by decide) (by rfl) pass0 (pa_cons (pv 1) (pa_cons (pe_lst (pa_cons (pe_op op_sub (pe_callB call_len_seq (by rfl) M.z_len PySem.boot_len (pa_cons (pv 3) pa_nil)) pe_int) (pa_cons (pe_op op_sub (pe_callB call_len_seq (by rfl) M.z_len PySem.boot_len (pa_cons (pv 3) pa_nil)) pe_int) (pa_cons pe_int (pa_cons pe_int pa_nil))))) pa_nil))))), fun j D σ H h k => ?_⟩
  obtain ⟨a, p, c, i, n, hn⟩ := j
  have h : Mid4 a p c i n σ H := h
  have k : ∀ σ' H', Mid5 a p c i n σ' H' → D.nx σ' H' := k
  obtain ⟨L, us, vs, ft, lo, l6, l7, l8, l9, l10, rfl, pen, hL, hg, f0, f1, o0, o1, oi⟩ := h
  have fin : ∀ (H' : Hp) (y : V) (hi : Option Int), y = hiV hi → (∀ h, hi = some h → lo ≤ h ∧ h ≤ 1000) → Pen H' p c (n + 36) → LinesT H' p L (us ++ vs) → D.nx ((lapSt a p (some (.int (i : Int))) (some (.ref L)) (some (.int ft)) (some (.int lo)) l6 l7 l8 l9 l10).set 6 (some y)) H' := fun H' y hi ey hb pen' hL' => by
    rw [ey]
    exact k _ _ ⟨L, us, vs, ft, lo, hi, l7, l8, l9, l10, rfl, pen', hL', hg, f0, f1, o0, o1, hb⟩
  refine ⟨_, rfl, _, _, rfl, rfl, _, rfl, ite2 (fun e => ?_) (fun e => ?_)⟩
  · refine ⟨_, rfl, _, rfl, _, rfl, _, rfl, p, c, 20, _, rfl, by decide, logS (by decide) (by decide +kernel), by omega, pen, fun H1 r k1 pen1 r0 r1 => ⟨_, _, rfl, rfl, szL (by show 3 ≤ 1000; decide), fun q hq => ?_⟩⟩
    obtain ⟨nqp, nqc⟩ := pen1.ne hq
    have hL1 := (hL.kx pen k1).same (same_new (o := .lst [.non, .int lo, .int (lo + r)]) hq)
    refine ⟨p, c, q, _, _, rfl, SqL.of upd_same, nqp, by simp, by show 3 ≤ 1000; decide, ?_, pen1.upd nqp nqc, fun H2 y k2 pen2 hy => ?_⟩
    · omega
    have hL2 := hL1.kx (pen1.upd nqp nqc) k2
    have pen2 := pen2.mono (show n + 32 + 1 + 1 ≤ n + 36 by omega)
    simp only [List.mem_cons, List.not_mem_nil, or_false] at hy
    rcases hy with rfl | rfl | rfl
    · exact fin _ _ none rfl (fun h z => nomatch z) pen2 hL2
    · exact fin _ _ (some lo) rfl (fun h z => by cases z; omega) pen2 hL2
    · exact fin _ _ (some (lo + r)) rfl (fun h z => by cases z; omega) pen2 hL2
  · have h9 : ¬ ((i : Int) < 10) := fun z => e (decide_eq_true z)
    obtain ⟨nLp, xs, eL, hxs⟩ := id hL
    have hlo := oi (by omega)
    have hm := hg.many (by omega)
    have hlen : xs.length = us.length + vs.length := by rw [hxs.1, List.length_append]
    have h100 := hg.u100
    have h5 := hg.v5
    refine ⟨_, rfl, _, rfl, L, xs, rfl, .inl (SqL.of eL), _, _, rfl, rfl, _, rfl, L, xs, rfl, .inl (SqL.of eL), _, _, rfl, rfl, szL (by show 4 ≤ 1000; decide), fun q hq => ?_⟩
    obtain ⟨nqp, nqc⟩ := pen.ne hq
    have hL1 := hL.same (same_new (o := .lst [.int (((xs.length : Nat) : Int) - 1), .int (((xs.length : Nat) : Int) - 2), .int 89, .int 100]) hq)
    refine ⟨p, c, q, _, _, rfl, SqL.of upd_same, nqp, by simp, by show 4 ≤ 1000; decide, ?_, pen.upd nqp nqc, fun H2 y k2 pen2 hy => ?_⟩
    · omega
    have hL2 := hL1.kx (pen.upd nqp nqc) k2
    have pen2 := pen2.mono (show n + 32 + 1 ≤ n + 36 by omega)
    simp only [List.mem_cons, List.not_mem_nil, or_false] at hy
    rcases hy with rfl | rfl | rfl | rfl
    · exact fin _ _ (some (((xs.length : Nat) : Int) - 1)) rfl (fun h z => by cases z; omega) pen2 hL2
    · exact fin _ _ (some (((xs.length : Nat) : Int) - 2)) rfl (fun h z => by cases z; omega) pen2 hL2
    · exact fin _ _ (some 89) rfl (fun h z => by cases z; omega) pen2 hL2
    · exact fin _ _ (some 100) rfl (fun h z => by cases z; omega) pen2 hL2
def Mid6 (a p c : Addr) (i n : Nat) (σ : L2.St) (H : Hp) : Prop := ∃ (L Dl : Addr) (us vs : List (Int × Int)) (ft lo : Int) (hi : Option Int) (l8 l9 l10 : Option V), σ = lapSt a p (some (.int (i : Int))) (some (.ref L)) (some (.int ft)) (some (.int lo)) (some (hiV hi)) (some (.ref Dl)) l8 l9 l10 ∧ Pen H p c (n + 36) ∧ LinesT H p L (us ++ vs) ∧ GoodL i us vs ∧ 0 ≤ ft ∧ ft ≤ 40 ∧ 0 ≤ lo ∧ lo ≤ 30 ∧ (∀ h, hi = some h → lo ≤ h ∧ h ≤ 1000) ∧
  Dl ≠ p ∧ (Dl ≠ c ∧ Dl ≠ TbA.pt) ∧ Dl ≠ L ∧ H Dl = some (.lst [])
theorem lap5 (F : LF P w K mg base C CR fv fdv) : HT1 (LX P w K mg base f cdv s H0) (lapS 5) (fun j : Jx => Mid5 j.a j.p j.c j.i j.n) (fun j => Mid6 j.a j.p j.c j.i j.n) := by
  refine ⟨_, (ps_set (i := 7) sc_law.nd rfl (by first | exact .inl rfl | exact .inr rfl) (pe_lst pa_nil)), fun j D σ H h k => ?_⟩
  obtain ⟨a, p, c, i, n, hn⟩ := j
  have h : Mid5 a p c i n σ H := h
  have k : ∀ σ' H', Mid6 a p c i n σ' H' → D.nx σ' H' := k
  obtain ⟨L, us, vs, ft, lo, hi, l7, l8, l9, l10, rfl, pen, hL, hg, f0, f1, o0, o1, hb⟩ := h
  refine ⟨szL (by show 0 ≤ 1000; decide), fun q hq => ?_⟩
  obtain ⟨nqp, nqc⟩ := pen.ne hq
  refine k _ _ ⟨L, q, us, vs, ft, lo, hi, l8, l9, l10, rfl, pen.same (same_new hq), hL.same (same_new hq), hg, f0, f1, o0, o1, hb, nqp, nqc, fun z => ?_, upd_same⟩
  obtain ⟨_, xs, e, _⟩ := hL
  rw [z, e] at hq
  cases hq
end
end W49
end
section
/-! k49: the law's laps: the due rows, what is told, the comparison. -/
namespace W49
open PySem PySem.Spec PyProof.Rows L2 LamX
def dueR (g : Int → Str) (j : Nat) : List Row := ((List.range j).map fun i => ((i : Nat) : Int)).foldl (fun acc t => K49.push acc t t (g t)) []
theorem dueR_succ (g : Int → Str) (j : Nat) : dueR g (j + 1) = K49.push (dueR g j) (j : Int) (j : Int) (g j) := by
  unfold dueR
  rw [List.range_succ, List.map_append, List.foldl_append]
  rfl
theorem dueR_len (g : Int → Str) : ∀ j, (dueR g j).length ≤ j
  | 0 => Nat.le_refl _
  | j + 1 => by
    rw [dueR_succ]
    have a := dueR_len g j
    have b := push_len (x := (j : Int)) (y := (j : Int)) (v := g j) (dueR g j)
    omega
theorem push_okW {acc : List Row} {x y : Int} {v : Str} (h : ∀ r ∈ acc, okW r.2.2) (hv : okW v) : ∀ r ∈ K49.push acc x y v, okW r.2.2 := fun r hr => by
  unfold K49.push at hr
  split at hr
  · split at hr
    · rcases List.mem_or_eq_of_mem_set hr with z | z
      · exact h r z
      · rw [z]; exact hv
    · rcases List.mem_append.mp hr with z | z
      · exact h r z
      · simp at z; rw [z]; exact hv
  · rcases List.mem_append.mp hr with z | z
    · exact h r z
    · simp at z; rw [z]; exact hv
theorem dueR_ok {g : Int → Str} (hg : ∀ t, okW (g t)) : ∀ j, ∀ r ∈ dueR g j, okW r.2.2
  | 0 => fun r hr => by cases hr
  | j + 1 => by
    rw [dueR_succ]
    exact push_okW (dueR_ok hg j) (hg _)
section
variable [TbA] {P : Program} {w : World} {K : PySem.W.Frag} {mg : Str → Option Value} {base : Heap} {C CR fv f : Addr} {fdv : FuncData} {cdv : Value} {s : Shared} {H0 : Hp}
theorem GoodL.b {i : Nat} {us vs : List (Int × Int)} (h : GoodL i us vs) : ∀ l ∈ us ++ vs, l.2.natAbs ≤ 7 := fun l hl => by
  rcases List.mem_append.mp hl with z | z
  · rw [h.z l z]; decide
  · exact h.b7 l z
theorem GoodL.few {i : Nat} {us vs : List (Int × Int)} (h : GoodL i us vs) (top low : Int) (high : Option Int) : FewMarks (us ++ vs) top low high := few_of h.z h.v5 fun p hp => by
  have := h.b7 p hp
  omega
def Mid7 (a p c : Addr) (i n : Nat) (σ : L2.St) (H : Hp) : Prop := ∃ (L Dl : Addr) (us vs : List (Int × Int)) (ft lo : Int) (hi : Option Int) (l8 l9 l10 : Option V), σ = lapSt a p (some (.int (i : Int))) (some (.ref L)) (some (.int ft)) (some (.int lo)) (some (hiV hi)) (some (.ref Dl)) l8 l9 l10 ∧ Pen H p c (n + 36) ∧ LinesT H p L (us ++ vs) ∧ GoodL i us vs ∧ 0 ≤ ft ∧ ft ≤ 40 ∧ 0 ≤ lo ∧ lo ≤ 30 ∧ (∀ h, hi = some h → lo ≤ h ∧ h ≤ 1000) ∧
  ∃ xs rows, H Dl = some (.lst xs) ∧ AllAt (RowAt H) xs rows ∧ rows.length ≤ 41 ∧ (∀ r ∈ rows, okW r.2.2) ∧ K49.isRuns (lineV lo hi (us ++ vs)) 0 none rows (ft + 1)
theorem lap6 (F : LF P w K mg base C CR fv fdv) (hr : Room 10 (callerA.deeper (envOfC "law" (defScope s_law) s.heap.objs.size f cdv))) : HT1 (LX P w K mg base f cdv s H0) (lapS 6) (fun j : Jx => Mid6 j.a j.p j.c j.i j.n) (fun j => Mid7 j.a j.p j.c j.i j.n) := by
  obtain ⟨M, C__law_pen, C__law_draw, C__law_pick, C__law_verdict, F_v, m_v, G_v, C_verdicts, EHN, EHR⟩ := F
  refine ⟨_, (ps_for PassesOwn.never rfl (pi_range1 (by rfl) M.z_range (pa_cons (pe_op op_add (pv 4) pe_int) pa_nil)) (pg_name (i := 8) sc_law.nd rfl (by first | exact .inl rfl | exact .inr rfl))
  (pss_cons (ps_set (i := 9) sc_law.nd rfl (by first | exact .inl rfl | exact .inr rfl) (pe_cx C__law_verdict hr (by decide) (by rfl) pass0 (pa_cons (pe_lc (own := [(("a" : Str), 21), (("b" : Str), 22)]) rfl sc_law.nd (pi_list (pv 3)) (blkOk_by (own := [(("a" : Str), 21), (("b" : Str), 22)]) (N := [("script" : Str), ("pen" : Str), ("lap" : Str), ("lines" : Str), ("far_t" : Str), ("low" : Str), ("high" : Str), ("due" : Str), ("t" : Str), ("its" : Str), ("told" : Str), ("size" : Str), ("ahead" : Str), ("row" : Str), ("heard" : Str), ("bad" : Str), ("far" : Str), ("near" : Str), ("none" : Str), ("turn" : Str), ("at" : Str), ("a" : Str), ("b" : Str), ("line" : Str)]) (sc := defScope s_law) (by decide +kernel)) (fun _ _ _ _ _ => (pg_tupK (n := 2) rfl (pgs_cons (pg_name (i := 21) sc_law.nd rfl (by first | exact .inl rfl | exact .inr rfl)) (pgs_cons (pg_name (i := 22) sc_law.nd rfl (by first | exact .inl rfl | exact .inr rfl)) pgs_nil)))) (fun _ _ _ _ _ => pts_nil) (fun _ _ _ _ _ => (pe_op op_add (pv 21) (pe_op op_mul (pv 22) (pv 8))))) (pa_cons (pv 5) (pa_cons (pv 6) pa_nil)))))
  (pss_one (ps_if (PW.pt (pw_and (pt_cmpR (op_neD hr.units) (pv 7) (pe_lst pa_nil) (nomark _)) (pw_and1 (pt_cmpR op_eq (pe_ix ix_tup (pe_ix ix_list (pv 7) (pe_un un_neg pe_int) (fun _ _ => rfl)) pe_int (fun _ _ => rfl)) (pv 9) (nomark _)))))
  (pss_one (ps_asg (pe_tup (pa_cons (pe_ix ix_tup (pe_ix ix_list (pv 7) (pe_un un_neg pe_int) (fun _ _ => rfl)) pe_int (fun _ _ => rfl)) (pa_cons (pv 8) (pa_cons (pv 9) pa_nil)))) (pg_sub (pv 7) (pe_un un_neg pe_int) set_list)))
  (pss_one (ps_expr (pe_bm PySem.F.plainAttrs_list PySem.F.slot_list_append PySem.F.type_list_append mt_append (pv 7) (pa_cons (pe_tup (pa_cons (pv 8) (pa_cons (pv 8) (pa_cons (pv 9) pa_nil)))) pa_nil)))))))), fun j D σ H h k => ?_⟩
  obtain ⟨a, p, c, i, n, hn⟩ := j
  have h : Mid6 a p c i n σ H := h
  have k : ∀ σ' H', Mid7 a p c i n σ' H' → D.nx σ' H' := k
  obtain ⟨L, F, us, vs, ft, lo, hi, l8, l9, l10, rfl, pen, hL, hg, f0, f1, o0, o1, hb, nFp, nFc, nFL, eF⟩ := h
  have hgo : ∀ t, okW (lineV lo hi (us ++ vs) t) := fun t => verdS_ok _
  have h100 := hg.u100
  have h5 := hg.v5
  have hb7 := hg.b
  have hgl : (us ++ vs).length ≤ 105 := by rw [List.length_append]; omega
  have kk0 : Kx [F] H H := Kx.refl
  refine ⟨_, rfl, _, _, rfl, rfl, _, rfl, by omega, by omega, for_range (lo := 0) (n := (ft + 1).toNat) (fun j σ H' => ∃ l8 l9, σ = lapSt a p (some (.int (i : Int))) (some (.ref L)) (some (.int ft)) (some (.int lo)) (some (hiV hi)) (some (.ref F)) l8 l9 l10 ∧ Kx [F] H H' ∧ ∃ xs, H' F = some (.lst xs) ∧ AllAt (RowAt H') xs (dueR (lineV lo hi (us ++ vs)) j))
    ⟨_, _, rfl, Kx.refl, [], eF, AllAt.nil⟩ (fun j σ H' hj h => ?_) fun σ H' h => ?_⟩
  · obtain ⟨l8, l9, rfl, kk, xs, eF', hrows⟩ := h
    have hrl := dueR_len (lineV lo hi (us ++ vs)) j
    have hro := dueR_ok hgo j
    rw [dueR_succ]
    generalize dueR (lineV lo hi (us ++ vs)) j = rows at hrows hrl hro
    have hF_tup : ∀ (H8 : Hp) (ys : List V), H8 F = some (.lst ys) → ∀ b ∈ [F], ∀ zs, H8 b ≠ some (.tup zs) := fun H8 ys e b hb zs hz => by
      simp at hb
      rw [hb, e] at hz
      cases hz
    obtain ⟨nLp, lx, eL, hlx⟩ := id hL
    have eL' := kk _ _ (show L ∉ [F] by simp; exact fun z => nFL z.symm) eL
    have hlx' : AllAt (PairT H') lx (us ++ vs) := hlx.imp fun x y z => z.kx kk (hF_tup _ _ eF)
    -- the numbers, the verdict
    refine ⟨_, rfl, L, rfl, ⟨_, SqL.of eL'⟩, fun B hB => lcM (walk_list (xs := lx)) (fun _ _ _ _ y => y) [] (fun _ _ => True) (fun (i : Nat) (y : V) (H : Hp) => ∃ l : Int × Int, (us ++ vs)[i]? = some l ∧ y = .int (l.1 + l.2 * (0 + (j : Int)))) (small1000 (by rw [hlx'.1]; omega)) hB (by simp) (fun H1 k1 => k1.sql (by simp) (SqL.of eL'))
      (fun _ _ _ _ => True.intro) (fun _ _ _ _ _ _ r => r) True.intro (fun i2 x H2 Ny Nn hi2 hxi k2 _ _ fin => ?_) (fun H2 ys k2 _ eB hly hr1 => ?_)⟩
    · obtain ⟨l, el, hl⟩ := hlx'.2 i2 x hxi
      obtain ⟨q, rfl, hq⟩ := hl.same k2.same
      have hl7 := hb7 l (List.mem_of_getElem? el)
      exact ⟨q, _, rfl, SqT.of hq, rfl, _, _, rfl, _, _, rfl, rfl, rfl, yes_go ⟨_, rfl, _, rfl, _, rfl, _, _, rfl, rfl, .inl ⟨by omega, by omega⟩, _, _, rfl, rfl, fin _ _ Kx.refl True.intro ⟨l, el, rfl⟩⟩⟩
    · have ey : ys = (((us ++ vs).map fun l => l.1 + l.2 * (0 + (j : Int))).map V.int) := by
        rw [List.map_map]
        exact map_at (by rw [hly]; exact hlx'.1) hr1
      subst ey
      refine ⟨_, rfl, _, rfl, B, _, lo, hi, rfl, SqL.of eB, by rw [List.length_map]; omega, fun H6 s6 => ?_⟩
      have ev : verdS ((((us ++ vs).map fun l => l.1 + l.2 * (0 + (j : Int)))).map fun n => K49.within lo hi n) = lineV lo hi (us ++ vs) (j : Int) := by
        unfold lineV
        rw [List.map_map]
        congr 1
        refine List.map_congr_left fun p _ => ?_
        show K49.within lo hi (p.1 + p.2 * (0 + (j : Int))) = _
        rw [Int.zero_add]
      rw [ev]
      have ST6 : Same H' H6 := k2.same.trans s6
      have eF6 := ST6 _ _ eF'
      have hrows6 := hrows.imp fun x y z => z.same ST6
      have k6 : Kx [F] H H6 := kk.trans (Kx.of ST6)
      have g0 : (0 : Int) + (j : Int) = (j : Int) := Int.zero_add _
      generalize (0 : Int) + (j : Int) = t at g0
      rw [← g0]
      have hgt : lineV lo hi (us ++ vs) t = lineV lo hi (us ++ vs) t := rfl
      generalize lineV lo hi (us ++ vs) t = gt at hgt
      clear eB hly hr1 s6 ST6 k2 hlx' eL' hB kk hrows eF' ev
      -- due != []
      refine ⟨_, rfl, szL (by show 0 ≤ 1000; decide), fun N0 hN0 => ?_⟩
      have eF7 : (upd H6 N0 (.lst [])) F = some (.lst xs) := by rw [upd_ne (ne_of_none eF6 hN0)]; exact eF6
      have hrows7 := hrows6.imp fun x y z => z.same (same_new (o := .lst []) hN0)
      have k7 : Kx [F] H (upd H6 N0 (.lst [])) := k6.trans (Kx.new hN0)
      have eN7 : (upd H6 N0 (.lst [])) N0 = some (.lst []) := upd_same
      revert eF7 hrows7 k7 eN7
      generalize upd H6 N0 (.lst []) = H7
      intro eF7 hrows7 k7 eN7
      refine ⟨_, _, .lst (SqL.of eF7) (rows_dp hrows7), .lst (SqL.of eN7) .nil, shaped_l hro, shaped_nil, _, rfl, ?_⟩
      rw [eqv_nil]
      have hxl7 : xs.length ≤ 60 := by rw [hrows7.1]; omega
      have app : K49.push rows t t gt = rows ++ [(t, t, gt)] → ∀ r, H7 r = none → ∃ l ws y, V.ref F = .ref l ∧ [V.ref r] = [y] ∧ (upd H7 r (.tup [.int t, .int t, .str gt])) l = some (.lst ws) ∧ ws.length < sizeLine ∧
          ∃ s1 s2, lapSt a p (some (.int (i : Int))) (some (.ref L)) (some (.int ft)) (some (.int lo)) (some (hiV hi)) (some (.ref F)) (some (.int t)) (some (.str gt)) l10 = lapSt a p (some (.int (i : Int))) (some (.ref L)) (some (.int ft)) (some (.int lo)) (some (hiV hi)) (some (.ref F)) s1 s2 l10 ∧ Kx [F] H (upd (upd H7 r (.tup [.int t, .int t, .str gt])) l (.lst (ws ++ [y]))) ∧
          ∃ xs, (upd (upd H7 r (.tup [.int t, .int t, .str gt])) l (.lst (ws ++ [y]))) F = some (.lst xs) ∧ AllAt (RowAt (upd (upd H7 r (.tup [.int t, .int t, .str gt])) l (.lst (ws ++ [y])))) xs (K49.push rows t t gt) := fun ep r hr => by
        have nFr : F ≠ r := ne_of_none eF7 hr
        have e1 : (upd H7 r (.tup [.int t, .int t, .str gt])) F = some (.lst xs) := by rw [upd_ne nFr]; exact eF7
        have kk1 : Kx [F] H7 (upd H7 r (.tup [.int t, .int t, .str gt])) := Kx.new hr
        have kk2 : Kx [F] (upd H7 r (.tup [.int t, .int t, .str gt])) (upd (upd H7 r (.tup [.int t, .int t, .str gt])) F (.lst (xs ++ [V.ref r]))) := Kx.put (by simp)
        refine ⟨F, xs, V.ref r, rfl, rfl, e1, small1000 (by omega), _, _, rfl, k7.trans (kk1.trans kk2), xs ++ [V.ref r], upd_same, ?_⟩
        rw [ep]
        exact AllAt.snoc (hrows7.imp fun x y z => (z.same (same_new hr)).kx kk2 (hF_tup _ _ e1)) ⟨r, rfl, by rw [upd_ne nFr.symm]; exact upd_same⟩
      cases hrw : rows.getLast? with
      | none =>
        have er : rows = [] := by simpa using hrw
        have ee : rows.isEmpty = true := by rw [er]; rfl
        rw [ee]
        refine iteF ?_
        refine iteF ⟨_, rfl, .inl ⟨rfl, _, SqL.of eF7⟩, _, rfl, _, rfl, _, rfl, szL (by show 3 ≤ 1000; decide), fun r hr => ?_⟩
        exact app (by rw [er]; rfl) r hr
      | some last =>
        obtain ⟨x0, y0, v0⟩ := last
        have hp : 0 < rows.length := by
          cases rows with
          | nil => cases hrw
          | cons _ _ => simp
        have er : rows.isEmpty = false := by
          cases rows with
          | nil => cases hrw
          | cons _ _ => rfl
        rw [er]
        obtain ⟨xl, hxl, q, rfl, hq⟩ := hrows7.last hrw
        refine iteT ⟨_, rfl, _, rfl, F, xs, -1, _, rfl, rfl, SqL.of eF7, hxl, q, _, 2, _, rfl, rfl, SqT.of hq, rfl, _, rfl, rfl, _, rfl, ite2 (fun c => ?_) (fun c => ?_)⟩
        · have ev : v0 = gt := V.str.inj (of_decide_eq_true c)
          have ep : K49.push rows t t gt = rows.set (rows.length - 1) (x0, t, gt) := by
            unfold K49.push
            rw [hrw]
            exact if_pos ev
          have hix : ixN xs.length (-1) = some (rows.length - 1) := by
            rw [hrows7.1]
            unfold ixN
            rw [if_neg (by omega), if_pos (by omega)]
            congr 1
            omega
          refine ⟨_, rfl, _, rfl, F, xs, -1, _, rfl, rfl, SqL.of eF7, hxl, q, _, 0, _, rfl, rfl, SqT.of hq, rfl, _, rfl, _, rfl, szL (by show 3 ≤ 1000; decide), fun r hr => ?_⟩
          have nFr : F ≠ r := ne_of_none eF7 hr
          have e1 : (upd H7 r (.tup [.int x0, .int t, .str gt])) F = some (.lst xs) := by rw [upd_ne nFr]; exact eF7
          have kk1 : Kx [F] H7 (upd H7 r (.tup [.int x0, .int t, .str gt])) := Kx.new hr
          have kk2 : Kx [F] (upd H7 r (.tup [.int x0, .int t, .str gt])) (upd (upd H7 r (.tup [.int x0, .int t, .str gt])) F (.lst (xs.set (rows.length - 1) (V.ref r)))) := Kx.put (by simp)
          refine ⟨_, rfl, _, rfl, F, xs, -1, rows.length - 1, rfl, rfl, e1, hix, _, _, rfl, k7.trans (kk1.trans kk2), _, upd_same, ?_⟩
          rw [ep]
          exact AllAt.set (hrows7.imp fun x y z => (z.same (same_new hr)).kx kk2 (hF_tup _ _ e1)) ⟨r, rfl, by rw [upd_ne nFr.symm]; exact upd_same⟩ _
        · have ep : K49.push rows t t gt = rows ++ [(t, t, gt)] := by
            unfold K49.push
            rw [hrw]
            exact if_neg fun z => c (decide_eq_true (by rw [z]))
          exact ⟨_, rfl, .inl ⟨rfl, _, SqL.of eF7⟩, _, rfl, _, rfl, _, rfl, szL (by show 3 ≤ 1000; decide), fun r hr => app ep r hr⟩
  · obtain ⟨l8, l9, rfl, kk, xs, eF', hrows⟩ := h
    have hF_tup : ∀ b ∈ [F], ∀ zs, H b ≠ some (.tup zs) := fun b hb zs hz => by
      simp at hb
      rw [hb, eF] at hz
      cases hz
    have hRun := K49.eachT_runs (f := lineV lo hi (us ++ vs)) (ft + 1).toNat
    have hlen := dueR_len (lineV lo hi (us ++ vs)) (ft + 1).toNat
    rw [Int.toNat_of_nonneg (by omega)] at hRun
    obtain ⟨nLp, lx, eL, hlx⟩ := hL
    refine k _ _ ⟨L, F, us, vs, ft, lo, hi, _, _, l10, rfl, ?_, ⟨nLp, lx, kk _ _ (by simp; exact fun z => nFL z.symm) eL, hlx.imp fun x y z => z.kx kk hF_tup⟩, hg, f0, f1, o0, o1, hb, xs, _, eF', hrows, by omega, dueR_ok hgo _, hRun⟩
    obtain ⟨cells, at', rest, h1, h2, h3, h4, h5, h6, h7⟩ := pen
    exact ⟨cells, at', rest, kk _ _ (by simp; exact fun z => nFp z.symm) h1, h2, kk _ _ (by simp; exact fun z => nFc.1 z.symm) h3, h4, h5, h6, kk _ _ (by simp; exact fun z => nFc.2 z.symm) h7⟩
end
end W49
end
section
/-! k49: the law's laps: what is told, the comparison, the lap. -/
namespace W49
open PySem PySem.Spec PyProof.Rows L2 LamX
def PairL (D : Addr) (H : Hp) (v : V) (l : Int × Int) : Prop := ∃ q, v = .ref q ∧ q ≠ D ∧ H q = some (.lst [.int l.1, .int l.2])
section
variable [TbA] {P : Program} {w : World} {K : PySem.W.Frag} {mg : Str → Option Value} {base : Heap} {C CR fv f : Addr} {fdv : FuncData} {cdv : Value} {s : Shared} {H0 : Hp}
/-- the call with lines that are some: what it tells -/
theorem told_ok {H : Hp} {v : V} {a : Addr} {xs : List V} {lines : List (Int × Int)} {top low : Int} {high : Option Int} {Q : VK} {E : XK} (ev : v = .ref a) (hx : SqL K H a xs) (hl : AllAt (PairAt K H) xs lines) (hne : lines ≠ []) (hlen : xs.length ≤ 200) (t0 : 0 ≤ top) (t1 : top ≤ 10 ^ 60) (l0 : 0 ≤ low) (l1 : low ≤ 10 ^ 60)
    (hh : ∀ h, high = some h → low ≤ h ∧ h ≤ 10 ^ 60) (few : FewMarks lines top low high) (k : ∀ H' p rows, Same H H' → RowsAt H' p rows → rows.length ≤ 60 → (∀ r ∈ rows, okW r.2.2) → K49.isRuns (lineV low high lines) 0 none rows (top + 1) → Q (.ref p) H') :
    spVerdicts K CR C [v, .int top, .int low, hiV high] H Q E := by
  refine ⟨v, .int top, .int low, hiV high, rfl, .inr ⟨a, xs, lines, ev, hx, hl, hne, hlen, .inr ⟨top, rfl, t0, t1, fun H1 s1 => .inl ⟨low, high, rfl, rfl, l0, l1, hh, few, k⟩⟩⟩⟩
theorem RowsAt.same {H H' : Hp} {p : Addr} {rows : List Row} (h : RowsAt H p rows) (s : Same H H') : RowsAt H' p rows := by
  obtain ⟨xs, e, r⟩ := h
  exact ⟨xs, s _ _ e, r.imp fun x y z => z.same s⟩
def Mid8 (a p c : Addr) (i n : Nat) (σ : L2.St) (H : Hp) : Prop := ∃ (L Dl T : Addr) (us vs : List (Int × Int)) (ft lo : Int) (hi : Option Int) (l8 l9 : Option V), σ = lapSt a p (some (.int (i : Int))) (some (.ref L)) (some (.int ft)) (some (.int lo)) (some (hiV hi)) (some (.ref Dl)) l8 l9 (some (.ref T)) ∧ Pen H p c (n + 36) ∧ LinesT H p L (us ++ vs) ∧ GoodL i us vs ∧ 0 ≤ ft ∧ ft ≤ 40 ∧ 0 ≤ lo ∧ lo ≤ 30 ∧ (∀ h, hi = some h → lo ≤ h ∧ h ≤ 1000) ∧
  ∃ xs rows, H Dl = some (.lst xs) ∧ AllAt (RowAt H) xs rows ∧ RowsAt H T rows ∧ rows.length ≤ 41 ∧ (∀ r ∈ rows, okW r.2.2) ∧ K49.isRuns (lineV lo hi (us ++ vs)) 0 none rows (ft + 1)
theorem b60 : (1000 : Int) ≤ 10 ^ 60 := by decide +kernel
theorem lap7 (F : LF P w K mg base C CR fv fdv) (hr : Room 10 (callerA.deeper (envOfC "law" (defScope s_law) s.heap.objs.size f cdv))) : HT1 (LX P w K mg base f cdv s H0) (lapS 7) (fun j : Jx => Mid7 j.a j.p j.c j.i j.n) (fun j => Mid8 j.a j.p j.c j.i j.n) := by
  obtain ⟨M, C__law_pen, C__law_draw, C__law_pick, C__law_verdict, F_v, m_v, G_v, C_verdicts, EHN, EHR⟩ := F
  refine ⟨_, (ps_set (i := 10) sc_law.nd rfl (by first | exact .inl rfl | exact .inr rfl) (pe_cx C_verdicts hr (by decide) (by rfl) passL (pa_cons (pe_callTy call_list_of (by rfl) M.z_list bootL (pa_cons (pv 3) pa_nil)) (pa_cons (pv 4) (pa_cons (pv 5) (pa_cons (pv 6) pa_nil)))))), fun j D σ H h k => ?_⟩
  obtain ⟨a, p, c, i, n, hn⟩ := j
  have h : Mid7 a p c i n σ H := h
  have k : ∀ σ' H', Mid8 a p c i n σ' H' → D.nx σ' H' := k
  obtain ⟨L, Dl, us, vs, ft, lo, hi, l8, l9, l10, rfl, pen, hL, hg, f0, f1, o0, o1, hb, xs, rows, eD, hrows, hlen, hok, hrun⟩ := h
  obtain ⟨nLp, lx, eL, hlx⟩ := id hL
  have h60 := b60
  have hgl : (us ++ vs).length ≤ 105 := by have := hg.u100; have := hg.v5; rw [List.length_append]; omega
  refine ⟨_, rfl, L, lx, rfl, .inl (SqL.of eL), fun L2 hL2 => ?_⟩
  refine ⟨_, rfl, _, rfl, _, rfl, ?_⟩
  simp only [tNil]
  show spVerdicts K CR C [.ref L2, .int ft, .int lo, hiV hi] _ _ _
  refine told_ok rfl (SqL.of upd_same) (hlx.imp fun x y z => (z.same (same_new hL2)).at) hg.ne (by rw [hlx.1]; omega) f0 (by omega) o0 (by omega) (fun h z => ⟨(hb h z).1, Int.le_trans (hb h z).2 h60⟩) (hg.few _ _ _) fun H' T rows2 s2 hT hl2 hok2 hrun2 => ?_
  have er := K49.isRuns.unique hrun2 hrun
  subst er
  have s3 : Same H H' := (same_new hL2).trans s2
  exact k _ _ ⟨L, Dl, T, us, vs, ft, lo, hi, l8, l9, rfl, pen.same s3, hL.same s3, hg, f0, f1, o0, o1, hb, xs, rows2, s3 _ _ eD, hrows.imp fun x y z => z.same s3, hT, hlen, hok, hrun⟩
def Mid9 (a p c : Addr) (i n : Nat) (σ : L2.St) (H : Hp) : Prop := ∃ l3 l4 l5 l6 l7 l8 l9 l10, σ = lapSt a p (some (.int (i : Int))) l3 l4 l5 l6 l7 l8 l9 l10 ∧ Pen H p c (n + 36)
theorem lap8 (F : LF P w K mg base C CR fv fdv) (hr : Room 10 (callerA.deeper (envOfC "law" (defScope s_law) s.heap.objs.size f cdv))) : HT1 (LX P w K mg base f cdv s H0) (lapS 8) (fun j : Jx => Mid8 j.a j.p j.c j.i j.n) (fun j => Mid9 j.a j.p j.c j.i j.n) := by
  obtain ⟨M, C__law_pen, C__law_draw, C__law_pick, C__law_verdict, F_v, m_v, G_v, C_verdicts, EHN, EHR⟩ := F
  have hu := hr.units
  have hg : (LX P w K mg base f cdv s H0).A.guards = some [] := rfl
  refine ⟨_, (ps_if (PW.pt (pw_or (pt_cmpR op_ne (pe_callB (call_reprD hg hu) (by rfl) M.z_repr boot_repr (pa_cons (pv 10) pa_nil)) (pe_callB (call_reprD hg hu) (by rfl) M.z_repr boot_repr (pa_cons (pe_callTy call_tuple_of (by rfl) M.z_tuple bootT (pa_cons (pv 7) pa_nil)) pa_nil)) (nomark _)) (pw_or1 (pt_cmpR (op_neD hr.units) (pe_callK0 G_v (hr.mono (by decide)) (by rfl) m_v F_v.kp (kb_verdicts F_v) passL (pk_cons (pv 6) (pk_cons (pv 5) (pk_cons (pv 4) (pk_cons (pe_lc (own := [(("line" : Str), 23)]) rfl sc_law.nd (pi_list (pe_revL (pv 3))) (blkOk_by (own := [(("line" : Str), 23)]) (N := [("script" : Str), ("pen" : Str), ("lap" : Str), ("lines" : Str), ("far_t" : Str), ("low" : Str), ("high" : Str), ("due" : Str), ("t" : Str), ("its" : Str), ("told" : Str), ("size" : Str), ("ahead" : Str), ("row" : Str), ("heard" : Str), ("bad" : Str), ("far" : Str), ("near" : Str), ("none" : Str), ("turn" : Str), ("at" : Str), ("a" : Str), ("b" : Str), ("line" : Str)]) (sc := defScope s_law) (by decide +kernel)) (fun _ _ _ _ _ => (pg_name (i := 23) sc_law.nd rfl (by first | exact .inl rfl | exact .inr rfl))) (fun _ _ _ _ _ => pts_nil) (fun _ _ _ _ _ => (pe_callTy (r := rListOf K) call_list_of (by rfl) M.z_list bootL (pa_cons (pv 23) pa_nil)))) pk_nil))))) (pv 10) (nomark _)))))
  (pss_one (ps_ret pe_bl))
  pss_nil), fun j D σ H h k => ?_⟩
  obtain ⟨a, p, c, i, n, hn⟩ := j
  have h : Mid8 a p c i n σ H := h
  have k : ∀ σ' H', Mid9 a p c i n σ' H' → D.nx σ' H' := k
  clear hg
  obtain ⟨L, Dl, T, us, vs, ft, lo, hi, l8, l9, rfl, pen, hL, hg, f0, f1, o0, o1, hb, xs, rows, eD, hrows, hT, hlen, hok, hrun⟩ := h
  have h60 := b60
  have hgl : (us ++ vs).length ≤ 105 := by have := hg.u100; have := hg.v5; rw [List.length_append]; omega
  have hsh : ∀ r ∈ rows, shortR r := fun r hr => by
    have z := runs_in hrun r hr
    exact ⟨by omega, by omega, hok r hr⟩
  obtain ⟨w1, w2, w3, w4⟩ := rows_show hsh (by omega)
  obtain ⟨tx, eT, htx⟩ := id hT
  refine ⟨_, rfl, T, _, rfl, .tup (SqT.of eT) (rows_dp htx), w1, w2, w3, w4, _, rfl, Dl, xs, rfl, .inl ⟨SqL.of eD, fun q hq => ?_⟩⟩
  have s1 : Same H (upd H q (.tup xs)) := same_new hq
  refine ⟨q, _, rfl, .tup (SqT.of upd_same) (rows_dp (hrows.imp fun x y z => z.same s1)), w1, w2, w3, w4, rfl, _, rfl, ?_⟩
  rw [decide_eq_true rfl]
  refine iteF ?_
  have hL1 := hL.same s1
  have hT1 := hT.same s1
  have pen1 := pen.same s1
  revert hL1 hT1 pen1
  generalize upd H q (.tup xs) = H1
  intro hL1 hT1 pen1
  obtain ⟨nLp, lx, eL, hlx⟩ := id hL1
  -- verdicts(high=high, low=low, top=far_t, lines=[list(line) for line in lines[::-1]])
  refine ⟨_, rfl, _, rfl, _, rfl, _, rfl, L, lx, rfl, SqL.of eL, fun L3 hL3 => ?_⟩
  have s2 : Same H1 (upd H1 L3 (.lst lx.reverse)) := same_new hL3
  have hrev : AllAt (PairT (upd H1 L3 (.lst lx.reverse))) lx.reverse (us ++ vs).reverse := by
    refine ⟨by rw [List.length_reverse, List.length_reverse]; exact hlx.1, fun j x e => ?_⟩
    have hj : j < lx.length := by
      have := (List.getElem?_eq_some_iff.mp e).1
      rw [List.length_reverse] at this
      exact this
    rw [List.getElem?_reverse hj] at e
    obtain ⟨l, el, hl⟩ := hlx.2 _ x e
    refine ⟨l, ?_, hl.same s2⟩
    rw [List.getElem?_reverse (by rw [← hlx.1]; exact hj), ← hlx.1]
    exact el
  refine ⟨L3, rfl, ⟨_, SqL.of upd_same⟩, fun B hB => lcM (walk_list (xs := lx.reverse)) (fun _ _ _ _ y => y) [] (fun _ _ => True) (fun (j : Nat) (y : V) (H : Hp) => ∃ l : Int × Int, (us ++ vs).reverse[j]? = some l ∧ PairL B H y l) (small1000 (by rw [List.length_reverse, hlx.1]; omega)) hB (by simp) (fun H1 k1 => k1.sql (by simp) (SqL.of upd_same))
    (fun _ _ _ _ => True.intro) (fun j y H H' eD kk r => ?_) True.intro (fun j x H2 Ny Nn hj hxi k2 _ eB fin => ?_) (fun H2 ys k2 _ eB hly hr1 => ?_)⟩
  · obtain ⟨l, h1, q, e, nq, z⟩ := r
    exact ⟨l, h1, q, e, nq, kk _ _ (by simp; exact nq) z⟩
  · obtain ⟨l, el, hl⟩ := hrev.2 j x hxi
    obtain ⟨q, rfl, hq⟩ := hl.same k2.same
    obtain ⟨acc, eB⟩ := eB
    exact ⟨rfl, yes_go ⟨_, rfl, q, _, rfl, .inr (SqT.of hq), fun z hz => fin _ _ (Kx.new hz) True.intro ⟨l, el, z, rfl, fun y => (by rw [y, eB] at hz; cases hz), upd_same⟩⟩⟩
  · have s3 : Same H1 H2 := s2.trans k2.same
    have hlines : AllAt (PairAt K H2) ys (us ++ vs).reverse := ⟨by rw [hly, List.length_reverse, List.length_reverse]; exact hlx.1, fun j y e => by
      obtain ⟨l, el, q, e, _, z⟩ := hr1 j y e
      exact ⟨l, el, q, e, .inr (SqL.of z)⟩⟩
    have few : FewMarks (us ++ vs).reverse ft lo hi := by
      obtain ⟨S, h1, h2, h3⟩ := hg.few ft lo hi
      exact ⟨S, h1, h2, fun p hp => h3 p (List.mem_reverse.mp hp)⟩
    simp only [tNil]
    show spVerdicts K CR C [.ref B, .int ft, .int lo, hiV hi] _ _ _
    refine told_ok rfl (SqL.of eB) hlines (fun z => hg.ne (by rw [← List.reverse_reverse (us ++ vs), z]; rfl)) (by rw [hly, List.length_reverse, hlx.1]; omega) f0 (by omega) o0 (by omega) (fun h z => ⟨(hb h z).1, Int.le_trans (hb h z).2 h60⟩) few fun H' T2 rows2 s4 hT2 hl2 hok2 hrun2 => ?_
    rw [lineV_rev] at hrun2
    have er := K49.isRuns.unique hrun2 hrun
    subst er
    have s5 : Same H1 H' := s3.trans s4
    obtain ⟨tx1, eT1, htx1⟩ := hT1.same s5
    obtain ⟨tx2, eT2, htx2⟩ := hT2
    refine ⟨_, rfl, _, _, .tup (SqT.of eT2) (rows_dp htx2), .tup (SqT.of eT1) (rows_dp htx1), shaped_t hok, shaped_t hok, _, rfl, ?_⟩
    rw [eqv_tup]
    exact iteF (k _ _ ⟨_, _, _, _, _, _, _, _, rfl, pen1.same s5⟩)
theorem lap (F : LF P w K mg base C CR fv fdv) (hr : Room 10 (callerA.deeper (envOfC "law" (defScope s_law) s.heap.objs.size f cdv))) : HTs (LX P w K mg base f cdv s H0) [lapS 0, lapS 1, lapS 2, lapS 3, lapS 4, lapS 5, lapS 6, lapS 7, lapS 8] (fun j : Jx => Pre0 j.a j.p j.c j.i j.n) (fun j => Mid9 j.a j.p j.c j.i j.n) :=
  .cons (lap0 F hr) (.cons (lap1 F hr) (.cons (lap2 F hr) (.cons (lap3 F hr) (.cons (lap4 F hr) (.cons (lap5 F) (.cons (lap6 F hr) (.cons (lap7 F hr) (.one (lap8 F hr)))))))))
end
end W49
end
section
/-! k49: the law: the pen, the laps, the great lines. -/
namespace W49
open PySem PySem.Spec PyProof.Rows L2 LamX
section
variable [TbA] {P : Program} {w : World} {K : PySem.W.Frag} {mg : Str → Option Value} {base : Heap} {C CR fv f : Addr} {fdv : FuncData} {cdv : Value} {s : Shared} {H0 : Hp}
def G0 (K : PySem.W.Frag) (_ : Unit) (σ : L2.St) (H : Hp) : Prop := ∃ (a : Addr) (ns : List Int), σ = L2.start NL [.ref a] ∧ SqL K H a (ns.map V.int) ∧ ns.length ≤ 63 ∧ H TbA.pt = some (.tbl #[])
def G1 (_ : Unit) (σ : L2.St) (H : Hp) : Prop := ∃ (a p c : Addr), σ = lapSt a p none none none none none none none none none ∧ Pen H p c 0
theorem law0 (F : LF P w K mg base C CR fv fdv) (hr : Room 10 (callerA.deeper (envOfC "law" (defScope s_law) s.heap.objs.size f cdv))) : HT1 (LX P w K mg base f cdv s H0) (lawS 0) (G0 K) G1 := by
  obtain ⟨M, C__law_pen, C__law_draw, C__law_pick, C__law_verdict, F_v, m_v, G_v, C_verdicts, EHN, EHR⟩ := F
  refine ⟨_, (ps_set (i := 1) sc_law.nd rfl (by first | exact .inl rfl | exact .inr rfl) (pe_cx C__law_pen hr (by decide) (by rfl) pass0 (pa_cons (pv 0) pa_nil))), fun j D σ H h k => ?_⟩
  obtain ⟨a, ns, rfl, hS, hl, htb⟩ := h
  exact ⟨_, rfl, a, ns, rfl, hS, hl, htb, fun H' p c _ _ pen => k _ _ ⟨a, p, c, rfl, pen⟩⟩
def G2 (_ : Unit) (σ : L2.St) (H : Hp) : Prop := ∃ (a p c : Addr) (l2 l3 l4 l5 l6 l7 l8 l9 l10 : Option V), σ = lapSt a p l2 l3 l4 l5 l6 l7 l8 l9 l10 ∧ Pen H p c 500
theorem law1 (F : LF P w K mg base C CR fv fdv) (hr : Room 10 (callerA.deeper (envOfC "law" (defScope s_law) s.heap.objs.size f cdv))) : HT1 (LX P w K mg base f cdv s H0) (lawS 1) G1 G2 := by
  obtain ⟨tl, hl, run⟩ := lap (f := f) (cdv := cdv) (s := s) (H0 := H0) F hr
  obtain ⟨M, C__law_pen, C__law_draw, C__law_pick, C__law_verdict, F_v, m_v, G_v, C_verdicts, EHN, EHR⟩ := F
  refine ⟨_, ps_for PassesOwn.never rfl (pi_range1 (by rfl) M.z_range (pa_cons pe_int pa_nil)) (pg_name (i := 2) sc_law.nd rfl (.inl rfl)) hl, fun j D σ H h k => ?_⟩
  obtain ⟨a, p, c, rfl, pen⟩ := h
  refine ⟨_, rfl, by decide, by decide, for_range (lo := 0) (fun j σ H => ∃ (l2 l3 l4 l5 l6 l7 l8 l9 l10 : Option V), σ = lapSt a p l2 l3 l4 l5 l6 l7 l8 l9 l10 ∧ Pen H p c (36 * j)) ⟨_, _, _, _, _, _, _, _, _, rfl, pen⟩ (fun j σ H hj h => ?_) fun σ H h => ?_⟩
  · obtain ⟨l2, l3, l4, l5, l6, l7, l8, l9, l10, rfl, pen⟩ := h
    have hj : j < 12 := hj
    rw [show (0 : Int) + (j : Int) = (j : Int) from Int.zero_add _]
    refine run ⟨a, p, c, j, 36 * j, by omega⟩ _ _ _ ⟨l3, l4, l5, l6, l7, l8, l9, l10, rfl, pen⟩ fun σ' H' h => ?_
    obtain ⟨l3, l4, l5, l6, l7, l8, l9, l10, rfl, pen'⟩ := h
    exact ⟨_, _, _, _, _, _, _, _, _, rfl, pen'.mono (by show 36 * j + 36 ≤ 36 * (j + 1); omega)⟩
  · obtain ⟨l2, l3, l4, l5, l6, l7, l8, l9, l10, rfl, pen⟩ := h
    exact k _ _ ⟨a, p, c, l2, l3, l4, l5, l6, l7, l8, l9, l10, rfl, pen.mono (by decide)⟩
abbrev gSt (a p : Addr) (l2 l3 l4 l5 l6 l7 l8 l9 l10 l11 l12 l13 l14 l15 l16 l17 l18 : Option V) : L2.St := [some (.ref a), some (.ref p), l2, l3, l4, l5, l6, l7, l8, l9, l10, l11, l12, l13, l14, l15, l16, l17, l18, none, none, none, none, none]
abbrev SZ : Int := 10 ^ Int.toNat 20
theorem SZ_eq : SZ = 100000000000000000000 := by decide +kernel
def G3 (_ : Unit) (σ : L2.St) (H : Hp) : Prop := ∃ (a p c : Addr) (l2 l3 l4 l5 l6 l7 l8 l9 l10 : Option V), σ = gSt a p l2 l3 l4 l5 l6 l7 l8 l9 l10 (some (.int SZ)) none none none none none none none ∧ Pen H p c 500
theorem law2 : HT1 (LX P w K mg base f cdv s H0) (lawS 2) G2 G3 := by
  refine ⟨_, (ps_set (i := 11) sc_law.nd rfl (by first | exact .inl rfl | exact .inr rfl) (pe_op op_pow pe_int pe_int)), fun j D σ H h k => ?_⟩
  obtain ⟨a, p, c, l2, l3, l4, l5, l6, l7, l8, l9, l10, rfl, pen⟩ := h
  exact ⟨_, _, rfl, rfl, ⟨by decide, by decide, by decide⟩, k _ _ ⟨a, p, c, l2, l3, l4, l5, l6, l7, l8, l9, l10, rfl, pen⟩⟩
structure GreatL (ls : List (Int × Int)) : Prop where
  n : ls.length ≤ 5
  ne : ls ≠ []
  b : ∀ l ∈ ls, l.2.natAbs ≤ 10000
def G4 (_ : Unit) (σ : L2.St) (H : Hp) : Prop := ∃ (a p c L : Addr) (ls : List (Int × Int)) (l2 l4 l5 l6 l7 l8 l9 l10 : Option V), σ = gSt a p l2 (some (.ref L)) l4 l5 l6 l7 l8 l9 l10 (some (.int SZ)) none none none none none none none ∧ Pen H p c 520 ∧ LinesT H p L ls ∧ GreatL ls
theorem law3 (F : LF P w K mg base C CR fv fdv) (hr : Room 10 (callerA.deeper (envOfC "law" (defScope s_law) s.heap.objs.size f cdv))) : HT1 (LX P w K mg base f cdv s H0) (lawS 3) G3 G4 := by
  obtain ⟨M, C__law_pen, C__law_draw, C__law_pick, C__law_verdict, F_v, m_v, G_v, C_verdicts, EHN, EHR⟩ := F
  refine ⟨_, (ps_setLc (i := 3) (own := [(("turn" : Str), 19)]) rfl sc_law.nd rfl rfl rfl (pi_range1 (by rfl) M.z_range (pa_cons (pe_op op_add pe_int (pe_cx C__law_draw hr (by decide) (by rfl) pass0 (pa_cons (pv 1) (pa_cons pe_int pa_nil)))) pa_nil)) (blkOk_by (own := [(("turn" : Str), 19)]) (N := [("script" : Str), ("pen" : Str), ("lap" : Str), ("lines" : Str), ("far_t" : Str), ("low" : Str), ("high" : Str), ("due" : Str), ("t" : Str), ("its" : Str), ("told" : Str), ("size" : Str), ("ahead" : Str), ("row" : Str), ("heard" : Str), ("bad" : Str), ("far" : Str), ("near" : Str), ("none" : Str), ("turn" : Str), ("at" : Str), ("a" : Str), ("b" : Str), ("line" : Str)]) (sc := defScope s_law) (by decide +kernel)) (fun _ _ _ _ _ => (pg_name (i := 19) sc_law.nd rfl (by first | exact .inl rfl | exact .inr rfl))) (fun _ _ _ _ _ => pts_nil) (fun _ _ _ _ _ => (pe_tup (pa_cons (pe_cx C__law_draw hr (by decide) (by rfl) pass0 (pa_cons (pv 1) (pa_cons (pv 11) pa_nil))) (pa_cons (pe_op op_mul (pe_cx C__law_pick hr (by decide) (by rfl) pass0 (pa_cons (pv 1) (pa_cons (pe_lst (pa_cons pe_int (pa_cons pe_int (pa_cons (pe_un un_neg pe_int) pa_nil)))) pa_nil))) (pe_cx C__law_draw hr (by decide) (by rfl) pass0 (pa_cons (pv 1) (pa_cons (pe_op op_pow pe_int pe_int) pa_nil)))) pa_nil))))), fun j D σ H h k => ?_⟩
  obtain ⟨a, p, c, l2, l3, l4, l5, l6, l7, l8, l9, l10, rfl, pen⟩ := h
  have hsz := SZ_eq
  refine ⟨_, rfl, p, c, 4, _, rfl, by decide, logS (by decide) (by decide +kernel), by omega, pen, fun H1 r k1 pen1 r0 r1 => ⟨_, _, rfl, rfl, _, rfl, by omega, by omega, fun L hL => ?_⟩⟩
  obtain ⟨nLp, nLc⟩ := pen1.ne hL
  refine lcM (walk_range (lo := 0) (n := (1 + r).toNat)) (fun _ _ _ _ y => y) [p] (fun j H => Pen H p c (500 + 1 + 3 * j)) (fun (j : Nat) (y : V) (H : Hp) => ∃ l : Int × Int, PairP p H y l ∧ l.2.natAbs ≤ 10000) (small1000 (by omega)) hL (by simp; exact nLp) (fun _ _ => True.intro)
    (fun j H acc hp => hp.upd nLp nLc) (fun j y H H' eD kk r => ?_) pen1 (fun j x H2 Ny Nn hj hx k2 pen2 eD fin => ?_) (fun H2 ys k2 pen2 eD hly hr1 => ?_)
  · obtain ⟨l, h1, h2⟩ := r
    exact ⟨l, h1.kx eD kk, h2⟩
  · refine ⟨rfl, yes_go ?_⟩
    refine ⟨_, rfl, _, rfl, p, c, SZ, _, rfl, by omega, logS (by omega) (Int.lt_of_le_of_lt (Int.le_of_eq hsz) (by decide +kernel)), by omega, pen2, fun H3 r2 k3 pen3 _ _ => ⟨_, rfl, _, rfl, szL (by show 3 ≤ 1000; decide), fun q hq => ?_⟩⟩
    obtain ⟨nqp, nqc⟩ := pen3.ne hq
    refine ⟨p, c, q, _, _, rfl, SqL.of upd_same, nqp, by simp, by show 3 ≤ 1000; decide, ?_, pen3.upd nqp nqc, fun H4 y k4 pen4 hy => ?_⟩
    · omega
    obtain ⟨yi, hyi, rfl⟩ := mem_at (ys := [0, 1, -1]) hy rfl
    have hb : yi.natAbs ≤ 1 := by
      simp only [List.mem_cons, List.not_mem_nil, or_false] at hyi
      rcases hyi with rfl | rfl | rfl <;> decide
    refine ⟨_, rfl, _, _, rfl, rfl, ⟨by decide, by decide, by decide⟩, p, c, 10 ^ Int.toNat 4, _, rfl, by decide, logS (by decide) (by decide +kernel), by omega, pen4, fun H5 r3 k5 pen5 s0 s1 => ⟨_, _, rfl, rfl, .inl ⟨by omega, by omega⟩, szL (by show 2 ≤ 1000; decide), fun z hz => ?_⟩⟩
    have k24 : Kx [p] H2 H5 := ((k3.trans (Kx.new hq)).trans k4).trans k5
    have s1 : r3 < 10000 := s1
    have hb2 : (yi * r3).natAbs ≤ 10000 := by
      rw [Int.natAbs_mul]
      have := Nat.mul_le_mul hb (show r3.natAbs ≤ 10000 by omega)
      omega
    exact fin _ _ (k24.trans (Kx.new hz)) ((pen5.same (same_new hz)).mono (by omega)) ⟨(r2, yi * r3), ⟨z, rfl, (pen5.ne hz).1, upd_same⟩, hb2⟩
  · obtain ⟨ls, hls⟩ := all_ex hr1
    have hlen : ls.length = (1 + r).toNat := by rw [← hls.1]; exact hly
    refine k _ _ ⟨a, p, c, L, ls, l2, l4, l5, l6, l7, l8, l9, l10, rfl, pen2.mono (by omega), ⟨nLp, ys, eD, hls.imp fun y l z => z.1.t⟩, ⟨by omega, fun z => ?_, fun l hl => let ⟨y, z⟩ := hls.mem l hl; z.2⟩⟩
    rw [z] at hlen
    simp at hlen
    omega
def G5 (_ : Unit) (σ : L2.St) (H : Hp) : Prop := ∃ (a p c L : Addr) (ls : List (Int × Int)) (ft lo : Int) (l2 l6 l7 l8 l9 l10 : Option V), σ = gSt a p l2 (some (.ref L)) (some (.int ft)) (some (.int lo)) l6 l7 l8 l9 l10 (some (.int SZ)) none none none none none none none ∧ Pen H p c 522 ∧ LinesT H p L ls ∧ GreatL ls ∧ 0 ≤ ft ∧ ft ≤ 10 ^ 20 ∧ 0 ≤ lo ∧ lo ≤ 10 ^ 20
theorem law4 (F : LF P w K mg base C CR fv fdv) (hr : Room 10 (callerA.deeper (envOfC "law" (defScope s_law) s.heap.objs.size f cdv))) : HT1 (LX P w K mg base f cdv s H0) (lawS 4) G4 G5 := by
  obtain ⟨M, C__law_pen, C__law_draw, C__law_pick, C__law_verdict, F_v, m_v, G_v, C_verdicts, EHN, EHR⟩ := F
  refine ⟨_, (ps_par (i := 4) (j := 5) rfl sc_law.nd rfl rfl (by decide) rfl rfl (pa_cons (pe_op op_add (pe_cx C__law_draw hr (by decide) (by rfl) pass0 (pa_cons (pv 1) (pa_cons (pe_op op_pow pe_int pe_int) pa_nil))) pe_int) (pa_cons (pe_cx C__law_draw hr (by decide) (by rfl) pass0 (pa_cons (pv 1) (pa_cons (pv 11) pa_nil))) pa_nil)) (by rfl)), fun j D σ H h k => ?_⟩
  obtain ⟨a, p, c, L, ls, l2, l4, l5, l6, l7, l8, l9, l10, rfl, pen, hL, hg⟩ := h
  have hsz := SZ_eq
  have h17 : (10 : Int) ^ Int.toNat 17 = 100000000000000000 := by decide +kernel
  refine ⟨_, rfl, _, _, rfl, rfl, ⟨by decide, by decide, by decide⟩, p, c, _, _, rfl, by omega, logS (by omega) (Int.lt_of_le_of_lt (Int.le_of_eq h17) (by decide +kernel)), by omega, pen, fun H1 r k1 pen1 r0 r1 => ⟨_, _, rfl, rfl, _, rfl, _, rfl, p, c, SZ, _, rfl, by omega, logS (by omega) (Int.lt_of_le_of_lt (Int.le_of_eq hsz) (by decide +kernel)), by omega, pen1, fun H2 r2 k2 pen2 s0 s1 => ⟨_, _, rfl, ?_⟩⟩⟩
  exact k _ _ ⟨a, p, c, L, ls, r + 1, r2, l2, l6, l7, l8, l9, l10, rfl, pen2, (hL.kx pen k1).kx pen1 k2, hg, by omega, by omega, s0, by omega⟩
def G6 (_ : Unit) (σ : L2.St) (H : Hp) : Prop := ∃ (a p c L : Addr) (ls : List (Int × Int)) (ft lo : Int) (hi : Option Int) (l2 l7 l8 l9 l10 : Option V), σ = gSt a p l2 (some (.ref L)) (some (.int ft)) (some (.int lo)) (some (hiV hi)) l7 l8 l9 l10 (some (.int SZ)) none none none none none none none ∧ Pen H p c 524 ∧ LinesT H p L ls ∧ GreatL ls ∧ 0 ≤ ft ∧ ft ≤ 10 ^ 20 ∧ 0 ≤ lo ∧ lo ≤ 10 ^ 20 ∧ ∀ h, hi = some h → lo ≤ h ∧ h ≤ 2 * 10 ^ 20
theorem law5 (F : LF P w K mg base C CR fv fdv) (hr : Room 10 (callerA.deeper (envOfC "law" (defScope s_law) s.heap.objs.size f cdv))) : HT1 (LX P w K mg base f cdv s H0) (lawS 5) G5 G6 := by
  obtain ⟨M, C__law_pen, C__law_draw, C__law_pick, C__law_verdict, F_v, m_v, G_v, C_verdicts, EHN, EHR⟩ := F
  refine ⟨_, (ps_set (i := 6) sc_law.nd rfl (by first | exact .inl rfl | exact .inr rfl) (pe_cx C__law_pick hr (by decide) (by rfl) pass0 (pa_cons (pv 1) (pa_cons (pe_lst (pa_cons pe_non (pa_cons (pe_op op_add (pv 5) (pe_cx C__law_draw hr (by decide) (by rfl) pass0 (pa_cons (pv 1) (pa_cons (pv 11) pa_nil)))) pa_nil))) pa_nil)))), fun j D σ H h k => ?_⟩
  obtain ⟨a, p, c, L, ls, ft, lo, l2, l6, l7, l8, l9, l10, rfl, pen, hL, hg, f0, f1, o0, o1⟩ := h
  have hsz := SZ_eq
  refine ⟨_, rfl, _, rfl, _, rfl, _, rfl, p, c, SZ, _, rfl, by omega, logS (by omega) (Int.lt_of_le_of_lt (Int.le_of_eq hsz) (by decide +kernel)), by omega, pen, fun H1 r k1 pen1 r0 r1 => ⟨_, _, rfl, rfl, szL (by show 2 ≤ 1000; decide), fun q hq => ?_⟩⟩
  obtain ⟨nqp, nqc⟩ := pen1.ne hq
  have hL1 := (hL.kx pen k1).same (same_new (o := .lst [.non, .int (lo + r)]) hq)
  refine ⟨p, c, q, _, _, rfl, SqL.of upd_same, nqp, by simp, by show 2 ≤ 1000; decide, ?_, pen1.upd nqp nqc, fun H2 y k2 pen2 hy => ?_⟩
  · omega
  have hL2 := hL1.kx (pen1.upd nqp nqc) k2
  simp only [List.mem_cons, List.not_mem_nil, or_false] at hy
  rcases hy with rfl | rfl
  · exact k _ _ ⟨a, p, c, L, ls, ft, lo, none, l2, l7, l8, l9, l10, rfl, pen2, hL2, hg, f0, f1, o0, o1, fun h z => nomatch z⟩
  · exact k _ _ ⟨a, p, c, L, ls, ft, lo, some (lo + r), l2, l7, l8, l9, l10, rfl, pen2, hL2, hg, f0, f1, o0, o1, fun h z => by cases z; omega⟩
end
end W49
end
section
/-! k49: the law: what is told of the great lines. -/
namespace W49
open PySem PySem.Spec PyProof.Rows L2 LamX
def pvV : Option Str → V
  | some v => .str v
  | none => .non
section
variable [TbA] {P : Program} {w : World} {K : PySem.W.Frag} {mg : Str → Option Value} {base : Heap} {C CR fv f : Addr} {fdv : FuncData} {cdv : Value} {s : Shared} {H0 : Hp}
theorem GreatL.few {ls : List (Int × Int)} (h : GreatL ls) (top low : Int) (high : Option Int) : FewMarks ls top low high := few_of (us := []) (fun p hp => absurd hp (by simp)) h.n fun p hp => by
  have := h.b p hp
  omega
def G7 (_ : Unit) (σ : L2.St) (H : Hp) : Prop := ∃ (a p c L T A0 : Addr) (ls : List (Int × Int)) (ft lo : Int) (hi : Option Int) (l2 l7 l8 l9 : Option V), σ = gSt a p l2 (some (.ref L)) (some (.int ft)) (some (.int lo)) (some (hiV hi)) l7 l8 l9 (some (.ref T)) (some (.int SZ)) (some (.ref A0)) none none none none none none ∧ Pen H p c 524 ∧ LinesT H p L ls ∧ GreatL ls ∧ 0 ≤ ft ∧ ft ≤ 10 ^ 20 ∧
  H A0 = some (.tup [.non, .int (-1), .non]) ∧ ∃ rows, RowsAt H T rows ∧ rows.length ≤ 60 ∧ (∀ r ∈ rows, okW r.2.2) ∧ K49.isRuns (lineV lo hi ls) 0 none rows (ft + 1)
theorem c60 : (2 * 10 ^ 20 : Int) ≤ 10 ^ 60 ∧ (10 ^ 20 : Int) ≤ 10 ^ 60 := by decide +kernel
theorem law6 (F : LF P w K mg base C CR fv fdv) (hr : Room 10 (callerA.deeper (envOfC "law" (defScope s_law) s.heap.objs.size f cdv))) : HT1 (LX P w K mg base f cdv s H0) (lawS 6) G6 G7 := by
  obtain ⟨M, C__law_pen, C__law_draw, C__law_pick, C__law_verdict, F_v, m_v, G_v, C_verdicts, EHN, EHR⟩ := F
  refine ⟨_, (ps_par (i := 10) (j := 12) rfl sc_law.nd rfl rfl (by decide) rfl rfl (pa_cons (pe_cx C_verdicts hr (by decide) (by rfl) passL (pa_cons (pe_callTy call_list_of (by rfl) M.z_list bootL (pa_cons (pv 3) pa_nil)) (pa_cons (pv 4) (pa_cons (pv 5) (pa_cons (pv 6) pa_nil))))) (pa_cons (pe_tup (pa_cons pe_non (pa_cons (pe_un un_neg pe_int) (pa_cons pe_non pa_nil)))) pa_nil)) (by rfl)), fun j D σ H h k => ?_⟩
  obtain ⟨a, p, c, L, ls, ft, lo, hi, l2, l7, l8, l9, l10, rfl, pen, hL, hg, f0, f1, o0, o1, hb⟩ := h
  obtain ⟨nLp, lx, eL, hlx⟩ := id hL
  have h60 := c60
  have hn := hg.n
  refine ⟨_, rfl, L, lx, rfl, .inl (SqL.of eL), fun L2 hL2 => ?_⟩
  refine ⟨_, rfl, _, rfl, _, rfl, ?_⟩
  simp only [tNil]
  show spVerdicts K CR C [.ref L2, .int ft, .int lo, hiV hi] _ _ _
  refine told_ok rfl (SqL.of upd_same) (hlx.imp fun x y z => (z.same (same_new hL2)).at) hg.ne (by rw [hlx.1]; omega) f0 (Int.le_trans f1 h60.2) o0 (Int.le_trans o1 h60.2) (fun h z => ⟨(hb h z).1, Int.le_trans (hb h z).2 h60.1⟩) (hg.few _ _ _) fun H' T rows s2 hT hl2 hok hrun => ?_
  have s3 : Same H H' := (same_new hL2).trans s2
  refine ⟨_, rfl, szL (by show 3 ≤ 1000; decide), fun A0 hA => ⟨_, _, rfl, ?_⟩⟩
  have s4 : Same H (upd H' A0 (.tup [.non, .int (-1), .non])) := s3.trans (same_new hA)
  exact k _ _ ⟨a, p, c, L, T, A0, ls, ft, lo, hi, l2, l7, l8, l9, rfl, pen.same s4, hL.same s4, hg, f0, f1, upd_same, rows, hT.same (same_new hA), hl2, hok, hrun⟩
def G8 (_ : Unit) (σ : L2.St) (H : Hp) : Prop := ∃ (a p c A0 : Addr) (ft : Int) (x y : V) (l2 l3 l5 l6 l7 l8 l9 l10 l13 : Option V), σ = gSt a p l2 l3 (some (.int ft)) l5 l6 l7 l8 l9 l10 (some (.int SZ)) (some (.ref A0)) l13 none none none none none ∧ Pen H p c 600 ∧ H A0 = some (.tup [x, .int ft, y])
theorem scal_sp (v : Str) (p : Option Str) : scal (.str v) (pvV p) = true := by
  cases p with
  | none => rfl
  | some u => rfl
theorem law7 (F : LF P w K mg base C CR fv fdv) (hr : Room 10 (callerA.deeper (envOfC "law" (defScope s_law) s.heap.objs.size f cdv))) : HT1 (LX P w K mg base f cdv s H0) (lawS 7) G7 G8 := by
  obtain ⟨M, C__law_pen, C__law_draw, C__law_pick, C__law_verdict, F_v, m_v, G_v, C_verdicts, EHN, EHR⟩ := F
  refine ⟨_, (ps_for PassesOwn.never rfl (pi_tup (pv 10)) (pg_name (i := 13) sc_law.nd rfl (by first | exact .inl rfl | exact .inr rfl))
  (pss_cons (ps_if (PW.pt (pw_or (pt_cmpR op_ne (pe_ix ix_tup (pv 13) pe_int (fun _ _ => rfl)) (pe_op op_add (pe_ix ix_tup (pv 12) pe_int (fun _ _ => rfl)) pe_int) (nomark _)) (pw_or (pt_cmpR op_lt (pe_ix ix_tup (pv 13) pe_int (fun _ _ => rfl)) (pe_ix ix_tup (pv 13) pe_int (fun _ _ => rfl)) (nomark _)) (pw_or1 (pt_cmpR op_eq (pe_ix ix_tup (pv 13) pe_int (fun _ _ => rfl)) (pe_ix ix_tup (pv 12) pe_int (fun _ _ => rfl)) (nomark _))))))
  (pss_one (ps_ret pe_bl))
  pss_nil)
  (pss_cons (ps_for PassesOwn.never rfl (pi_tup (pe_tup (pa_cons (pe_ix ix_tup (pv 13) pe_int (fun _ _ => rfl)) (pa_cons (pe_ix ix_tup (pv 13) pe_int (fun _ _ => rfl)) (pa_cons (pe_op op_add (pe_ix ix_tup (pv 13) pe_int (fun _ _ => rfl)) (pe_cx C__law_draw hr (by decide) (by rfl) pass0 (pa_cons (pv 1) (pa_cons (pe_op op_add (pe_op op_sub (pe_ix ix_tup (pv 13) pe_int (fun _ _ => rfl)) (pe_ix ix_tup (pv 13) pe_int (fun _ _ => rfl))) pe_int) pa_nil)))) pa_nil))))) (pg_name (i := 8) sc_law.nd rfl (by first | exact .inl rfl | exact .inr rfl))
  (pss_one (ps_if (pt_cmpR op_ne (pe_cx C__law_verdict hr (by decide) (by rfl) pass0 (pa_cons (pe_lc (own := [(("a" : Str), 21), (("b" : Str), 22)]) rfl sc_law.nd (pi_list (pv 3)) (blkOk_by (own := [(("a" : Str), 21), (("b" : Str), 22)]) (N := [("script" : Str), ("pen" : Str), ("lap" : Str), ("lines" : Str), ("far_t" : Str), ("low" : Str), ("high" : Str), ("due" : Str), ("t" : Str), ("its" : Str), ("told" : Str), ("size" : Str), ("ahead" : Str), ("row" : Str), ("heard" : Str), ("bad" : Str), ("far" : Str), ("near" : Str), ("none" : Str), ("turn" : Str), ("at" : Str), ("a" : Str), ("b" : Str), ("line" : Str)]) (sc := defScope s_law) (by decide +kernel)) (fun _ _ _ _ _ => (pg_tupK (n := 2) rfl (pgs_cons (pg_name (i := 21) sc_law.nd rfl (by first | exact .inl rfl | exact .inr rfl)) (pgs_cons (pg_name (i := 22) sc_law.nd rfl (by first | exact .inl rfl | exact .inr rfl)) pgs_nil)))) (fun _ _ _ _ _ => pts_nil) (fun _ _ _ _ _ => (pe_op op_add (pv 21) (pe_op op_mul (pv 22) (pv 8))))) (pa_cons (pv 5) (pa_cons (pv 6) pa_nil)))) (pe_ix ix_tup (pv 13) pe_int (fun _ _ => rfl)) (nomark _))
  (pss_one (ps_ret pe_bl))
  pss_nil)))
  (pss_one (ps_set (i := 12) sc_law.nd rfl (by first | exact .inl rfl | exact .inr rfl) (pv 13)))))), fun j D σ H h k => ?_⟩
  obtain ⟨a, p, c, L, T, A0, ls, ft, lo, hi, l2, l7, l8, l9, rfl, pen, hL, hg, f0, f1, eA, rows, hT, hl60, hok, hrun⟩ := h
  obtain ⟨tx, eT, htx⟩ := id hT
  have hn := hg.n
  have hpt : ∀ b ∈ [p], ∀ xs, H b ≠ some (.tup xs) := pen_tup pen
  have nTp : T ∉ [p] := fun z => hpt T z _ eT
  refine ⟨_, rfl, T, rfl, ⟨_, SqT.of eT⟩, for_tup (K := K) (a := T) (xs := tx) (fun j σ H' => ∃ (Ah : Addr) (e : Int) (x0 : V) (pv : Option Str) (l8 l13 : Option V), σ = gSt a p l2 (some (.ref L)) (some (.int ft)) (some (.int lo)) (some (hiV hi)) l7 l8 l9 (some (.ref T)) (some (.int SZ)) (some (.ref Ah)) l13 none none none none none ∧
      Kx [p] H H' ∧ Pen H' p c (524 + j) ∧ H' Ah = some (.tup [x0, .int e, pvV pv]) ∧ -1 ≤ e ∧ K49.isRuns (lineV lo hi ls) (e + 1) pv (rows.drop j) (ft + 1))
    ⟨A0, -1, .non, none, l8, none, rfl, Kx.refl, pen, eA, by decide, hrun⟩ (fun j σ H' _ h => ?_) (fun j x σ H' hj h => ?_) fun σ H' h => ?_⟩
  · obtain ⟨_, _, _, _, _, _, _, kk, _⟩ := h
    exact SqT.of (kk _ _ nTp eT)
  · obtain ⟨Ah, e, x0, pv, l8, l13, rfl, kk, pen', eAh, he, hruns⟩ := h
    have hj60 : j < 60 := by
      have := (List.getElem?_eq_some_iff.mp hj).1
      rw [htx.1] at this
      omega
    obtain ⟨r, er, hrow⟩ := htx.2 j x hj
    obtain ⟨q, rfl, hq⟩ := hrow.kx kk hpt
    have hd : rows.drop j = r :: rows.drop (j + 1) := by
      obtain ⟨hlt, ee⟩ := List.getElem?_eq_some_iff.mp er
      rw [← ee]
      exact List.drop_eq_getElem_cons hlt
    rw [hd] at hruns
    obtain ⟨rx, ry, rv⟩ := r
    obtain ⟨e1, e2, e3, e4, e5⟩ := hruns
    subst e1
    have e2 : e + 1 ≤ ry := e2
    have hq : H' q = some (.tup [.int (e + 1), .int ry, .str rv]) := hq
    have e3 : pv ≠ some rv := e3
    have e4 : ∀ t, e + 1 ≤ t → t ≤ ry → lineV lo hi ls t = rv := e4
    have e5 : K49.isRuns (lineV lo hi ls) (ry + 1) (some rv) (rows.drop (j + 1)) (ft + 1) := e5
    have hend := K49.isRuns.le e5
    have hL' := hL.kx pen kk
    -- the row's test
    refine ⟨_, rfl, q, _, 0, _, rfl, rfl, SqT.of hq, rfl, _, rfl, Ah, _, 1, _, rfl, rfl, SqT.of eAh, rfl, _, _, rfl, rfl, rfl, _, rfl, ?_⟩
    have t1 : decide (V.int (e + 1) = V.int (e + 1)) = true := decide_eq_true rfl
    refine iteNS rfl ?_
    refine ⟨_, rfl, q, _, 1, _, rfl, rfl, SqT.of hq, rfl, _, rfl, q, _, 0, _, rfl, rfl, SqT.of hq, rfl, _, _, rfl, rfl, _, rfl, ?_⟩
    have t2 : decide (ry < e + 1) = false := decide_eq_false (by omega)
    rw [t2]
    refine iteF ⟨_, rfl, q, _, 2, _, rfl, rfl, SqT.of hq, rfl, _, rfl, Ah, _, 2, _, rfl, rfl, SqT.of eAh, rfl, scal_sp rv pv, _, rfl, ?_⟩
    have t3 : decide (V.str rv = pvV pv) = false := decide_eq_false fun z => by
      cases pv with
      | none => cases z
      | some u => exact e3 (by rw [show rv = u from V.str.inj z])
    rw [t3]
    refine iteF ?_
    -- the three days
    refine ⟨_, rfl, q, _, 0, _, rfl, rfl, SqT.of hq, rfl, _, rfl, q, _, 1, _, rfl, rfl, SqT.of hq, rfl, _, rfl, q, _, 0, _, rfl, rfl, SqT.of hq, rfl, _, rfl, _, rfl, q, _, 1, _, rfl, rfl, SqT.of hq, rfl, _, rfl, q, _, 0, _, rfl, rfl, SqT.of hq, rfl, _, _, rfl, rfl, _, _, rfl, rfl, p, c, _, _, rfl, by omega, logS (by omega) (Int.lt_of_le_of_lt (show ry - (e + 1) + 1 ≤ 100000000000000000001 by omega) (by decide +kernel)), by omega, pen', fun H2 r2 k2 pen2 r0 r1 => ⟨_, _, rfl, rfl, szL (by show 3 ≤ 1000; decide), fun Z hZ => ?_⟩⟩
    have k3 : Kx [p] H' (upd H2 Z (.tup [.int (e + 1), .int ry, .int (e + 1 + r2)])) := k2.trans (Kx.new hZ)
    have pen3 := pen2.same (same_new (o := .tup [.int (e + 1), .int ry, .int (e + 1 + r2)]) hZ)
    have eZ : (upd H2 Z (.tup [.int (e + 1), .int ry, .int (e + 1 + r2)])) Z = some (.tup [.int (e + 1), .int ry, .int (e + 1 + r2)]) := upd_same
    revert k3 pen3 eZ
    generalize upd H2 Z (.tup [.int (e + 1), .int ry, .int (e + 1 + r2)]) = H3
    intro k3 pen3 eZ
    have hq3 := k3 _ _ (fun z => pen_tup pen' q z _ hq) hq
    have hL3 := hL'.kx pen' k3
    refine ⟨Z, rfl, ⟨_, SqT.of eZ⟩, for_tup (K := K) (a := Z) (xs := [.int (e + 1), .int ry, .int (e + 1 + r2)]) (fun i σ H4 => ∃ l8, σ = gSt a p l2 (some (.ref L)) (some (.int ft)) (some (.int lo)) (some (hiV hi)) l7 l8 l9 (some (.ref T)) (some (.int SZ)) (some (.ref Ah)) (some (.ref q)) none none none none none ∧ Same H3 H4)
      ⟨l8, rfl, Same.refl _⟩ (fun i σ H4 _ h => let ⟨_, _, s4⟩ := h; SqT.of (s4 _ _ eZ)) (fun i x σ H4 hi2 h => ?_) fun σ H4 h => ?_⟩
    · obtain ⟨l8', rfl, s4⟩ := h
      obtain ⟨tt, rfl, g0, g1⟩ : ∃ tt : Int, x = .int tt ∧ e + 1 ≤ tt ∧ tt ≤ ry := by
        have hm := List.mem_of_getElem? hi2
        simp only [List.mem_cons, List.not_mem_nil, or_false] at hm
        rcases hm with rfl | rfl | rfl
        · exact ⟨_, rfl, Int.le_refl _, e2⟩
        · exact ⟨_, rfl, e2, Int.le_refl _⟩
        · exact ⟨_, rfl, by omega, by omega⟩
      obtain ⟨nLp, lx, eL, hlx⟩ := hL3.same s4
      refine ⟨_, rfl, L, rfl, ⟨_, SqL.of eL⟩, fun B hB => lcM (walk_list (xs := lx)) (fun _ _ _ _ y => y) [] (fun _ _ => True) (fun (i : Nat) (y : V) (H : Hp) => ∃ l : Int × Int, ls[i]? = some l ∧ y = .int (l.1 + l.2 * tt)) (small1000 (by rw [hlx.1]; omega)) hB (by simp) (fun H1 k1 => k1.sql (by simp) (SqL.of eL))
        (fun _ _ _ _ => True.intro) (fun _ _ _ _ _ _ r => r) True.intro (fun i2 x H5 Ny Nn hi2 hxi k5 _ _ fin => ?_) (fun H5 ys k5 _ eB hly hr1 => ?_)⟩
      · obtain ⟨l, el, hl⟩ := hlx.2 i2 x hxi
        obtain ⟨q', rfl, hq'⟩ := hl.same k5.same
        have hl7 := hg.b l (List.mem_of_getElem? el)
        exact ⟨q', _, rfl, SqT.of hq', rfl, _, _, rfl, _, _, rfl, rfl, rfl, yes_go ⟨_, rfl, _, rfl, _, rfl, _, _, rfl, rfl, .inl ⟨by omega, by omega⟩, _, _, rfl, rfl, fin _ _ Kx.refl True.intro ⟨l, el, rfl⟩⟩⟩
      · have ey : ys = ((ls.map fun l => l.1 + l.2 * tt).map V.int) := by
          rw [List.map_map]
          exact map_at (by rw [hly]; exact hlx.1) hr1
        subst ey
        refine ⟨_, rfl, _, rfl, B, _, lo, hi, rfl, SqL.of eB, by rw [List.length_map]; omega, fun H6 s6 => ?_⟩
        have ev : verdS ((ls.map fun l => l.1 + l.2 * tt).map fun n => K49.within lo hi n) = rv := by
          rw [List.map_map]
          exact e4 tt g0 g1
        rw [ev]
        have s36 : Same H3 H6 := (s4.trans k5.same).trans s6
        refine ⟨_, rfl, q, _, 2, _, rfl, rfl, SqT.of (s36 _ _ hq3), rfl, rfl, _, rfl, iteNS rfl ⟨_, rfl, s36⟩⟩
    · obtain ⟨l8', rfl, s4⟩ := h
      exact ⟨_, rfl, q, ry, .int (e + 1), some rv, _, _, rfl, (kk.trans k3).trans (Kx.of s4), (pen3.same s4).mono (by omega), s4 _ _ hq3, by omega, e5⟩
  · obtain ⟨Ah, e, x0, pv, l8, l13, rfl, kk, pen', eAh, he, hruns⟩ := h
    rw [htx.1, List.drop_length] at hruns
    have ee : e = ft := by
      have z : e + 1 = ft + 1 := hruns
      omega
    subst ee
    exact k _ _ ⟨a, p, c, Ah, e, x0, pvV pv, _, _, _, _, _, _, _, _, _, rfl, pen'.mono (by rw [htx.1]; omega), eAh⟩
end
end W49
end
section
/-! k49: the law: what is no right call. -/
namespace W49
open PySem PySem.Spec PyProof.Rows L2 LamX
/-- all but S and the tables are kept -/
def KxN (S : List Addr) (H H' : Hp) : Prop := ∀ b o, b ∉ S → (∀ ps, o ≠ .tbl ps) → H b = some o → H' b = some o
theorem KxN.after {S : List Addr} {H H1 H2 : Hp} (k : Kx S H H1) (e : KxN S H1 H2) : KxN S H H2 := fun b o n nt h => e b o n nt (k b o n h)
section
variable [TbA] {P : Program} {w : World} {K : PySem.W.Frag} {mg : Str → Option Value} {base : Heap} {C CR fv f : Addr} {fdv : FuncData} {cdv : Value} {s : Shared} {H0 : Hp}
theorem bad_non {H : Hp} {lo hi : Int} : BadV K H .non lo hi := ⟨"NoneType", non_is, fun z => absurd z (by decide)⟩
theorem bad_bl {H : Hp} {b : Bool} {lo hi : Int} : BadV K H (.bl b) lo hi := ⟨"bool", bl_is, fun z => absurd z (by decide)⟩
theorem bad_str {H : Hp} {b : Str} {lo hi : Int} : BadV K H (.str b) lo hi := ⟨"str", str_is, fun z => absurd z (by decide)⟩
theorem bad_int {H : Hp} {i lo hi : Int} (h : ¬ (lo ≤ i ∧ i ≤ hi)) : BadV K H (.int i) lo hi := ⟨"int", int_is, fun _ => ⟨i, rfl, h⟩⟩
def G9 (K : PySem.W.Frag) (_ : Unit) (σ : L2.St) (H : Hp) : Prop := ∃ (a p c A0 : Addr) (ft : Int) (x y bv fv : V) (l2 l3 l5 l6 l7 l8 l9 l10 l13 : Option V), σ = gSt a p l2 l3 (some (.int ft)) l5 l6 l7 l8 l9 l10 (some (.int SZ)) (some (.ref A0)) l13 none (some bv) (some fv) none none ∧ Pen H p c 610 ∧ H A0 = some (.tup [x, .int ft, y]) ∧ (∀ H', KxN [p] H H' → BadL K H' bv) ∧ ∀ H', BadV K H' fv 0 (10 ^ 60)
theorem law8 (F : LF P w K mg base C CR fv fdv) (hr : Room 10 (callerA.deeper (envOfC "law" (defScope s_law) s.heap.objs.size f cdv))) : HT1 (LX P w K mg base f cdv s H0) (lawS 8) G8 (G9 K) := by
  obtain ⟨M, C__law_pen, C__law_draw, C__law_pick, C__law_verdict, F_v, m_v, G_v, C_verdicts, EHN, EHR⟩ := F
  refine ⟨_, (ps_asg (pe_tup (pa_cons (pe_cx C__law_pick hr (by decide) (by rfl) pass0 (pa_cons (pv 1) (pa_cons (pe_lst (pa_cons pe_non (pa_cons pe_int (pa_cons (pe_lst pa_nil) (pa_cons (pe_lst (pa_cons (pe_tup (pa_cons pe_int pa_nil)) pa_nil)) (pa_cons (pe_lst (pa_cons (pe_tup (pa_cons pe_int (pa_cons pe_int (pa_cons pe_int pa_nil)))) pa_nil)) (pa_cons (pe_lst (pa_cons (pe_tup (pa_cons pe_int (pa_cons pe_non pa_nil))) pa_nil)) (pa_cons (pe_lst (pa_cons (pe_tup (pa_cons pe_bl (pa_cons pe_int pa_nil))) pa_nil)) (pa_cons (pe_lst (pa_cons pe_int pa_nil)) (pa_cons pe_dnewK (pa_cons pe_str pa_nil))))))))))) pa_nil))) (pa_cons (pe_cx C__law_pick hr (by decide) (by rfl) pass0 (pa_cons (pv 1) (pa_cons (pe_lst (pa_cons pe_non (pa_cons (pe_un un_neg pe_int) (pa_cons pe_bl (pa_cons (pe_op op_add (pe_op op_pow pe_int pe_int) pe_int) (pa_cons pe_str pa_nil)))))) pa_nil))) pa_nil))) (pg_tup rfl (pgs_cons (pg_name (i := 15) sc_law.nd rfl (by first | exact .inl rfl | exact .inr rfl)) (pgs_cons (pg_name (i := 16) sc_law.nd rfl (by first | exact .inl rfl | exact .inr rfl)) pgs_nil)))), fun j D σ H h k => ?_⟩
  obtain ⟨a, p, c, A0, ft, x, y, l2, l3, l5, l6, l7, l8, l9, l10, l13, rfl, pen, eA⟩ := h
  refine ⟨_, rfl, ?_⟩
  refine ⟨szL (Nat.le_of_ble_eq_true rfl), fun b1 h_b1 => ?_⟩
  have s1 : Same H (upd H b1 (.lst [])) := same_new h_b1
  have e_b1 : (upd H b1 (.lst [])) b1 = some (.lst []) := upd_same
  have n_b1 : b1 ≠ p := (pen.ne h_b1).1
  replace pen := pen.same s1
  replace eA := s1 _ _ eA
  clear s1 h_b1
  revert e_b1 pen eA
  generalize upd H b1 (.lst []) = Hx0
  intro e_b1 pen eA
  refine ⟨szL (Nat.le_of_ble_eq_true rfl), fun t2 h_t2 => ?_⟩
  have s1 : Same Hx0 (upd Hx0 t2 (.tup [.int 1])) := same_new h_t2
  have e_t2 : (upd Hx0 t2 (.tup [.int 1])) t2 = some (.tup [.int 1]) := upd_same
  have n_t2 : t2 ≠ p := (pen.ne h_t2).1
  replace pen := pen.same s1
  replace eA := s1 _ _ eA
  replace e_b1 := s1 _ _ e_b1
  clear s1 h_t2
  revert e_t2 pen eA e_b1
  generalize upd Hx0 t2 (.tup [.int 1]) = Hx1
  intro e_t2 pen eA e_b1
  refine ⟨szL (Nat.le_of_ble_eq_true rfl), fun b2 h_b2 => ?_⟩
  have s1 : Same Hx1 (upd Hx1 b2 (.lst [.ref t2])) := same_new h_b2
  have e_b2 : (upd Hx1 b2 (.lst [.ref t2])) b2 = some (.lst [.ref t2]) := upd_same
  have n_b2 : b2 ≠ p := (pen.ne h_b2).1
  replace pen := pen.same s1
  replace eA := s1 _ _ eA
  replace e_b1 := s1 _ _ e_b1
  replace e_t2 := s1 _ _ e_t2
  clear s1 h_b2
  revert e_b2 pen eA e_b1 e_t2
  generalize upd Hx1 b2 (.lst [.ref t2]) = Hx2
  intro e_b2 pen eA e_b1 e_t2
  refine ⟨szL (Nat.le_of_ble_eq_true rfl), fun t3 h_t3 => ?_⟩
  have s1 : Same Hx2 (upd Hx2 t3 (.tup [.int 1, .int 2, .int 3])) := same_new h_t3
  have e_t3 : (upd Hx2 t3 (.tup [.int 1, .int 2, .int 3])) t3 = some (.tup [.int 1, .int 2, .int 3]) := upd_same
  have n_t3 : t3 ≠ p := (pen.ne h_t3).1
  replace pen := pen.same s1
  replace eA := s1 _ _ eA
  replace e_b1 := s1 _ _ e_b1
  replace e_t2 := s1 _ _ e_t2
  replace e_b2 := s1 _ _ e_b2
  clear s1 h_t3
  revert e_t3 pen eA e_b1 e_t2 e_b2
  generalize upd Hx2 t3 (.tup [.int 1, .int 2, .int 3]) = Hx3
  intro e_t3 pen eA e_b1 e_t2 e_b2
  refine ⟨szL (Nat.le_of_ble_eq_true rfl), fun b3 h_b3 => ?_⟩
  have s1 : Same Hx3 (upd Hx3 b3 (.lst [.ref t3])) := same_new h_b3
  have e_b3 : (upd Hx3 b3 (.lst [.ref t3])) b3 = some (.lst [.ref t3]) := upd_same
  have n_b3 : b3 ≠ p := (pen.ne h_b3).1
  replace pen := pen.same s1
  replace eA := s1 _ _ eA
  replace e_b1 := s1 _ _ e_b1
  replace e_t2 := s1 _ _ e_t2
  replace e_b2 := s1 _ _ e_b2
  replace e_t3 := s1 _ _ e_t3
  clear s1 h_b3
  revert e_b3 pen eA e_b1 e_t2 e_b2 e_t3
  generalize upd Hx3 b3 (.lst [.ref t3]) = Hx4
  intro e_b3 pen eA e_b1 e_t2 e_b2 e_t3
  refine ⟨szL (Nat.le_of_ble_eq_true rfl), fun t4 h_t4 => ?_⟩
  have s1 : Same Hx4 (upd Hx4 t4 (.tup [.int 1, .non])) := same_new h_t4
  have e_t4 : (upd Hx4 t4 (.tup [.int 1, .non])) t4 = some (.tup [.int 1, .non]) := upd_same
  have n_t4 : t4 ≠ p := (pen.ne h_t4).1
  replace pen := pen.same s1
  replace eA := s1 _ _ eA
  replace e_b1 := s1 _ _ e_b1
  replace e_t2 := s1 _ _ e_t2
  replace e_b2 := s1 _ _ e_b2
  replace e_t3 := s1 _ _ e_t3
  replace e_b3 := s1 _ _ e_b3
  clear s1 h_t4
  revert e_t4 pen eA e_b1 e_t2 e_b2 e_t3 e_b3
  generalize upd Hx4 t4 (.tup [.int 1, .non]) = Hx5
  intro e_t4 pen eA e_b1 e_t2 e_b2 e_t3 e_b3
  refine ⟨szL (Nat.le_of_ble_eq_true rfl), fun b4 h_b4 => ?_⟩
  have s1 : Same Hx5 (upd Hx5 b4 (.lst [.ref t4])) := same_new h_b4
  have e_b4 : (upd Hx5 b4 (.lst [.ref t4])) b4 = some (.lst [.ref t4]) := upd_same
  have n_b4 : b4 ≠ p := (pen.ne h_b4).1
  replace pen := pen.same s1
  replace eA := s1 _ _ eA
  replace e_b1 := s1 _ _ e_b1
  replace e_t2 := s1 _ _ e_t2
  replace e_b2 := s1 _ _ e_b2
  replace e_t3 := s1 _ _ e_t3
  replace e_b3 := s1 _ _ e_b3
  replace e_t4 := s1 _ _ e_t4
  clear s1 h_b4
  revert e_b4 pen eA e_b1 e_t2 e_b2 e_t3 e_b3 e_t4
  generalize upd Hx5 b4 (.lst [.ref t4]) = Hx6
  intro e_b4 pen eA e_b1 e_t2 e_b2 e_t3 e_b3 e_t4
  refine ⟨szL (Nat.le_of_ble_eq_true rfl), fun t5 h_t5 => ?_⟩
  have s1 : Same Hx6 (upd Hx6 t5 (.tup [.bl true, .int 2])) := same_new h_t5
  have e_t5 : (upd Hx6 t5 (.tup [.bl true, .int 2])) t5 = some (.tup [.bl true, .int 2]) := upd_same
  have n_t5 : t5 ≠ p := (pen.ne h_t5).1
  replace pen := pen.same s1
  replace eA := s1 _ _ eA
  replace e_b1 := s1 _ _ e_b1
  replace e_t2 := s1 _ _ e_t2
  replace e_b2 := s1 _ _ e_b2
  replace e_t3 := s1 _ _ e_t3
  replace e_b3 := s1 _ _ e_b3
  replace e_t4 := s1 _ _ e_t4
  replace e_b4 := s1 _ _ e_b4
  clear s1 h_t5
  revert e_t5 pen eA e_b1 e_t2 e_b2 e_t3 e_b3 e_t4 e_b4
  generalize upd Hx6 t5 (.tup [.bl true, .int 2]) = Hx7
  intro e_t5 pen eA e_b1 e_t2 e_b2 e_t3 e_b3 e_t4 e_b4
  refine ⟨szL (Nat.le_of_ble_eq_true rfl), fun b5 h_b5 => ?_⟩
  have s1 : Same Hx7 (upd Hx7 b5 (.lst [.ref t5])) := same_new h_b5
  have e_b5 : (upd Hx7 b5 (.lst [.ref t5])) b5 = some (.lst [.ref t5]) := upd_same
  have n_b5 : b5 ≠ p := (pen.ne h_b5).1
  replace pen := pen.same s1
  replace eA := s1 _ _ eA
  replace e_b1 := s1 _ _ e_b1
  replace e_t2 := s1 _ _ e_t2
  replace e_b2 := s1 _ _ e_b2
  replace e_t3 := s1 _ _ e_t3
  replace e_b3 := s1 _ _ e_b3
  replace e_t4 := s1 _ _ e_t4
  replace e_b4 := s1 _ _ e_b4
  replace e_t5 := s1 _ _ e_t5
  clear s1 h_b5
  revert e_b5 pen eA e_b1 e_t2 e_b2 e_t3 e_b3 e_t4 e_b4 e_t5
  generalize upd Hx7 b5 (.lst [.ref t5]) = Hx8
  intro e_b5 pen eA e_b1 e_t2 e_b2 e_t3 e_b3 e_t4 e_b4 e_t5
  refine ⟨szL (Nat.le_of_ble_eq_true rfl), fun b6 h_b6 => ?_⟩
  have s1 : Same Hx8 (upd Hx8 b6 (.lst [.int 5])) := same_new h_b6
  have e_b6 : (upd Hx8 b6 (.lst [.int 5])) b6 = some (.lst [.int 5]) := upd_same
  have n_b6 : b6 ≠ p := (pen.ne h_b6).1
  replace pen := pen.same s1
  replace eA := s1 _ _ eA
  replace e_b1 := s1 _ _ e_b1
  replace e_t2 := s1 _ _ e_t2
  replace e_b2 := s1 _ _ e_b2
  replace e_t3 := s1 _ _ e_t3
  replace e_b3 := s1 _ _ e_b3
  replace e_t4 := s1 _ _ e_t4
  replace e_b4 := s1 _ _ e_b4
  replace e_t5 := s1 _ _ e_t5
  replace e_b5 := s1 _ _ e_b5
  clear s1 h_b6
  revert e_b6 pen eA e_b1 e_t2 e_b2 e_t3 e_b3 e_t4 e_b4 e_t5 e_b5
  generalize upd Hx8 b6 (.lst [.int 5]) = Hx9
  intro e_b6 pen eA e_b1 e_t2 e_b2 e_t3 e_b3 e_t4 e_b4 e_t5 e_b5
  refine fun b7 h_b7 => ?_
  have s1 : Same Hx9 (upd Hx9 b7 (.dK [])) := same_new h_b7
  have e_b7 : (upd Hx9 b7 (.dK [])) b7 = some (.dK []) := upd_same
  have n_b7 : b7 ≠ p := (pen.ne h_b7).1
  replace pen := pen.same s1
  replace eA := s1 _ _ eA
  replace e_b1 := s1 _ _ e_b1
  replace e_t2 := s1 _ _ e_t2
  replace e_b2 := s1 _ _ e_b2
  replace e_t3 := s1 _ _ e_t3
  replace e_b3 := s1 _ _ e_b3
  replace e_t4 := s1 _ _ e_t4
  replace e_b4 := s1 _ _ e_b4
  replace e_t5 := s1 _ _ e_t5
  replace e_b5 := s1 _ _ e_b5
  replace e_b6 := s1 _ _ e_b6
  clear s1 h_b7
  revert e_b7 pen eA e_b1 e_t2 e_b2 e_t3 e_b3 e_t4 e_b4 e_t5 e_b5 e_b6
  generalize upd Hx9 b7 (.dK []) = Hx10
  intro e_b7 pen eA e_b1 e_t2 e_b2 e_t3 e_b3 e_t4 e_b4 e_t5 e_b5 e_b6
  refine ⟨szL (Nat.le_of_ble_eq_true rfl), fun q h_q => ?_⟩
  have s1 : Same Hx10 (upd Hx10 q (.lst [.non, .int 5, .ref b1, .ref b2, .ref b3, .ref b4, .ref b5, .ref b6, .ref b7, .str "12"])) := same_new h_q
  have e_q : (upd Hx10 q (.lst [.non, .int 5, .ref b1, .ref b2, .ref b3, .ref b4, .ref b5, .ref b6, .ref b7, .str "12"])) q = some (.lst [.non, .int 5, .ref b1, .ref b2, .ref b3, .ref b4, .ref b5, .ref b6, .ref b7, .str "12"]) := upd_same
  have n_q : q ≠ p := (pen.ne h_q).1
  replace pen := pen.same s1
  replace eA := s1 _ _ eA
  replace e_b1 := s1 _ _ e_b1
  replace e_t2 := s1 _ _ e_t2
  replace e_b2 := s1 _ _ e_b2
  replace e_t3 := s1 _ _ e_t3
  replace e_b3 := s1 _ _ e_b3
  replace e_t4 := s1 _ _ e_t4
  replace e_b4 := s1 _ _ e_b4
  replace e_t5 := s1 _ _ e_t5
  replace e_b5 := s1 _ _ e_b5
  replace e_b6 := s1 _ _ e_b6
  replace e_b7 := s1 _ _ e_b7
  clear s1 h_q
  revert e_q pen eA e_b1 e_t2 e_b2 e_t3 e_b3 e_t4 e_b4 e_t5 e_b5 e_b6 e_b7
  generalize upd Hx10 q (.lst [.non, .int 5, .ref b1, .ref b2, .ref b3, .ref b4, .ref b5, .ref b6, .ref b7, .str "12"]) = Hx11
  intro e_q pen eA e_b1 e_t2 e_b2 e_t3 e_b3 e_t4 e_b4 e_t5 e_b5 e_b6 e_b7
  refine ⟨p, c, q, _, _, rfl, SqL.of e_q, n_q, by simp, Nat.le_of_ble_eq_true rfl, by decide, pen, fun H1 y1 k1 pen1 hy1 => ?_⟩
  -- far
  refine ⟨_, rfl, _, rfl, _, _, rfl, rfl, ⟨by decide, by decide, by decide⟩, _, _, rfl, rfl, szL (Nat.le_of_ble_eq_true rfl), fun q2 hq2 => ?_⟩
  obtain ⟨nqp, nqc⟩ := pen1.ne hq2
  refine ⟨p, c, q2, _, _, rfl, SqL.of upd_same, nqp, by simp, Nat.le_of_ble_eq_true rfl, by decide, pen1.upd nqp nqc, fun H2 y2 k2 pen2 hy2 => ⟨szL (by show 2 ≤ 1000; decide), fun z hz => ⟨z, [y1, y2], rfl, SqT.of upd_same, rfl, _, _, rfl, _, _, rfl, rfl, ?_⟩⟩⟩
  have kz : Kx [p] Hx11 (upd H2 z (.tup [y1, y2])) := ((k1.trans (Kx.new hq2)).trans k2).trans (Kx.new hz)
  have nAp : A0 ∉ [p] := fun zz => pen_tup pen A0 zz _ eA
  refine k _ _ ⟨a, p, c, A0, ft, x, y, y1, y2, l2, l3, l5, l6, l7, l8, l9, l10, l13, rfl, (pen2.same (same_new hz)).mono (by decide), kz _ _ nAp eA, fun Hf kf => ?_, fun Hf => ?_⟩
  · have tr : ∀ b o, b ≠ p → Hx11 b = some o → (∀ ps, o ≠ .tbl ps) → Hf b = some o := fun b o nb e nt => kf b o (by simp; exact nb) nt (kz b o (by simp; exact nb) e)
    clear k
    simp only [List.mem_cons, List.not_mem_nil, or_false] at hy1
    rcases hy1 with rfl | rfl | rfl | rfl | rfl | rfl | rfl | rfl | rfl | rfl
    · exact .inl ⟨"NoneType", non_is, by decide, by decide⟩
    · exact .inl ⟨"int", int_is, by decide, by decide⟩
    · exact .inr ⟨b1, [], [], rfl, SqL.of (tr _ _ n_b1 e_b1 (fun _ z => nomatch z)), by decide, .nil, rfl⟩
    · exact .inr ⟨b2, [.ref t2], [some [true]], rfl, SqL.of (tr _ _ n_b2 e_b2 (fun _ z => nomatch z)), by show 1 ≤ 200; decide, .cons ⟨t2, _, rfl, .inr (SqT.of (tr _ _ n_t2 e_t2 (fun _ z => nomatch z))), .cons ⟨"int", int_is, rfl⟩ .nil⟩ .nil, rfl⟩
    · exact .inr ⟨b3, [.ref t3], [some [true, true, true]], rfl, SqL.of (tr _ _ n_b3 e_b3 (fun _ z => nomatch z)), by show 1 ≤ 200; decide, .cons ⟨t3, _, rfl, .inr (SqT.of (tr _ _ n_t3 e_t3 (fun _ z => nomatch z))), .cons ⟨"int", int_is, rfl⟩ (.cons ⟨"int", int_is, rfl⟩ (.cons ⟨"int", int_is, rfl⟩ .nil))⟩ .nil, rfl⟩
    · exact .inr ⟨b4, [.ref t4], [some [true, false]], rfl, SqL.of (tr _ _ n_b4 e_b4 (fun _ z => nomatch z)), by show 1 ≤ 200; decide, .cons ⟨t4, _, rfl, .inr (SqT.of (tr _ _ n_t4 e_t4 (fun _ z => nomatch z))), .cons ⟨"int", int_is, rfl⟩ (.cons ⟨"NoneType", non_is, rfl⟩ .nil)⟩ .nil, rfl⟩
    · exact .inr ⟨b5, [.ref t5], [some [false, true]], rfl, SqL.of (tr _ _ n_b5 e_b5 (fun _ z => nomatch z)), by show 1 ≤ 200; decide, .cons ⟨t5, _, rfl, .inr (SqT.of (tr _ _ n_t5 e_t5 (fun _ z => nomatch z))), .cons ⟨"bool", bl_is, rfl⟩ (.cons ⟨"int", int_is, rfl⟩ .nil)⟩ .nil, rfl⟩
    · exact .inr ⟨b6, [.int 5], [none], rfl, SqL.of (tr _ _ n_b6 e_b6 (fun _ z => nomatch z)), by show 1 ≤ 200; decide, .cons ⟨"int", int_is, by decide, by decide⟩ .nil, rfl⟩
    · exact .inl ⟨"dict", dict_is (tr _ _ n_b7 e_b7 (fun _ z => nomatch z)), by decide, by decide⟩
    · exact .inl ⟨"str", str_is, by decide, by decide⟩
  · clear k
    simp only [List.mem_cons, List.not_mem_nil, or_false] at hy2
    rcases hy2 with rfl | rfl | rfl | rfl | rfl
    · exact bad_non
    · exact bad_int (by decide)
    · exact bad_bl
    · exact bad_int (by decide +kernel)
    · exact bad_str
def G10 (K : PySem.W.Frag) (_ : Unit) (σ : L2.St) (H : Hp) : Prop := ∃ (a p c A0 : Addr) (ft : Int) (x y bv fv nv ev : V) (l2 l3 l5 l6 l7 l8 l9 l10 l13 : Option V), σ = gSt a p l2 l3 (some (.int ft)) l5 l6 l7 l8 l9 l10 (some (.int SZ)) (some (.ref A0)) l13 none (some bv) (some fv) (some ev) (some nv) ∧ H TbA.pt = some (.tbl #[]) ∧ H A0 = some (.tup [x, .int ft, y]) ∧ (∀ H', ExtN H H' → BadL K H' bv) ∧ (∀ H', BadV K H' fv 0 (10 ^ 60)) ∧ (∀ H', BadV K H' nv 0 (10 ^ 60)) ∧ (∀ H', BadV K H' ev 5 (10 ^ 60)) ∧ ev ≠ .non
theorem law9 (F : LF P w K mg base C CR fv fdv) (hr : Room 10 (callerA.deeper (envOfC "law" (defScope s_law) s.heap.objs.size f cdv))) : HT1 (LX P w K mg base f cdv s H0) (lawS 9) (G9 K) (G10 K) := by
  obtain ⟨M, C__law_pen, C__law_draw, C__law_pick, C__law_verdict, F_v, m_v, G_v, C_verdicts, EHN, EHR⟩ := F
  refine ⟨_, (ps_asg (pe_tup (pa_cons (pe_cx C__law_pick hr (by decide) (by rfl) pass0 (pa_cons (pv 1) (pa_cons (pe_lst (pa_cons pe_non (pa_cons (pe_un un_neg pe_int) (pa_cons pe_bl (pa_cons (pe_op op_add (pe_op op_pow pe_int pe_int) pe_int) (pa_cons pe_str pa_nil)))))) pa_nil))) (pa_cons (pe_cx C__law_pick hr (by decide) (by rfl) pass0 (pa_cons (pv 1) (pa_cons (pe_lst (pa_cons pe_int (pa_cons (pe_un un_neg pe_int) (pa_cons pe_bl (pa_cons (pe_op op_add (pe_op op_pow pe_int pe_int) pe_int) (pa_cons pe_str pa_nil)))))) pa_nil))) pa_nil))) (pg_tup rfl (pgs_cons (pg_name (i := 18) sc_law.nd rfl (by first | exact .inl rfl | exact .inr rfl)) (pgs_cons (pg_name (i := 17) sc_law.nd rfl (by first | exact .inl rfl | exact .inr rfl)) pgs_nil)))), fun j D σ H h k => ?_⟩
  obtain ⟨a, p, c, A0, ft, x, y, bv, fv, l2, l3, l5, l6, l7, l8, l9, l10, l13, rfl, pen, eA, hbv, hfv⟩ := h
  refine ⟨_, rfl, _, rfl, _, _, rfl, rfl, ⟨by decide, by decide, by decide⟩, _, _, rfl, rfl, szL (Nat.le_of_ble_eq_true rfl), fun q1 hq1 => ?_⟩
  obtain ⟨mqp, mqc⟩ := pen.ne hq1
  refine ⟨p, c, q1, _, _, rfl, SqL.of upd_same, mqp, by simp, Nat.le_of_ble_eq_true rfl, by decide, pen.upd mqp mqc, fun H1 y1 k1 pen1 hy1 => ?_⟩
  refine ⟨_, rfl, _, rfl, _, _, rfl, rfl, ⟨by decide, by decide, by decide⟩, _, _, rfl, rfl, szL (Nat.le_of_ble_eq_true rfl), fun q2 hq2 => ?_⟩
  obtain ⟨nqp, nqc⟩ := pen1.ne hq2
  refine ⟨p, c, q2, _, _, rfl, SqL.of upd_same, nqp, by simp, Nat.le_of_ble_eq_true rfl, by decide, pen1.upd nqp nqc, fun H2 y2 k2 pen2 hy2 => ⟨szL (by show 2 ≤ 1000; decide), fun z hz => ⟨z, [y1, y2], rfl, SqT.of upd_same, rfl, _, _, rfl, _, _, rfl, rfl, ?_⟩⟩⟩
  have kz : Kx [p] H (upd H2 z (.tup [y1, y2])) := ((((Kx.new hq1).trans k1).trans (Kx.new hq2)).trans k2).trans (Kx.new hz)
  have nAp : A0 ∉ [p] := fun zz => pen_tup pen A0 zz _ eA
  simp only [List.mem_cons, List.not_mem_nil, or_false] at hy1 hy2
  refine k _ _ ⟨a, p, c, A0, ft, x, y, bv, fv, y1, y2, l2, l3, l5, l6, l7, l8, l9, l10, l13, rfl, (pen2.same (same_new hz)).tb, kz _ _ nAp eA, fun Hf sf => hbv _ (KxN.after kz fun b o _ nt e => sf b o e nt), hfv, fun Hf => ?_, fun Hf => ?_, ?_⟩
  · clear k
    rcases hy1 with rfl | rfl | rfl | rfl | rfl
    · exact bad_non
    · exact bad_int (by decide)
    · exact bad_bl
    · exact bad_int (by decide +kernel)
    · exact bad_str
  · clear k
    rcases hy2 with rfl | rfl | rfl | rfl | rfl
    · exact bad_int (by decide)
    · exact bad_int (by decide)
    · exact bad_bl
    · exact bad_int (by decide +kernel)
    · exact bad_str
  · clear k
    rcases hy2 with rfl | rfl | rfl | rfl | rfl <;> exact fun z => nomatch z
end
end W49
end
section
/-! k49: the law: what is heard of bad calls, the end. -/
namespace W49
open PySem PySem.Spec PyProof.Rows L2 LamX
abbrev LQ (P : Program) (w : World) (K : PySem.W.Frag) (mg : Str → Option Value) (base : Heap) (f cc : Addr) (s : Shared) (H0 : Hp) : Str := (LX P w K mg base f (.ref cc) s H0).env.qual ++ "<lambda>"
theorem bind_lam {params : Arguments} {body : Expr} {scope : Scope} {a : Str} (h : ∀ (qn : Str) (cl : List (Str × Addr)) (q : Addr) (pm cv ctv v : Value), ∃ k, bindArgs (LamD.dfn qn params body scope cl q pm cv ctv) ⟨[], []⟩ = seqItems? (.ref q) >>= k ∧ k (some #[v]) = pure [(a, v)]) (qn : Str) (cl : List (Str × Addr)) (q : Addr) (pm cv ctv : Value) (s : Shared) (o : Obj) (v : Value) (n : Nat) (ho : s.heap.get? q = some o) (hd : o.data = .seq #[v] n) : BindsTo s (LamD.dfn qn params body scope cl q pm cv ctv) ⟨[], []⟩ [(a, v)] := by
  obtain ⟨k, e1, e2⟩ := h qn cl q pm cv ctv v
  intro M A E Q hq
  rw [e1]
  refine wpAny_bind (wpAny_seqItems ho hd ?_)
  rw [e2]
  exact wpAny_pure hq
theorem ExtN.tup {H H' : Hp} (e : ExtN H H') {b : Addr} {xs : List V} (h : H b = some (.tup xs)) : H' b = some (.tup xs) := e _ _ h (fun _ z => nomatch z)
theorem ExtN.lst {H H' : Hp} (e : ExtN H H') {b : Addr} {xs : List V} (h : H b = some (.lst xs)) : H' b = some (.lst xs) := e _ _ h (fun _ z => nomatch z)
theorem ix_a : ∀ i : Fin 24, NL[i.val]? = some ("a" : Str) → i.val = 21 := by decide +kernel
theorem ix_b : ∀ i : Fin 24, NL[i.val]? = some ("b" : Str) → i.val = 22 := by decide +kernel
theorem no_a {a p : Addr} {l2 l3 l4 l5 l6 l7 l8 l9 l10 l11 l12 l13 l14 l15 l16 l17 l18 : Option V} (i : Nat) (v : V) (h : NL[i]? = some ("a" : Str)) : (gSt a p l2 l3 l4 l5 l6 l7 l8 l9 l10 l11 l12 l13 l14 l15 l16 l17 l18)[i]? ≠ some (some v) := by
  have hl : i < 24 := (List.getElem?_eq_some_iff.mp h).1
  have e := ix_a ⟨i, hl⟩ h
  have e : i = 21 := e
  rw [e]
  exact fun z => nomatch z
theorem no_b {a p : Addr} {l2 l3 l4 l5 l6 l7 l8 l9 l10 l11 l12 l13 l14 l15 l16 l17 l18 : Option V} (i : Nat) (v : V) (h : NL[i]? = some ("b" : Str)) : (gSt a p l2 l3 l4 l5 l6 l7 l8 l9 l10 l11 l12 l13 l14 l15 l16 l17 l18)[i]? ≠ some (some v) := by
  have hl : i < 24 := (List.getElem?_eq_some_iff.mp h).1
  have e := ix_b ⟨i, hl⟩ h
  have e : i = 22 := e
  rw [e]
  exact fun z => nomatch z
abbrev pairS (x y : Str) : HO := .tup [.str x, .str y]
section
variable [TbA] {P : Program} {w : World} {K : PySem.W.Frag} {mg : Str → Option Value} {base : Heap} {C CR fv f cc fh : Addr} {fdv fdh : FuncData} {s : Shared} {H0 : Hp}
theorem one_line {H : Hp} {t l : Addr} (ht : H t = none) (hl : (upd H t (.tup [.int 1, .int 2])) l = none) : AllAt (PairAt K (upd (upd H t (.tup [.int 1, .int 2])) l (.lst [.ref t]))) [.ref t] [(1, 2)] :=
  .cons ⟨t, rfl, .inl (SqT.of (by rw [upd_ne (ne_of_none (H := upd H t (.tup [.int 1, .int 2])) upd_same hl)]; exact upd_same))⟩ .nil
def G11 (K : PySem.W.Frag) (T : List (Addr × Str)) (_ : Unit) (σ : L2.St) (H : Hp) : Prop := ∃ (a p A0 Lh p1 p2 p3 : Addr) (ft : Int) (x y ev : V) (l2 l3 l5 l6 l7 l8 l9 l10 l13 l15 l16 l18 : Option V), σ = gSt a p l2 l3 (some (.int ft)) l5 l6 l7 l8 l9 l10 (some (.int SZ)) (some (.ref A0)) l13 (some (.ref Lh)) l15 l16 (some ev) l18 ∧ Tabs T H ∧ H A0 = some (.tup [x, .int ft, y]) ∧ (∀ H', BadV K H' ev 5 (10 ^ 60)) ∧ ev ≠ .non ∧
  H Lh = some (.lst [.ref p1, .ref p2, .ref p3]) ∧ H p1 = some (pairS "row" "lines") ∧ H p2 = some (pairS "number" "top") ∧ H p3 = some (pairS "number" "low")
theorem law10 (F : LF P w K mg base C CR fv fdv) (F_h : Fun K "_law_heard" "_law_heard" s__law_heard fh fdh) (m_h : mg "_law_heard" = some (.ref fh)) (TB : TabB base mg cc TbA.pt) (hr : Room 10 (callerA.deeper (envOfC "law" (defScope s_law) s.heap.objs.size f (.ref cc)))) : HT1 (LX P w K mg base f (.ref cc) s H0) (lawS 10) (G10 K) (G11 K [(TbA.pt, LQ P w K mg base f cc s H0)]) := by
  obtain ⟨M, C__law_pen, C__law_draw, C__law_pick, C__law_verdict, F_v, m_v, G_v, C_verdicts, EHN, EHR⟩ := F
  have b_h : Binds K fdh ["ask"] [] := F_h.binds fun _ _ _ _ _ _ us hl => match us, hl with | [_], _ => rfl
  have kp_h := F_h.kp
  obtain ⟨och, odh, kVh, doch, pmh, anh, cdvh, cth, oslh, rfl, l_h, c_h⟩ := F_h.ex
  refine ⟨_, (ps_set (i := 14) sc_law.nd rfl (by first | exact .inl rfl | exact .inr rfl) (pe_lst (pa_cons (pe_lamcall (T := [(TbA.pt, LQ P w K mg base f cc s H0)]) (k := 6) (by rfl) m_h kp_h l_h c_h b_h sc__law_heard rfl (.inl rfl) (heard_gives (D := CR) (bN := false) (bR := true) "lines" M EHR rfl) TB rfl List.mem_cons_self (fun p hp _ => by rcases List.mem_singleton.mp hp with rfl; rfl) (hr.mono (by decide)) (lamS_by (sc := defScope s_law) (by decide +kernel)) (by rfl) (fun _ _ _ _ _ => rfl) (fun A outer s H E f c' hr => (pe_cx C_verdicts hr (by decide) (by rfl) (passC (takes_of rfl rfl rfl rfl)) (pa_cons (pv 15) (pa_cons (pv 16) (pa_cons (pv 18) (pa_cons (pv 17) pa_nil))))))) (pa_cons (LamD.pe_lamcallD (T := [(TbA.pt, LQ P w K mg base f cc s H0)]) (a := "a") (k := 6) (by rfl) m_h kp_h l_h c_h b_h sc__law_heard rfl (.inl rfl) (heard_gives (D := C) (bN := true) (bR := false) "top" M EHN rfl) TB rfl List.mem_cons_self (fun p hp _ => by rcases List.mem_singleton.mp hp with rfl; rfl) (hr.mono (by decide)) (⟨rfl, rfl, rfl, by decide +kernel, by decide +kernel, rfl⟩ : LamD.LamS1 "a" (defScope s_law) _) (by rfl) rfl (bind_lam fun _ _ _ _ _ _ _ => ⟨_, rfl, rfl⟩) (fun A outer s H E f c' hr => (pe_cx C_verdicts hr (by decide) (by rfl) (passC (takes_of rfl rfl rfl rfl)) (pa_cons (pe_lst (pa_cons (pe_tup (pa_cons pe_int (pa_cons pe_int pa_nil))) pa_nil)) (pa_cons (pv 16) (pa_cons (pv 18) (pa_cons (pv 17) pa_nil))))))) (pa_cons (LamD.pe_lamcallD (T := [(TbA.pt, LQ P w K mg base f cc s H0)]) (a := "b") (k := 6) (by rfl) m_h kp_h l_h c_h b_h sc__law_heard rfl (.inl rfl) (heard_gives (D := C) (bN := true) (bR := false) "low" M EHN rfl) TB rfl List.mem_cons_self (fun p hp _ => by rcases List.mem_singleton.mp hp with rfl; rfl) (hr.mono (by decide)) (⟨rfl, rfl, rfl, by decide +kernel, by decide +kernel, rfl⟩ : LamD.LamS1 "b" (defScope s_law) _) (by rfl) rfl (bind_lam fun _ _ _ _ _ _ _ => ⟨_, rfl, rfl⟩) (fun A outer s H E f c' hr => (pe_cx C_verdicts hr (by decide) (by rfl) (passC (takes_of rfl rfl rfl rfl)) (pa_cons (pe_lst (pa_cons (pe_tup (pa_cons pe_int (pa_cons pe_int pa_nil))) pa_nil)) (pa_cons pe_int (pa_cons (pv 18) (pa_cons (pv 17) pa_nil))))))) pa_nil))))), fun j D σ H h k => ?_⟩
  obtain ⟨a, p, c, A0, ft, x, y, bv, fv, nv, ev, l2, l3, l5, l6, l7, l8, l9, l10, l13, rfl, tb, eA, hbv, hfv, hnv, hev, hne⟩ := h
  have T0 : Tabs [(TbA.pt, LQ P w K mg base f cc s H0)] H := fun q hq => by
    rcases List.mem_singleton.mp hq with rfl
    exact TabS.nil tb
  refine ⟨T0, fun H1 x1 T1 H1' Qn s1 => ⟨_, rfl, _, rfl, _, rfl, _, rfl, bv, fv, nv, ev, rfl, .inl ⟨hbv _ (x1.trans (ExtN.of s1)), fun H2 s2 d hd => ⟨rfl, d, rfl, upd_same, fun H3 p1 s3 e1 => ?_⟩⟩⟩⟩
  have S13 : Same H1 H3 := ((s1.trans s2).trans (same_new hd)).trans s3
  have T3 := T1.ext S13
  have eA3 := S13 _ _ (ExtN.tup x1 eA)
  clear s1 s2 hd s3 S13 T1 x1 T0 eA
  refine ⟨no_a, T3, fun H4 x4 T4 H4' Qn s4 => ⟨szL (by decide), fun t ht => ⟨szL (Nat.le_of_ble_eq_true rfl), fun l hl => ⟨_, rfl, _, rfl, _, rfl, .ref l, fv, nv, ev, rfl, .inr ⟨l, [.ref t], [(1, 2)], rfl, SqL.of upd_same, one_line ht hl, by simp, Nat.le_of_ble_eq_true rfl, .inl ⟨hfv _, fun H5 s5 d hd => ⟨rfl, d, rfl, upd_same, fun H6 p2 s6 e2 => ?_⟩⟩⟩⟩⟩⟩⟩
  have S46 : Same H4 H6 := ((((s4.trans (same_new ht)).trans (same_new hl)).trans s5).trans (same_new hd)).trans s6
  have T6 := T4.ext S46
  have eA6 := S46 _ _ (ExtN.tup x4 eA3)
  have e16 := S46 _ _ (ExtN.tup x4 e1)
  clear s4 ht hl s5 hd s6 S46 T4 x4 T3 eA3 e1
  refine ⟨no_b, T6, fun H7 x7 T7 H7' Qn s7 => ⟨szL (by decide), fun t ht => ⟨szL (Nat.le_of_ble_eq_true rfl), fun l hl => ⟨_, rfl, _, rfl, .ref l, .int 0, nv, ev, rfl, .inr ⟨l, [.ref t], [(1, 2)], rfl, SqL.of upd_same, one_line ht hl, by simp, Nat.le_of_ble_eq_true rfl, .inr ⟨0, rfl, by decide, by decide +kernel, fun H8 s8 => .inr (.inl ⟨hnv _, fun d hd => ⟨rfl, d, rfl, upd_same, fun H9 p3 s9 e3 => ?_⟩⟩)⟩⟩⟩⟩⟩⟩
  have S79 : Same H7 H9 := ((((s7.trans (same_new ht)).trans (same_new hl)).trans s8).trans (same_new hd)).trans s9
  refine ⟨szL (Nat.le_of_ble_eq_true rfl), fun Lh hLh => ?_⟩
  have S7 : Same H7 (upd H9 Lh (.lst [.ref p1, .ref p2, .ref p3])) := S79.trans (same_new hLh)
  exact k _ _ ⟨a, p, A0, Lh, p1, p2, p3, ft, x, y, ev, l2, l3, l5, l6, l7, l8, l9, l10, l13, _, _, _, rfl, T7.ext S7, S7 _ _ (ExtN.tup x7 eA6), hev, hne, upd_same, S7 _ _ (ExtN.tup x7 e16), S7 _ _ (ExtN.tup x7 e2), (same_new hLh) _ _ e3⟩
end
end W49
end
section
/-! k49: the law: its last statements, the whole body. -/
namespace W49
open PySem PySem.Spec PyProof.Rows L2 LamX
/-- a return of true -/
def HTr {ι : Type} (X : Cx) (st : Stmt) (Pre : ι → L2.St → Hp → Prop) : Prop := ∃ t, PS X st t ∧ ∀ (j : ι) (D : Ends) (σ : L2.St) (H : Hp), Pre j σ H → (∀ v H', v = .bl true → D.rt v H') → t D σ H
theorem runs_last {f : Int → Str} : ∀ {rows : List Row} {a e : Int} {p : Option Str}, K49.isRuns f a p rows e → a < e → ∃ r, rows.getLast? = some r ∧ r.2.1 = e - 1
  | [], a, e, p, h, hl => by
    have q : a = e := h
    omega
  | [(x, y, v)], a, e, p, h, _ => by
    obtain ⟨_, _, _, _, h2⟩ := h
    have q : y + 1 = e := h2
    exact ⟨(x, y, v), rfl, by show y = e - 1; omega⟩
  | (x, y, v) :: r :: rows, a, e, p, h, _ => by
    obtain ⟨_, _, _, _, h2⟩ := h
    have hle : y + 1 < e := by
      obtain ⟨x2, y2, v2⟩ := r
      obtain ⟨_, q1, _, _, q2⟩ := h2
      have := K49.isRuns.le q2
      omega
    obtain ⟨q, h3, h4⟩ := runs_last h2 hle
    exact ⟨q, by rw [List.getLast?_cons_cons]; exact h3, h4⟩
section
variable [TbA] {P : Program} {w : World} {K : PySem.W.Frag} {mg : Str → Option Value} {base : Heap} {C CR fv f cc fh : Addr} {fdv fdh : FuncData} {s : Shared} {H0 : Hp}
def G12 (_ : Unit) (σ : L2.St) (H : Hp) : Prop := ∃ (a p A0 Lh p1 p2 p3 p4 : Addr) (ft : Int) (x y : V) (l2 l3 l5 l6 l7 l8 l9 l10 l13 l15 l16 l17 l18 : Option V), σ = gSt a p l2 l3 (some (.int ft)) l5 l6 l7 l8 l9 l10 (some (.int SZ)) (some (.ref A0)) l13 (some (.ref Lh)) l15 l16 l17 l18 ∧ H A0 = some (.tup [x, .int ft, y]) ∧
  H Lh = some (.lst [.ref p1, .ref p2, .ref p3, .ref p4]) ∧ H p1 = some (pairS "row" "lines") ∧ H p2 = some (pairS "number" "top") ∧ H p3 = some (pairS "number" "low") ∧ H p4 = some (pairS "number" "high")
theorem law11 (F : LF P w K mg base C CR fv fdv) (F_h : Fun K "_law_heard" "_law_heard" s__law_heard fh fdh) (m_h : mg "_law_heard" = some (.ref fh)) (TB : TabB base mg cc TbA.pt) (hr : Room 10 (callerA.deeper (envOfC "law" (defScope s_law) s.heap.objs.size f (.ref cc)))) : HT1 (LX P w K mg base f (.ref cc) s H0) (lawS 11) (G11 K [(TbA.pt, LQ P w K mg base f cc s H0)]) G12 := by
  obtain ⟨M, C__law_pen, C__law_draw, C__law_pick, C__law_verdict, F_v, m_v, G_v, C_verdicts, EHN, EHR⟩ := F
  have b_h : Binds K fdh ["ask"] [] := F_h.binds fun _ _ _ _ _ _ us hl => match us, hl with | [_], _ => rfl
  have kp_h := F_h.kp
  obtain ⟨och, odh, kVh, doch, pmh, anh, cdvh, cth, oslh, rfl, l_h, c_h⟩ := F_h.ex
  refine ⟨_, (ps_expr (pe_bm PySem.F.plainAttrs_list PySem.F.slot_list_append PySem.F.type_list_append mt_append (pv 14) (pa_cons (pe_lamcall (T := [(TbA.pt, LQ P w K mg base f cc s H0)]) (k := 6) (by rfl) m_h kp_h l_h c_h b_h sc__law_heard rfl (.inl rfl) (heard_gives (D := C) (bN := true) (bR := false) "high" M EHN rfl) TB rfl List.mem_cons_self (fun p hp _ => by rcases List.mem_singleton.mp hp with rfl; rfl) (hr.mono (by decide)) (lamS_by (sc := defScope s_law) (by decide +kernel)) (by rfl) (fun _ _ _ _ _ => rfl) (fun A outer s H E f c' hr => (pe_cx C_verdicts hr (by decide) (by rfl) (passC (takes_of rfl rfl rfl rfl)) (pa_cons (pe_lst (pa_cons (pe_tup (pa_cons pe_int (pa_cons pe_int pa_nil))) pa_nil)) (pa_cons pe_int (pa_cons pe_int (pa_cons (pv 17) pa_nil))))))) pa_nil))), fun j D σ H h k => ?_⟩
  obtain ⟨a, p, A0, Lh, p1, p2, p3, ft, x, y, ev, l2, l3, l5, l6, l7, l8, l9, l10, l13, l15, l16, l18, rfl, T0, eA, hev, hne, eL, e1, e2, e3⟩ := h
  refine ⟨_, rfl, .inl ⟨rfl, _, SqL.of eL⟩, T0, fun H1 x1 T1 H1' Qn s1 => ⟨szL (by decide), fun t ht => ⟨szL (Nat.le_of_ble_eq_true rfl), fun l hl => ⟨_, rfl, .ref l, .int 0, .int 5, ev, rfl, .inr ⟨l, [.ref t], [(1, 2)], rfl, SqL.of upd_same, one_line ht hl, by simp, Nat.le_of_ble_eq_true rfl, .inr ⟨0, rfl, by decide, by decide +kernel, fun H2 s2 => .inr (.inr ⟨5, rfl, by decide, by decide +kernel, hne, hev _, fun d hd => ⟨rfl, d, rfl, upd_same, fun H3 p4 s3 e4 => ?_⟩⟩)⟩⟩⟩⟩⟩⟩
  have S : Same H1 H3 := ((((s1.trans (same_new ht)).trans (same_new hl)).trans s2).trans (same_new hd)).trans s3
  have eL3 := S _ _ (ExtN.lst x1 eL)
  have nt : ∀ {b : Addr} {xs : List V}, H b = some (.tup xs) → (upd H3 Lh (.lst ([.ref p1, .ref p2, .ref p3] ++ [.ref p4]))) b = some (.tup xs) := fun {b xs} e => by
    have e3 := S _ _ (ExtN.tup x1 e)
    rw [upd_ne (fun z => by rw [z, eL3] at e3; cases e3)]
    exact e3
  refine ⟨Lh, _, _, rfl, rfl, eL3, small1000 (Nat.le_of_ble_eq_true rfl), ?_⟩
  refine k _ _ ⟨a, p, A0, Lh, p1, p2, p3, p4, ft, x, y, l2, l3, l5, l6, l7, l8, l9, l10, l13, _, _, _, _, rfl, nt eA, upd_same, nt e1, nt e2, nt e3, ?_⟩
  rw [upd_ne (fun z => by rw [z, eL3] at e4; cases e4)]
  exact e4
def heardD : PyData := .list [.tuple [.str "row", .str "lines"], .tuple [.str "number", .str "top"], .tuple [.str "number", .str "low"], .tuple [.str "number", .str "high"]]
theorem law12 (F : LF P w K mg base C CR fv fdv) (hr : Room 10 (callerA.deeper (envOfC "law" (defScope s_law) s.heap.objs.size f (.ref cc)))) : HTr (LX P w K mg base f (.ref cc) s H0) (lawS 12) G12 := by
  obtain ⟨M, C__law_pen, C__law_draw, C__law_pick, C__law_verdict, F_v, m_v, G_v, C_verdicts, EHN, EHR⟩ := F
  refine ⟨_, (ps_ret (pe_and (pe_cmpR op_eq (pe_ix ix_tup (pv 12) pe_int (fun _ _ => rfl)) (pv 4) (nomark _)) (pe_and (pe_cmpR (op_eqD hr.units) (pv 14) (pe_lst (pa_cons (pe_tup (pa_cons pe_str (pa_cons pe_str pa_nil))) (pa_cons (pe_tup (pa_cons pe_str (pa_cons pe_str pa_nil))) (pa_cons (pe_tup (pa_cons pe_str (pa_cons pe_str pa_nil))) (pa_cons (pe_tup (pa_cons pe_str (pa_cons pe_str pa_nil))) pa_nil))))) (nomark _)) (pe_one (pe_cmpR op_eq (pe_ix ix_tup (pe_ix ix_tup (pe_cx C_verdicts hr (by decide) (by rfl) passL (pa_cons (pe_lst (pa_cons (pe_tup (pa_cons pe_int (pa_cons pe_int pa_nil))) pa_nil)) (pa_cons (pe_op op_pow pe_int pe_int) (pa_cons (pe_op op_pow pe_int pe_int) (pa_cons (pe_op op_pow pe_int pe_int) pa_nil))))) (pe_un un_neg pe_int) (fun _ _ => rfl)) pe_int (fun _ _ => rfl)) (pe_op op_pow pe_int pe_int) (nomark _)))))), fun j D σ H h k => ?_⟩
  obtain ⟨a, p, A0, Lh, p1, p2, p3, p4, ft, x, y, l2, l3, l5, l6, l7, l8, l9, l10, l13, l15, l16, l17, l18, rfl, eA, eL, e1, e2, e3, e4⟩ := h
  refine ⟨_, rfl, A0, _, 1, _, rfl, rfl, SqT.of eA, rfl, _, rfl, rfl, _, rfl, ite2 (fun _ => ?_) (fun e => absurd (decide_eq_true rfl) e)⟩
  refine ⟨_, rfl, ?_⟩
  refine ⟨szL (Nat.le_of_ble_eq_true rfl), fun t1 h_t1 => ?_⟩
  have s1 : Same H (upd H t1 (pairS "row" "lines")) := same_new h_t1
  have f_t1 : (upd H t1 (pairS "row" "lines")) t1 = some (pairS "row" "lines") := upd_same
  replace eL := s1 _ _ eL
  replace e1 := s1 _ _ e1
  replace e2 := s1 _ _ e2
  replace e3 := s1 _ _ e3
  replace e4 := s1 _ _ e4
  clear s1 h_t1
  revert f_t1 eL e1 e2 e3 e4
  generalize upd H t1 (pairS "row" "lines") = Hy0
  intro f_t1 eL e1 e2 e3 e4
  refine ⟨szL (Nat.le_of_ble_eq_true rfl), fun t2 h_t2 => ?_⟩
  have s1 : Same Hy0 (upd Hy0 t2 (pairS "number" "top")) := same_new h_t2
  have f_t2 : (upd Hy0 t2 (pairS "number" "top")) t2 = some (pairS "number" "top") := upd_same
  replace eL := s1 _ _ eL
  replace e1 := s1 _ _ e1
  replace e2 := s1 _ _ e2
  replace e3 := s1 _ _ e3
  replace e4 := s1 _ _ e4
  replace f_t1 := s1 _ _ f_t1
  clear s1 h_t2
  revert f_t2 eL e1 e2 e3 e4 f_t1
  generalize upd Hy0 t2 (pairS "number" "top") = Hy1
  intro f_t2 eL e1 e2 e3 e4 f_t1
  refine ⟨szL (Nat.le_of_ble_eq_true rfl), fun t3 h_t3 => ?_⟩
  have s1 : Same Hy1 (upd Hy1 t3 (pairS "number" "low")) := same_new h_t3
  have f_t3 : (upd Hy1 t3 (pairS "number" "low")) t3 = some (pairS "number" "low") := upd_same
  replace eL := s1 _ _ eL
  replace e1 := s1 _ _ e1
  replace e2 := s1 _ _ e2
  replace e3 := s1 _ _ e3
  replace e4 := s1 _ _ e4
  replace f_t1 := s1 _ _ f_t1
  replace f_t2 := s1 _ _ f_t2
  clear s1 h_t3
  revert f_t3 eL e1 e2 e3 e4 f_t1 f_t2
  generalize upd Hy1 t3 (pairS "number" "low") = Hy2
  intro f_t3 eL e1 e2 e3 e4 f_t1 f_t2
  refine ⟨szL (Nat.le_of_ble_eq_true rfl), fun t4 h_t4 => ?_⟩
  have s1 : Same Hy2 (upd Hy2 t4 (pairS "number" "high")) := same_new h_t4
  have f_t4 : (upd Hy2 t4 (pairS "number" "high")) t4 = some (pairS "number" "high") := upd_same
  replace eL := s1 _ _ eL
  replace e1 := s1 _ _ e1
  replace e2 := s1 _ _ e2
  replace e3 := s1 _ _ e3
  replace e4 := s1 _ _ e4
  replace f_t1 := s1 _ _ f_t1
  replace f_t2 := s1 _ _ f_t2
  replace f_t3 := s1 _ _ f_t3
  clear s1 h_t4
  revert f_t4 eL e1 e2 e3 e4 f_t1 f_t2 f_t3
  generalize upd Hy2 t4 (pairS "number" "high") = Hy3
  intro f_t4 eL e1 e2 e3 e4 f_t1 f_t2 f_t3
  refine ⟨szL (Nat.le_of_ble_eq_true rfl), fun m h_m => ?_⟩
  have s1 : Same Hy3 (upd Hy3 m (.lst [.ref t1, .ref t2, .ref t3, .ref t4])) := same_new h_m
  have f_m : (upd Hy3 m (.lst [.ref t1, .ref t2, .ref t3, .ref t4])) m = some (.lst [.ref t1, .ref t2, .ref t3, .ref t4]) := upd_same
  replace eL := s1 _ _ eL
  replace e1 := s1 _ _ e1
  replace e2 := s1 _ _ e2
  replace e3 := s1 _ _ e3
  replace e4 := s1 _ _ e4
  replace f_t1 := s1 _ _ f_t1
  replace f_t2 := s1 _ _ f_t2
  replace f_t3 := s1 _ _ f_t3
  replace f_t4 := s1 _ _ f_t4
  clear s1 h_m
  revert f_m eL e1 e2 e3 e4 f_t1 f_t2 f_t3 f_t4
  generalize upd Hy3 m (.lst [.ref t1, .ref t2, .ref t3, .ref t4]) = Hy4
  intro f_m eL e1 e2 e3 e4 f_t1 f_t2 f_t3 f_t4
  have dp : ∀ {q1 q2 q3 q4 q : Addr}, Hy4 q = some (.lst [.ref q1, .ref q2, .ref q3, .ref q4]) → Hy4 q1 = some (pairS "row" "lines") → Hy4 q2 = some (pairS "number" "top") → Hy4 q3 = some (pairS "number" "low") → Hy4 q4 = some (pairS "number" "high") → Dp K Hy4 (.ref q) heardD := fun {q1 q2 q3 q4 q} h h1 h2 h3 h4 =>
    .lst (SqL.of h) (.cons (.tup (SqT.of h1) (.cons (.str _) (.cons (.str _) .nil))) (.cons (.tup (SqT.of h2) (.cons (.str _) (.cons (.str _) .nil))) (.cons (.tup (SqT.of h3) (.cons (.str _) (.cons (.str _) .nil))) (.cons (.tup (SqT.of h4) (.cons (.str _) (.cons (.str _) .nil))) .nil))))
  refine ⟨heardD, heardD, dp eL e1 e2 e3 e4, dp f_m f_t1 f_t2 f_t3 f_t4, by decide +kernel, by decide +kernel, _, rfl, ?_⟩
  have eq : PyData.eqv heardD heardD = true := by decide +kernel
  rw [eq]
  refine iteT ?_
  -- verdicts([(1, 2)], 10 ** 60, 10 ** 60, 10 ** 60)[-1][1] == 10 ** 60
  have p60 : (10 : Int) ^ Int.toNat 60 = 10 ^ 60 := rfl
  refine ⟨szL (Nat.le_of_ble_eq_true rfl), fun t ht => ⟨szL (Nat.le_of_ble_eq_true rfl), fun l hl => ⟨_, _, rfl, rfl, ⟨by decide, by decide, by decide⟩, _, _, rfl, rfl, ⟨by decide, by decide, by decide⟩, _, _, rfl, rfl, ⟨by decide, by decide, by decide⟩, ?_⟩⟩⟩
  simp only [tNil]
  show spVerdicts K CR C [.ref l, .int (10 ^ 60), .int (10 ^ 60), hiV (some (10 ^ 60))] _ _ _
  refine told_ok rfl (SqL.of upd_same) (one_line ht hl) (by simp) (Nat.le_of_ble_eq_true rfl) (by decide +kernel) (Int.le_refl _) (by decide +kernel) (Int.le_refl _) (fun h z => by cases z; exact ⟨Int.le_refl _, Int.le_refl _⟩) (few_of (us := []) (vs := [(1, 2)]) (fun p hp => absurd hp (by simp)) (Nat.le_of_ble_eq_true rfl) (fun p hp => by simp at hp; rw [hp]; decide)) fun H' T rows s2 hT hl2 hok hrun => ?_
  obtain ⟨r, hr1, hr2⟩ := runs_last hrun (by decide +kernel)
  obtain ⟨tx, eT, htx⟩ := hT
  obtain ⟨xl, hxl, q, rfl, hq⟩ := htx.last hr1
  have ey : r.2.1 = 10 ^ 60 := by
    rw [hr2]
    generalize (10 : Int) ^ 60 = Z
    omega
  rw [ey] at hq
  refine ⟨_, rfl, T, tx, -1, _, rfl, rfl, SqT.of eT, hxl, q, _, 1, _, rfl, rfl, SqT.of hq, rfl, _, _, rfl, rfl, ⟨by decide, by decide, by decide⟩, rfl, k _ _ ?_⟩
  exact congrArg V.bl (decide_eq_true (show V.int ((10 : Int) ^ 60) = V.int (10 ^ Int.toNat 60) from rfl))
end
end W49
end
section
/-! k49: the law whole, and what the top has written. -/
namespace W49
open PySem PySem.Spec PyProof.Rows L2 LamX
def HTe {ι : Type} (X : Cx) (ss : List Stmt) (Pre : ι → L2.St → Hp → Prop) : Prop := ∃ t, PSs X ss t ∧ ∀ (j : ι) (D : Ends) (σ : L2.St) (H : Hp), Pre j σ H → (∀ v H', v = .bl true → D.rt v H') → t D σ H
theorem HTe.cons {X : Cx} {st : Stmt} {rest : List Stmt} {ι : Type} {Pre Mid : ι → L2.St → Hp → Prop} (h1 : HT1 X st Pre Mid) (h2 : HTe X rest Mid) : HTe X (st :: rest) Pre := by
  obtain ⟨t, p, r⟩ := h1
  obtain ⟨u, p2, r2⟩ := h2
  exact ⟨_, pss_cons p p2, fun j D σ H hp hr => r j _ σ H hp fun σ' H' hm => r2 j D σ' H' hm hr⟩
theorem HTe.one {X : Cx} {st : Stmt} {ι : Type} {Pre : ι → L2.St → Hp → Prop} (h1 : HTr X st Pre) : HTe X [st] Pre := by
  obtain ⟨t, p, r⟩ := h1
  exact ⟨_, pss_one p, r⟩
section
variable [TbA] {P : Program} {w : World} {K : PySem.W.Frag} {mg : Str → Option Value} {base : Heap} {C CR fv f cc fh : Addr} {fdv fdh : FuncData} {s : Shared} {H0 : Hp}
theorem law_body (F : LF P w K mg base C CR fv fdv) (F_h : Fun K "_law_heard" "_law_heard" s__law_heard fh fdh) (m_h : mg "_law_heard" = some (.ref fh)) (TB : TabB base mg cc TbA.pt) (hr : Room 10 (callerA.deeper (envOfC "law" (defScope s_law) s.heap.objs.size f (.ref cc)))) :
    HTe (LX P w K mg base f (.ref cc) s H0) [lawS 0, lawS 1, lawS 2, lawS 3, lawS 4, lawS 5, lawS 6, lawS 7, lawS 8, lawS 9, lawS 10, lawS 11, lawS 12] (G0 K) :=
  .cons (law0 F hr) (.cons (law1 F hr) (.cons law2 (.cons (law3 F hr) (.cons (law4 F hr) (.cons (law5 F hr) (.cons (law6 F hr) (.cons (law7 F hr) (.cons (law8 F hr) (.cons (law9 F hr) (.cons (law10 F F_h m_h TB hr) (.cons (law11 F F_h m_h TB hr) (.one (law12 F hr)))))))))))))
end
/-! ### what the top has written -/
theorem all_mk {l : PySem.W.OpenLaw} {w : World} {K : PySem.W.Frag} {h : Heap} {mg : Str → Option Value} {fa cc tp : Addr} (X : K.In h) (G : h.Ns mainGlobals mg) (hfa : mg "law" = some (.ref fa))
    {f_is_integer f_is_within f_is_listed f_need_integer f_times_within f_verdict_of f_strips_of f_need_bounds f_are_lines f_verdicts f__law_pen f__law_draw f__law_pick f__law_heard f__law_verdict f_law aB0 A_TooMany A_NoName A_BadNumber A_BadBits A_BadBook A_BadRow A_BadPattern A_BadPaper A_Misfit : Addr} {od_is_integer an_is_integer od_is_within an_is_within od_is_listed an_is_listed od_need_integer an_need_integer od_times_within an_times_within od_verdict_of an_verdict_of od_strips_of an_strips_of od_need_bounds an_need_bounds od_are_lines an_are_lines od_verdicts an_verdicts od__law_pen an__law_pen od__law_draw an__law_draw od__law_pick an__law_pick od__law_heard an__law_heard od__law_verdict an__law_verdict od_law an_law : Option Addr} {sl_is_integer sl_is_within sl_is_listed sl_need_integer sl_times_within sl_verdict_of sl_strips_of sl_need_bounds sl_are_lines sl_verdicts sl__law_pen sl__law_draw sl__law_pick sl__law_heard sl__law_verdict sl_law : Array (Option Value)} {oc_is_integer kV_is_integer dc_is_integer pm_is_integer ct_is_integer cd_is_integer oc_is_within kV_is_within dc_is_within pm_is_within ct_is_within cd_is_within oc_is_listed kV_is_listed dc_is_listed pm_is_listed ct_is_listed cd_is_listed oc_need_integer kV_need_integer dc_need_integer pm_need_integer ct_need_integer cd_need_integer oc_times_within kV_times_within dc_times_within pm_times_within ct_times_within cd_times_within oc_verdict_of kV_verdict_of dc_verdict_of pm_verdict_of ct_verdict_of cd_verdict_of oc_strips_of kV_strips_of dc_strips_of pm_strips_of ct_strips_of cd_strips_of oc_need_bounds kV_need_bounds dc_need_bounds pm_need_bounds ct_need_bounds cd_need_bounds oc_are_lines kV_are_lines dc_are_lines pm_are_lines ct_are_lines cd_are_lines oc_verdicts kV_verdicts dc_verdicts pm_verdicts ct_verdicts cd_verdicts oc__law_pen kV__law_pen dc__law_pen pm__law_pen ct__law_pen cd__law_pen oc__law_draw kV__law_draw dc__law_draw pm__law_draw ct__law_draw cd__law_draw oc__law_pick kV__law_pick dc__law_pick pm__law_pick ct__law_pick cd__law_pick oc__law_heard kV__law_heard dc__law_heard pm__law_heard ct__law_heard cd__law_heard oc__law_verdict kV__law_verdict dc__law_verdict pm__law_verdict ct__law_verdict cd__law_verdict oc_law kV_law dc_law pm_law ct_law : Value} {tk_SURE tk_OPEN tk_NEVER : Tok}
    {nm_BadNumber q_BadNumber file_BadNumber : Str} {bs_BadNumber bm_BadNumber sub_BadNumber : List Value} {N_BadNumber fI_BadNumber cc_BadNumber cda_BadNumber : Addr} {sn_BadNumber : List Str} {ab_BadNumber : Bool} {col_BadNumber : Option Bool} {dd_BadNumber cld_BadNumber cdd_BadNumber odI_BadNumber anI_BadNumber : Option Addr} {k0_BadNumber k1_BadNumber k2_BadNumber k3_BadNumber k5_BadNumber : Option Value} {cl_BadNumber ccl_BadNumber ocI_BadNumber dcI_BadNumber pmI_BadNumber ctI_BadNumber : Value} {csl_BadNumber ccs_BadNumber slI_BadNumber : Array (Option Value)} {vs_BadNumber : Array Value} {tf_BadNumber : Tok}
    {nm_BadRow q_BadRow file_BadRow : Str} {bs_BadRow bm_BadRow sub_BadRow : List Value} {N_BadRow fI_BadRow cc_BadRow cda_BadRow : Addr} {sn_BadRow : List Str} {ab_BadRow : Bool} {col_BadRow : Option Bool} {dd_BadRow cld_BadRow cdd_BadRow odI_BadRow anI_BadRow : Option Addr} {k0_BadRow k1_BadRow k2_BadRow k3_BadRow k5_BadRow : Option Value} {cl_BadRow ccl_BadRow ocI_BadRow dcI_BadRow pmI_BadRow ctI_BadRow : Value} {csl_BadRow ccs_BadRow slI_BadRow : Array (Option Value)} {vs_BadRow : Array Value} {tf_BadRow : Tok}
    (ht : PySem.W.tabIn K "law" = some (cc, tp))
    (nT : K.lookup tp = none)
    (a_is_integer : PySem.W.nsIn K mainGlobals "is_integer" = some (some (.ref f_is_integer)))
    (l_is_integer : K.lookup f_is_integer = some ⟨oc_is_integer, od_is_integer, .func (PySem.W.fnOf "is_integer" "is_integer" (defArgs s_is_integer) (defBody s_is_integer) (defScope s_is_integer) .none kV_is_integer dc_is_integer pm_is_integer an_is_integer cd_is_integer ct_is_integer), sl_is_integer⟩)
    (c_is_integer : PySem.W.codeIn K cd_is_integer "is_integer" = true)
    (k_is_integer : PySem.W.keepIn K (.ref f_is_integer) = true)
    (a_is_within : PySem.W.nsIn K mainGlobals "is_within" = some (some (.ref f_is_within)))
    (l_is_within : K.lookup f_is_within = some ⟨oc_is_within, od_is_within, .func (PySem.W.fnOf "is_within" "is_within" (defArgs s_is_within) (defBody s_is_within) (defScope s_is_within) .none kV_is_within dc_is_within pm_is_within an_is_within cd_is_within ct_is_within), sl_is_within⟩)
    (c_is_within : PySem.W.codeIn K cd_is_within "is_within" = true)
    (k_is_within : PySem.W.keepIn K (.ref f_is_within) = true)
    (a_is_listed : PySem.W.nsIn K mainGlobals "is_listed" = some (some (.ref f_is_listed)))
    (l_is_listed : K.lookup f_is_listed = some ⟨oc_is_listed, od_is_listed, .func (PySem.W.fnOf "is_listed" "is_listed" (defArgs s_is_listed) (defBody s_is_listed) (defScope s_is_listed) .none kV_is_listed dc_is_listed pm_is_listed an_is_listed cd_is_listed ct_is_listed), sl_is_listed⟩)
    (c_is_listed : PySem.W.codeIn K cd_is_listed "is_listed" = true)
    (k_is_listed : PySem.W.keepIn K (.ref f_is_listed) = true)
    (a_need_integer : PySem.W.nsIn K mainGlobals "need_integer" = some (some (.ref f_need_integer)))
    (l_need_integer : K.lookup f_need_integer = some ⟨oc_need_integer, od_need_integer, .func (PySem.W.fnOf "need_integer" "need_integer" (defArgs s_need_integer) (defBody s_need_integer) (defScope s_need_integer) .none kV_need_integer dc_need_integer pm_need_integer an_need_integer cd_need_integer ct_need_integer), sl_need_integer⟩)
    (c_need_integer : PySem.W.codeIn K cd_need_integer "need_integer" = true)
    (k_need_integer : PySem.W.keepIn K (.ref f_need_integer) = true)
    (a_times_within : PySem.W.nsIn K mainGlobals "times_within" = some (some (.ref f_times_within)))
    (l_times_within : K.lookup f_times_within = some ⟨oc_times_within, od_times_within, .func (PySem.W.fnOf "times_within" "times_within" (defArgs s_times_within) (defBody s_times_within) (defScope s_times_within) .none kV_times_within dc_times_within pm_times_within an_times_within cd_times_within ct_times_within), sl_times_within⟩)
    (c_times_within : PySem.W.codeIn K cd_times_within "times_within" = true)
    (k_times_within : PySem.W.keepIn K (.ref f_times_within) = true)
    (a_verdict_of : PySem.W.nsIn K mainGlobals "verdict_of" = some (some (.ref f_verdict_of)))
    (l_verdict_of : K.lookup f_verdict_of = some ⟨oc_verdict_of, od_verdict_of, .func (PySem.W.fnOf "verdict_of" "verdict_of" (defArgs s_verdict_of) (defBody s_verdict_of) (defScope s_verdict_of) .none kV_verdict_of dc_verdict_of pm_verdict_of an_verdict_of cd_verdict_of ct_verdict_of), sl_verdict_of⟩)
    (c_verdict_of : PySem.W.codeIn K cd_verdict_of "verdict_of" = true)
    (k_verdict_of : PySem.W.keepIn K (.ref f_verdict_of) = true)
    (a_strips_of : PySem.W.nsIn K mainGlobals "strips_of" = some (some (.ref f_strips_of)))
    (l_strips_of : K.lookup f_strips_of = some ⟨oc_strips_of, od_strips_of, .func (PySem.W.fnOf "strips_of" "strips_of" (defArgs s_strips_of) (defBody s_strips_of) (defScope s_strips_of) .none kV_strips_of dc_strips_of pm_strips_of an_strips_of cd_strips_of ct_strips_of), sl_strips_of⟩)
    (c_strips_of : PySem.W.codeIn K cd_strips_of "strips_of" = true)
    (k_strips_of : PySem.W.keepIn K (.ref f_strips_of) = true)
    (a_need_bounds : PySem.W.nsIn K mainGlobals "need_bounds" = some (some (.ref f_need_bounds)))
    (l_need_bounds : K.lookup f_need_bounds = some ⟨oc_need_bounds, od_need_bounds, .func (PySem.W.fnOf "need_bounds" "need_bounds" (defArgs s_need_bounds) (defBody s_need_bounds) (defScope s_need_bounds) .none kV_need_bounds dc_need_bounds pm_need_bounds an_need_bounds cd_need_bounds ct_need_bounds), sl_need_bounds⟩)
    (c_need_bounds : PySem.W.codeIn K cd_need_bounds "need_bounds" = true)
    (k_need_bounds : PySem.W.keepIn K (.ref f_need_bounds) = true)
    (a_are_lines : PySem.W.nsIn K mainGlobals "are_lines" = some (some (.ref f_are_lines)))
    (l_are_lines : K.lookup f_are_lines = some ⟨oc_are_lines, od_are_lines, .func (PySem.W.fnOf "are_lines" "are_lines" (defArgs s_are_lines) (defBody s_are_lines) (defScope s_are_lines) .none kV_are_lines dc_are_lines pm_are_lines an_are_lines cd_are_lines ct_are_lines), sl_are_lines⟩)
    (c_are_lines : PySem.W.codeIn K cd_are_lines "are_lines" = true)
    (k_are_lines : PySem.W.keepIn K (.ref f_are_lines) = true)
    (a_verdicts : PySem.W.nsIn K mainGlobals "verdicts" = some (some (.ref f_verdicts)))
    (l_verdicts : K.lookup f_verdicts = some ⟨oc_verdicts, od_verdicts, .func (PySem.W.fnOf "verdicts" "verdicts" (defArgs s_verdicts) (defBody s_verdicts) (defScope s_verdicts) .none kV_verdicts dc_verdicts pm_verdicts an_verdicts cd_verdicts ct_verdicts), sl_verdicts⟩)
    (c_verdicts : PySem.W.codeIn K cd_verdicts "verdicts" = true)
    (k_verdicts : PySem.W.keepIn K (.ref f_verdicts) = true)
    (a__law_pen : PySem.W.nsIn K mainGlobals "_law_pen" = some (some (.ref f__law_pen)))
    (l__law_pen : K.lookup f__law_pen = some ⟨oc__law_pen, od__law_pen, .func (PySem.W.fnOf "_law_pen" "_law_pen" (defArgs s__law_pen) (defBody s__law_pen) (defScope s__law_pen) .none kV__law_pen dc__law_pen pm__law_pen an__law_pen cd__law_pen ct__law_pen), sl__law_pen⟩)
    (c__law_pen : PySem.W.codeIn K cd__law_pen "_law_pen" = true)
    (k__law_pen : PySem.W.keepIn K (.ref f__law_pen) = true)
    (a__law_draw : PySem.W.nsIn K mainGlobals "_law_draw" = some (some (.ref f__law_draw)))
    (l__law_draw : K.lookup f__law_draw = some ⟨oc__law_draw, od__law_draw, .func (PySem.W.fnOf "_law_draw" "_law_draw" (defArgs s__law_draw) (defBody s__law_draw) (defScope s__law_draw) .none kV__law_draw dc__law_draw pm__law_draw an__law_draw cd__law_draw ct__law_draw), sl__law_draw⟩)
    (c__law_draw : PySem.W.codeIn K cd__law_draw "_law_draw" = true)
    (k__law_draw : PySem.W.keepIn K (.ref f__law_draw) = true)
    (a__law_pick : PySem.W.nsIn K mainGlobals "_law_pick" = some (some (.ref f__law_pick)))
    (l__law_pick : K.lookup f__law_pick = some ⟨oc__law_pick, od__law_pick, .func (PySem.W.fnOf "_law_pick" "_law_pick" (defArgs s__law_pick) (defBody s__law_pick) (defScope s__law_pick) .none kV__law_pick dc__law_pick pm__law_pick an__law_pick cd__law_pick ct__law_pick), sl__law_pick⟩)
    (c__law_pick : PySem.W.codeIn K cd__law_pick "_law_pick" = true)
    (k__law_pick : PySem.W.keepIn K (.ref f__law_pick) = true)
    (a__law_heard : PySem.W.nsIn K mainGlobals "_law_heard" = some (some (.ref f__law_heard)))
    (l__law_heard : K.lookup f__law_heard = some ⟨oc__law_heard, od__law_heard, .func (PySem.W.fnOf "_law_heard" "_law_heard" (defArgs s__law_heard) (defBody s__law_heard) (defScope s__law_heard) .none kV__law_heard dc__law_heard pm__law_heard an__law_heard cd__law_heard ct__law_heard), sl__law_heard⟩)
    (c__law_heard : PySem.W.codeIn K cd__law_heard "_law_heard" = true)
    (k__law_heard : PySem.W.keepIn K (.ref f__law_heard) = true)
    (a__law_verdict : PySem.W.nsIn K mainGlobals "_law_verdict" = some (some (.ref f__law_verdict)))
    (l__law_verdict : K.lookup f__law_verdict = some ⟨oc__law_verdict, od__law_verdict, .func (PySem.W.fnOf "_law_verdict" "_law_verdict" (defArgs s__law_verdict) (defBody s__law_verdict) (defScope s__law_verdict) .none kV__law_verdict dc__law_verdict pm__law_verdict an__law_verdict cd__law_verdict ct__law_verdict), sl__law_verdict⟩)
    (c__law_verdict : PySem.W.codeIn K cd__law_verdict "_law_verdict" = true)
    (k__law_verdict : PySem.W.keepIn K (.ref f__law_verdict) = true)
    (a_law : PySem.W.nsIn K mainGlobals "law" = some (some (.ref f_law)))
    (l_law : K.lookup f_law = some ⟨oc_law, od_law, .func (PySem.W.fnOf "law" "law" (defArgs s_law) (defBody s_law) (defScope s_law) .none kV_law dc_law pm_law an_law (.ref cc) ct_law), sl_law⟩)
    (c_law : PySem.W.codeIn K (.ref cc) "law" = true)
    (k_law : PySem.W.keepIn K (.ref f_law) = true)
    (z_isinstance : PySem.W.nsIn K mainGlobals "isinstance" = some none)
    (z_int : PySem.W.nsIn K mainGlobals "int" = some none)
    (z_bool : PySem.W.nsIn K mainGlobals "bool" = some none)
    (z_list : PySem.W.nsIn K mainGlobals "list" = some none)
    (z_tuple : PySem.W.nsIn K mainGlobals "tuple" = some none)
    (z_len : PySem.W.nsIn K mainGlobals "len" = some none)
    (z_all : PySem.W.nsIn K mainGlobals "all" = some none)
    (z_any : PySem.W.nsIn K mainGlobals "any" = some none)
    (z_max : PySem.W.nsIn K mainGlobals "max" = some none)
    (z_min : PySem.W.nsIn K mainGlobals "min" = some none)
    (z_sorted : PySem.W.nsIn K mainGlobals "sorted" = some none)
    (z_zip : PySem.W.nsIn K mainGlobals "zip" = some none)
    (z_range : PySem.W.nsIn K mainGlobals "range" = some none)
    (z_repr : PySem.W.nsIn K mainGlobals "repr" = some none)
    (z_abs : PySem.W.nsIn K mainGlobals "abs" = some none)
    (z_super : PySem.W.nsIn K mainGlobals "super" = some none)
    (v_SURE : PySem.W.nsIn K mainGlobals "SURE" = some (some (.str "sure" tk_SURE)))
    (v_OPEN : PySem.W.nsIn K mainGlobals "OPEN" = some (some (.str "open" tk_OPEN)))
    (v_NEVER : PySem.W.nsIn K mainGlobals "NEVER" = some (some (.str "never" tk_NEVER)))
    (v_MOST : ∃ t, mg "MOST_RINGS" = some (.int (10 ^ 60) t))
    (aB : PySem.W.nsIn K mainGlobals "BellError" = some (some (.ref aB0)))
    (x_TooMany : PySem.W.nsIn K mainGlobals "TooMany" = some (some (.ref A_TooMany)))
    (x_NoName : PySem.W.nsIn K mainGlobals "NoName" = some (some (.ref A_NoName)))
    (x_BadNumber : PySem.W.nsIn K mainGlobals "BadNumber" = some (some (.ref A_BadNumber)))
    (x_BadBits : PySem.W.nsIn K mainGlobals "BadBits" = some (some (.ref A_BadBits)))
    (x_BadBook : PySem.W.nsIn K mainGlobals "BadBook" = some (some (.ref A_BadBook)))
    (x_BadRow : PySem.W.nsIn K mainGlobals "BadRow" = some (some (.ref A_BadRow)))
    (x_BadPattern : PySem.W.nsIn K mainGlobals "BadPattern" = some (some (.ref A_BadPattern)))
    (x_BadPaper : PySem.W.nsIn K mainGlobals "BadPaper" = some (some (.ref A_BadPaper)))
    (x_Misfit : PySem.W.nsIn K mainGlobals "Misfit" = some (some (.ref A_Misfit)))
    (opq : PySem.W.nsIn K PySem.cStatics "thirdparty.any" = some none)
    (topS0 : (l.prog.main.scope.names.lookup ("super" : Str)).isSome = false)
    (hn : PySem.W.specialIn K (.builtin "object.__class__") "__get__" = some (some (.builtin "getset_descriptor.__get__")))
    (htk : PySem.W.takesIn K (.builtin "object.__class__") = some true)
    (xc_BadNumber : K.lookup A_BadNumber = some (excClassObj nm_BadNumber q_BadNumber A_BadNumber N_BadNumber bs_BadNumber bm_BadNumber true sn_BadNumber sub_BadNumber ab_BadNumber col_BadNumber dd_BadNumber k0_BadNumber k1_BadNumber k2_BadNumber k3_BadNumber k5_BadNumber "ValueError.__new__"))
    (rc_BadNumber : PySem.HandSPX.refsVE bm_BadNumber = true)
    (sa_BadNumber : PySem.W.findIn K (.ref A_BadNumber) "__setattr__" = some (some (.builtin "object.__setattr__")))
    (no_BadNumber : PySem.W.findIn K (.ref A_BadNumber) "part" = some none)
    (kc_BadNumber : PySem.W.keepIn K (.ref A_BadNumber) = true)
    (ex_BadNumber : PySem.W.subIn K (.ref A_BadNumber) (.type "BaseException") = some true)
    (ve_BadNumber : PySem.W.subIn K (.ref A_BadNumber) (.type "ValueError") = some true)
    (ty_BadNumber : PySem.W.typeIn K (.ref A_BadNumber) = some (.type "type"))
    (se_BadNumber : PySem.W.mroIn K A_BadNumber (.ref A_BadNumber) = some true)
    (su_BadNumber : PySem.W.ks_superIn K A_BadNumber A_BadNumber "__init__" = some (some (.builtin "ValueError.__init__")))
    (fi_BadNumber : PySem.W.findIn K (.ref A_BadNumber) "__init__" = some (some (.ref fI_BadNumber)))
    (ti_BadNumber : PySem.W.typeIn K (.ref fI_BadNumber) = some (.type "function"))
    (li_BadNumber : K.lookup fI_BadNumber = some ⟨ocI_BadNumber, odI_BadNumber, .func (PySem.W.ksFn "__init__" "BadNumber.__init__" (defArgs (inClass (topS 2) 0)) (defBody (inClass (topS 2) 0)) (defScope (inClass (topS 2) 0)) .none .none dcI_BadNumber pmI_BadNumber anI_BadNumber (.ref cda_BadNumber) ctI_BadNumber cc_BadNumber), slI_BadNumber⟩)
    (lc_BadNumber : K.lookup cc_BadNumber = some ⟨cl_BadNumber, cld_BadNumber, .cell (some (.ref A_BadNumber)), csl_BadNumber⟩)
    (ld_BadNumber : K.lookup cda_BadNumber = some ⟨ccl_BadNumber, cdd_BadNumber, .fields vs_BadNumber, ccs_BadNumber⟩)
    (lv_BadNumber : vs_BadNumber[2]? = some (.str file_BadNumber tf_BadNumber))
    (lf_BadNumber : ((l.prog.main.file : Str) == file_BadNumber) = true)
    (ci_BadNumber : PySem.W.codeIn K (.ref cda_BadNumber) "BadNumber.__init__" = true)
    (eb_BadNumber : PySem.W.exmOne K (.ref A_BadNumber) (.ref aB0) = some true)
    (hg_BadNumber : PySem.W.findIn K (.ref A_BadNumber) "__getattribute__" = some (some (.builtin "BaseException.__getattribute__")))
    (hk_BadNumber : PySem.W.findIn K (.ref A_BadNumber) "__getattr__" = some none)
    (hd_BadNumber : PySem.W.hasDictIn K A_BadNumber = true)
    (ha_BadNumber : PySem.W.findIn K (.ref A_BadNumber) "__class__" = some (some (.builtin "object.__class__")))
    (hm_BadNumber : PySem.W.mroIn K A_BadNumber (.type "object") = some true)
    (i_BadNumber_TooMany : PySem.W.kitOne K (.ref A_BadNumber) (.ref A_TooMany) = some false)
    (i_BadNumber_NoName : PySem.W.kitOne K (.ref A_BadNumber) (.ref A_NoName) = some false)
    (i_BadNumber_BadNumber : PySem.W.kitOne K (.ref A_BadNumber) (.ref A_BadNumber) = some true)
    (i_BadNumber_BadBits : PySem.W.kitOne K (.ref A_BadNumber) (.ref A_BadBits) = some false)
    (i_BadNumber_BadBook : PySem.W.kitOne K (.ref A_BadNumber) (.ref A_BadBook) = some false)
    (i_BadNumber_BadRow : PySem.W.kitOne K (.ref A_BadNumber) (.ref A_BadRow) = some false)
    (i_BadNumber_BadPattern : PySem.W.kitOne K (.ref A_BadNumber) (.ref A_BadPattern) = some false)
    (i_BadNumber_BadPaper : PySem.W.kitOne K (.ref A_BadNumber) (.ref A_BadPaper) = some false)
    (i_BadNumber_Misfit : PySem.W.kitOne K (.ref A_BadNumber) (.ref A_Misfit) = some false)
    (xc_BadRow : K.lookup A_BadRow = some (excClassObj nm_BadRow q_BadRow A_BadRow N_BadRow bs_BadRow bm_BadRow true sn_BadRow sub_BadRow ab_BadRow col_BadRow dd_BadRow k0_BadRow k1_BadRow k2_BadRow k3_BadRow k5_BadRow "ValueError.__new__"))
    (rc_BadRow : PySem.HandSPX.refsVE bm_BadRow = true)
    (sa_BadRow : PySem.W.findIn K (.ref A_BadRow) "__setattr__" = some (some (.builtin "object.__setattr__")))
    (no_BadRow : PySem.W.findIn K (.ref A_BadRow) "part" = some none)
    (kc_BadRow : PySem.W.keepIn K (.ref A_BadRow) = true)
    (ex_BadRow : PySem.W.subIn K (.ref A_BadRow) (.type "BaseException") = some true)
    (ve_BadRow : PySem.W.subIn K (.ref A_BadRow) (.type "ValueError") = some true)
    (ty_BadRow : PySem.W.typeIn K (.ref A_BadRow) = some (.type "type"))
    (se_BadRow : PySem.W.mroIn K A_BadRow (.ref A_BadRow) = some true)
    (su_BadRow : PySem.W.ks_superIn K A_BadRow A_BadRow "__init__" = some (some (.builtin "ValueError.__init__")))
    (fi_BadRow : PySem.W.findIn K (.ref A_BadRow) "__init__" = some (some (.ref fI_BadRow)))
    (ti_BadRow : PySem.W.typeIn K (.ref fI_BadRow) = some (.type "function"))
    (li_BadRow : K.lookup fI_BadRow = some ⟨ocI_BadRow, odI_BadRow, .func (PySem.W.ksFn "__init__" "BadRow.__init__" (defArgs (inClass (topS 5) 0)) (defBody (inClass (topS 5) 0)) (defScope (inClass (topS 5) 0)) .none .none dcI_BadRow pmI_BadRow anI_BadRow (.ref cda_BadRow) ctI_BadRow cc_BadRow), slI_BadRow⟩)
    (lc_BadRow : K.lookup cc_BadRow = some ⟨cl_BadRow, cld_BadRow, .cell (some (.ref A_BadRow)), csl_BadRow⟩)
    (ld_BadRow : K.lookup cda_BadRow = some ⟨ccl_BadRow, cdd_BadRow, .fields vs_BadRow, ccs_BadRow⟩)
    (lv_BadRow : vs_BadRow[2]? = some (.str file_BadRow tf_BadRow))
    (lf_BadRow : ((l.prog.main.file : Str) == file_BadRow) = true)
    (ci_BadRow : PySem.W.codeIn K (.ref cda_BadRow) "BadRow.__init__" = true)
    (eb_BadRow : PySem.W.exmOne K (.ref A_BadRow) (.ref aB0) = some true)
    (hg_BadRow : PySem.W.findIn K (.ref A_BadRow) "__getattribute__" = some (some (.builtin "BaseException.__getattribute__")))
    (hk_BadRow : PySem.W.findIn K (.ref A_BadRow) "__getattr__" = some none)
    (hd_BadRow : PySem.W.hasDictIn K A_BadRow = true)
    (ha_BadRow : PySem.W.findIn K (.ref A_BadRow) "__class__" = some (some (.builtin "object.__class__")))
    (hm_BadRow : PySem.W.mroIn K A_BadRow (.type "object") = some true)
    (i_BadRow_TooMany : PySem.W.kitOne K (.ref A_BadRow) (.ref A_TooMany) = some false)
    (i_BadRow_NoName : PySem.W.kitOne K (.ref A_BadRow) (.ref A_NoName) = some false)
    (i_BadRow_BadNumber : PySem.W.kitOne K (.ref A_BadRow) (.ref A_BadNumber) = some false)
    (i_BadRow_BadBits : PySem.W.kitOne K (.ref A_BadRow) (.ref A_BadBits) = some false)
    (i_BadRow_BadBook : PySem.W.kitOne K (.ref A_BadRow) (.ref A_BadBook) = some false)
    (i_BadRow_BadRow : PySem.W.kitOne K (.ref A_BadRow) (.ref A_BadRow) = some true)
    (i_BadRow_BadPattern : PySem.W.kitOne K (.ref A_BadRow) (.ref A_BadPattern) = some false)
    (i_BadRow_BadPaper : PySem.W.kitOne K (.ref A_BadRow) (.ref A_BadPaper) = some false)
    (i_BadRow_Misfit : PySem.W.kitOne K (.ref A_BadRow) (.ref A_Misfit) = some false) : OcE.LawRun l w K mg fa 63 "law" := by
  have mgz : ∀ {x : Str} {v : Value}, PySem.W.nsIn K mainGlobals x = some (some v) → mg x = some v := fun e => PySem.W.mg_of X G e
  have e := hfa.symm.trans (mgz a_law)
  cases e
  have M : MG mg := ⟨PySem.W.mg_none_of X G z_isinstance, PySem.W.mg_none_of X G z_int, PySem.W.mg_none_of X G z_bool, PySem.W.mg_none_of X G z_list, PySem.W.mg_none_of X G z_tuple, PySem.W.mg_none_of X G z_len, PySem.W.mg_none_of X G z_all, PySem.W.mg_none_of X G z_any, PySem.W.mg_none_of X G z_max, PySem.W.mg_none_of X G z_min, PySem.W.mg_none_of X G z_sorted, PySem.W.mg_none_of X G z_zip, PySem.W.mg_none_of X G z_range, PySem.W.mg_none_of X G z_repr, PySem.W.mg_none_of X G z_abs, PySem.W.mg_none_of X G z_super, ⟨_, mgz v_SURE, _, rfl⟩, ⟨_, mgz v_OPEN, _, rfl⟩, ⟨_, mgz v_NEVER, _, rfl⟩, (let ⟨t, e⟩ := v_MOST; ⟨_, e, t, rfl⟩)⟩
  have F_is_integer := fun_mk (st := s_is_integer) l_is_integer c_is_integer k_is_integer
  have F_is_within := fun_mk (st := s_is_within) l_is_within c_is_within k_is_within
  have F_is_listed := fun_mk (st := s_is_listed) l_is_listed c_is_listed k_is_listed
  have F_need_integer := fun_mk (st := s_need_integer) l_need_integer c_need_integer k_need_integer
  have F_times_within := fun_mk (st := s_times_within) l_times_within c_times_within k_times_within
  have F_verdict_of := fun_mk (st := s_verdict_of) l_verdict_of c_verdict_of k_verdict_of
  have F_strips_of := fun_mk (st := s_strips_of) l_strips_of c_strips_of k_strips_of
  have F_need_bounds := fun_mk (st := s_need_bounds) l_need_bounds c_need_bounds k_need_bounds
  have F_are_lines := fun_mk (st := s_are_lines) l_are_lines c_are_lines k_are_lines
  have F_verdicts := fun_mk (st := s_verdicts) l_verdicts c_verdicts k_verdicts
  have F__law_pen := fun_mk (st := s__law_pen) l__law_pen c__law_pen k__law_pen
  have F__law_draw := fun_mk (st := s__law_draw) l__law_draw c__law_draw k__law_draw
  have F__law_pick := fun_mk (st := s__law_pick) l__law_pick c__law_pick k__law_pick
  have F__law_heard := fun_mk (st := s__law_heard) l__law_heard c__law_heard k__law_heard
  have F__law_verdict := fun_mk (st := s__law_verdict) l__law_verdict c__law_verdict k__law_verdict
  have F_law := fun_mk (st := s_law) l_law c_law k_law
  have T_BadNumber : PySem.OcX.SupTxt l.prog K A_BadNumber :=
    { cls := ⟨_, _, _, _, _, _, _, _, _, _, _, _, _, _, _, xc_BadNumber, rc_BadNumber⟩, sa := sa_BadNumber, noN := no_BadNumber, kC := kc_BadNumber, exC := ex_BadNumber, veC := ve_BadNumber, tyC := ty_BadNumber, selfC := se_BadNumber, sup := su_BadNumber, opq := opq, top := topS0,
      init := ⟨fI_BadNumber, cc_BadNumber, cda_BadNumber, fi_BadNumber, ti_BadNumber, ⟨_, _, _, lc_BadNumber⟩, ⟨_, _, _, _, _, _, ld_BadNumber, lv_BadNumber, lf_BadNumber⟩, "BadNumber.__init__", "no right number", _, _, _, _, _, _, _, _, _, _, _, _, _, _, _, _, _, _, _, _, li_BadNumber, ci_BadNumber, fun env => ⟨_, rfl⟩⟩ }
  have E_BadNumber : EH K mg A_BadNumber true false := ⟨⟨_, mgz aB, eb_BadNumber⟩, ⟨_, mgz x_TooMany, i_BadNumber_TooMany⟩, ⟨_, mgz x_NoName, i_BadNumber_NoName⟩, ⟨_, mgz x_BadNumber, i_BadNumber_BadNumber⟩, ⟨_, mgz x_BadBits, i_BadNumber_BadBits⟩, ⟨_, mgz x_BadBook, i_BadNumber_BadBook⟩, ⟨_, mgz x_BadRow, i_BadNumber_BadRow⟩, ⟨_, mgz x_BadPattern, i_BadNumber_BadPattern⟩, ⟨_, mgz x_BadPaper, i_BadNumber_BadPaper⟩, ⟨_, mgz x_Misfit, i_BadNumber_Misfit⟩, ⟨hg_BadNumber, hk_BadNumber, ex_BadNumber, hd_BadNumber, ha_BadNumber, hn, htk, hm_BadNumber⟩, ⟨hg_BadNumber, hk_BadNumber, ex_BadNumber, hd_BadNumber⟩, no_BadNumber⟩
  have T_BadRow : PySem.OcX.SupTxt l.prog K A_BadRow :=
    { cls := ⟨_, _, _, _, _, _, _, _, _, _, _, _, _, _, _, xc_BadRow, rc_BadRow⟩, sa := sa_BadRow, noN := no_BadRow, kC := kc_BadRow, exC := ex_BadRow, veC := ve_BadRow, tyC := ty_BadRow, selfC := se_BadRow, sup := su_BadRow, opq := opq, top := topS0,
      init := ⟨fI_BadRow, cc_BadRow, cda_BadRow, fi_BadRow, ti_BadRow, ⟨_, _, _, lc_BadRow⟩, ⟨_, _, _, _, _, _, ld_BadRow, lv_BadRow, lf_BadRow⟩, "BadRow.__init__", "no right row", _, _, _, _, _, _, _, _, _, _, _, _, _, _, _, _, _, _, _, _, li_BadRow, ci_BadRow, fun env => ⟨_, rfl⟩⟩ }
  have E_BadRow : EH K mg A_BadRow false true := ⟨⟨_, mgz aB, eb_BadRow⟩, ⟨_, mgz x_TooMany, i_BadRow_TooMany⟩, ⟨_, mgz x_NoName, i_BadRow_NoName⟩, ⟨_, mgz x_BadNumber, i_BadRow_BadNumber⟩, ⟨_, mgz x_BadBits, i_BadRow_BadBits⟩, ⟨_, mgz x_BadBook, i_BadRow_BadBook⟩, ⟨_, mgz x_BadRow, i_BadRow_BadRow⟩, ⟨_, mgz x_BadPattern, i_BadRow_BadPattern⟩, ⟨_, mgz x_BadPaper, i_BadRow_BadPaper⟩, ⟨_, mgz x_Misfit, i_BadRow_Misfit⟩, ⟨hg_BadRow, hk_BadRow, ex_BadRow, hd_BadRow, ha_BadRow, hn, htk, hm_BadRow⟩, ⟨hg_BadRow, hk_BadRow, ex_BadRow, hd_BadRow⟩, no_BadRow⟩
  refine ⟨cc, tp, ht, nT, fun base H a ns s hlen _ At => ?_⟩
  have env := At.env
  letI : TbA := ⟨tp⟩
  have C_is_integer : CalX l.prog w K mg base CX0 1 "is_integer" (spIsInt K) := cal_is_integer (⟨_, _, F_is_integer, mgz a_is_integer⟩ : DefF K mg "is_integer" s_is_integer) M
  have C_is_listed : CalX l.prog w K mg base CX0 1 "is_listed" (spIsListed K) := cal_is_listed (⟨_, _, F_is_listed, mgz a_is_listed⟩ : DefF K mg "is_listed" s_is_listed) M
  have C_is_within : CalX l.prog w K mg base CX0 2 "is_within" (spWithin K) := cal_is_within (⟨_, _, F_is_within, mgz a_is_within⟩ : DefF K mg "is_within" s_is_within) M C_is_integer
  have C_need_integer : CalX l.prog w K mg base (L2.CX l.prog w) 4 "need_integer" (spNeed K A_BadNumber) := cal_need_integer (⟨_, _, F_need_integer, mgz a_need_integer⟩ : DefF K mg "need_integer" s_need_integer) M (mgz x_BadNumber) T_BadNumber C_is_within
  have C_times_within : CalX l.prog w K mg base CX0 1 "times_within" (spTimes K) := cal_times_within (⟨_, _, F_times_within, mgz a_times_within⟩ : DefF K mg "times_within" s_times_within) M
  have C_verdict_of : CalX l.prog w K mg base CX0 1 "verdict_of" (spVerdict K) := cal_verdict_of (⟨_, _, F_verdict_of, mgz a_verdict_of⟩ : DefF K mg "verdict_of" s_verdict_of) M
  have C_strips_of : CalX l.prog w K mg base CX0 2 "strips_of" (spStrips K) := cal_strips_of (⟨_, _, F_strips_of, mgz a_strips_of⟩ : DefF K mg "strips_of" s_strips_of) M C_times_within C_verdict_of
  have C_need_bounds : CalX l.prog w K mg base (L2.CX l.prog w) 5 "need_bounds" (spBounds K A_BadNumber) := cal_need_bounds (⟨_, _, F_need_bounds, mgz a_need_bounds⟩ : DefF K mg "need_bounds" s_need_bounds) M C_need_integer
  have C_are_lines : CalX l.prog w K mg base CX0 2 "are_lines" (spAre K) := cal_are_lines (⟨_, _, F_are_lines, mgz a_are_lines⟩ : DefF K mg "are_lines" s_are_lines) M C_is_listed C_is_integer
  have G_v := fn_verdicts (P := l.prog) (w := w) (base := base) (CR := A_BadRow) (C := A_BadNumber) F_verdicts M (mgz x_BadRow) T_BadRow C_are_lines C_need_integer C_need_bounds C_strips_of
  have C__law_pen : CalX l.prog w K mg base CX0 1 "_law_pen" (spPen K) := cal_law_pen (⟨_, _, F__law_pen, mgz a__law_pen⟩ : DefF K mg "_law_pen" s__law_pen) M
  have C__law_draw : CalX l.prog w K mg base CX0 1 "_law_draw" spDraw := cal_law_draw (⟨_, _, F__law_draw, mgz a__law_draw⟩ : DefF K mg "_law_draw" s__law_draw) M
  have C__law_pick : CalX l.prog w K mg base CX0 2 "_law_pick" (spPick K) := cal_law_pick (⟨_, _, F__law_pick, mgz a__law_pick⟩ : DefF K mg "_law_pick" s__law_pick) M C__law_draw
  have C__law_verdict : CalX l.prog w K mg base CX0 1 "_law_verdict" (spLawVerdict K) := cal_law_verdict (⟨_, _, F__law_verdict, mgz a__law_verdict⟩ : DefF K mg "_law_verdict" s__law_verdict) M
  have LFa : LF l.prog w K mg base A_BadNumber A_BadRow f_verdicts _ := ⟨M, C__law_pen, C__law_draw, C__law_pick, C__law_verdict, F_verdicts, mgz a_verdicts, G_v, ⟨_, _, _, G_v, mgz a_verdicts, k_verdicts, bi_verdicts F_verdicts, _, _, _, l_verdicts⟩, E_BadNumber, E_BadRow⟩
  refine run_ofS (CX := C8.CX0) (k := 10) (N := NL) (ps := ["script"]) (us := [.ref a]) (vs := [.ref a]) l_law c_law sc_law ⟨rfl, by decide, by decide⟩ env (.of_eq rfl) (.cons rfl .nil) rfl fun hr => ?_
  obtain ⟨t, ht, run⟩ := law_body (f := fa) (cc := cc) (s := s) (H0 := H) LFa F__law_heard (mgz a__law_heard) At.tb hr
  exact ⟨t, PSs.nox ht, run () _ _ _ ⟨a, ns, rfl, At.script, hlen, At.tab⟩ fun v H' e => e⟩
end W49
end
open PySem PySem.W PyProof.Rows
set_option maxHeartbeats 0 in
theorem PySem.Challenge.cw_opencuts_k49_verdicts_of_lines_holds : PySem.Challenge.rw_opencuts_k49_verdicts_of_lines.Holds := by
  w_on; o_law; k_head; (case hw => w_witness2)
  k_fill
  refine OcE.walkG (l := PySem.Challenge.rw_opencuts_k49_verdicts_of_lines) (n := 63) (x := "law") rfl (by decide) rfl (by kernel_rfl) (fun w h Y => PySem.W.km_in_of Y) ?F
  case F =>
    intro w mg fa h XX KX G hmg
    refine' W49.all_mk KX G hmg ?ht ?nT ?a_is_integer ?l_is_integer ?c_is_integer ?k_is_integer ?a_is_within ?l_is_within ?c_is_within ?k_is_within ?a_is_listed ?l_is_listed ?c_is_listed ?k_is_listed ?a_need_integer ?l_need_integer ?c_need_integer ?k_need_integer ?a_times_within ?l_times_within ?c_times_within ?k_times_within ?a_verdict_of ?l_verdict_of ?c_verdict_of ?k_verdict_of ?a_strips_of ?l_strips_of ?c_strips_of ?k_strips_of ?a_need_bounds ?l_need_bounds ?c_need_bounds ?k_need_bounds ?a_are_lines ?l_are_lines ?c_are_lines ?k_are_lines ?a_verdicts ?l_verdicts ?c_verdicts ?k_verdicts ?a__law_pen ?l__law_pen ?c__law_pen ?k__law_pen ?a__law_draw ?l__law_draw ?c__law_draw ?k__law_draw ?a__law_pick ?l__law_pick ?c__law_pick ?k__law_pick ?a__law_heard ?l__law_heard ?c__law_heard ?k__law_heard ?a__law_verdict ?l__law_verdict ?c__law_verdict ?k__law_verdict ?a_law ?l_law ?c_law ?k_law ?z_isinstance ?z_int ?z_bool ?z_list ?z_tuple ?z_len ?z_all ?z_any ?z_max ?z_min ?z_sorted ?z_zip ?z_range ?z_repr ?z_abs ?z_super ?v_SURE ?v_OPEN ?v_NEVER ?v_MOST ?aB ?x_TooMany ?x_NoName ?x_BadNumber ?x_BadBits ?x_BadBook ?x_BadRow ?x_BadPattern ?x_BadPaper ?x_Misfit ?opq ?topS0 ?hn ?htk ?xc_BadNumber ?rc_BadNumber ?sa_BadNumber ?no_BadNumber ?kc_BadNumber ?ex_BadNumber ?ve_BadNumber ?ty_BadNumber ?se_BadNumber ?su_BadNumber ?fi_BadNumber ?ti_BadNumber ?li_BadNumber ?lc_BadNumber ?ld_BadNumber ?lv_BadNumber ?lf_BadNumber ?ci_BadNumber ?eb_BadNumber ?hg_BadNumber ?hk_BadNumber ?hd_BadNumber ?ha_BadNumber ?hm_BadNumber ?i_BadNumber_TooMany ?i_BadNumber_NoName ?i_BadNumber_BadNumber ?i_BadNumber_BadBits ?i_BadNumber_BadBook ?i_BadNumber_BadRow ?i_BadNumber_BadPattern ?i_BadNumber_BadPaper ?i_BadNumber_Misfit ?xc_BadRow ?rc_BadRow ?sa_BadRow ?no_BadRow ?kc_BadRow ?ex_BadRow ?ve_BadRow ?ty_BadRow ?se_BadRow ?su_BadRow ?fi_BadRow ?ti_BadRow ?li_BadRow ?lc_BadRow ?ld_BadRow ?lv_BadRow ?lf_BadRow ?ci_BadRow ?eb_BadRow ?hg_BadRow ?hk_BadRow ?hd_BadRow ?ha_BadRow ?hm_BadRow ?i_BadRow_TooMany ?i_BadRow_NoName ?i_BadRow_BadNumber ?i_BadRow_BadBits ?i_BadRow_BadBook ?i_BadRow_BadRow ?i_BadRow_BadPattern ?i_BadRow_BadPaper ?i_BadRow_Misfit
    (case ht => first | k_is | rfl | kernel_rfl)
    (case nT => first | k_is | rfl | kernel_rfl)
    (case a_is_integer => first | k_is | rfl | kernel_rfl)
    (case l_is_integer => first | k_is | rfl | kernel_rfl)
    (case c_is_integer => first | k_is | rfl | kernel_rfl)
    (case k_is_integer => first | k_is | rfl | kernel_rfl)
    (case a_is_within => first | k_is | rfl | kernel_rfl)
    (case l_is_within => first | k_is | rfl | kernel_rfl)
    (case c_is_within => first | k_is | rfl | kernel_rfl)
    (case k_is_within => first | k_is | rfl | kernel_rfl)
    (case a_is_listed => first | k_is | rfl | kernel_rfl)
    (case l_is_listed => first | k_is | rfl | kernel_rfl)
    (case c_is_listed => first | k_is | rfl | kernel_rfl)
    (case k_is_listed => first | k_is | rfl | kernel_rfl)
    (case a_need_integer => first | k_is | rfl | kernel_rfl)
    (case l_need_integer => first | k_is | rfl | kernel_rfl)
    (case c_need_integer => first | k_is | rfl | kernel_rfl)
    (case k_need_integer => first | k_is | rfl | kernel_rfl)
    (case a_times_within => first | k_is | rfl | kernel_rfl)
    (case l_times_within => first | k_is | rfl | kernel_rfl)
    (case c_times_within => first | k_is | rfl | kernel_rfl)
    (case k_times_within => first | k_is | rfl | kernel_rfl)
    (case a_verdict_of => first | k_is | rfl | kernel_rfl)
    (case l_verdict_of => first | k_is | rfl | kernel_rfl)
    (case c_verdict_of => first | k_is | rfl | kernel_rfl)
    (case k_verdict_of => first | k_is | rfl | kernel_rfl)
    (case a_strips_of => first | k_is | rfl | kernel_rfl)
    (case l_strips_of => first | k_is | rfl | kernel_rfl)
    (case c_strips_of => first | k_is | rfl | kernel_rfl)
    (case k_strips_of => first | k_is | rfl | kernel_rfl)
    (case a_need_bounds => first | k_is | rfl | kernel_rfl)
    (case l_need_bounds => first | k_is | rfl | kernel_rfl)
    (case c_need_bounds => first | k_is | rfl | kernel_rfl)
    (case k_need_bounds => first | k_is | rfl | kernel_rfl)
    (case a_are_lines => first | k_is | rfl | kernel_rfl)
    (case l_are_lines => first | k_is | rfl | kernel_rfl)
    (case c_are_lines => first | k_is | rfl | kernel_rfl)
    (case k_are_lines => first | k_is | rfl | kernel_rfl)
    (case a_verdicts => first | k_is | rfl | kernel_rfl)
    (case l_verdicts => first | k_is | rfl | kernel_rfl)
    (case c_verdicts => first | k_is | rfl | kernel_rfl)
    (case k_verdicts => first | k_is | rfl | kernel_rfl)
    (case a__law_pen => first | k_is | rfl | kernel_rfl)
    (case l__law_pen => first | k_is | rfl | kernel_rfl)
    (case c__law_pen => first | k_is | rfl | kernel_rfl)
    (case k__law_pen => first | k_is | rfl | kernel_rfl)
    (case a__law_draw => first | k_is | rfl | kernel_rfl)
    (case l__law_draw => first | k_is | rfl | kernel_rfl)
    (case c__law_draw => first | k_is | rfl | kernel_rfl)
    (case k__law_draw => first | k_is | rfl | kernel_rfl)
    (case a__law_pick => first | k_is | rfl | kernel_rfl)
    (case l__law_pick => first | k_is | rfl | kernel_rfl)
    (case c__law_pick => first | k_is | rfl | kernel_rfl)
    (case k__law_pick => first | k_is | rfl | kernel_rfl)
    (case a__law_heard => first | k_is | rfl | kernel_rfl)
    (case l__law_heard => first | k_is | rfl | kernel_rfl)
    (case c__law_heard => first | k_is | rfl | kernel_rfl)
    (case k__law_heard => first | k_is | rfl | kernel_rfl)
    (case a__law_verdict => first | k_is | rfl | kernel_rfl)
    (case l__law_verdict => first | k_is | rfl | kernel_rfl)
    (case c__law_verdict => first | k_is | rfl | kernel_rfl)
    (case k__law_verdict => first | k_is | rfl | kernel_rfl)
    (case a_law => first | k_is | rfl | kernel_rfl)
    (case l_law => first | k_is | rfl | kernel_rfl)
    (case c_law => first | k_is | rfl | kernel_rfl)
    (case k_law => first | k_is | rfl | kernel_rfl)
    (case z_isinstance => first | k_is | rfl | kernel_rfl)
    (case z_int => first | k_is | rfl | kernel_rfl)
    (case z_bool => first | k_is | rfl | kernel_rfl)
    (case z_list => first | k_is | rfl | kernel_rfl)
    (case z_tuple => first | k_is | rfl | kernel_rfl)
    (case z_len => first | k_is | rfl | kernel_rfl)
    (case z_all => first | k_is | rfl | kernel_rfl)
    (case z_any => first | k_is | rfl | kernel_rfl)
    (case z_max => first | k_is | rfl | kernel_rfl)
    (case z_min => first | k_is | rfl | kernel_rfl)
    (case z_sorted => first | k_is | rfl | kernel_rfl)
    (case z_zip => first | k_is | rfl | kernel_rfl)
    (case z_range => first | k_is | rfl | kernel_rfl)
    (case z_repr => first | k_is | rfl | kernel_rfl)
    (case z_abs => first | k_is | rfl | kernel_rfl)
    (case z_super => first | k_is | rfl | kernel_rfl)
    (case v_SURE => first | k_is | rfl | kernel_rfl)
    (case v_OPEN => first | k_is | rfl | kernel_rfl)
    (case v_NEVER => first | k_is | rfl | kernel_rfl)
    (case v_MOST => exact OcE.loose_int XX (by first | exact List.mem_cons_self | decide))
    (case aB => first | k_is | rfl | kernel_rfl)
    (case x_TooMany => first | k_is | rfl | kernel_rfl)
    (case x_NoName => first | k_is | rfl | kernel_rfl)
    (case x_BadNumber => first | k_is | rfl | kernel_rfl)
    (case x_BadBits => first | k_is | rfl | kernel_rfl)
    (case x_BadBook => first | k_is | rfl | kernel_rfl)
    (case x_BadRow => first | k_is | rfl | kernel_rfl)
    (case x_BadPattern => first | k_is | rfl | kernel_rfl)
    (case x_BadPaper => first | k_is | rfl | kernel_rfl)
    (case x_Misfit => first | k_is | rfl | kernel_rfl)
    (case opq => first | k_is | rfl | kernel_rfl)
    (case topS0 => first | k_is | rfl | kernel_rfl)
    (case hn => first | k_is | rfl | kernel_rfl)
    (case htk => first | k_is | rfl | kernel_rfl)
    (case xc_BadNumber => first | k_is | rfl | kernel_rfl)
    (case rc_BadNumber => first | k_is | rfl | kernel_rfl)
    (case sa_BadNumber => first | k_is | rfl | kernel_rfl)
    (case no_BadNumber => first | k_is | rfl | kernel_rfl)
    (case kc_BadNumber => first | k_is | rfl | kernel_rfl)
    (case ex_BadNumber => first | k_is | rfl | kernel_rfl)
    (case ve_BadNumber => first | k_is | rfl | kernel_rfl)
    (case ty_BadNumber => first | k_is | rfl | kernel_rfl)
    (case se_BadNumber => first | k_is | rfl | kernel_rfl)
    (case su_BadNumber => first | k_is | rfl | kernel_rfl)
    (case fi_BadNumber => first | k_is | rfl | kernel_rfl)
    (case ti_BadNumber => first | k_is | rfl | kernel_rfl)
    (case li_BadNumber => first | k_is | rfl | kernel_rfl)
    (case lc_BadNumber => first | k_is | rfl | kernel_rfl)
    (case ld_BadNumber => first | k_is | rfl | kernel_rfl)
    (case lv_BadNumber => first | k_is | rfl | kernel_rfl)
    (case lf_BadNumber => first | k_is | rfl | kernel_rfl)
    (case ci_BadNumber => first | k_is | rfl | kernel_rfl)
    (case eb_BadNumber => first | k_is | rfl | kernel_rfl)
    (case hg_BadNumber => first | k_is | rfl | kernel_rfl)
    (case hk_BadNumber => first | k_is | rfl | kernel_rfl)
    (case hd_BadNumber => first | k_is | rfl | kernel_rfl)
    (case ha_BadNumber => first | k_is | rfl | kernel_rfl)
    (case hm_BadNumber => first | k_is | rfl | kernel_rfl)
    (case i_BadNumber_TooMany => first | k_is | rfl | kernel_rfl)
    (case i_BadNumber_NoName => first | k_is | rfl | kernel_rfl)
    (case i_BadNumber_BadNumber => first | k_is | rfl | kernel_rfl)
    (case i_BadNumber_BadBits => first | k_is | rfl | kernel_rfl)
    (case i_BadNumber_BadBook => first | k_is | rfl | kernel_rfl)
    (case i_BadNumber_BadRow => first | k_is | rfl | kernel_rfl)
    (case i_BadNumber_BadPattern => first | k_is | rfl | kernel_rfl)
    (case i_BadNumber_BadPaper => first | k_is | rfl | kernel_rfl)
    (case i_BadNumber_Misfit => first | k_is | rfl | kernel_rfl)
    (case xc_BadRow => first | k_is | rfl | kernel_rfl)
    (case rc_BadRow => first | k_is | rfl | kernel_rfl)
    (case sa_BadRow => first | k_is | rfl | kernel_rfl)
    (case no_BadRow => first | k_is | rfl | kernel_rfl)
    (case kc_BadRow => first | k_is | rfl | kernel_rfl)
    (case ex_BadRow => first | k_is | rfl | kernel_rfl)
    (case ve_BadRow => first | k_is | rfl | kernel_rfl)
    (case ty_BadRow => first | k_is | rfl | kernel_rfl)
    (case se_BadRow => first | k_is | rfl | kernel_rfl)
    (case su_BadRow => first | k_is | rfl | kernel_rfl)
    (case fi_BadRow => first | k_is | rfl | kernel_rfl)
    (case ti_BadRow => first | k_is | rfl | kernel_rfl)
    (case li_BadRow => first | k_is | rfl | kernel_rfl)
    (case lc_BadRow => first | k_is | rfl | kernel_rfl)
    (case ld_BadRow => first | k_is | rfl | kernel_rfl)
    (case lv_BadRow => first | k_is | rfl | kernel_rfl)
    (case lf_BadRow => first | k_is | rfl | kernel_rfl)
    (case ci_BadRow => first | k_is | rfl | kernel_rfl)
    (case eb_BadRow => first | k_is | rfl | kernel_rfl)
    (case hg_BadRow => first | k_is | rfl | kernel_rfl)
    (case hk_BadRow => first | k_is | rfl | kernel_rfl)
    (case hd_BadRow => first | k_is | rfl | kernel_rfl)
    (case ha_BadRow => first | k_is | rfl | kernel_rfl)
    (case hm_BadRow => first | k_is | rfl | kernel_rfl)
    (case i_BadRow_TooMany => first | k_is | rfl | kernel_rfl)
    (case i_BadRow_NoName => first | k_is | rfl | kernel_rfl)
    (case i_BadRow_BadNumber => first | k_is | rfl | kernel_rfl)
    (case i_BadRow_BadBits => first | k_is | rfl | kernel_rfl)
    (case i_BadRow_BadBook => first | k_is | rfl | kernel_rfl)
    (case i_BadRow_BadRow => first | k_is | rfl | kernel_rfl)
    (case i_BadRow_BadPattern => first | k_is | rfl | kernel_rfl)
    (case i_BadRow_BadPaper => first | k_is | rfl | kernel_rfl)
    (case i_BadRow_Misfit => first | k_is | rfl | kernel_rfl)
