import PyProof.Rows.All
import Wide.All
import OpenK.AllK
import Wide.FinOn
import HandS.ForMost
import HandS.More
import HandS.Style
import HandS.Codes
import HandS.IsInst
import PyProof.Rows.SortShellAny
import PyProof.Rows.StrRev
import PyProof.Rows.StrMeet
import HandS.DictComp
import HandS.Comp
import HandS.Dict
import HandS.Iter
import HandS.List
import HandS.Walk
import KE.KSortKey
import PyProof.Rows.CallKwBuiltin
import PySem.Challenge.RW_likefolds_k07_whole_longer_strips_fold_b
set_option Elab.async false
set_option linter.all false
set_option maxRecDepth 100000
set_option maxHeartbeats 4000000
/-! The mathematics of strips: folding, confluence, least strips. Plain lists of numbers. -/
namespace Fo
abbrev L := List Nat
/-- cells of the shorter side lie on like signs -/
def Lies (s : L) (c : Nat) : Prop := ∀ i, i < c → c + i < s.length → s[c - 1 - i]? = s[c + i]?
instance (s : L) (c : Nat) : Decidable (Lies s c) :=
  decidable_of_iff (∀ i, i < s.length → (i < c → c + i < s.length → s[c - 1 - i]? = s[c + i]?)) (by
    constructor
    · intro h i h1 h2
      exact h i (by omega) h1 h2
    · intro h i _ h1 h2
      exact h i h1 h2)
def Cr (s : L) (c : Nat) : Prop := 1 ≤ c ∧ c < s.length ∧ Lies s c
instance (s : L) (c : Nat) : Decidable (Cr s c) := by unfold Cr; infer_instance
def left (s : L) (c : Nat) : L := if 2 * c ≤ s.length then s.drop c else s.take c
def creases (s : L) : List Nat := (List.range' 1 (s.length - 1)).filter fun c => decide (Lies s c)
theorem mem_creases {s : L} {c : Nat} : c ∈ creases s ↔ Cr s c := by
  unfold creases Cr
  rw [List.mem_filter, List.mem_range'_1, decide_eq_true_eq]
  constructor
  · rintro ⟨⟨h1, h2⟩, h3⟩
    exact ⟨h1, by omega, h3⟩
  · rintro ⟨h1, h2, h3⟩
    exact ⟨⟨h1, by omega⟩, h3⟩
theorem left_len {s : L} {c : Nat} (h : Cr s c) : (left s c).length < s.length ∧ 1 ≤ (left s c).length := by
  obtain ⟨h1, h2, _⟩ := h
  unfold left
  split
  · rw [List.length_drop]; omega
  · rw [List.length_take]; omega
/-- t comes of s by folds -/
inductive Comes : L → L → Prop
  | refl (s : L) : Comes s s
  | step {s t : L} {c : Nat} : Cr s c → Comes (left s c) t → Comes s t
theorem Comes.trans {s t u : L} (a : Comes s t) (b : Comes t u) : Comes s u := by
  induction a with
  | refl => exact b
  | step h _ ih => exact .step h (ih b)
theorem Comes.one {s : L} {c : Nat} (h : Cr s c) : Comes s (left s c) := .step h (.refl _)
theorem Comes.len {s t : L} (a : Comes s t) : t.length ≤ s.length := by
  induction a with
  | refl => exact Nat.le_refl _
  | step h _ ih => have := (left_len h).1; omega
theorem Comes.pos {s t : L} (a : Comes s t) (h : 1 ≤ s.length) : 1 ≤ t.length := by
  induction a with
  | refl => exact h
  | step hc _ ih => exact ih (left_len hc).2
theorem left_mem {s : L} {c x : Nat} (h : x ∈ left s c) : x ∈ s := by
  unfold left at h
  split at h
  · exact List.mem_of_mem_drop h
  · exact List.mem_of_mem_take h
theorem Comes.mem {s t : L} (a : Comes s t) {x : Nat} (h : x ∈ t) : x ∈ s := by
  induction a with
  | refl => exact h
  | step _ _ ih => exact left_mem (ih h)
/-- least: no crease -/
def NF (s : L) : Prop := ∀ c, ¬ Cr s c
theorem nf_iff {s : L} : NF s ↔ creases s = [] := by
  constructor
  · intro h
    apply List.eq_nil_iff_forall_not_mem.mpr
    intro c hc
    exact h c (mem_creases.mp hc)
  · intro h c hc
    have := mem_creases.mpr hc
    rw [h] at this
    cases this
theorem nf_comes {s t : L} (h : NF s) (a : Comes s t) : t = s := by
  cases a with
  | refl => rfl
  | step h' _ => exact absurd h' (h _)

/-! ### turned about -/
theorem get_rev {s : L} {i : Nat} (h : i < s.length) : s.reverse[i]? = s[s.length - 1 - i]? := List.getElem?_reverse h
theorem cr_rev {s : L} {c : Nat} (h : Cr s c) : Cr s.reverse (s.length - c) := by
  obtain ⟨h1, h2, h3⟩ := h
  refine ⟨by omega, by rw [List.length_reverse]; omega, fun i hi hj => ?_⟩
  rw [List.length_reverse] at hj
  rw [get_rev (by omega), get_rev (by omega)]
  have := h3 i (by omega) (by omega)
  have e1 : s.length - 1 - (s.length - c - 1 - i) = c + i := by omega
  have e2 : s.length - 1 - (s.length - c + i) = c - 1 - i := by omega
  rw [e1, e2, this]
theorem cr_rev_iff {s : L} {c : Nat} (h1 : 1 ≤ c) (h2 : c < s.length) : Cr s.reverse c ↔ Cr s (s.length - c) := by
  constructor
  · intro h
    have := cr_rev h
    rw [List.reverse_reverse, List.length_reverse] at this
    exact this
  · intro h
    have := cr_rev h
    have e : s.length - (s.length - c) = c := by omega
    rw [e] at this
    exact this
theorem left_rev {s : L} {c : Nat} (h : Cr s c) : left s.reverse (s.length - c) = (left s c).reverse ∨ left s.reverse (s.length - c) = left s c := by
  obtain ⟨h1, h2, h3⟩ := h
  unfold left
  rw [List.length_reverse]
  by_cases hm : 2 * c = s.length
  · right
    rw [if_pos (by omega), if_pos (by omega)]
    apply List.ext_getElem?
    intro i
    rw [List.getElem?_drop, List.getElem?_drop]
    by_cases hi : c + i < s.length
    · have := h3 i (by omega) hi
      rw [get_rev (by omega), ← this]
      congr 1
      omega
    · rw [List.getElem?_eq_none (by rw [List.length_reverse]; omega), List.getElem?_eq_none (by omega)]
  · left
    by_cases hc : 2 * c ≤ s.length
    · rw [if_pos hc, if_neg (by omega), List.reverse_drop]
    · rw [if_neg hc, if_pos (by omega), List.reverse_take]
theorem left_rev_ne {s : L} {c : Nat} (h2 : c < s.length) (hm : 2 * c ≠ s.length) : left s.reverse (s.length - c) = (left s c).reverse := by
  unfold left
  rw [List.length_reverse]
  by_cases hc : 2 * c ≤ s.length
  · rw [if_pos hc, if_neg (by omega), List.reverse_drop]
  · rw [if_neg hc, if_pos (by omega), List.reverse_take]
theorem nf_rev {s : L} (h : NF s) : NF s.reverse := fun c hc => by
  have := cr_rev hc
  rw [List.reverse_reverse] at this
  exact h _ this
/-- alike: the same, or turned about -/
def Al (s t : L) : Prop := t = s ∨ t = s.reverse
theorem Al.refl (s : L) : Al s s := .inl rfl
theorem Al.symm {s t : L} (h : Al s t) : Al t s := by
  rcases h with rfl | rfl
  · exact .inl rfl
  · exact .inr (List.reverse_reverse _).symm
theorem Al.trans {s t u : L} (a : Al s t) (b : Al t u) : Al s u := by
  rcases a with rfl | rfl
  · exact b
  · rcases b with rfl | rfl
    · exact .inr rfl
    · exact .inl (List.reverse_reverse _)
theorem Al.rev {s t : L} (h : Al s t) : Al s t.reverse := h.trans (.inr rfl)
theorem Al.len {s t : L} (h : Al s t) : t.length = s.length := by
  rcases h with rfl | rfl
  · rfl
  · exact List.length_reverse
theorem Al.nf {s t : L} (h : Al s t) (n : NF s) : NF t := by
  rcases h with rfl | rfl
  · exact n
  · exact nf_rev n
theorem Al.mem {s t : L} (h : Al s t) {x : Nat} : x ∈ t ↔ x ∈ s := by
  rcases h with rfl | rfl
  · exact Iff.rfl
  · exact List.mem_reverse
/-- what is alike comes to alike -/
theorem Comes.al {s t s' : L} (a : Comes s t) : Al s s' → ∃ t', Comes s' t' ∧ Al t t' := by
  induction a generalizing s' with
  | refl s => exact fun h => ⟨s', .refl _, h⟩
  | @step s t c h _ ih =>
    intro e
    rcases e with rfl | rfl
    · obtain ⟨t', h1, h2⟩ := ih (.inl rfl)
      exact ⟨t', .step h h1, h2⟩
    · rcases left_rev h with e | e
      · obtain ⟨t', h1, h2⟩ := ih (.inr rfl)
        exact ⟨t', .step (cr_rev h) (by rw [e]; exact h1), h2⟩
      · obtain ⟨t', h1, h2⟩ := ih (.inl rfl)
        exact ⟨t', .step (cr_rev h) (by rw [e]; exact h1), h2⟩

/-! ### to and fro -/
/-- r is m turned about again and again, cut somewhere behind the first whole one -/
structure TF (m r : L) : Prop where
  len : m.length ≤ r.length
  a : ∀ i, i < m.length → r[i]? = m[i]?
  b : ∀ i, m.length ≤ i → i < 2 * m.length → i < r.length → r[i]? = r[2 * m.length - 1 - i]?
  c : ∀ i, 2 * m.length ≤ i → i < r.length → r[i]? = r[i - 2 * m.length]?
theorem TF.comes {m : L} (hm : 1 ≤ m.length) : ∀ (n : Nat) {m r : L}, r.length ≤ n → 1 ≤ m.length → TF m r → ∃ t, Comes r t ∧ Al m t := by
  intro n
  induction n with
  | zero =>
    intro m r h h1 t
    have := t.len
    omega
  | succ n ih =>
    intro m r hn h1 t
    have hl := t.len
    by_cases he : r.length = m.length
    · refine ⟨r, .refl _, .inl ?_⟩
      apply List.ext_getElem?
      intro i
      by_cases hi : i < m.length
      · exact t.a i hi
      · rw [List.getElem?_eq_none (by omega), List.getElem?_eq_none (by omega)]
    · have hc : Cr r m.length := by
        refine ⟨h1, by omega, fun i hi hj => ?_⟩
        have := t.b (m.length + i) (by omega) (by omega) hj
        rw [this]
        congr 1
        omega
      by_cases h2 : 2 * m.length ≤ r.length
      · have e : left r m.length = r.drop m.length := by unfold left; rw [if_pos h2]
        have t' : TF m.reverse (r.drop m.length) := by
          refine ⟨by rw [List.length_reverse, List.length_drop]; omega, fun i hi => ?_, fun i h3 h4 h5 => ?_, fun i h3 h4 => ?_⟩
          · rw [List.length_reverse] at hi
            rw [List.getElem?_drop, get_rev hi, ← t.a _ (by omega), t.b _ (by omega) (by omega) (by omega)]
            congr 1
            omega
          · rw [List.length_reverse] at h3 h4
            rw [List.length_drop] at h5
            rw [List.length_reverse, List.getElem?_drop, List.getElem?_drop, t.c _ (by omega) (by omega), t.b _ (by omega : m.length ≤ m.length + (2 * m.length - 1 - i)) (by omega) (by omega)]
            congr 1
            omega
          · rw [List.length_reverse] at h3
            rw [List.length_drop] at h4
            rw [List.length_reverse, List.getElem?_drop, List.getElem?_drop, t.c _ (by omega) (by omega)]
            congr 1
            omega
        obtain ⟨u, c1, c2⟩ := ih (by rw [List.length_drop]; omega) (by rw [List.length_reverse]; exact h1) t'
        refine ⟨u, .step hc (by rw [e]; exact c1), Al.trans (.inr rfl) c2⟩
      · have e : left r m.length = r.take m.length := by unfold left; rw [if_neg h2]
        refine ⟨r.take m.length, .step hc (by rw [e]; exact .refl _), .inl ?_⟩
        apply List.ext_getElem?
        intro i
        by_cases hi : i < m.length
        · rw [List.getElem?_take_of_lt hi, t.a i hi]
        · rw [List.getElem?_eq_none (by rw [List.length_take]; omega), List.getElem?_eq_none (by omega)]
theorem TF.to {m r : L} (hm : 1 ≤ m.length) (t : TF m r) : ∃ u, Comes r u ∧ Al m u := TF.comes hm r.length (Nat.le_refl _) hm t

/-! ### two creases -/
theorem loc {s : L} {c d : Nat} (hc : Cr s c) (hd : Cr s d) (hcd : c < d) : ∃ v w, Comes (left s c) v ∧ Comes (left s d) w ∧ Al v w := by
  obtain ⟨c1, c2, c3⟩ := hc
  obtain ⟨d1, d2, d3⟩ := hd
  by_cases h2d : 2 * d ≤ s.length
  · -- both keep the right
    have e1 : left s c = s.drop c := by unfold left; rw [if_pos (by omega)]
    have e2 : left s d = s.drop d := by unfold left; rw [if_pos h2d]
    rw [e1, e2]
    have k : Cr (s.drop c) (d - c) := by
      refine ⟨by omega, by rw [List.length_drop]; omega, fun i hi hj => ?_⟩
      rw [List.length_drop] at hj
      rw [List.getElem?_drop, List.getElem?_drop]
      have := d3 i (by omega) (by omega)
      have q1 : c + (d - c - 1 - i) = d - 1 - i := by omega
      have q2 : c + (d - c + i) = d + i := by omega
      rw [q1, q2, this]
    have e3 : left (s.drop c) (d - c) = s.drop d := by
      unfold left
      rw [if_pos (by rw [List.length_drop]; omega), List.drop_drop]
      congr 1
      omega
    exact ⟨s.drop d, s.drop d, .step k (by rw [e3]; exact .refl _), .refl _, .refl _⟩
  · have e2 : left s d = s.take d := by unfold left; rw [if_neg h2d]
    rw [e2]
    by_cases h2c : 2 * c ≤ s.length
    · have e1 : left s c = s.drop c := by unfold left; rw [if_pos h2c]
      rw [e1]
      -- the middle part
      have hb : ((s.drop c).take (d - c)).length = d - c := by rw [List.length_take, List.length_drop]; omega
      have mid : ∀ i, i < d - c → ((s.drop c).take (d - c))[i]? = s[c + i]? := fun i hi => by
        rw [List.getElem?_take_of_lt hi, List.getElem?_drop]
      generalize hm : (s.drop c).take (d - c) = m at hb mid
      -- both come to the middle, or it turned about
      have A : ∃ v, Comes (s.drop c) v ∧ Al m v := by
        have k : Cr (s.drop c) (d - c) := by
          refine ⟨by omega, by rw [List.length_drop]; omega, fun i hi hj => ?_⟩
          rw [List.length_drop] at hj
          rw [List.getElem?_drop, List.getElem?_drop]
          have := d3 i (by omega) (by omega)
          have q1 : c + (d - c - 1 - i) = d - 1 - i := by omega
          have q2 : c + (d - c + i) = d + i := by omega
          rw [q1, q2, this]
        by_cases hh : 2 * (d - c) ≤ s.length - c
        · have e3 : left (s.drop c) (d - c) = s.drop d := by
            unfold left
            rw [if_pos (by rw [List.length_drop]; omega), List.drop_drop]
            congr 1
            omega
          have t : TF m.reverse (s.drop d) := by
            refine ⟨by rw [List.length_reverse, List.length_drop, hb]; omega, fun i hi => ?_, fun i h3 h4 h5 => ?_, fun i h3 h4 => ?_⟩
            · rw [List.length_reverse, hb] at hi
              rw [List.getElem?_drop, get_rev (by omega), mid _ (by omega), ← d3 i (by omega) (by omega)]
              congr 1
              omega
            · rw [List.length_reverse, hb] at h3 h4
              rw [List.length_drop] at h5
              rw [List.length_reverse, hb, List.getElem?_drop, List.getElem?_drop, ← d3 i (by omega) (by omega)]
              have q1 : d - 1 - i = c - 1 - (i - (d - c)) := by omega
              rw [q1, c3 _ (by omega) (by omega), ← d3 (2 * (d - c) - 1 - i) (by omega) (by omega)]
              congr 1
              omega
            · rw [List.length_reverse, hb] at h3
              rw [List.length_drop] at h4
              rw [List.length_reverse, hb, List.getElem?_drop, List.getElem?_drop, ← d3 i (by omega) (by omega)]
              have q1 : d - 1 - i = c - 1 - (i - (d - c)) := by omega
              rw [q1, c3 _ (by omega) (by omega)]
              congr 1
              omega
          obtain ⟨u, q1, q2⟩ := t.to (by rw [List.length_reverse, hb]; omega)
          exact ⟨u, .step k (by rw [e3]; exact q1), Al.trans (.inr rfl) q2⟩
        · have e3 : left (s.drop c) (d - c) = m := by
            unfold left
            rw [if_neg (by rw [List.length_drop]; omega), hm]
          exact ⟨m, .step k (by rw [e3]; exact .refl _), .refl _⟩
      have B : ∃ w, Comes (s.take d) w ∧ Al m w := by
        have k : Cr (s.take d) c := by
          refine ⟨by omega, by rw [List.length_take]; omega, fun i hi hj => ?_⟩
          rw [List.length_take] at hj
          rw [List.getElem?_take_of_lt (by omega), List.getElem?_take_of_lt (by omega)]
          exact c3 i hi (by omega)
        by_cases hh : 2 * c ≤ d
        · have e3 : left (s.take d) c = m := by
            unfold left
            rw [if_pos (by rw [List.length_take]; omega), ← hm, List.drop_take]
          exact ⟨m, .step k (by rw [e3]; exact .refl _), .refl _⟩
        · have e3 : left (s.take d) c = s.take c := by
            unfold left
            rw [if_neg (by rw [List.length_take]; omega), List.take_take]
            congr 1
            omega
          have pr : ∀ i, i < c → (s.take c).reverse[i]? = s[c + i]? := fun i hi => by
            rw [get_rev (by rw [List.length_take]; omega), List.length_take, List.getElem?_take_of_lt (by omega), ← c3 i hi (by omega)]
            congr 1
            omega
          have hlr : (s.take c).reverse.length = c := by rw [List.length_reverse, List.length_take]; omega
          have t : TF m (s.take c).reverse := by
            refine ⟨by rw [hlr, hb]; omega, fun i hi => ?_, fun i h3 h4 h5 => ?_, fun i h3 h4 => ?_⟩
            · rw [hb] at hi
              rw [pr i (by omega), mid i hi]
            · rw [hb] at h3 h4
              rw [hlr] at h5
              rw [hb, pr i h5, pr _ (by omega)]
              have q1 : c + i = d + (i - (d - c)) := by omega
              rw [q1, ← d3 _ (by omega) (by omega)]
              congr 1
              omega
            · rw [hb] at h3
              rw [hlr] at h4
              rw [hb, pr i h4, pr _ (by omega)]
              have q1 : c + i = d + (i - (d - c)) := by omega
              rw [q1, ← d3 _ (by omega) (by omega)]
              have q2 : d - 1 - (i - (d - c)) = c - 1 - (i - 2 * (d - c)) := by omega
              rw [q2, c3 _ (by omega) (by omega)]
          obtain ⟨u, q1, q2⟩ := t.to (by omega)
          obtain ⟨u', q3, q4⟩ := q1.al (s' := s.take c) (.inr (List.reverse_reverse _).symm)
          exact ⟨u', .step k (by rw [e3]; exact q3), q2.trans q4⟩
      obtain ⟨v, v1, v2⟩ := A
      obtain ⟨w, w1, w2⟩ := B
      exact ⟨v, w, v1, w1, v2.symm.trans w2⟩
    · -- both keep the left
      have e1 : left s c = s.take c := by unfold left; rw [if_neg h2c]
      rw [e1]
      have k : Cr (s.take d) c := by
        refine ⟨by omega, by rw [List.length_take]; omega, fun i hi hj => ?_⟩
        rw [List.length_take] at hj
        rw [List.getElem?_take_of_lt (by omega), List.getElem?_take_of_lt (by omega)]
        exact c3 i hi (by omega)
      have e3 : left (s.take d) c = s.take c := by
        unfold left
        rw [if_neg (by rw [List.length_take]; omega), List.take_take]
        congr 1
        omega
      exact ⟨s.take c, s.take c, .refl _, .step k (by rw [e3]; exact .refl _), .refl _⟩

/-! ### the least strip -/
theorem has_nf : ∀ (n : Nat) (s : L), s.length ≤ n → ∃ t, Comes s t ∧ NF t := by
  intro n
  induction n with
  | zero =>
    intro s h
    exact ⟨s, .refl _, fun c hc => by have := hc.1; have := hc.2.1; omega⟩
  | succ n ih =>
    intro s h
    by_cases hs : ∃ c, Cr s c
    · obtain ⟨c, hc⟩ := hs
      have := (left_len hc).1
      obtain ⟨t, h1, h2⟩ := ih (left s c) (by omega)
      exact ⟨t, .step hc h1, h2⟩
    · exact ⟨s, .refl _, fun c hc => hs ⟨c, hc⟩⟩
theorem uniq_aux : ∀ (n : Nat) (s : L), s.length ≤ n → ∀ t u, Comes s t → NF t → Comes s u → NF u → Al t u := by
  intro n
  induction n with
  | zero =>
    intro s h t u a _ b _
    have hs : NF s := fun c hc => by have := hc.1; have := hc.2.1; omega
    rw [nf_comes hs a, nf_comes hs b]
    exact .refl _
  | succ n ih =>
    intro s h t u a nt b nu
    cases a with
    | refl => rw [nf_comes nt b]; exact .refl _
    | @step _ _ c hc a =>
      cases b with
      | refl => exact absurd hc (nu c)
      | @step _ _ d hd b =>
        have lc := (left_len hc).1
        have ld := (left_len hd).1
        have key : ∃ v w, Comes (left s c) v ∧ Comes (left s d) w ∧ Al v w := by
          rcases Nat.lt_trichotomy c d with g | g | g
          · exact loc hc hd g
          · subst g
            exact ⟨_, _, .refl _, .refl _, .refl _⟩
          · obtain ⟨v, w, h1, h2, h3⟩ := loc hd hc g
            exact ⟨w, v, h2, h1, h3.symm⟩
        obtain ⟨v, w, h1, h2, h3⟩ := key
        obtain ⟨x, x1, x2⟩ := has_nf w.length w (Nat.le_refl _)
        obtain ⟨x', y1, y2⟩ := x1.al h3.symm
        have p1 : Al t x' := ih (left s c) (by omega) t x' a nt (h1.trans y1) (y2.nf x2)
        have p2 : Al x u := ih (left s d) (by omega) x u (h2.trans x1) x2 b nu
        exact (p1.trans y2.symm).trans p2
/-- whatever is folded first: the same, or turned about -/
theorem uniq {s t u : L} (a : Comes s t) (nt : NF t) (b : Comes s u) (nu : NF u) : Al t u := uniq_aux s.length s (Nat.le_refl _) t u a nt b nu
end Fo


namespace Fo
/-- r comes to l, or to it turned about -/
def Up (r l : L) : Prop := ∃ t, Comes r t ∧ Al l t
theorem Up.refl (l : L) : Up l l := ⟨l, .refl l, .refl l⟩
theorem Up.trans {a b c : L} (h : Up a b) (k : Up b c) : Up a c := by
  obtain ⟨t, t1, t2⟩ := h
  obtain ⟨u, u1, u2⟩ := k
  obtain ⟨v, v1, v2⟩ := u1.al t2
  exact ⟨v, t1.trans v1, u2.trans v2⟩
theorem unf_left {l : L} {k : Nat} (h1 : 1 ≤ k) (h2 : k ≤ l.length) : Cr ((l.take k).reverse ++ l) k ∧ left ((l.take k).reverse ++ l) k = l := by
  have hl : ((l.take k).reverse).length = k := by rw [List.length_reverse, List.length_take]; omega
  refine ⟨⟨h1, by rw [List.length_append, hl]; omega, fun i hi hj => ?_⟩, ?_⟩
  · rw [List.length_append, hl] at hj
    rw [List.getElem?_append_left (by omega), List.getElem?_append_right (by omega), hl, get_rev (by rw [List.length_take]; omega), List.length_take, List.getElem?_take_of_lt (by omega)]
    congr 1
    omega
  · unfold left
    rw [if_pos (by rw [List.length_append, hl]; omega), List.drop_append_of_le_length (by omega), List.drop_of_length_le (by omega), List.nil_append]
theorem unf_right {l : L} {k : Nat} (h1 : 1 ≤ k) (h2 : k ≤ l.length) : Cr (l ++ (l.drop (l.length - k)).reverse) l.length ∧ (k < l.length → left (l ++ (l.drop (l.length - k)).reverse) l.length = l) ∧ Al l (left (l ++ (l.drop (l.length - k)).reverse) l.length) := by
  have hl : ((l.drop (l.length - k)).reverse).length = k := by rw [List.length_reverse, List.length_drop]; omega
  refine ⟨⟨by omega, by rw [List.length_append, hl]; omega, fun i hi hj => ?_⟩, fun hk => ?_, ?_⟩
  · rw [List.length_append, hl] at hj
    rw [List.getElem?_append_left (by omega), List.getElem?_append_right (by omega), get_rev (by rw [List.length_drop]; omega), List.length_drop, List.getElem?_drop]
    congr 1
    omega
  · unfold left
    rw [if_neg (by rw [List.length_append, hl]; omega), List.take_append_of_le_length (by omega), List.take_length]
  · unfold left
    by_cases hk : k = l.length
    · rw [if_pos (by rw [List.length_append, hl]; omega), List.drop_append_of_le_length (by omega), List.drop_length, List.nil_append]
      right
      congr 1
      rw [hk, Nat.sub_self, List.drop_zero]
    · rw [if_neg (by rw [List.length_append, hl]; omega), List.take_append_of_le_length (by omega), List.take_length]
      exact .refl _
theorem up_left {l : L} {k : Nat} (h1 : 1 ≤ k) (h2 : k ≤ l.length) : Up ((l.take k).reverse ++ l) l := by
  obtain ⟨a, b⟩ := unf_left h1 h2
  exact ⟨l, .step a (by rw [b]; exact .refl _), .refl _⟩
theorem up_right {l : L} {k : Nat} (h1 : 1 ≤ k) (h2 : k ≤ l.length) : Up (l ++ (l.drop (l.length - k)).reverse) l := by
  obtain ⟨a, _, b⟩ := unf_right h1 h2
  exact ⟨_, .one a, b⟩
/-- all signs are a, b, c or d -/
def Sg (l : L) : Prop := ∀ c ∈ l, 97 ≤ c ∧ c ≤ 100
theorem Sg.rev {l : L} (h : Sg l) : Sg l.reverse := fun c hc => h c (List.mem_reverse.mp hc)
theorem Sg.app {l m : L} (h : Sg l) (k : Sg m) : Sg (l ++ m) := fun c hc => by
  rcases List.mem_append.mp hc with e | e
  · exact h c e
  · exact k c e
theorem Sg.take {l : L} (h : Sg l) (n : Nat) : Sg (l.take n) := fun c hc => h c (List.mem_of_mem_take hc)
theorem Sg.drop {l : L} (h : Sg l) (n : Nat) : Sg (l.drop n) := fun c hc => h c (List.mem_of_mem_drop hc)
theorem Sg.comes {s t : L} (h : Sg s) (a : Comes s t) : Sg t := fun c hc => h c (a.mem hc)

/-! ### the least strip, told -/
def nfAux : Nat → L → L
  | 0, s => s
  | n + 1, s => match creases s with
    | [] => s
    | c :: _ => nfAux n (left s c)
theorem nfAux_ok : ∀ (n : Nat) (s : L), s.length ≤ n → Comes s (nfAux n s) ∧ NF (nfAux n s)
  | 0, s, h => ⟨.refl s, fun c hc => by have := hc.1; have : c < s.length := hc.2.1; omega⟩
  | n + 1, s, h => by
    unfold nfAux
    cases e : creases s with
    | nil => exact ⟨.refl s, nf_iff.mpr e⟩
    | cons c r =>
      have hc : Cr s c := mem_creases.mp (by rw [e]; exact List.mem_cons_self ..)
      have := (left_len hc).1
      obtain ⟨a, b⟩ := nfAux_ok n (left s c) (by omega)
      exact ⟨.step hc a, b⟩
def nf (s : L) : L := nfAux s.length s
theorem nf_ok (s : L) : Comes s (nf s) ∧ NF (nf s) := nfAux_ok s.length s (Nat.le_refl _)
def minL (a b : L) : L := if b < a then b else a
theorem minL_comm (a b : L) : minL a b = minL b a := by
  unfold minL
  by_cases h1 : b < a
  · rw [if_pos h1, if_neg (List.lt_asymm h1)]
  · by_cases h2 : a < b
    · rw [if_neg h1, if_pos h2]
    · rw [if_neg h1, if_neg h2]
      exact List.le_antisymm (List.not_lt.mp h1) (List.not_lt.mp h2)
theorem minL_al (a : L) : Al a (minL a a.reverse) := by
  unfold minL
  split
  · exact .inr rfl
  · exact .inl rfl
theorem minL_of_al {a b : L} (h : Al a b) : minL a a.reverse = minL b b.reverse := by
  rcases h with rfl | rfl
  · rfl
  · rw [List.reverse_reverse, minL_comm]
def least (s : L) : L := minL (nf s) (nf s).reverse
theorem least_al (s : L) : Al (nf s) (least s) := minL_al _
theorem least_nf (s : L) : NF (least s) := (least_al s).nf (nf_ok s).2
theorem least_le (s : L) : minL (least s) (least s).reverse = least s := (minL_of_al (least_al s)).symm
theorem least_of {s t : L} (a : Comes s t) (n : NF t) : least s = minL t t.reverse := minL_of_al (uniq (nf_ok s).1 (nf_ok s).2 a n)
theorem al_least {s t : L} (a : Comes s t) (n : NF t) : Al (least s) t := (least_al s).symm.trans (uniq (nf_ok s).1 (nf_ok s).2 a n)
theorem least_comes {s t : L} (a : Comes s t) : least t = least s := by
  rw [least_of (a.trans (nf_ok t).1) (nf_ok t).2]
  rfl
theorem least_of_al {s t : L} (h : Al s t) : least s = least t := by
  obtain ⟨u, u1, u2⟩ := (nf_ok s).1.al h
  rw [least_of u1 (u2.nf (nf_ok s).2), ← minL_of_al u2]
  rfl
theorem least_up {r l : L} (h : Up r l) : least r = least l := by
  obtain ⟨t, a, b⟩ := h
  rw [← least_comes a, least_of_al b]
theorem least_rev (s : L) : least s.reverse = least s := (least_of_al (.inr rfl)).symm
/-- s comes to its least strip, or to it turned about -/
theorem to_least (s : L) : Up s (least s) := ⟨nf s, (nf_ok s).1, (least_al s).symm⟩
theorem nf_least {s : L} (h : NF s) : least s = minL s s.reverse := least_of (.refl s) h
theorem least_least (s : L) : least (least s) = least s := by rw [nf_least (least_nf s), least_le]
theorem least_mem {s : L} {x : Nat} (h : x ∈ least s) : x ∈ s := (nf_ok s).1.mem ((least_al s).mem.mp h)
theorem least_len (s : L) : (least s).length ≤ s.length := by rw [(least_al s).len]; exact (nf_ok s).1.len
theorem least_pos {s : L} (h : 1 ≤ s.length) : 1 ≤ (least s).length := by rw [(least_al s).len]; exact (nf_ok s).1.pos h
theorem Sg.least {s : L} (h : Sg s) : Sg (least s) := fun c hc => h c (least_mem hc)
end Fo

namespace Fo
theorem lies_rev_iff {l : L} {c : Nat} (h1 : 1 ≤ c) (h2 : c < l.length) :
    (l.drop (c - min c (l.length - c))).take (c - (c - min c (l.length - c))) = ((l.drop c).take (c + min c (l.length - c) - c)).reverse ↔ Lies l c := by
  generalize hr : min c (l.length - c) = r
  have hr1 : r ≤ c := by omega
  have hr2 : c + r ≤ l.length := by omega
  have e1 : c - (c - r) = r := by omega
  have e2 : c + r - c = r := by omega
  rw [e1, e2]
  have hl : ((l.drop c).take r).length = r := by rw [List.length_take, List.length_drop]; omega
  have A : ∀ i, i < r → ((l.drop (c - r)).take r)[i]? = l[c - r + i]? := fun i hi => by
    rw [List.getElem?_take_of_lt hi, List.getElem?_drop]
  have B : ∀ i, i < r → (((l.drop c).take r).reverse)[i]? = l[c + (r - 1 - i)]? := fun i hi => by
    rw [get_rev (by omega), hl, List.getElem?_take_of_lt (by omega), List.getElem?_drop]
  constructor
  · intro h i hi hj
    have hir : i < r := by omega
    have z := A (r - 1 - i) (by omega)
    rw [h, B (r - 1 - i) (by omega)] at z
    have q1 : c + (r - 1 - (r - 1 - i)) = c + i := by omega
    have q2 : c - r + (r - 1 - i) = c - 1 - i := by omega
    rw [q1, q2] at z
    exact z.symm
  · intro h
    apply List.ext_getElem?
    intro i
    by_cases hi : i < r
    · rw [A i hi, B i hi]
      have z := h (r - 1 - i) (by omega) (by omega)
      have q1 : c - 1 - (r - 1 - i) = c - r + i := by omega
      rw [q1] at z
      exact z
    · rw [List.getElem?_eq_none (by rw [List.length_take]; omega), List.getElem?_eq_none (by rw [List.length_reverse, hl]; omega)]
theorem range'_snoc (n : Nat) : List.range' 1 (n + 1) = List.range' 1 n ++ [1 + n] := by
  rw [List.range'_concat]
  simp
def crTo (l : L) (i : Nat) : List Nat := (List.range' 1 i).filter fun c => decide (Lies l c)
theorem crTo_all (l : L) : crTo l (l.length - 1) = creases l := rfl
theorem crTo_yes {l : L} {i : Nat} (h : Lies l (1 + i)) : crTo l (i + 1) = crTo l i ++ [1 + i] := by
  unfold crTo
  rw [range'_snoc, List.filter_append]
  simp [h]
theorem crTo_no {l : L} {i : Nat} (h : ¬ Lies l (1 + i)) : crTo l (i + 1) = crTo l i := by
  unfold crTo
  rw [range'_snoc, List.filter_append]
  simp [h]
theorem crTo_len (l : L) (i : Nat) : (crTo l i).length ≤ i := by
  unfold crTo
  exact Nat.le_trans (List.length_filter_le _ _) (by simp)
theorem creases_len (l : L) : (creases l).length ≤ l.length := Nat.le_trans (crTo_len l _) (by omega)
end Fo

namespace Fo
/-! ### going through all that is reached -/
section
variable (nxt : L → List L)
/-- what stands behind the turns of a walk: found, and still to be looked at -/
inductive Star : L → L → Prop
  | refl (s : L) : Star s s
  | step {s t u : L} : t ∈ nxt s → Star t u → Star s u
theorem Star.snoc {s t u : L} (a : Star nxt s t) (h : u ∈ nxt t) : Star nxt s u := by
  induction a with
  | refl s => exact .step h (.refl u)
  | step h' _ ih => exact .step h' (ih h)
def Rch (st : List L) (t : L) : Prop := ∃ s ∈ st, Star nxt s t
structure Dfs (st fs rs : List L) : Prop where
  nd : fs.Nodup
  rc : ∀ t ∈ fs, Rch nxt st t
  sub : ∀ t ∈ rs, t ∈ fs
  st : ∀ s ∈ st, s ∈ fs
  cl : ∀ t ∈ fs, t ∉ rs → ∀ u ∈ nxt t, u ∈ fs
/-- within a turn at here, j of its next ones seen -/
structure DfsIn (st fs rs : List L) (here : L) (j : Nat) : Prop where
  nd : fs.Nodup
  rc : ∀ t ∈ fs, Rch nxt st t
  sub : ∀ t ∈ rs, t ∈ fs
  st : ∀ s ∈ st, s ∈ fs
  mem : here ∈ fs
  cl : ∀ t ∈ fs, t ∉ rs → t ≠ here → ∀ u ∈ nxt t, u ∈ fs
  did : ∀ u ∈ (nxt here).take j, u ∈ fs
variable {nxt}
theorem Dfs.start {st : List L} (h : st.Nodup) : Dfs nxt st st st :=
  ⟨h, fun t ht => ⟨t, ht, .refl t⟩, fun _ h => h, fun _ h => h, fun t h1 h2 => absurd h1 h2⟩
theorem Dfs.pop {st fs rs : List L} {here : L} (D : Dfs nxt st fs (rs ++ [here])) : DfsIn nxt st fs rs here 0 :=
  ⟨D.nd, D.rc, fun t ht => D.sub t (List.mem_append_left _ ht), D.st, D.sub here (List.mem_append_right _ (List.mem_singleton.mpr rfl)),
    fun t h1 h2 h3 => D.cl t h1 fun hm => (List.mem_append.mp hm).elim h2 fun z => h3 (List.mem_singleton.mp z), fun u hu => by simp at hu⟩
theorem DfsIn.old {st fs rs : List L} {here u : L} {j : Nat} (D : DfsIn nxt st fs rs here j) (hu : (nxt here)[j]? = some u) (hm : u ∈ fs) : DfsIn nxt st fs rs here (j + 1) := by
  refine ⟨D.nd, D.rc, D.sub, D.st, D.mem, D.cl, fun v hv => ?_⟩
  rw [List.take_add_one, hu] at hv
  rcases List.mem_append.mp hv with hv | hv
  · exact D.did v hv
  · have : v = u := by simpa using hv
    rw [this]
    exact hm
theorem DfsIn.new {st fs rs : List L} {here u : L} {j : Nat} (D : DfsIn nxt st fs rs here j) (hu : (nxt here)[j]? = some u) (hm : u ∉ fs) : DfsIn nxt st (fs ++ [u]) (rs ++ [u]) here (j + 1) := by
  have hnu : u ∈ nxt here := List.mem_of_getElem? hu
  refine ⟨?_, fun t ht => ?_, fun t ht => ?_, fun s hs => List.mem_append_left _ (D.st s hs), List.mem_append_left _ D.mem, fun t h1 h2 h3 v hv => ?_, fun v hv => ?_⟩
  · rw [List.nodup_append]
    refine ⟨D.nd, by simp, fun a ha b hb => ?_⟩
    rw [List.mem_singleton.mp hb]
    intro e
    rw [e] at ha
    exact hm ha
  · rcases List.mem_append.mp ht with ht | ht
    · exact D.rc t ht
    · rw [List.mem_singleton.mp ht]
      obtain ⟨s, hs, a⟩ := D.rc here D.mem
      exact ⟨s, hs, Star.snoc nxt a hnu⟩
  · rcases List.mem_append.mp ht with ht | ht
    · exact List.mem_append_left _ (D.sub t ht)
    · exact List.mem_append_right _ ht
  · rcases List.mem_append.mp h1 with h1 | h1
    · exact List.mem_append_left _ (D.cl t h1 (fun z => h2 (List.mem_append_left _ z)) h3 v hv)
    · exact absurd (List.mem_append_right _ h1) h2
  · rw [List.take_add_one, hu] at hv
    rcases List.mem_append.mp hv with hv | hv
    · exact List.mem_append_left _ (D.did v hv)
    · have : v = u := by simpa using hv
      rw [this]
      exact List.mem_append_right _ (List.mem_singleton.mpr rfl)
theorem DfsIn.skip {st fs rs : List L} {here : L} {j : Nat} (D : DfsIn nxt st fs rs here j) (hj : (nxt here).length ≤ j) : Dfs nxt st fs rs := by
  refine ⟨D.nd, D.rc, D.sub, D.st, fun t h1 h2 u hu => ?_⟩
  by_cases e : t = here
  · subst e
    exact D.did u (by rw [List.take_of_length_le hj]; exact hu)
  · exact D.cl t h1 h2 e u hu
theorem Dfs.done {st fs : List L} (D : Dfs nxt st fs []) (t : L) : t ∈ fs ↔ Rch nxt st t := by
  constructor
  · exact D.rc t
  · rintro ⟨s, hs, a⟩
    have h := D.st s hs
    clear hs
    induction a with
    | refl => exact h
    | @step s t u h1 _ ih => exact ih (D.cl s h (fun z => nomatch z) t h1)
end
/-! ### lists in order -/
def Srt (xs : List L) : Prop := xs.Pairwise fun a b => ¬ b < a
theorem srt_uniq {xs ys : List L} (h1 : Srt xs) (h2 : Srt ys) (n1 : xs.Nodup) (n2 : ys.Nodup) (h : ∀ t, t ∈ xs ↔ t ∈ ys) : xs = ys := by
  have hp : xs.Perm ys := (List.perm_ext_iff_of_nodup n1 n2).mpr h
  refine hp.eq_of_pairwise (le := fun a b => ¬ b < a) ?_ h1 h2
  intro a b _ _ h3 h4
  exact List.le_antisymm (List.not_lt.mp h3) (List.not_lt.mp h4)
/-- all strips that come of one -/
def nxtF (s : L) : List L := (creases s).map (left s)
theorem star_comes {s t : L} : Star nxtF s t ↔ Comes s t := by
  constructor
  · intro a
    induction a with
    | refl s => exact .refl s
    | step h _ ih =>
      obtain ⟨c, hc, rfl⟩ := List.mem_map.mp h
      exact .step (mem_creases.mp hc) ih
  · intro a
    induction a with
    | refl s => exact .refl s
    | step h _ ih => exact .step (List.mem_map.mpr ⟨_, mem_creases.mpr h, rfl⟩) ih
theorem rch_comes {s t : L} : Rch nxtF [s] t ↔ Comes s t := by
  constructor
  · rintro ⟨u, hu, a⟩
    rw [List.mem_singleton.mp hu] at a
    exact star_comes.mp a
  · intro a
    exact ⟨s, List.mem_singleton.mpr rfl, star_comes.mpr a⟩
def subs (l : L) : List L := (List.range (l.length + 1)).flatMap fun i => (List.range (l.length + 1)).map fun j => (l.drop i).take j
theorem mem_subs {l t : L} : t ∈ subs l ↔ ∃ i j, i ≤ l.length ∧ j ≤ l.length ∧ t = (l.drop i).take j := by
  unfold subs
  rw [List.mem_flatMap]
  constructor
  · rintro ⟨i, hi, h⟩
    obtain ⟨j, hj, e⟩ := List.mem_map.mp h
    have := List.mem_range.mp hi
    have := List.mem_range.mp hj
    exact ⟨i, j, by omega, by omega, e.symm⟩
  · rintro ⟨i, j, hi, hj, rfl⟩
    exact ⟨i, List.mem_range.mpr (by omega), List.mem_map.mpr ⟨j, List.mem_range.mpr (by omega), rfl⟩⟩
theorem subs_len (l : L) : (subs l).length = (l.length + 1) * (l.length + 1) := by
  unfold subs
  rw [List.length_flatMap]
  have : (List.map (fun i => ((List.range (l.length + 1)).map fun j => (l.drop i).take j).length) (List.range (l.length + 1))) = List.replicate (l.length + 1) (l.length + 1) := by
    rw [List.eq_replicate_iff]
    refine ⟨by simp, fun b hb => ?_⟩
    obtain ⟨i, _, e⟩ := List.mem_map.mp hb
    rw [← e]
    simp
  rw [this]
  simp
theorem comes_subs {l t : L} (a : Comes l t) : t ∈ subs l := by
  have gen : ∀ s t : L, Comes s t → (∃ i j, i ≤ l.length ∧ j ≤ l.length ∧ s = (l.drop i).take j) → ∃ i j, i ≤ l.length ∧ j ≤ l.length ∧ t = (l.drop i).take j := by
    intro s t a
    induction a with
    | refl => exact id
    | @step s t c hc _ ih =>
      rintro ⟨i, j, hi, hj, rfl⟩
      apply ih
      obtain ⟨c1, c2, _⟩ := hc
      rw [List.length_take, List.length_drop] at c2
      unfold left
      split
      · exact ⟨i + c, j - c, by omega, by omega, by rw [List.drop_take, List.drop_drop]⟩
      · exact ⟨i, min c j, hi, by omega, by rw [List.take_take]⟩
  rw [mem_subs]
  exact gen l t a ⟨0, l.length, by omega, by omega, by simp⟩
theorem found_le {l : L} {fs : List L} (nd : fs.Nodup) (h : ∀ t ∈ fs, Comes l t) : fs.length ≤ (l.length + 1) * (l.length + 1) := by
  rw [← subs_len]
  exact nd.length_le_of_subset fun t ht => comes_subs (h t ht)
end Fo

namespace Fo
/-! ### unfolding, all texts of a length -/
def waysL (n : Nat) : List (Nat × Nat) := (List.range' 1 n).map (fun m => (0, m)) ++ (List.range' 1 (n - 1)).map (fun m => (1, m))
def unfL (s : L) (w : Nat × Nat) : L := if w.1 = 0 then (s.take w.2).reverse ++ s else s ++ (s.drop (s.length - w.2)).reverse
theorem mem_ways {n : Nat} {w : Nat × Nat} : w ∈ waysL n ↔ (w.1 = 0 ∧ 1 ≤ w.2 ∧ w.2 ≤ n) ∨ (w.1 = 1 ∧ 1 ≤ w.2 ∧ w.2 < n) := by
  obtain ⟨e, m⟩ := w
  unfold waysL
  rw [List.mem_append, List.mem_map, List.mem_map]
  constructor
  · rintro (⟨k, hk, h⟩ | ⟨k, hk, h⟩)
    · rw [List.mem_range'_1] at hk
      injection h with h1 h2
      subst h1 h2
      exact .inl ⟨rfl, hk.1, by show k ≤ n; omega⟩
    · rw [List.mem_range'_1] at hk
      injection h with h1 h2
      subst h1 h2
      exact .inr ⟨rfl, hk.1, by show k < n; omega⟩
  · rintro (⟨h1, h2, h3⟩ | ⟨h1, h2, h3⟩)
    · exact .inl ⟨m, by rw [List.mem_range'_1]; have : m ≤ n := h3; have : 1 ≤ m := h2; omega, by rw [show e = 0 from h1]⟩
    · exact .inr ⟨m, by rw [List.mem_range'_1]; have : m < n := h3; have : 1 ≤ m := h2; omega, by rw [show e = 1 from h1]⟩
theorem unfL_len {s : L} {w : Nat × Nat} (h : w ∈ waysL s.length) : (unfL s w).length = s.length + w.2 := by
  unfold unfL
  rcases mem_ways.mp h with ⟨h1, h2, h3⟩ | ⟨h1, h2, h3⟩
  · rw [if_pos h1, List.length_append, List.length_reverse, List.length_take]
    omega
  · rw [if_neg (by omega), List.length_append, List.length_reverse, List.length_drop]
    omega
theorem unfL_cr {s : L} {w : Nat × Nat} (h : w ∈ waysL s.length) : ∃ c, Cr (unfL s w) c ∧ left (unfL s w) c = s := by
  unfold unfL
  rcases mem_ways.mp h with ⟨h1, h2, h3⟩ | ⟨h1, h2, h3⟩
  · rw [if_pos h1]
    exact ⟨_, unf_left h2 h3⟩
  · rw [if_neg (by omega)]
    obtain ⟨a, b, _⟩ := unf_right (l := s) h2 (by omega)
    exact ⟨_, a, b h3⟩
theorem cr_unfL {t : L} {c : Nat} (h : Cr t c) : ∃ w, w ∈ waysL (left t c).length ∧ unfL (left t c) w = t := by
  obtain ⟨h1, h2, h3⟩ := h
  by_cases hc : 2 * c ≤ t.length
  · have e : left t c = t.drop c := by unfold left; rw [if_pos hc]
    rw [e]
    refine ⟨(0, c), mem_ways.mpr (.inl ⟨rfl, h1, by show c ≤ _; rw [List.length_drop]; omega⟩), ?_⟩
    unfold unfL
    rw [if_pos rfl]
    have : ((t.drop c).take c).reverse = t.take c := by
      apply List.ext_getElem?
      intro i
      by_cases hi : i < c
      · rw [get_rev (by rw [List.length_take, List.length_drop]; omega), List.length_take, List.length_drop, List.getElem?_take_of_lt (by omega), List.getElem?_drop, List.getElem?_take_of_lt hi]
        have := h3 (c - 1 - i) (by omega) (by omega)
        rw [show c - 1 - (c - 1 - i) = i by omega] at this
        rw [this]
        congr 1
        omega
      · rw [List.getElem?_eq_none (by rw [List.length_reverse, List.length_take]; omega), List.getElem?_eq_none (by rw [List.length_take]; omega)]
    show ((t.drop c).take c).reverse ++ t.drop c = t
    rw [this, List.take_append_drop]
  · have e : left t c = t.take c := by unfold left; rw [if_neg hc]
    rw [e]
    have hl : (t.take c).length = c := by rw [List.length_take]; omega
    refine ⟨(1, t.length - c), mem_ways.mpr (.inr ⟨rfl, by show 1 ≤ t.length - c; omega, by show t.length - c < _; rw [hl]; omega⟩), ?_⟩
    unfold unfL
    rw [if_neg (by show ¬ (1 = 0); omega), hl]
    show t.take c ++ ((t.take c).drop (c - (t.length - c))).reverse = t
    have : ((t.take c).drop (c - (t.length - c))).reverse = t.drop c := by
      apply List.ext_getElem?
      intro i
      by_cases hi : i < t.length - c
      · rw [get_rev (by rw [List.length_drop, hl]; omega), List.length_drop, hl, List.getElem?_drop, List.getElem?_take_of_lt (by omega), List.getElem?_drop]
        have := h3 i (by omega) (by omega)
        rw [← this]
        congr 1
        omega
      · rw [List.getElem?_eq_none (by rw [List.length_reverse, List.length_drop, hl]; omega), List.getElem?_eq_none (by rw [List.length_drop]; omega)]
    rw [this, List.take_append_drop]
theorem unfL_mem {s : L} {w : Nat × Nat} {x : Nat} (h : x ∈ unfL s w) : x ∈ s := by
  unfold unfL at h
  split at h
  · rcases List.mem_append.mp h with h | h
    · exact List.mem_of_mem_take (List.mem_reverse.mp h)
    · exact h
  · rcases List.mem_append.mp h with h | h
    · exact h
    · exact List.mem_of_mem_drop (List.mem_reverse.mp h)
/-- no sign is lost by a fold -/
theorem Comes.mem2 {s t : L} (a : Comes s t) {x : Nat} (h : x ∈ s) : x ∈ t := by
  induction a with
  | refl => exact h
  | step hc _ ih =>
    obtain ⟨w, _, e⟩ := cr_unfL hc
    exact ih (unfL_mem (s := left _ _) (w := w) (by rw [e]; exact h))
theorem Comes.sg2 {s t : L} (a : Comes s t) (h : Sg t) : Sg s := fun c hc => h c (a.mem2 hc)
/-- the unfoldings of one strip, of at most m cells -/
def nxtO (m : Nat) (s : L) : List L := (waysL s.length).map fun w => if s.length + w.2 ≤ m then unfL s w else s
theorem star_over {m : Nat} {s t : L} (hs : s.length ≤ m) : Star (nxtO m) s t ↔ t.length ≤ m ∧ Comes t s := by
  constructor
  · intro a
    induction a with
    | refl s => exact ⟨hs, .refl s⟩
    | @step s t u h _ ih =>
      obtain ⟨w, hw, rfl⟩ := List.mem_map.mp h
      by_cases hm : s.length + w.2 ≤ m
      · rw [if_pos hm] at ih
        obtain ⟨i1, i2⟩ := ih (by rw [unfL_len hw]; exact hm)
        obtain ⟨c, c1, c2⟩ := unfL_cr hw
        exact ⟨i1, i2.trans (.step c1 (by rw [c2]; exact .refl s))⟩
      · rw [if_neg hm] at ih
        exact ih hs
  · rintro ⟨ht, a⟩
    induction a with
    | refl s => exact .refl s
    | @step t s c hc _ ih =>
      have hl := (left_len hc).1
      refine Star.snoc _ (ih hs (by omega)) ?_
      obtain ⟨w, hw, e⟩ := cr_unfL hc
      refine List.mem_map.mpr ⟨w, hw, ?_⟩
      have := unfL_len hw
      rw [e] at this
      rw [if_pos (by omega), e]
theorem rch_over {m : Nat} {st : List L} {t : L} (hst : ∀ s ∈ st, s.length ≤ m) : Rch (nxtO m) st t ↔ t.length ≤ m ∧ ∃ s ∈ st, Comes t s := by
  constructor
  · rintro ⟨s, hs, a⟩
    obtain ⟨h1, h2⟩ := (star_over (hst s hs)).mp a
    exact ⟨h1, s, hs, h2⟩
  · rintro ⟨h, s, hs, a⟩
    exact ⟨s, hs, (star_over (hst s hs)).mpr ⟨h, a⟩⟩
/-! all texts of a length -/
def sgs (k : Nat) : List Nat := [97, 98, 99, 100].take k
theorem sgs_sg {k c : Nat} (h : c ∈ sgs k) : 97 ≤ c ∧ c ≤ 100 := by
  have := List.mem_of_mem_take h
  simp at this
  omega
theorem sgs_nd (k : Nat) : (sgs k).Nodup := by
  unfold sgs
  exact List.Nodup.sublist (List.take_sublist ..) (by decide)
def txA (k : Nat) : Nat → List L
  | 0 => [[]]
  | n + 1 => (txA k n).flatMap fun t => (sgs k).map fun c => t ++ [c]
def txB (k : Nat) : Nat → List L
  | 0 => [[]]
  | n + 1 => (sgs k).flatMap fun c => (txB k n).map fun t => t ++ [c]
theorem snoc_cases {t : L} {n : Nat} (h : t.length = n + 1) : ∃ u c, t = u ++ [c] ∧ u.length = n := by
  refine ⟨t.dropLast, t.getLast (fun e => by rw [e] at h; simp at h), ?_, ?_⟩
  · rw [List.dropLast_concat_getLast]
  · rw [List.length_dropLast]; omega
theorem mem_txA {k : Nat} : ∀ {n : Nat} {t : L}, t ∈ txA k n ↔ t.length = n ∧ ∀ c ∈ t, c ∈ sgs k
  | 0, t => by
    unfold txA
    rw [List.mem_singleton]
    constructor
    · rintro rfl
      exact ⟨rfl, fun c hc => nomatch hc⟩
    · rintro ⟨h, _⟩
      exact List.length_eq_zero_iff.mp h
  | n + 1, t => by
    unfold txA
    rw [List.mem_flatMap]
    constructor
    · rintro ⟨u, hu, h⟩
      obtain ⟨c, hc, rfl⟩ := List.mem_map.mp h
      obtain ⟨h1, h2⟩ := mem_txA.mp hu
      refine ⟨by rw [List.length_append, h1]; rfl, fun x hx => ?_⟩
      rcases List.mem_append.mp hx with hx | hx
      · exact h2 x hx
      · rw [List.mem_singleton.mp hx]
        exact hc
    · rintro ⟨h1, h2⟩
      obtain ⟨u, c, rfl, hu⟩ := snoc_cases h1
      exact ⟨u, mem_txA.mpr ⟨hu, fun x hx => h2 x (List.mem_append_left _ hx)⟩, List.mem_map.mpr ⟨c, h2 c (by simp), rfl⟩⟩
theorem mem_txB {k : Nat} : ∀ {n : Nat} {t : L}, t ∈ txB k n ↔ t.length = n ∧ ∀ c ∈ t, c ∈ sgs k
  | 0, t => by
    unfold txB
    rw [List.mem_singleton]
    constructor
    · rintro rfl
      exact ⟨rfl, fun c hc => nomatch hc⟩
    · rintro ⟨h, _⟩
      exact List.length_eq_zero_iff.mp h
  | n + 1, t => by
    unfold txB
    rw [List.mem_flatMap]
    constructor
    · rintro ⟨c, hc, h⟩
      obtain ⟨u, hu, rfl⟩ := List.mem_map.mp h
      obtain ⟨h1, h2⟩ := mem_txB.mp hu
      refine ⟨by rw [List.length_append, h1]; rfl, fun x hx => ?_⟩
      rcases List.mem_append.mp hx with hx | hx
      · exact h2 x hx
      · rw [List.mem_singleton.mp hx]
        exact hc
    · rintro ⟨h1, h2⟩
      obtain ⟨u, c, rfl, hu⟩ := snoc_cases h1
      exact ⟨c, h2 c (by simp), List.mem_map.mpr ⟨u, mem_txB.mpr ⟨hu, fun x hx => h2 x (List.mem_append_left _ hx)⟩, rfl⟩⟩
theorem snoc_inj {u v : L} {c d : Nat} (h : u ++ [c] = v ++ [d]) : u = v ∧ c = d := by
  have := List.append_inj' h rfl
  exact ⟨this.1, by simpa using this.2⟩
theorem txA_nd (k : Nat) : ∀ n, (txA k n).Nodup
  | 0 => by simp [txA]
  | n + 1 => by
    unfold txA List.Nodup
    rw [List.pairwise_flatMap]
    refine ⟨fun t _ => ?_, (txA_nd k n).imp fun {a b} hab x hx y hy e => ?_⟩
    · rw [List.pairwise_map]
      exact (sgs_nd k).imp fun {a b} hab e => hab (snoc_inj e).2
    · obtain ⟨c, _, rfl⟩ := List.mem_map.mp hx
      obtain ⟨d, _, rfl⟩ := List.mem_map.mp hy
      exact hab (snoc_inj e).1
theorem txB_nd (k : Nat) : ∀ n, (txB k n).Nodup
  | 0 => by simp [txB]
  | n + 1 => by
    unfold txB List.Nodup
    rw [List.pairwise_flatMap]
    refine ⟨fun t _ => ?_, (sgs_nd k).imp fun {a b} hab x hx y hy e => ?_⟩
    · rw [List.pairwise_map]
      exact (txB_nd k n).imp fun {a b} hab e => hab (snoc_inj e).1
    · obtain ⟨c, _, rfl⟩ := List.mem_map.mp hx
      obtain ⟨d, _, rfl⟩ := List.mem_map.mp hy
      exact hab (snoc_inj e).2
theorem txAB (k n : Nat) : (txA k n).Perm (txB k n) := (List.perm_ext_iff_of_nodup (txA_nd k n) (txB_nd k n)).mpr fun t => mem_txA.trans mem_txB.symm
theorem sgs_le (k : Nat) : (sgs k).length ≤ 4 := by
  unfold sgs
  rw [List.length_take]
  exact Nat.min_le_right _ _
theorem sum_le {α : Type} (f : α → Nat) (b : Nat) : ∀ xs : List α, (∀ x ∈ xs, f x ≤ b) → (xs.map f).sum ≤ xs.length * b
  | [], _ => by simp
  | x :: r, h => by
    rw [List.map_cons, List.sum_cons, List.length_cons, Nat.add_mul]
    have := h x (List.mem_cons_self ..)
    have := sum_le f b r fun y hy => h y (List.mem_cons_of_mem _ hy)
    omega
theorem txA_len (k : Nat) : ∀ n, (txA k n).length ≤ 4 ^ n
  | 0 => by simp [txA]
  | n + 1 => by
    unfold txA
    rw [List.length_flatMap]
    have h := sum_le (fun t : L => ((sgs k).map fun c => t ++ [c]).length) 4 (txA k n) (fun t _ => by rw [List.length_map]; exact sgs_le k)
    have := txA_len k n
    rw [Nat.pow_succ]
    omega
theorem txB_len (k n : Nat) : (txB k n).length ≤ 4 ^ n := by
  rw [← (txAB k n).length_eq]
  exact txA_len k n
def upTo (n : Nat) : List L := (List.range n).flatMap (txA 4)
theorem upTo_len : ∀ n, (upTo n).length ≤ 4 ^ n
  | 0 => by simp [upTo]
  | n + 1 => by
    have e : upTo (n + 1) = upTo n ++ txA 4 n := by
      unfold upTo
      rw [List.range_succ, List.flatMap_append]
      simp
    rw [e, List.length_append]
    have := upTo_len n
    have := txA_len 4 n
    rw [Nat.pow_succ]
    omega
theorem sg_sgs {t : L} (h : Sg t) : ∀ c ∈ t, c ∈ sgs 4 := fun c hc => by
  have := h c hc
  have : c = 97 ∨ c = 98 ∨ c = 99 ∨ c = 100 := by omega
  rcases this with e | e | e | e <;> subst e <;> decide
theorem found_upTo {fs : List L} {m : Nat} (nd : fs.Nodup) (h : ∀ t ∈ fs, t.length ≤ m ∧ Sg t) : fs.length ≤ 4 ^ (m + 1) := by
  refine Nat.le_trans (nd.length_le_of_subset fun t ht => ?_) (upTo_len (m + 1))
  obtain ⟨h1, h2⟩ := h t ht
  exact List.mem_flatMap.mpr ⟨t.length, List.mem_range.mpr (by omega), mem_txA.mpr ⟨rfl, sg_sgs h2⟩⟩
end Fo

/-! Infrastructure: a def of the text by its name (Def), its promise (Fn), calls by name. -/
namespace Lk
open PySem PySem.Spec PyProof.Rows L2
/-- the def x of the text stands under its name -/
structure Def (K : PySem.W.Frag) (mg : Str → Option Value) (x : Str) (st : Stmt) (ps : List Str) : Prop where
  ex : ∃ f fd, mg x = some (.ref f) ∧ Fun K x x st f fd ∧ Binds K fd ps [] ∧ ∀ (s : Shared) (us : List Value), us.length = ps.length → BindsTo s fd ⟨us, []⟩ (ps.zip us)
theorem def_mk {K : PySem.W.Frag} {h : Heap} {mg : Str → Option Value} {x : Str} {st : Stmt} {ps : List Str} {f : Addr} {oc : Value} {od an : Option Addr} {osl : Array (Option Value)} {kV doc pm cdv ct : Value} (X : K.In h) (G : h.Ns mainGlobals mg)
    (hb : ∀ (kV doc pm : Value) (an : Option Addr) (cdv ct : Value) (us : List Value), us.length = ps.length → bindArgs (PySem.W.fnOf x x (defArgs st) (defBody st) (defScope st) .none kV doc pm an cdv ct) ⟨us, []⟩ = pure (ps.zip us))
    (a : PySem.W.nsIn K mainGlobals x = some (some (.ref f))) (l : K.lookup f = some ⟨oc, od, .func (PySem.W.fnOf x x (defArgs st) (defBody st) (defScope st) .none kV doc pm an cdv ct), osl⟩)
    (c : PySem.W.codeIn K cdv x = true) (k : PySem.W.keepIn K (.ref f) = true) : Def K mg x st ps := by
  have F := fun_mk (st := st) l c k
  exact ⟨f, _, PySem.W.mg_of X G a, F, F.binds hb, fun s us hl => .of_eq (hb _ _ _ _ _ _ us hl)⟩
/-- what a def named x is worth -/
def Fn (P : Program) (w : World) (K : PySem.W.Frag) (mg : Str → Option Value) (base : Heap) (CX : CXT) (k : Nat) (x : Str) (ps : List Str) (sp : Sp) : Prop :=
  ∃ f fd, mg x = some (.ref f) ∧ PySem.W.keepIn K (.ref f) = true ∧ Binds K fd ps [] ∧ FnOk P w K mg base CX k f fd ps sp
section
variable {P : Program} {w : World} {K : PySem.W.Frag} {mg : Str → Option Value} {base : Heap}
theorem Def.fn {CX : CXT} {x : Str} {st : Stmt} {ps : List Str} {k : Nat} {sp : Sp} (D : Def K mg x st ps) (h : ∀ f fd, Fun K x x st f fd → FnOk P w K mg base CX k f fd ps sp) : Fn P w K mg base CX k x ps sp := by
  obtain ⟨f, fd, a, F, b, _⟩ := D.ex
  exact ⟨f, fd, a, F.kp, b, h f fd F⟩
theorem Fn.mono {CX : CXT} {x : Str} {ps : List Str} {j k : Nat} {sp : Sp} (F : Fn P w K mg base CX j x ps sp) (h : j ≤ k) : Fn P w K mg base CX k x ps sp := by
  obtain ⟨f, fd, a, b, c, d⟩ := F
  exact ⟨f, fd, a, b, c, d.mono h⟩
theorem Fn.imp {CX : CXT} {x : Str} {ps : List Str} {k : Nat} {sp sp' : Sp} (F : Fn P w K mg base CX k x ps sp) (h : ∀ vs H Q E, sp' vs H Q E → sp vs H Q E) : Fn P w K mg base CX k x ps sp' := by
  obtain ⟨f, fd, a, b, c, d⟩ := F
  exact ⟨f, fd, a, b, c, d.imp h⟩
end
section
variable {X : Cx} {x : Str} {ps : List Str} {k j : Nat} {sp : Sp} {e : Expr} {es : List Expr} {t : TA} {p pos : Pos}
/-- x(e, ..), nothing raised -/
def tFn (sp : Sp) (t : TA) : TE := fun σ H Q => t σ H fun vs H1 => sp vs H1 Q E0
theorem pe_fn (F : Fn X.prog X.w X.K X.mg X.base CX0 k x ps sp) (hr : Room j X.A) (ha : PA X (e :: es) t) (hj : k ≤ j := by decide) (hg : Gl X x := by rfl)
    (hdb : (x == ("__debug__" : Str)) = false := by decide) (he : starEach (e :: es) X.env = (false, eval e X.env) :: starEach es X.env := by rfl) (hpl : (backTo pos (starEach es X.env)).any (·.1) = false := by rfl) :
    PE X (.Call (.Name x p) (e :: es) [] pos) (tFn sp t) := by
  obtain ⟨f, fd, a, b, c, d⟩ := F
  have z := pe_call (E := E0) (p := p) (pos := pos) d (hr.mono hj) hg a b c .nil pass0 ha hdb he hpl
  refine ⟨fun pins s σ H Q I h => z.run pins s σ H Q I ?_⟩
  show t σ H fun vs H1 => sp (vs ++ []) H1 Q E0
  have e : (fun vs H1 => sp (vs ++ []) H1 Q E0) = fun (vs : List V) H1 => sp vs H1 Q E0 := by
    funext vs H1
    rw [List.append_nil]
  rw [e]
  exact h
end
/-- all but the object at b stands as it was -/
def But (b : Addr) (H H' : Hp) : Prop := ∀ a o, a ≠ b → H a = some o → H' a = some o
theorem But.refl (b : Addr) (H : Hp) : But b H H := fun _ _ _ h => h
theorem But.trans {b : Addr} {H H1 H2 : Hp} (a : But b H H1) (c : But b H1 H2) : But b H H2 := fun x o n h => c x o n (a x o n h)
theorem But.same {b : Addr} {H H1 H2 : Hp} (a : But b H H1) (c : Same H1 H2) : But b H H2 := fun x o n h => c x o (a x o n h)
theorem Same.but {b : Addr} {H H1 : Hp} (a : Same H H1) : But b H H1 := fun x o _ h => a x o h
theorem Same.upd {H : Hp} {p : Addr} {o : HO} (h : H p = none) : Same H (L2.upd H p o) := fun b x e => by
  rw [upd_ne (ne_of_none e h)]
  exact e
theorem Same.upd' {H0 H : Hp} {p : Addr} {o : HO} (s : Same H0 H) (h : H p = none) : Same H0 (L2.upd H p o) := s.trans (Same.upd h)
theorem Same.upd2 {H0 H : Hp} {p : Addr} {o : HO} (s : Same H0 H) (h : H0 p = none) : Same H0 (L2.upd H p o) := fun b x e => by
  rw [upd_ne (ne_of_none e h)]
  exact s b x e
theorem But.free {b l : Addr} {H H' : Hp} (e : But b H H') (n : l ≠ b) (h : H' l = none) : H l = none := by
  cases q : H l with
  | none => rfl
  | some o =>
    rw [e l o n q] at h
    cases h
theorem But.upd2 {b p : Addr} {o : HO} {H H' : Hp} (e : But b H H') (h : H p = none) : But b H (L2.upd H' p o) := fun c x n q => by
  rw [upd_ne (ne_of_none q h)]
  exact e c x n q
theorem But.seq {K : PySem.W.Frag} {b : Addr} {H H' : Hp} {a : Addr} {xs : List V} (e : But b H H') (n : a ≠ b) (h : SqL K H a xs) : SqL K H' a xs := by
  rcases h with (h | ⟨o, h⟩) | h
  · exact .inl (.inl (e _ _ n h))
  · exact .inl (.inr ⟨o, e _ _ n h⟩)
  · exact .inr h
end Lk


/-! Rules for texts: [::-1], min of two, sorting of any number. -/
namespace Lk
open PySem PySem.Spec PyProof.Rows L2
abbrev S (l : List Nat) : Str := SX.S l
abbrev vS (l : List Nat) : V := .str (S l)
theorem S_len (l : List Nat) : (S l).length = l.length := SX.S_len l
theorem S_tl (l : List Nat) : (S l).cps.toList = l := rfl
theorem S_of (x : Str) : S x.cps.toList = x := SX.S_tl x
theorem S_inj {a b : List Nat} : S a = S b ↔ a = b := ⟨SX.S_inj, fun h => by rw [h]⟩
theorem vS_inj {a b : List Nat} : vS a = vS b ↔ a = b := ⟨fun h => SX.S_inj (V.str.inj h), fun h => by rw [h]⟩
theorem vS_dec (a b : List Nat) : decide (vS a = vS b) = decide (a = b) := by
  by_cases h : a = b
  · rw [decide_eq_true h, decide_eq_true (vS_inj.mpr h)]
  · rw [decide_eq_false h, decide_eq_false fun e => h (vS_inj.mp e)]
section
variable {X : Cx}
/-! ### s[::-1] -/
def tRevS (te : TE) : TE := fun σ H Q => te σ H fun x H1 => ∃ l, x = vS l ∧ l.length ≤ sizeLine ∧ Q (vS l.reverse) H1
theorem rev_list (x : Str) (u : Tok) : (Txt.sliceBy x none none (-1, u)).cps.toList = x.cps.toList.reverse := by
  rw [step_rev_list]
  apply List.ext_getElem?
  intro i
  by_cases hi : i < x.length
  · have hs : x.cps.size = x.length := rfl
    rw [List.getElem?_map, List.getElem?_range hi, List.getElem?_reverse (by rw [Array.length_toList]; exact hi), Array.length_toList]
    show some (x.cps.getD (x.length - 1 - i) 0) = x.cps.toList[x.length - 1 - i]?
    have h2 : x.length - 1 - i < x.cps.size := by omega
    rw [Array.getElem?_toList, Array.getElem?_eq_getElem h2]
    congr 1
    simp [Array.getD, h2]
  · rw [List.getElem?_eq_none (by rw [List.length_map, List.length_range]; omega), List.getElem?_eq_none (by rw [List.length_reverse, Array.length_toList]; show x.length ≤ i; omega)]
theorem pe_revS {e : Expr} {te : TE} {k : Nat} {p1 p2 p3 pos : Pos} (he : PE X e te) : PE X (.Subscript e (.Slice none none (some (.UnaryOp .USub (.Constant (.int 1) k p1) p2)) p3) pos) (tRevS te) := by
  refine ⟨fun pins s σ H Q I h => ?_⟩
  refine Subscript_ (thn (he.run pins s σ H _ I h) fun v s1 ⟨x, H1, I1, r1, q1⟩ => ?_)
  obtain ⟨z, ex, hz, q⟩ := q1
  subst ex
  obtain ⟨tz, rfl⟩ := r1
  have hst : PO X (some (.UnaryOp .USub (.Constant (.int 1) k p1) p2)) (tPart (tUn (rU fun i => .int (-i)) (tC (.int 1)))) := po_some (pe_un un_neg pe_int)
  refine wpAny_Slice (thn (po_none.run pins s1 σ H1 (fun o H2 => o = none ∧ H2 = H1) I1 ⟨rfl, rfl⟩) fun vl s2 ⟨l, H2, I2, pl, el, e2⟩ => ?_)
  subst el e2
  refine thn (po_none.run pins s2 σ H2 (fun o H3 => o = none ∧ H3 = H2) I2 ⟨rfl, rfl⟩) fun vu s3 ⟨u, H3, I3, pu, eu, e3⟩ => ?_
  subst eu e3
  refine thn (hst.run pins s3 σ H3 (fun o H4 => o = some (-1) ∧ H4 = H3) I3 ⟨1, rfl, -1, rfl, rfl, rfl⟩) fun vs s4 ⟨o, H4, I4, ps, eo, e4⟩ => ?_
  subst eo e4
  have I5 : Inv X pins σ H4 { s4 with heap := s4.heap.push { cls := .type "slice", data := .fields #[vl, vu, vs] } } := I4.kept (t' := s4.toks) fun b ob q => Heap.get?_push_of_some _ q
  show wpAny (model X.prog X.w) X.A (subscriptTail e (.Slice none none (some (.UnaryOp .USub (.Constant (.int 1) k p1) p2)) p3) (.str (S z) tz) (.ref s4.heap.objs.size)) (EP X pins σ Q) X.xe { s4 with heap := s4.heap.push { cls := .type "slice", data := .fields #[vl, vu, vs] } }
  obtain ⟨l, rfl, el⟩ := IsPart.raw pl
  obtain ⟨u, rfl, eu⟩ := IsPart.raw pu
  obtain ⟨st, rfl, es⟩ := IsPart.raw ps
  have el' : l = none := by cases l with | none => rfl | some p => simp at el
  have eu' : u = none := by cases u with | none => rfl | some p => simp at eu
  subst el' eu'
  obtain ⟨t, es'⟩ : ∃ t, st = some (-1, t) := by
    cases st with
    | none => simp at es
    | some p =>
      obtain ⟨p1, p2⟩ := p
      have e1 : p1 = -1 := Option.some.inj es
      exact ⟨p2, by rw [e1]⟩
  subst es'
  refine tail_any (ops := [.str (S z) tz, .ref s4.heap.objs.size]) (typeIs_str _ _ _) (PySem.F.slot_str_getitem.lookup) ?_ (by with_unfolding_all rfl)
  refine wpAny_getItem_str_slice (l := none) (u := none) (st := some (-1, t)) ⟨_, Heap.get?_push_size _ rfl, rfl, rfl⟩ (by rfl) ?_
  have hrl := rev_list (S z) t
  have hcond : ¬ ((((some ((-1 : Int), t)).map (·.1)).getD 1 == 1 && (slicePicked (S z) none none (some (-1, t))).length == (S z).length) = true) := by
    have : ((((some ((-1 : Int), t)).map (·.1)).getD 1 == 1)) = false := rfl
    rw [this]; simp
  unfold Txt.sliceBy at hrl
  rw [if_neg hcond] at hrl
  unfold sliceMade
  rw [if_neg hcond]
  have e9 : (⟨((slicePicked (S z) none none (some (-1, t))).filterMap ((S z).cps[·]?)).toArray⟩ : Str) = S z.reverse := by
    apply TL.ext_tl
    exact hrl
  rw [e9]
  exact ⟨by rw [S_len, List.length_reverse]; exact hz, vS z.reverse, _, I5.tok _, ⟨_, rfl⟩, q⟩

/-! ### min(s, t) -/
def strItems (xs : Array (Str × Tok)) : Array Value := xs.map fun p => .str p.1 p.2
def strAt (xs : Array (Str × Tok)) (i : Nat) : Str := (xs[i]?.map (·.1)).getD ⟨#[]⟩
theorem strItems_at {xs : Array (Str × Tok)} {i : Nat} {v : Value} (h : (strItems xs)[i]? = some v) : ∃ t, v = .str (strAt xs i) t := by
  simp only [strItems, Array.getElem?_map, Option.map_eq_some_iff] at h
  obtain ⟨p, hp, rfl⟩ := h
  exact ⟨p.2, by simp [strAt, hp]⟩
theorem cmp_strs_lt {prog : Program} {w : World} {A : Around} {P : Nat → Value → Prop} (val : Nat → Str) (hval : ∀ i v, P i v → ∃ t, v = .str (val i) t) :
    CmpOf prog w A .Lt P (fun i j => decide ((val i).cps.toList < (val j).cps.toList)) := fun i j vi vj s Q E hi hj h => by
  obtain ⟨t, rfl⟩ := hval i vi hi
  obtain ⟨u, rfl⟩ := hval j vj hj
  exact richCompare_gives (op := .Lt) (typeIs_str s _ t) (typeIs_str s _ u) PySem.F.slot_str_lt PySem.F.entry_str_lt (PySem.F.args_str_lt_2 _ _) (gives_str_lt _ _ t u) (fun x => nomatch x) h
theorem min_two_strs {prog : Program} {w : World} {A : Around} {E : Value → Shared → Prop} {s : Shared} {a b : Str} {t u : Tok} {Q : Value → Shared → Prop} (hh : A.handled = none)
    (h : ∀ h' tk, (∀ c o, s.heap.get? c = some o → h'.get? c = some o) → Q (if b.cps.toList < a.cps.toList then .str b u else .str a t) { s with heap := h', toks := tk }) :
    wpAny (model prog w) A (call (.builtin "min") [.str a t, .str b u]) Q E s := by
  have hT : (s.heap.push { cls := .type "tuple", data := .seq #[.str a t, .str b u] }).IsTuple s.heap.objs.size (strItems #[(a, t), (b, u)]) := ⟨_, Heap.get?_push_size _ rfl, rfl, 0, by simp [strItems]⟩
  refine call_min_two (wpAny_pyIter_tuple hT ?_)
  have hsz : (s.heap.push { cls := .type "tuple", data := .seq #[.str a t, .str b u] }).objs.size = s.heap.objs.size + 1 := Heap.size_push ..
  refine ⟨_, [_, s.heap.objs.size], [_], _, _, _, _, rfl, Walks.tuple (A := A.in1) hh _ s.heap.objs.size (by rw [hsz]; exact Nat.ne_of_lt (Nat.lt_succ_self _)) (strItems #[(a, t), (b, u)]),
    ⟨⟨_, Heap.get?_push_size _ rfl, rfl, rfl⟩, hT.push _⟩, fun c hc => ?_, by simp [strItems], cmp_strs_lt (strAt #[(a, t), (b, u)]) (fun _ _ => strItems_at), fun v h' tk hP hk => ?_⟩
  · show c < ((s.heap.push _).push _).objs.size
    rw [Heap.size_push, hsz]
    rcases List.mem_cons.mp hc with rfl | hc
    · rw [hsz]; exact Nat.lt_succ_self _
    · rcases List.mem_cons.mp hc with rfl | hc
      · exact Nat.lt_succ_of_lt (Nat.lt_succ_self _)
      · cases hc
  · have hold : ∀ c o, s.heap.get? c = some o → h'.get? c = some o := fun c o e => by
      refine hk c o (fun hm => ?_) (Heap.get?_push_of_some _ (Heap.get?_push_of_some _ e))
      rcases List.mem_cons.mp hm with e1 | hm
      · have := Heap.lt_size e; rw [e1, hsz] at this; exact Nat.lt_irrefl _ (Nat.lt_of_succ_lt this)
      · cases hm
    have := h h' tk hold
    have hv : v = if b.cps.toList < a.cps.toList then Value.str b u else Value.str a t := by
      have hP' : (strItems #[(a, t), (b, u)])[argBest (fun i j => decide ((strAt #[(a, t), (b, u)] i).cps.toList < (strAt #[(a, t), (b, u)] j).cps.toList)) 1]? = some v := by
        have hsz2 : (strItems #[(a, t), (b, u)]).size - 1 = 1 := by simp [strItems]
        rw [← hsz2]; exact hP
      by_cases hba : b.cps.toList < a.cps.toList
      · have e : argBest (fun i j => decide ((strAt #[(a, t), (b, u)] i).cps.toList < (strAt #[(a, t), (b, u)] j).cps.toList)) 1 = 1 := by simp [argBest, strAt, hba]
        rw [e] at hP'
        simpa [strItems, hba] using hP'.symm
      · have e : argBest (fun i j => decide ((strAt #[(a, t), (b, u)] i).cps.toList < (strAt #[(a, t), (b, u)] j).cps.toList)) 1 = 0 := by simp [argBest, strAt, hba]
        rw [e] at hP'
        simpa [strItems, hba] using hP'.symm
    rw [hv]; exact this
theorem call_minS (hc : X.calm = true) : CallR X (.builtin "min") (fun xs H Q => ∃ a b, xs = [vS a, vS b] ∧ Q (vS (if b < a then b else a)) H) := by
  intro pins s σ H xs us Q I r h
  obtain ⟨a, b, rfl, q⟩ := h
  obtain ⟨u, w', rfl, ⟨t, rfl⟩, ⟨t', rfl⟩⟩ := vals2 r
  refine min_two_strs (I.ok.hd hc) fun h' tk k => ⟨_, H, I.kept k, ?_, q⟩
  by_cases hb : b < a
  · rw [if_pos hb, if_pos (show (S b).cps.toList < (S a).cps.toList from hb)]; exact ⟨_, rfl⟩
  · rw [if_neg hb, if_neg (show ¬ (S b).cps.toList < (S a).cps.toList from hb)]; exact ⟨_, rfl⟩

/-! ### sorted(xs), sorted(d): texts, any number -/
def rSortedSA (K : PySem.W.Frag) : List V → Hp → VK → Prop := fun vs H Q => ∃ (a : Addr) (xs : List Str), vs = [V.ref a] ∧ SqL K H a (xs.map V.str) ∧
  ∀ (ys : List Str) (p : Addr), ys.Perm xs → sortedS ys = true → H p = none → Q (.ref p) (upd H p (.lst (ys.map V.str)))
theorem cr_sortedSA : CallR X (.builtin "sorted") (rSortedSA X.K) := by
  intro pins s σ H vs us Q I r h
  obtain ⟨a, xs, rfl, hs, q⟩ := h
  obtain ⟨its, rv, hl, hz⟩ := I.list hs
  rw [Vals.ref1 r]
  have hlen0 := rv.length
  refine PyProof.Rows.sorted_strsAny hl.isList rv.strs (by rw [← hlen0]; exact hz) fun out ys h1 h2 h3 => ?_
  obtain ⟨ep, he'⟩ := PyProof.Rows.sortedAll_at s.heap its out
  have hlen : (ys.map V.str).length ≤ sizeLine := by rw [List.length_map, h2.length_eq]; rw [List.length_map] at hz; exact hz
  exact ⟨.ref _, upd H (s.heap.objs.size + 1) (.lst (ys.map V.str)), I.laid (t' := s.toks) (fun _ _ => PyProof.Rows.sortedAll_old) (Nat.le_succ _) ⟨hlen, out.toList, ep, vals_of_strs h1, he'⟩, rfl, q ys _ h2 h3 (I.hok.fresh (Nat.le_succ _))⟩
def rSortedDA : List V → Hp → VK → Prop := fun xs H Q => ∃ (a : Addr) (kvs : List (Key × V)) (ks : List Str), xs = [.ref a] ∧ Rd H a (.dK kvs) ∧ kvs.map (·.1) = ks.map Sum.inr ∧
    ∀ ys p, ys.Perm ks → sortedS ys = true → H p = none → Q (.ref p) (upd H p (.lst (ys.map V.str)))
theorem call_sortedDA (hcalm : X.calm = true) : CallR X (.builtin "sorted") rSortedDA := by
  intro pins s σ H xs us Q I r q
  obtain ⟨a, kvs, ks, ex, hd, hks, q⟩ := q
  subst ex
  obtain ⟨u, eu, rx⟩ := vals1 r
  subst eu
  cases rx
  obtain ⟨z, lo, vs, rel, dd⟩ := dk_rd I.hok hd
  obtain ⟨ep, hat⟩ := dd.dictAt
  have hkeys : vs.map (·.1) = ks.map Sum.inr := rel.keys.symm.trans hks
  have hl : vs.length = ks.length := by
    have e := congrArg List.length hkeys
    rw [List.length_map, List.length_map] at e
    exact e
  have h16' : kvs.length = ks.length := by
    have e := congrArg List.length hks
    rw [List.length_map, List.length_map] at e
    exact e
  have h16 : vs.length ≤ sizeLine := by rw [hl, ← h16']; exact z
  refine Calls.call_function_entry PyProof.Rows.kind_sorted PyProof.Rows.plain_sorted PyProof.Rows.entry_sorted (PyProof.Rows.args_sorted1 _) ?_
  unfold Builtin.«sorted»
  refine wpAny_bind (m := checkCount "sorted" 1 1 _) (wpAny_pure ?_)
  refine wpAny_bind (PySem.W.kdu_collect (A := X.A.in1) (PySem.W.kdl_dict (knd := mixKind X.prog X.w) (kvs := vs) (ep := ep) lo) (I.ok.hd hcalm) hat h16 fun h' tk acc hk hacc => ?_)
  have hal : acc.toList.length = ks.length := by rw [Array.length_toList, hacc.1, hl]
  have hS : StrsAre acc.toList ks := strs_at hal fun j v e => by
    obtain ⟨k, x, e1, e2⟩ := hacc.2 j v (by rw [← Array.getElem?_toList]; exact e)
    have e3 : (vs.map (·.1))[j]? = some k := by rw [List.getElem?_map, e1]; all_goals rfl
    rw [hkeys, List.getElem?_map] at e3
    cases e4 : ks[j]? with
    | none => rw [e4] at e3; cases e3
    | some y =>
      rw [e4] at e3
      have e5 : Sum.inr y = k := Option.some.inj e3
      subst e5
      obtain ⟨t, ev⟩ := Value.isStrOf_shape (x := y) (v := v) e2
      exact ⟨y, t, rfl, ev⟩
  have I1 : Inv X pins σ H { s with heap := h', toks := tk } := I.kept hk
  refine wpAny_bind (wpAny_newList ?_ (by rw [hal, ← hl]; exact h16))
  have hoL : (h'.push (seqObj "list" acc.toList.toArray 0)).get? h'.objs.size = some (seqObj "list" acc.toList.toArray 0) := Heap.get?_push_size _ rfl
  show wpAny _ _ _ _ _ { s with heap := h'.push (seqObj "list" acc.toList.toArray 0), toks := tk }
  refine wpAny_bind (wpAny_holding (wpAny_call_entry PyProof.Rows.slot_list_sort ⟨_, hoL, rfl⟩ PyProof.Rows.entry_list_sort
    (list_sort_treeKAny strKind_oneLt (s := { s with heap := h'.push (seqObj "list" acc.toList.toArray 0), toks := tk }) hoL hS.keysOf (fun v₁ v₂ rest e => keyKind_strs (by rw [← e]; exact hS)) (by rw [hal, ← hl]; exact h16) fun st' hp hs => ⟨_, rfl, ?_⟩)
    (PyProof.Rows.args_list_sort _)))
  obtain ⟨ys, g1, g2, g3⟩ := sorted_out_str hS hp hs
  obtain ⟨e', he'⟩ := PyProof.Rows.sortedHeap_at (vs := acc.toList) (out := (arrOf st').map (·.2)) hoL
  have hlen : (ys.map V.str).length ≤ sizeLine := by
    rw [List.length_map, g2.length_eq, ← hl]
    exact h16
  refine wpAny_pure ⟨_, rfl, .ref h'.objs.size, upd H h'.objs.size (.lst (ys.map V.str)), I1.laid (t' := tk) (fun b u e => ?_) (Nat.le_refl _)
    (show ObjOk X.prog X.w _ _ _ (.lst (ys.map V.str)) from ⟨hlen, ((arrOf st').map (·.2)).toList, e', vals_of_strs g1, by rw [Array.toArray_toList]; exact he'⟩), rfl, q ys _ g2 g3 (I1.hok.fresh (Nat.le_refl _))⟩
  have hb : b < h'.objs.size := Heap.lt_size e
  rw [PyProof.Rows.sortedHeap_old (Nat.ne_of_lt hb) (by rw [size_push']; exact Nat.lt_succ_of_lt hb)]
  exact Heap.get?_push_of_some _ e
end
end Lk


namespace Lk
open PySem PySem.Spec PyProof.Rows L2
/-! ### rules over lists of signs -/
abbrev vI (c : Nat) : V := .int (c : Int)
/-- l[lo:hi] -/
def cutL (l : List Nat) (lo hi : Option Int) : List Nat := (l.drop (HT.sIx l.length 0 lo)).take (HT.sIx l.length l.length hi - HT.sIx l.length 0 lo)
theorem cutS_S (l : List Nat) (lo hi : Option Int) : cutS (S l) lo hi = S (cutL l lo hi) := by
  unfold cutS cutL
  rw [S_len]
theorem cut_to (l : List Nat) {i : Int} (h : 0 ≤ i) : cutL l none (some i) = l.take i.toNat := by
  have e : i = ((i.toNat : Nat) : Int) := by omega
  unfold cutL
  rw [HT.sIx_none, e, HT.sIx_nat, List.drop_zero, Nat.sub_zero, Int.toNat_natCast]
  by_cases hl : i.toNat ≤ l.length
  · rw [Nat.min_eq_left hl]
  · rw [Nat.min_eq_right (by omega), List.take_length, List.take_of_length_le (by omega)]
theorem cut_from (l : List Nat) {i : Int} (h : 0 ≤ i) : cutL l (some i) none = l.drop i.toNat := by
  have e : i = ((i.toNat : Nat) : Int) := by omega
  unfold cutL
  rw [HT.sIx_none, e, HT.sIx_nat, Int.toNat_natCast]
  by_cases hl : i.toNat ≤ l.length
  · rw [Nat.min_eq_left hl, List.take_of_length_le (by rw [List.length_drop]; omega)]
  · rw [Nat.min_eq_right (by omega), List.drop_length, List.drop_eq_nil_of_le (by omega), List.take_nil]
theorem cut_mid (l : List Nat) {i j : Int} (h : 0 ≤ i) (h2 : i ≤ j) (h3 : j ≤ l.length) : cutL l (some i) (some j) = (l.drop i.toNat).take (j.toNat - i.toNat) := by
  have e : i = ((i.toNat : Nat) : Int) := by omega
  have e2 : j = ((j.toNat : Nat) : Int) := by omega
  unfold cutL
  rw [e, e2, HT.sIx_nat, HT.sIx_nat, Int.toNat_natCast, Int.toNat_natCast, Nat.min_eq_left (by omega), Nat.min_eq_left (by omega)]
theorem cut_neg (l : List Nat) {i : Int} (h : i < 0) (h2 : 0 ≤ l.length + i) : cutL l (some i) none = l.drop (l.length + i).toNat := by
  have e : HT.sIx l.length 0 (some i) = (l.length + i).toNat := by
    show (if i < 0 then (i + (l.length : Int)).toNat else min i.toNat l.length) = _
    rw [if_pos h, Int.add_comm]
  unfold cutL
  rw [HT.sIx_none, e, List.take_of_length_le (by rw [List.length_drop]; omega)]
theorem cut_len (l : List Nat) (lo hi : Option Int) : (cutL l lo hi).length ≤ l.length := by
  unfold cutL
  rw [List.length_take, List.length_drop]
  omega
section
variable {X : Cx}
theorem big {n : Nat} (h : n ≤ 1000000) : n ≤ sizeLine := Nat.le_trans h (by decide)
theorem sl_S : SlR X (fun x lo hi H Q => ∃ l, x = vS l ∧ l.length ≤ 1000000 ∧ Q (vS (cutL l lo hi)) H) := by
  intro pins s σ H x v vl vu lo hi sl Q I rx hs pl pu ⟨l, e, hl, q⟩
  refine sl_str pins s σ H x v vl vu lo hi sl Q I rx hs pl pu ⟨S l, e, by rw [S_len]; exact big hl, ?_⟩
  rw [cutS_S]
  exact q
theorem op_catS : OpR X (binaryOp .Add) (fun x y H Q => ∃ a b, x = vS a ∧ y = vS b ∧ a.length + b.length ≤ 1000000 ∧ Q (vS (a ++ b)) H) := by
  intro pins s σ H x y v u Q I rx ry ⟨a, b, e1, e2, hl, q⟩
  refine op_add_str pins s σ H x y v u Q I rx ry ⟨S a, S b, e1, e2, by rw [S_len, S_len]; exact big hl, ?_⟩
  rw [SX.S_cat]
  exact q
theorem call_lenS : CallR X (.builtin "len") (fun xs H Q => ∃ l, xs = [vS l] ∧ l.length ≤ 1000000 ∧ Q (.int l.length) H) := by
  intro pins s σ H xs us Q I r ⟨l, e, hl, q⟩
  refine call_len_str pins s σ H xs us Q I r ⟨S l, e, by rw [S_len]; exact big hl, ?_⟩
  rw [S_len]
  exact q
/-- len of a text, a list, a tuple -/
def LenX (K : PySem.W.Frag) (x : V) (H : Hp) (n : Nat) : Prop := (∃ l, x = vS l ∧ l.length ≤ 1000000 ∧ n = l.length) ∨ (∃ p xs, x = .ref p ∧ SqL K H p xs ∧ n = xs.length) ∨ ∃ p xs, x = .ref p ∧ SqT K H p xs ∧ n = xs.length
theorem call_lenX : CallR X (.builtin "len") (fun xs H Q => ∃ x n, xs = [x] ∧ LenX X.K x H n ∧ Q (.int n) H) := by
  intro pins s σ H xs us Q I r ⟨x, n, e, hl, q⟩
  rcases hl with ⟨l, rfl, h1, rfl⟩ | ⟨p, ys, rfl, h1, rfl⟩ | ⟨p, ys, rfl, h1, rfl⟩
  · exact call_len pins s σ H xs us Q I r ⟨_, _, e, ⟨by rw [S_len]; exact big h1, (S_len l).symm⟩, q⟩
  · exact call_len pins s σ H xs us Q I r ⟨_, _, e, .inl ⟨ys, h1, rfl⟩, q⟩
  · exact call_len pins s σ H xs us Q I r ⟨_, _, e, .inr ⟨ys, h1, rfl⟩, q⟩
theorem ix_S : IxR X (fun x y H Q => ∃ l i c, x = vS l ∧ y = .int i ∧ l.length ≤ 1000000 ∧ atI l i = some c ∧ Q (vS [c]) H) := by
  intro value slice pins s σ H x y v u Q I rx ry ⟨l, i, c, e1, e2, hl, ha, q⟩ hs
  exact ix_str value slice pins s σ H x y v u Q I rx ry ⟨S l, i, c, e1, e2, by rw [S_len]; exact big hl, ha, q⟩ hs
theorem map_vS (ys : List (List Nat)) : (ys.map S).map V.str = ys.map vS := by rw [List.map_map]; rfl
/-- sep.join(list of texts) -/
theorem mt_joinS : MtR X "str.join" (fun x xs H Q => ∃ a p, ∃ ys : List (List Nat), x = vS a ∧ xs = [.ref p] ∧ (SqL X.K H p (ys.map vS) ∨ SqT X.K H p (ys.map vS)) ∧ (ys.map (·.length)).sum + ys.length * a.length ≤ 16777216 ∧ Q (vS (TL.joinL a ys)) H) := by
  intro pins s σ H x xs v us Q I rx rxs ⟨a, p, ys, e1, e2, h1, h2, q⟩
  refine mt_join pins s σ H x xs v us Q I rx rxs ⟨S a, p, ys.map S, e1, e2, by rw [map_vS]; exact h1, by rw [SX.lens, S_len, List.length_map]; exact h2, ?_⟩
  rw [SX.join_S]
  exact q
theorem pe_joinS {o e : Expr} {to te : TE} {apos pos : Pos} (ho : PE X o to) (he : PE X e te) (hs : starEach [e] X.env = [(false, eval e X.env)] := by rfl) (hbase : attributeBase o "join" X.env (eval o X.env) = eval o X.env := by rfl) (hline : (apos.endLine == pos.line) = true := by rfl) :
    PE X (.Call (.Attribute o "join" apos) [e] [] pos) (tM1 (fun x xs H Q => ∃ a p, ∃ ys : List (List Nat), x = vS a ∧ xs = [.ref p] ∧ (SqL X.K H p (ys.map vS) ∨ SqT X.K H p (ys.map vS)) ∧ (ys.map (·.length)).sum + ys.length * a.length ≤ 16777216 ∧ Q (vS (TL.joinL a ys)) H) to te) :=
  pe_m1 PySem.F.slot_str_join PySem.F.type_str_join mt_joinS ho he hs hbase hline
theorem joinL_flat : ∀ ys : List (List Nat), TL.joinL [] ys = ys.flatten
  | [] => rfl
  | [p] => by simp [TL.joinL]
  | p :: q :: r => by
    show p ++ ([] ++ TL.joinL [] (q :: r)) = _
    rw [joinL_flat (q :: r), List.nil_append]
    rfl
end
end Lk

/-! sorted(d, key=len), d a dict whose keys are texts; any number of them. -/
namespace Lk
open PySem PySem.Spec PyProof.Rows L2
section
variable {prog : Program} {w : World} {A : Around} {E : Value → Shared → Prop} {s : Shared}
def lensOf (ss : List Str) : List Int := ss.map fun x => (x.length : Int)
/-- what a sort by length hands on -/
def ByLen (ss : List Str) (vs out : List Value) : Prop := ∃ ys : List Str, StrsAre out ys ∧ ys.Perm ss ∧ ys.Pairwise (fun x y => x.length ≤ y.length)
theorem byLen_of {vs out : List Value} {ss : List Str} (hS : StrsAre vs ss) (h : KskOut false (lensOf ss) vs out) : ByLen ss vs out := by
  obtain ⟨ps, h1, h2, h3⟩ := h
  have hlen := StrsAre.length hS
  have key : ∀ p ∈ ps, ∃ x t, p.2 = Value.str x t ∧ p.1 = (x.length : Int) := fun p hp => by
    have hm := h1.mem_iff.mp hp
    obtain ⟨i, hi, e⟩ := List.getElem_of_mem hm
    rw [List.getElem_zip] at e
    have hi1 : i < ss.length := by
      have := hi
      rw [List.length_zip, lensOf, List.length_map] at this
      omega
    have hi2 : i < vs.length := by
      have := hi
      rw [List.length_zip] at this
      omega
    have hi0 : i < (lensOf ss).length := by
      unfold lensOf
      rw [List.length_map]
      exact hi1
    obtain ⟨x, t, ev⟩ := StrsAre.all hS _ (List.getElem_mem hi2)
    refine ⟨x, t, by rw [← e]; exact ev, ?_⟩
    rw [← e]
    show (lensOf ss)[i] = (x.length : Int)
    have es : ss = vs.map strOf := (StrsAre.strs hS).symm
    have q0 : (lensOf ss)[i]? = some ((ss[i]).length : Int) := by
      unfold lensOf
      rw [List.getElem?_map, List.getElem?_eq_getElem hi1]
      rfl
    rw [List.getElem?_eq_getElem hi0] at q0
    have this : (lensOf ss)[i] = ((ss[i]).length : Int) := Option.some.inj q0
    rw [this]
    have e2 : ss[i] = strOf vs[i] := by
      have := List.getElem_map strOf (l := vs) (i := i) (h := by rw [List.length_map]; exact hi2)
      rw [← this]
      congr 1
    rw [e2, ev]
    rfl
  refine ⟨out.map strOf, strsAre_map _ (fun v hv => ?_), ?_, ?_⟩
  · rw [h2] at hv
    obtain ⟨p, hp, rfl⟩ := List.mem_map.mp hv
    obtain ⟨x, t, e, _⟩ := key p hp
    exact ⟨x, t, e⟩
  · have e1 : (ps.map Prod.snd).Perm vs := by
      have := h1.map Prod.snd
      rw [List.map_snd_zip (by rw [lensOf, List.length_map]; omega)] at this
      exact this
    rw [h2, ← StrsAre.strs hS]
    exact e1.map strOf
  · rw [h2, List.map_map, List.pairwise_map]
    have hp : ps.Pairwise (fun p q : Int × Value => p.1 ≤ q.1) := h3
    refine hp.imp_of_mem fun {a b} ha hb hab => ?_
    obtain ⟨x, t, e1, e2⟩ := key a ha
    obtain ⟨y, u, e3, e4⟩ := key b hb
    show (strOf a.2).length ≤ (strOf b.2).length
    rw [e1, e3]
    show x.length ≤ y.length
    omega
variable {a kS : Addr} {vs : List Value} {kz : List Int} {keys : Array Value} {e e1 : Nat} {P : PySem.Fin → Shared → Prop}
theorem len_tail {st : SortSt} (nk : s.heap.get? kS = some (seqObj "list" keys e)) (na : s.heap.get? a = some (seqObj "list" #[] e1)) (hka : kS ≠ a)
    (hk : IntsAre keys.toList kz) (hlen : kz.length = vs.length) (hL : vs.length ≤ sizeLine) (hp : (arrOf st).Perm (keys.zip vs.toArray)) (hs : SortedTo (arrOf st) (arrOf st).size) (hfl : failedOf st = none)
    (h : ∀ h' tk out c, (∀ b o, b ≠ kS → b ≠ a → s.heap.get? b = some o → h'.get? b = some o) → h'.get? a = some (seqObj "list" out c) → KskOut false kz vs out.toList → P (.done (.ret .none)) { s with heap := h', toks := tk }) :
    wpAny (model prog w) A (ksk_tail a false e1 (.ref kS) st) P E s := by
  have hL2 := hL
  rw [sizeLine_eq] at hL2
  have hsz : keys.size = vs.length := by
    have h1 := hk.length
    rw [Array.length_toList] at h1
    omega
  have hsz2 : (arrOf st).size = vs.length := by rw [hp.size_eq, Array.size_zip, hsz, List.size_toArray, Nat.min_self]
  have hout : ((arrOf st).map (·.2)).size = vs.length := by rw [Array.size_map]; exact hsz2
  have s1 := Heap.SameBut.update s.heap kS (Obj.mapSeq fun _ => (#[] : Array Value))
  have na1 : (s.heap.update kS (Obj.mapSeq fun _ => (#[] : Array Value))).get? a = some (seqObj "list" #[] e1) := (s1.2 a hka.symm).trans na
  have s2 := Heap.SameBut.update (s.heap.update kS (Obj.mapSeq fun _ => (#[] : Array Value))) a (Obj.mapSeq fun _ => (arrOf st).map (·.2))
  obtain ⟨c2, hc2⟩ : ∃ c2, ((s.heap.update kS (Obj.mapSeq fun _ => (#[] : Array Value))).update a (Obj.mapSeq fun _ => (arrOf st).map (·.2))).get? a = some (seqObj "list" ((arrOf st).map (·.2)) c2) :=
    ⟨_, get?_update_seq na1 fun _ => (arrOf st).map (·.2)⟩
  unfold ksk_tail
  try dsimp only
  refine wpAny_bind (listUpdate_at nk rfl ?_ (by rw [hsz]; exact hL) (Nat.zero_le _))
  refine wpAny_bind (wpAny_letGo ?_)
  refine wpAny_bind (seqEpoch_at na1 rfl ?_)
  refine wpAny_bind (listUpdate_at na1 rfl ?_ (Nat.zero_le _) (Nat.le_trans (Nat.le_of_eq hout) (Nat.le_succ_of_le hL)))
  rw [hfl]
  simp only [bne_self_eq_false, Bool.false_eq_true, if_false]
  exact wpAny_pure (h _ _ _ c2 (fun b o h1 h2 q => (s2.2 b h2).trans ((s1.2 b h1).trans q)) hc2 (ksk_out (b := false) hk hp hs))
theorem len_end (nk : s.heap.get? kS = some (seqObj "list" keys e)) (na : s.heap.get? a = some (seqObj "list" #[] e1)) (hka : kS ≠ a)
    (hk : IntsAre keys.toList kz) (hlen : kz.length = vs.length) (hL : vs.length ≤ sizeLine)
    (h : ∀ h' tk out c, (∀ b o, b ≠ kS → b ≠ a → s.heap.get? b = some o → h'.get? b = some o) → h'.get? a = some (seqObj "list" out c) → KskOut false kz vs out.toList → P (.done (.ret .none)) { s with heap := h', toks := tk }) :
    wpAny (model prog w) A (ksk_end a false vs.toArray e1 (.ref kS) keys) P E s := by
  have hsz : keys.size = vs.length := by
    have h1 := hk.length
    rw [Array.length_toList] at h1
    omega
  have hzs : (keys.zip vs.toArray).size = vs.length := by rw [Array.size_zip, hsz, List.size_toArray, Nat.min_self]
  unfold ksk_end
  try dsimp only
  simp only [Bool.false_eq_true, if_false]
  by_cases h2 : vs.toArray.size < 2
  · rw [if_pos h2, if_pos h2]
    refine wpAny_bind (wpAny_pure ?_)
    rw [StateT.run_pure]
    refine wpAny_bind (wpAny_pure ?_)
    try dsimp only
    refine len_tail (st := SortSt.mk' general' (keys.zip vs.toArray) #[] 7 none) nk na hka hk hlen hL (Array.Perm.refl _) ?_ rfl h
    intro i j hij hj
    have hj2 : j < (keys.zip vs.toArray).size := hj
    rw [hzs] at hj2
    rw [List.size_toArray] at h2
    have : i = j := by omega
    subst this
    exact Int.le_refl _
  · rw [if_neg h2, if_neg h2]
    rw [List.size_toArray] at h2
    rw [ksk_kind hk (by rw [hsz]; omega)]
    refine wpAny_bind (wpAny_pure ?_)
    have hkeys : KeysOf intKind (keys.zip vs.toArray) := fun p hp => by
      obtain ⟨n, t, e⟩ := ksk_intKeys (vs := vs) hk p hp
      exact ⟨n, by rw [e]⟩
    refine wpAny_bind (wpAny_mono (wpS_sortRunsAny (κ := intKind) (a₀ := keys.zip vs.toArray) (st := SortSt.mk' oneType' (keys.zip vs.toArray) #[] 7 none)
      (Q := fun _ st' => (arrOf st').Perm (keys.zip vs.toArray) ∧ failedOf st' = none ∧ SortedToK intKind (arrOf st') (keys.zip vs.toArray).size)
      intKind_oneLt hkeys ⟨Array.Perm.refl _, rfl, rfl⟩ rfl (by rw [hzs]; omega) fun st' a1 a2 a3 => ⟨a1, a2, a3⟩) ?_ fun _ _ e => e)
    rintro ⟨⟨⟩, st'⟩ s' ⟨rfl, hp, hf, hs⟩
    try dsimp only
    exact len_tail nk na hka hk hlen hL hp (by rw [hp.size_eq]; exact sortedTo_of_int hs) hf h
theorem len_rest {ss : List Str} (nk : s.heap.get? kS = some (seqObj "list" #[] 0)) (na : s.heap.get? a = some (seqObj "list" #[] e1)) (hka : kS ≠ a)
    (hS : StrsAre vs ss) (hL : vs.length ≤ sizeLine) (hz : ∀ x ∈ ss, x.length ≤ sizeLine)
    (h : ∀ h' tk out c, (∀ b o, b ≠ kS → b ≠ a → s.heap.get? b = some o → h'.get? b = some o) → h'.get? a = some (seqObj "list" out c) → KskOut false (lensOf ss) vs out.toList → P (.done (.ret .none)) { s with heap := h', toks := tk }) :
    wpAny (model prog w) A (ksk_rest a (.builtin "len") false vs.toArray e1 (.ref kS)) P E s := by
  have hll := StrsAre.length hS
  have hlen : (lensOf ss).length = vs.length := by
    unfold lensOf
    rw [List.length_map]
    omega
  unfold ksk_rest
  refine wpAny_bind (wpAny_rule ?_)
  first
    | rw [List.forIn_toArray]
    | (rw [← Array.forIn_toList]; simp only [List.toList_toArray])
    | rw [← Array.forIn_toList]
  refine wpAny_bind (ksk_fold (fun i s' => ∃ h' tk kA e, s' = { s with heap := h', toks := tk } ∧ (∀ b o, b ≠ kS → s.heap.get? b = some o → h'.get? b = some o) ∧ h'.get? kS = some (seqObj "list" kA e) ∧ IntsAre kA.toList ((lensOf ss).take i)) vs 0 s
    ⟨s.heap, s.toks, #[], 0, rfl, fun _ _ _ q => q, nk, by simpa using IntsAre.nil⟩ ?step ?done)
  case step =>
    rintro j x s' hx ⟨h', tk, kA, e, rfl, kp, nk', hk⟩
    simp only [Nat.zero_add] at hk ⊢
    have hj : j < vs.length := (List.getElem?_eq_some_iff.mp hx).1
    have hj2 : j < ss.length := by omega
    obtain ⟨y, t, rfl⟩ := StrsAre.all hS x (List.mem_of_getElem? hx)
    have ey : ss[j]? = some y := by
      rw [← StrsAre.strs hS, List.getElem?_map, hx]
      rfl
    have hkj : (lensOf ss)[j]? = some (y.length : Int) := by
      unfold lensOf
      rw [List.getElem?_map, ey]
      rfl
    have hzy := hz y (List.mem_of_getElem? ey)
    have hn := line63
    have hzz : kA.size ≤ vs.length := by
      have h1 := hk.length
      rw [Array.length_toList, List.length_take] at h1
      omega
    refine wpAny_bind (wpAny_attempt (len_str (by omega) ?_))
    try dsimp only
    have s1 := Heap.SameBut.update h' kS (Obj.mapSeq (·.push (.int (y.length : Int) (tk + 1))))
    obtain ⟨c2, hc2⟩ : ∃ c2, (h'.update kS (Obj.mapSeq (·.push (.int (y.length : Int) (tk + 1))))).get? kS = some (seqObj "list" (kA.push (.int (y.length : Int) (tk + 1))) c2) := ⟨_, get?_update_seq nk' (·.push (.int (y.length : Int) (tk + 1)))⟩
    have ek : (lensOf ss).take (j + 1) = (lensOf ss).take j ++ [(y.length : Int)] := by rw [List.take_add_one, hkj]; simp
    have ea : (kA.push (Value.int (y.length : Int) (tk + 1))).toList = kA.toList ++ [Value.int (y.length : Int) (tk + 1)] := by simp
    refine wpAny_bind (listUpdate_at nk' rfl ?_ (by omega) (Nat.le_trans (Nat.le_of_eq (Array.size_push ..)) (by omega)))
    exact wpAny_pure ⟨rfl, _, _, kA.push (.int (y.length : Int) (tk + 1)), c2, rfl, fun b o hb q => (s1.2 b hb).trans (kp b o hb q), hc2, by rw [ea, ek]; exact ksk_snoc hk⟩
  case done =>
    rintro s' ⟨h', tk, kA, e, rfl, kp, nk', hk⟩
    have hk' : IntsAre kA.toList (lensOf ss) := by
      have e3 : (lensOf ss).take (0 + vs.length) = lensOf ss := List.take_of_length_le (by omega)
      rw [e3] at hk
      exact hk
    try dsimp only
    refine wpAny_bind (listItems_at nk' rfl ?_)
    exact len_end nk' (kp a _ hka.symm na) hka hk' hlen hL fun h3 tk3 out c k3 na3 o3 => h h3 tk3 out c (fun b o h1 h2 q => k3 b o h1 h2 (kp b o h1 q)) na3 o3
theorem len_sort {n : Nat} {ss : List Str} (ho : s.heap.get? a = some (seqObj "list" vs.toArray n)) (hS : StrsAre vs ss) (hL : vs.length ≤ sizeLine) (hz : ∀ x ∈ ss, x.length ≤ sizeLine)
    (h : ∀ h' tk out c, (∀ b o, b ≠ a → s.heap.get? b = some o → h'.get? b = some o) → h'.get? a = some (seqObj "list" out c) → ByLen ss vs out.toList → P (.done (.ret .none)) { s with heap := h', toks := tk }) :
    wpAny (model prog w) A (ksk_tree a (.builtin "len") false) P E s := by
  have ha : a < s.heap.objs.size := Heap.lt_size ho
  have s1 := Heap.SameBut.update s.heap a (Obj.mapSeq fun _ => (#[] : Array Value))
  obtain ⟨e1, ho1⟩ : ∃ e1, (s.heap.update a (Obj.mapSeq fun _ => (#[] : Array Value))).get? a = some (seqObj "list" #[] e1) := ⟨_, get?_update_seq ho fun _ => #[]⟩
  have hkS : ((s.heap.update a (Obj.mapSeq fun _ => (#[] : Array Value))).push (seqObj "tuple" vs.toArray 0)).objs.size = s.heap.objs.size + 1 := by rw [size_push', Heap.size_update]
  unfold ksk_tree
  refine wpAny_bind (listItems_at ho rfl ?_)
  refine wpAny_bind (listUpdate_at ho rfl ?_ (by rw [List.size_toArray]; exact hL) (Nat.zero_le _))
  refine wpAny_bind (seqEpoch_at ho1 rfl ?_)
  refine wpAny_bind (wpAny_newTuple ?_ (by show vs.length ≤ _; exact hL))
  refine wpAny_bind (wpAny_newList ?_ (Nat.zero_le _))
  refine wpAny_holding ?_
  refine len_rest (s := { s with heap := ((s.heap.update a (Obj.mapSeq fun _ => (#[] : Array Value))).push (seqObj "tuple" vs.toArray 0)).push (seqObj "list" #[] 0) }) (kS := ((s.heap.update a (Obj.mapSeq fun _ => (#[] : Array Value))).push (seqObj "tuple" vs.toArray 0)).objs.size)
    (Heap.get?_push_size _ rfl) (Heap.get?_push_of_some _ (Heap.get?_push_of_some _ ho1)) (by rw [hkS]; exact Nat.ne_of_gt (Nat.lt_succ_of_lt ha)) hS hL hz fun h' tk out c kp na o => h h' tk out c (fun b u hb q => ?_) na (byLen_of hS o)
  have hlt : b < s.heap.objs.size := Heap.lt_size q
  refine kp b u (by rw [hkS]; exact Nat.ne_of_lt (Nat.lt_succ_of_lt hlt)) hb (Heap.get?_push_of_some _ (Heap.get?_push_of_some _ ((s1.2 b hb).trans q)))
end
section
variable {X : Cx}
/-- sorted(d, key=len) -/
def rSL : List V → Hp → VK → Prop := fun vs H Q => ∃ (a : Addr) (kvs : List (Key × V)) (ks : List Str), vs = [.ref a] ∧ Rd H a (.dK kvs) ∧ kvs.map (·.1) = ks.map Sum.inr ∧ (∀ y ∈ ks, y.length ≤ sizeLine) ∧
    ∀ (ys : List Str) (p : Addr), ys.Perm ks → ys.Pairwise (fun x y => x.length ≤ y.length) → H p = none → Q (.ref p) (upd H p (.lst (ys.map V.str)))
def tSortLen (t : TA) : TE := fun σ H Q => t σ H fun vs H1 => rSL vs H1 Q
theorem pe_sortLen {e : Expr} {t : TA} {p p2 kp pos : Pos} (hcalm : X.calm = true) (hm : X.mg "sorted" = none) (hm2 : X.mg "len" = none) (ha : PA X [e] t) (hg : Gl X "sorted" := by rfl) (hg2 : Gl X "len" := by rfl)
    (he : backTo pos (starEach [e] X.env) = (false, eval e X.env) :: backTo pos (starEach [] X.env) := by rfl) (hpl : (backTo pos (starEach [e] X.env)).any (·.1) = false := by rfl) :
    PE X (.Call (.Name "sorted" p) [e] [⟨some "key", .Name "len" p2, kp⟩] pos) (tSortLen t) := by
  refine ⟨fun pins s σ H Q I h => ?_⟩
  refine wpAny_Call_Name_kw (ld_blt I hg hm (by decide +kernel : bootBuiltins "sorted" = some (.builtin "sorted")) ?_)
  refine PyProof.Rows.callWith_kw (thn (ha.run pos pins s σ H _ I h) fun us s1 hh => ?_) he hpl
  · obtain ⟨vs, H1, I1, r1, a, kvs, ks, ex, hd, hks, hz, q⟩ := hh
    subst ex
    obtain ⟨u, eu, rx⟩ := vals1 r1
    subst eu
    cases rx
    show wpAny _ _ (evalAll ((do let v ← eval (.Name "len" p2) X.env; standAt pos; pure v) :: (backToKw pos (keywordEach [] X.env)).map (·.2))) _ _ s1
    refine wpAny_evalAll_cons (wpAny_bind (ld_blt I1 hg2 hm2 (by decide +kernel : bootBuiltins "len" = some (.builtin "len")) (wpAny_bind (wpAny_standAt (wpAny_pure (wpAny_evalAll_nil ?_))))))
    show wpAny _ _ (call (.builtin "sorted") [.ref a] [(Str.ofString "key", .builtin "len")]) _ _ _
    obtain ⟨z, lo, vs, rel, dd⟩ := dk_rd I1.hok hd
    obtain ⟨ep, hat⟩ := dd.dictAt
    have hkeys : vs.map (·.1) = ks.map Sum.inr := rel.keys.symm.trans hks
    have hl : vs.length = ks.length := by
      have e := congrArg List.length hkeys
      rw [List.length_map, List.length_map] at e
      exact e
    have h16' : kvs.length = ks.length := by
      have e := congrArg List.length hks
      rw [List.length_map, List.length_map] at e
      exact e
    have h16 : vs.length ≤ sizeLine := by rw [hl, ← h16']; exact z
    refine call_function_entry_kw kind_sorted plain_sorted entry_sorted (ksk_s1 _ _) ?_
    unfold Builtin.«sorted»
    refine wpAny_bind (m := checkCount "sorted" 1 1 _) (wpAny_pure ?_)
    refine wpAny_bind (PySem.W.kdu_collect (A := X.A.in1) (PySem.W.kdl_dict (knd := mixKind X.prog X.w) (kvs := vs) (ep := ep) lo) (I1.ok.hd hcalm) hat h16 fun h' tk acc hk hacc => ?_)
    have hal : acc.toList.length = ks.length := by rw [Array.length_toList, hacc.1, hl]
    have hS : StrsAre acc.toList ks := strs_at hal fun j v e => by
      obtain ⟨k, x, e1, e2⟩ := hacc.2 j v (by rw [← Array.getElem?_toList]; exact e)
      have e3 : (vs.map (·.1))[j]? = some k := by rw [List.getElem?_map, e1]; all_goals rfl
      rw [hkeys, List.getElem?_map] at e3
      cases e4 : ks[j]? with
      | none => rw [e4] at e3; cases e3
      | some y =>
        rw [e4] at e3
        have e5 : Sum.inr y = k := Option.some.inj e3
        subst e5
        obtain ⟨t, ev⟩ := Value.isStrOf_shape (x := y) (v := v) e2
        exact ⟨y, t, rfl, ev⟩
    have I2 : Inv X pins σ H1 { s1 with heap := h', toks := tk } := I1.kept hk
    refine wpAny_bind (wpAny_newList ?_ (by rw [hal, ← hl]; exact h16))
    have hoL : (h'.push (seqObj "list" acc.toList.toArray 0)).get? h'.objs.size = some (seqObj "list" acc.toList.toArray 0) := Heap.get?_push_size _ rfl
    show wpAny _ _ _ _ _ { s1 with heap := h'.push (seqObj "list" acc.toList.toArray 0), toks := tk }
    refine wpAny_bind (wpAny_holding (wpAny_call_entry_kw slot_list_sort ⟨_, hoL, rfl⟩ entry_list_sort ?body (ksk_l1 _ _)))
    case body =>
      rw [ksk_t4]
      refine len_sort (s := { s1 with heap := h'.push (seqObj "list" acc.toList.toArray 0), toks := tk }) hoL hS (by rw [hal, ← hl]; exact h16) hz fun h3 tk3 out c kp na o => ⟨_, rfl, ?_⟩
      obtain ⟨ys, g1, g2, g3⟩ := o
      have hlen : (ys.map V.str).length ≤ sizeLine := by
        rw [List.length_map, g2.length_eq, ← hl]
        exact h16
      refine wpAny_pure ⟨_, rfl, .ref h'.objs.size, upd H1 h'.objs.size (.lst (ys.map V.str)), I2.laid (t' := tk3) (fun b u e => ?_) (Nat.le_refl _)
        (show ObjOk X.prog X.w _ _ _ (.lst (ys.map V.str)) from ⟨hlen, out.toList, c, vals_of_strs g1, by rw [Array.toArray_toList]; exact na⟩), rfl, q ys _ g2 g3 (I2.hok.fresh (Nat.le_refl _))⟩
      have hb : b < h'.objs.size := Heap.lt_size e
      exact kp b u (Nat.ne_of_lt hb) (Heap.get?_push_of_some _ e)
end
end Lk


namespace Lk
open PySem PySem.Spec PyProof.Rows L2
/-! ### dicts of texts seen, sorted lists -/
open Fo
def kvF (fs : List L) : List (Key × V) := fs.map fun t => (Sum.inr (S t), V.bl true)
theorem kvF_len (fs : List L) : (kvF fs).length = fs.length := List.length_map _
theorem kvF_keys (fs : List L) : (kvF fs).map (·.1) = (fs.map S).map Sum.inr := by
  unfold kvF
  rw [List.map_map, List.map_map]
  rfl
theorem inrS {a b : L} : ((Sum.inr (S a) : Key) = Sum.inr (S b)) ↔ a = b := ⟨fun h => S_inj.mp (Sum.inr.inj h), fun h => by rw [h]⟩
theorem valV_kvF (fs : List L) (u : L) : valV (kvF fs) (Sum.inr (S u) : Key) = if u ∈ fs then some (.bl true) else none := by
  induction fs with
  | nil => rfl
  | cons t r ih =>
    by_cases e : t = u
    · subst e
      rw [if_pos (List.mem_cons_self ..)]
      exact valV_pos rfl
    · have e2 : ¬ ((Sum.inr (S t) : Key) = Sum.inr (S u)) := fun z => e (inrS.mp z)
      rw [show kvF (t :: r) = (Sum.inr (S t), V.bl true) :: kvF r from rfl, valV_neg e2, ih]
      by_cases hm : u ∈ r
      · rw [if_pos hm, if_pos (List.mem_cons_of_mem _ hm)]
      · rw [if_neg hm, if_neg fun z => (List.mem_cons.mp z).elim (fun q => e q.symm) hm]
theorem putK_kvF {fs : List L} {u : L} (h : u ∉ fs) : putK (kvF fs) (Sum.inr (S u) : Key) (V.bl true) = kvF (fs ++ [u]) := by
  rw [putK_new _ (by rw [valV_kvF, if_neg h])]
  unfold kvF
  rw [List.map_append]
  rfl
theorem perm_S {ys : List Str} {fs : List L} (h : ys.Perm (fs.map S)) : ∃ zs : List L, ys = zs.map S ∧ zs.Perm fs := by
  refine ⟨ys.map fun x => x.cps.toList, ?_, ?_⟩
  · rw [List.map_map]
    have : (S ∘ fun (x : Str) => x.cps.toList) = id := by
      funext x
      exact S_of x
    rw [this, List.map_id]
  · have := h.map fun x : Str => x.cps.toList
    rw [List.map_map] at this
    have e : ((fun x : Str => x.cps.toList) ∘ S) = id := by
      funext x
      rfl
    rw [e, List.map_id] at this
    exact this
theorem rising_pw : ∀ (p : L) (xs : List L), risingS (S p) (xs.map S) = true → (p :: xs).Pairwise (fun a b => ¬ b < a)
  | p, [], _ => List.pairwise_singleton _ _
  | p, x :: r, h => by
    have h' : (!ltCps x p && risingS (S x) (r.map S)) = true := h
    rw [Bool.and_eq_true, Bool.not_eq_true', ltCps_eq] at h'
    have h1 : ¬ x < p := of_decide_eq_false h'.1
    have ih := rising_pw x r h'.2
    rw [List.pairwise_cons]
    refine ⟨fun y hy => ?_, ih⟩
    rcases List.mem_cons.mp hy with e | hy
    · rw [e]
      exact h1
    · have h2 := (List.pairwise_cons.mp ih).1 y hy
      exact List.not_lt.mpr (List.le_trans (List.not_lt.mp h1) (List.not_lt.mp h2))
theorem srt_of {xs : List L} (h : sortedS (xs.map S) = true) : Srt xs := by
  cases xs with
  | nil => exact List.Pairwise.nil
  | cons x r => exact rising_pw x r h
end Lk

namespace Lk
open PySem PySem.Spec PyProof.Rows L2
/-! ### == of lists of texts, of numbers -/
open Fo
/-- data told in Lean: how it is handed (g), what it is (f) -/
structure Emb (K : PySem.W.Frag) (H : Hp) {α : Type} (xs : List α) (g : α → V) (f : α → PyData) : Prop where
  dp : ∀ a ∈ xs, Dp K H (g a) (f a)
  lay : ∀ a ∈ xs, (f a).canLay0 = true
  dep : ∀ a ∈ xs, (f a).depth ≤ 60
theorem dpAll_of {K : PySem.W.Frag} {H : Hp} {α : Type} {g : α → V} {f : α → PyData} : ∀ {xs : List α}, (∀ a ∈ xs, Dp K H (g a) (f a)) → DpAll K H (xs.map g) (xs.map f)
  | [], _ => .nil
  | x :: r, h => .cons (h x (List.mem_cons_self ..)) (dpAll_of fun a ha => h a (List.mem_cons_of_mem _ ha))
theorem layAll_of {α : Type} {f : α → PyData} : ∀ {xs : List α}, (∀ a ∈ xs, (f a).canLay0 = true) → PyData.canLayAll0 (xs.map f) = true
  | [], _ => by simp [PyData.canLayAll0]
  | x :: r, h => by
    rw [List.map_cons, PyData.canLayAll0, h x (List.mem_cons_self ..), layAll_of fun a ha => h a (List.mem_cons_of_mem _ ha)]
    rfl
theorem depAll_of {α : Type} {f : α → PyData} {n : Nat} : ∀ {xs : List α}, (∀ a ∈ xs, (f a).depth ≤ n) → PyData.depthAll (xs.map f) ≤ n
  | [], _ => by simp [PyData.depthAll]
  | x :: r, h => by
    rw [List.map_cons, PyData.depthAll]
    exact Nat.max_le.mpr ⟨h x (List.mem_cons_self ..), depAll_of fun a ha => h a (List.mem_cons_of_mem _ ha)⟩
theorem eqvAll_of {α : Type} [DecidableEq α] {f : α → PyData} : ∀ {xs ys : List α}, (∀ a ∈ xs, ∀ b ∈ ys, PyData.eqv (f a) (f b) = decide (a = b)) → PyData.eqvAll (xs.map f) (ys.map f) = decide (xs = ys)
  | [], [], _ => rfl
  | [], _ :: _, _ => rfl
  | _ :: _, [], _ => rfl
  | x :: r, y :: t, h => by
    rw [List.map_cons, List.map_cons, PyData.eqvAll, h x (List.mem_cons_self ..) y (List.mem_cons_self ..), eqvAll_of fun a ha b hb => h a (List.mem_cons_of_mem _ ha) b (List.mem_cons_of_mem _ hb)]
    by_cases e : x = y
    · subst e
      by_cases e2 : r = t
      · subst e2
        simp
      · simp [e2]
    · simp [e]
theorem shaped_list {α : Type} {xs : List α} {f : α → PyData} (h1 : ∀ a ∈ xs, (f a).canLay0 = true) (h2 : ∀ a ∈ xs, (f a).depth ≤ 60) : SeqAt.shaped (.list (xs.map f)) = true := by
  unfold SeqAt.shaped
  have e1 : (PyData.list (xs.map f)).canLay0 = true := by rw [PyData.canLay0]; exact layAll_of h1
  have e2 : (PyData.list (xs.map f)).depth ≤ 64 := by
    rw [PyData.depth]
    have := depAll_of (n := 60) h2
    omega
  rw [e1, decide_eq_true e2]
  rfl
theorem shaped_tup {α : Type} {xs : List α} {f : α → PyData} (h1 : ∀ a ∈ xs, (f a).canLay0 = true) (h2 : ∀ a ∈ xs, (f a).depth ≤ 60) : SeqAt.shaped (.tuple (xs.map f)) = true := by
  unfold SeqAt.shaped
  have e1 : (PyData.tuple (xs.map f)).canLay0 = true := by rw [PyData.canLay0]; exact layAll_of h1
  have e2 : (PyData.tuple (xs.map f)).depth ≤ 64 := by
    rw [PyData.depth]
    have := depAll_of (n := 60) h2
    omega
  rw [e1, decide_eq_true e2]
  rfl
/-- a text of plain signs -/
def Sm (l : L) : Prop := ∀ c ∈ l, c < 1000
theorem Sg.sm {l : L} (h : Fo.Sg l) : Sm l := fun c hc => by have := h c hc; omega
abbrev dS (l : L) : PyData := .str (S l)
abbrev dI (n : Nat) : PyData := .int (n : Int)
theorem dS_lay {l : L} (h : Sm l) : (dS l).canLay0 = true := by
  show (S l).cps.all (· < 0x110000) = true
  rw [Array.all_eq_true']
  intro c hc
  have := h c (by simpa [SX.S] using hc)
  simp
  omega
theorem dS_dep (l : L) : (dS l).depth ≤ 60 := by simp [PyData.depth]
theorem dI_dep (l : Nat) : (dI l).depth ≤ 60 := by simp [PyData.depth]
theorem dI_lay (l : Nat) : (dI l).canLay0 = true := by simp [PyData.canLay0]
theorem dS_eqv (a b : L) : PyData.eqv (dS a) (dS b) = decide (a = b) := by
  show (S a == S b) = decide (a = b)
  exact SX.S_beq_eq
theorem dI_eqv (a b : Nat) : PyData.eqv (dI a) (dI b) = decide (a = b) := by
  show ((a : Int) == (b : Int)) = decide (a = b)
  by_cases e : a = b
  · subst e; simp
  · have : ¬ (a : Int) = (b : Int) := by omega
    simp [e, this]
section
variable {X : Cx}
def rEqLS (K : PySem.W.Frag) (neg : Bool) : R2 := fun x y H Q => ∃ (a b : Addr) (xs ys : List L), x = .ref a ∧ y = .ref b ∧ SqL K H a (xs.map vS) ∧ SqL K H b (ys.map vS) ∧ (∀ l ∈ xs, Sm l) ∧ (∀ l ∈ ys, Sm l) ∧ Q (.bl (if neg then !decide (xs = ys) else decide (xs = ys))) H
def rEqLI (K : PySem.W.Frag) (neg : Bool) : R2 := fun x y H Q => ∃ (a b : Addr) (xs ys : List Nat), x = .ref a ∧ y = .ref b ∧ SqL K H a (xs.map vI) ∧ SqL K H b (ys.map vI) ∧ Q (.bl (if neg then !decide (xs = ys) else decide (xs = ys))) H
theorem dps {K : PySem.W.Frag} {H : Hp} {a : Addr} {xs : List L} (h : SqL K H a (xs.map vS)) : Dp K H (.ref a) (.list (xs.map dS)) := .lst h (dpAll_of fun l _ => .str (S l))
theorem dpi {K : PySem.W.Frag} {H : Hp} {a : Addr} {xs : List Nat} (h : SqL K H a (xs.map vI)) : Dp K H (.ref a) (.list (xs.map dI)) := .lst h (dpAll_of fun l _ => .int l)
theorem op_eqLS (hu : X.A.units + 64 < cLine) : OpR X (compareOp .Eq) (rEqLS X.K false) := by
  intro pins s σ H x y v u Q I rx ry ⟨a, b, xs, ys, e1, e2, h1, h2, m1, m2, q⟩
  refine op_eqD hu pins s σ H x y v u Q I rx ry ⟨_, _, by rw [e1]; exact dps h1, by rw [e2]; exact dps h2, shaped_list (fun l hl => dS_lay (m1 l hl)) (fun l _ => dS_dep l), shaped_list (fun l hl => dS_lay (m2 l hl)) (fun l _ => dS_dep l), ?_⟩
  have e : PyData.eqv (.list (xs.map dS)) (.list (ys.map dS)) = decide (xs = ys) := by
    rw [PyData.eqv]
    exact eqvAll_of fun a _ b _ => dS_eqv a b
  rw [e]
  exact q
theorem op_neLS (hu : X.A.units + 64 < cLine) : OpR X (compareOp .NotEq) (rEqLS X.K true) := by
  intro pins s σ H x y v u Q I rx ry ⟨a, b, xs, ys, e1, e2, h1, h2, m1, m2, q⟩
  refine op_neD hu pins s σ H x y v u Q I rx ry ⟨_, _, by rw [e1]; exact dps h1, by rw [e2]; exact dps h2, shaped_list (fun l hl => dS_lay (m1 l hl)) (fun l _ => dS_dep l), shaped_list (fun l hl => dS_lay (m2 l hl)) (fun l _ => dS_dep l), ?_⟩
  have e : PyData.eqv (.list (xs.map dS)) (.list (ys.map dS)) = decide (xs = ys) := by
    rw [PyData.eqv]
    exact eqvAll_of fun a _ b _ => dS_eqv a b
  rw [e]
  exact q
theorem op_eqLI (hu : X.A.units + 64 < cLine) : OpR X (compareOp .Eq) (rEqLI X.K false) := by
  intro pins s σ H x y v u Q I rx ry ⟨a, b, xs, ys, e1, e2, h1, h2, q⟩
  refine op_eqD hu pins s σ H x y v u Q I rx ry ⟨_, _, by rw [e1]; exact dpi h1, by rw [e2]; exact dpi h2, shaped_list (fun l _ => dI_lay l) (fun l _ => dI_dep l), shaped_list (fun l _ => dI_lay l) (fun l _ => dI_dep l), ?_⟩
  have e : PyData.eqv (.list (xs.map dI)) (.list (ys.map dI)) = decide (xs = ys) := by
    rw [PyData.eqv]
    exact eqvAll_of fun a _ b _ => dI_eqv a b
  rw [e]
  exact q
theorem op_neLI (hu : X.A.units + 64 < cLine) : OpR X (compareOp .NotEq) (rEqLI X.K true) := by
  intro pins s σ H x y v u Q I rx ry ⟨a, b, xs, ys, e1, e2, h1, h2, q⟩
  refine op_neD hu pins s σ H x y v u Q I rx ry ⟨_, _, by rw [e1]; exact dpi h1, by rw [e2]; exact dpi h2, shaped_list (fun l _ => dI_lay l) (fun l _ => dI_dep l), shaped_list (fun l _ => dI_lay l) (fun l _ => dI_dep l), ?_⟩
  have e : PyData.eqv (.list (xs.map dI)) (.list (ys.map dI)) = decide (xs = ys) := by
    rw [PyData.eqv]
    exact eqvAll_of fun a _ b _ => dI_eqv a b
  rw [e]
  exact q
/-- x in (s, t), texts; and not in -/
def rInTS (K : PySem.W.Frag) (neg : Bool) : R2 := fun x y H Q => ∃ (p : Addr) (l : L) (xs : List L), x = vS l ∧ y = .ref p ∧ SqT K H p (xs.map vS) ∧ Q (.bl (if neg then !decide (l ∈ xs) else decide (l ∈ xs))) H
def rInLS (K : PySem.W.Frag) (neg : Bool) : R2 := fun x y H Q => ∃ (p : Addr) (l : L) (xs : List L), x = vS l ∧ y = .ref p ∧ SqL K H p (xs.map vS) ∧ Q (.bl (if neg then !decide (l ∈ xs) else decide (l ∈ xs))) H
def rInLI (K : PySem.W.Frag) (neg : Bool) : R2 := fun x y H Q => ∃ (p : Addr) (l : Int) (xs : List Nat), x = .int l ∧ y = .ref p ∧ SqL K H p (xs.map vI) ∧ Q (.bl (if neg then !decide (∃ n ∈ xs, (n : Int) = l) else decide (∃ n ∈ xs, (n : Int) = l))) H
theorem inV_S (l : L) (xs : List L) : inV (vS l) (xs.map vS) = decide (l ∈ xs) := by
  unfold inV
  rw [List.any_map]
  by_cases h : l ∈ xs
  · rw [decide_eq_true h, List.any_eq_true]
    exact ⟨l, h, by show eqV (vS l) (vS l) = true; simp [eqV]⟩
  · rw [decide_eq_false h, List.any_eq_false]
    intro y hy
    show ¬ eqV (vS y) (vS l) = true
    have : ¬ y = l := fun e => h (e ▸ hy)
    simp [eqV, this]
theorem inV_I (l : Int) (xs : List Nat) : inV (.int l) (xs.map vI) = decide (∃ n ∈ xs, (n : Int) = l) := by
  unfold inV
  rw [List.any_map]
  by_cases h : ∃ n ∈ xs, (n : Int) = l
  · rw [decide_eq_true h, List.any_eq_true]
    obtain ⟨n, h1, h2⟩ := h
    exact ⟨n, h1, by show eqV (.int (n : Int)) (.int l) = true; simp [eqV, h2]⟩
  · rw [decide_eq_false h, List.any_eq_false]
    intro y hy
    show ¬ eqV (.int (y : Int)) (.int l) = true
    have : ¬ (y : Int) = l := fun e => h ⟨y, hy, e⟩
    simp [eqV, this]
theorem flat_S (xs : List L) : (xs.map vS).all flatV = true := by
  rw [List.all_map, List.all_eq_true]
  intro x _
  rfl
theorem flat_I (xs : List Nat) : (xs.map vI).all flatV = true := by
  rw [List.all_map, List.all_eq_true]
  intro x _
  rfl
theorem op_inTS : OpR X (compareOp .In) (rInTS X.K false) := by
  intro pins s σ H x y v u Q I rx ry ⟨p, l, xs, e1, e2, h1, q⟩
  refine op_in_seq pins s σ H x y v u Q I rx ry ⟨p, xs.map vS, e2, .inr h1, by rw [e1]; rfl, flat_S xs, ?_⟩
  rw [e1, inV_S]
  exact q
theorem op_notinTS : OpR X (compareOp .NotIn) (rInTS X.K true) := by
  intro pins s σ H x y v u Q I rx ry ⟨p, l, xs, e1, e2, h1, q⟩
  refine op_notIn_seq pins s σ H x y v u Q I rx ry ⟨p, xs.map vS, e2, .inr h1, by rw [e1]; rfl, flat_S xs, ?_⟩
  rw [e1, inV_S]
  exact q
theorem op_inLS : OpR X (compareOp .In) (rInLS X.K false) := by
  intro pins s σ H x y v u Q I rx ry ⟨p, l, xs, e1, e2, h1, q⟩
  refine op_in_seq pins s σ H x y v u Q I rx ry ⟨p, xs.map vS, e2, .inl h1, by rw [e1]; rfl, flat_S xs, ?_⟩
  rw [e1, inV_S]
  exact q
theorem op_notinLS : OpR X (compareOp .NotIn) (rInLS X.K true) := by
  intro pins s σ H x y v u Q I rx ry ⟨p, l, xs, e1, e2, h1, q⟩
  refine op_notIn_seq pins s σ H x y v u Q I rx ry ⟨p, xs.map vS, e2, .inl h1, by rw [e1]; rfl, flat_S xs, ?_⟩
  rw [e1, inV_S]
  exact q
theorem op_notinLI : OpR X (compareOp .NotIn) (rInLI X.K true) := by
  intro pins s σ H x y v u Q I rx ry ⟨p, l, xs, e1, e2, h1, q⟩
  refine op_notIn_seq pins s σ H x y v u Q I rx ry ⟨p, xs.map vI, e2, .inl h1, by rw [e1]; rfl, flat_I xs, ?_⟩
  rw [e1, inV_I]
  exact q
end
section
variable {X : Cx}
theorem vi_dec (i j : Int) : decide (V.int i = V.int j) = decide (i = j) := by
  by_cases h : i = j
  · subst h
    simp
  · have : ¬ V.int i = V.int j := fun e => h (V.int.inj e)
    simp [h, this]
def rII (f : Int → Int → Bool) : R2 := fun x y H Q => ∃ i j : Int, x = .int i ∧ y = .int j ∧ Q (.bl (f i j)) H
theorem op_eqI : OpR X (compareOp .Eq) (rII fun i j => decide (i = j)) := by
  intro pins s σ H x y v u Q I rx ry ⟨i, j, e1, e2, q⟩
  subst e1 e2
  refine op_eq pins s σ H _ _ v u Q I rx ry ⟨rfl, ?_⟩
  rw [vi_dec]
  exact q
theorem op_neI : OpR X (compareOp .NotEq) (rII fun i j => !decide (i = j)) := by
  intro pins s σ H x y v u Q I rx ry ⟨i, j, e1, e2, q⟩
  subst e1 e2
  refine op_ne pins s σ H _ _ v u Q I rx ry ⟨rfl, ?_⟩
  rw [vi_dec]
  exact q
def rSS (f : L → L → Bool) : R2 := fun x y H Q => ∃ i j : L, x = vS i ∧ y = vS j ∧ Q (.bl (f i j)) H
theorem op_eqS : OpR X (compareOp .Eq) (rSS fun i j => decide (i = j)) := by
  intro pins s σ H x y v u Q I rx ry ⟨i, j, e1, e2, q⟩
  subst e1 e2
  refine op_eq pins s σ H _ _ v u Q I rx ry ⟨rfl, ?_⟩
  rw [vS_dec]
  exact q
theorem op_neS : OpR X (compareOp .NotEq) (rSS fun i j => !decide (i = j)) := by
  intro pins s σ H x y v u Q I rx ry ⟨i, j, e1, e2, q⟩
  subst e1 e2
  refine op_ne pins s σ H _ _ v u Q I rx ry ⟨rfl, ?_⟩
  rw [vS_dec]
  exact q
end
/-! ### walks of a text -/
theorem lc_str {l : L} {g : TG} {tt : TT} {te : TE} {vs : List Nat} {σ : L2.St} {H1 : Hp} {D : Addr} {Qd : Hp → Prop} (Pv : Nat → Hp → Prop) (h0 : Pv 0 (upd H1 D (.lst [])))
    (hs : ∀ i c H, l[i]? = some c → Pv i H → g (vS [c]) (wipe σ vs) H fun σ2 H2 => wipe σ2 vs = wipe σ vs ∧ tt σ2 H2 fun b H3 =>
      if b = true then te σ2 H3 fun y H4 => ∃ acc, H4 D = some (.lst acc) ∧ acc.length < sizeLine ∧ Pv (i + 1) (upd H4 D (.lst (acc ++ [y]))) else Pv (i + 1) H3) (hd : ∀ H, Pv l.length H → Qd H) :
    ∃ W : Nat → Nat → Hp → Prop, (∃ m, W 0 m (upd H1 D (.lst []))) ∧ ∀ i m H, W i m H →
      ((Its (S l)).stop i H ∧ Qd H) ∨ ((Its (S l)).go i H ∧ ∃ Nx : Hp → Prop, (∀ H', Nx H' → ∃ m', m' < m ∧ W (i + 1) m' H') ∧ ∀ x H', (Its (S l)).yld i H x H' → g x (wipe σ vs) H' fun σ2 H2 => wipe σ2 vs = wipe σ vs ∧ tt σ2 H2 fun b H3 =>
        if b = true then te σ2 H3 fun y H4 => ∃ acc, H4 D = some (.lst acc) ∧ acc.length < sizeLine ∧ Nx (upd H4 D (.lst (acc ++ [y]))) else Nx H3) := by
  have hsz : (S l).cps.size = l.length := by simp [SX.S]
  refine ⟨fun i m H => m = l.length - i ∧ i ≤ l.length ∧ Pv i H, ⟨l.length, by simp, Nat.zero_le _, h0⟩, ?_⟩
  rintro i m H ⟨rfl, hi, p⟩
  by_cases hlt : i < l.length
  · refine .inr ⟨by show i < (S l).cps.size; omega, Pv (i + 1), fun H' p' => ⟨l.length - (i + 1), by omega, rfl, hlt, p'⟩, fun x H' y => ?_⟩
    obtain ⟨e, c, hc, rfl⟩ := y
    subst e
    have hc' : l[i]? = some c := by simpa [SX.S] using hc
    exact hs i c _ hc' p
  · have e : i = l.length := by omega
    subst e
    exact .inl ⟨by show (S l).cps.size ≤ l.length; omega, hd H p⟩
end Lk

namespace Lk
open PySem PySem.Spec PyProof.Rows L2
/-! ### comprehensions: a dict kept under a name, over a list -/

section
variable {X : Cx}
/-- name = {k: v for ..}, the name a local of the def -/
theorem ps_setDc {i : Nat} {y : Str} {py : Pos} {kx vx tg iter : Expr} {ifs : List Expr} {scope : Scope} {own : List (Str × Nat)} {pos spos : Pos} {wi : TI} {g : TG} {tt : TT} {tk tv : TE} (hc : X.calm = true) (hN : X.N.Nodup)
    (hy : X.N[i]? = some y) (hyl : X.env.scope.names.lookup y = some .local) (hsw : swapsWith (.DictComp kx vx [⟨tg, iter, ifs, 0⟩] scope pos) (some (.Name y py)) spos.line X.env = pure true)
    (hi : PI X tg iter wi) (ok : BlkOk X.N X.env.scope scope own)
    (dg : ∀ (s : Shared) (H : Hp) (C : Addr) (cl : List (Str × Addr)) (fp : List Addr), PG (X.blk s H scope (compEnvC scope cl C X.env) fp) tg g)
    (dt : ∀ (s : Shared) (H : Hp) (C : Addr) (cl : List (Str × Addr)) (fp : List Addr), PTs (X.blk s H scope (compEnvC scope cl C X.env) fp) ifs tt)
    (dk : ∀ (s : Shared) (H : Hp) (C : Addr) (cl : List (Str × Addr)) (fp : List Addr), PE (X.blk s H scope (compEnvC scope cl C X.env) fp) kx tk)
    (dv : ∀ (s : Shared) (H : Hp) (C : Addr) (cl : List (Str × Addr)) (fp : List Addr), PE (X.blk s H scope (compEnvC scope cl C X.env) fp) vx tv) (hs : ∀ x, foldedSetIterable iter X.env x = pure x := by intro _; rfl) :
    PS X (.Assign [.Name y py] (.DictComp kx vx [⟨tg, iter, ifs, 0⟩] scope pos) spos) (tAsg (tDc wi g tt tk tv (own.map (·.2))) (gName i)) := by
  refine ⟨fun pins s σ H D I q0 => ?_⟩
  rw [exec_Assign_Name_used _ _ _ _ hsw]
  refine wpAny_bind (wpAny_standAt (wpAny_bind ?_))
  show wpAny _ X.A (do let _ ← comprehension (.DictComp kx vx [⟨tg, iter, ifs, 0⟩] scope pos) scope X.env (firstIterPos [⟨tg, iter, ifs, 0⟩] pos) newDict false (eval iter X.env) (some (assign (.Name y py) X.env))) _ _ s
  have q1 : tDc wi g tt tk tv (own.map (·.2)) σ H (fun x H1 => gName i x σ H1 D.nx) := q0
  refine wpAny_bind (thn (dc_core (Qf := fun _ t => SP X pins D .next t) hc hN I hi ok dg dt dk dv hs q1 fun E C t m H2 I2 q hn f => ?_) fun _ t hq => wpAny_pure (wpAny_pure hq))
  show wpAny _ _ (assign (.Name y py) X.env (.ref E)) _ _ _
  refine wpAny_assign_Name (store_ok2 (v := V.ref E) I2 hN hy (.inl hyl) rfl (fun s3 I3 ⟨a, sb, ha⟩ => ?_) (.inr hyl))
  obtain ⟨f0, f1, f2, f3, f4, f5⟩ := f
  have nCa : C ≠ a := by
    rcases ha with z | z
    · rw [z]; exact f1
    · exact fun e => f4 y a z e.symm
  refine ⟨m, hn.sameBut sb nCa, fun h4 sb4 => ?_⟩
  exact ⟨_, H2, I3.turned (t' := s3.toks) (fun b o hb e => (sb4.2 b hb).trans e) f0 f1 f3 f4 f5, q⟩
theorem sw_trueD {kx vx : Expr} {gs : List Comprehension} {scope : Scope} {pos py : Pos} {y : Str} {l : Nat} {env : Env} (hk : env.scope.kind = .function) (hy : env.scope.names.lookup y = some .local) (hl : (py.line == pos.line) = true)
    (ha : (scope.names.any fun (n, k) => n == y && (k == .local || k == .cell)) = false) : swapsWith (.DictComp kx vx gs scope pos) (some (.Name y py)) l env = pure true := by
  have e1 : env.kindOf y = some .local := hy
  have e2 : env.blockKind = .function := by unfold Env.blockKind; rw [hk]; rfl
  unfold swapsWith
  simp only [e2, e1, ha, Expr.pos, hl]
  rfl
/-- a dict of a list that stays -/
theorem dc_list {K : PySem.W.Frag} {a : Addr} {xs : List V} {g : TG} {tt : TT} {tk tv : TE} {vs : List Nat} {σ : L2.St} {H1 : Hp} {D : Addr} {Qd : Hp → Prop} (Pv : Nat → Hp → Prop)
    (h0 : Pv 0 (upd H1 D (.dK []))) (hl : ∀ i H, i ≤ xs.length → Pv i H → SqL K H a xs)
    (hs : ∀ i x H, xs[i]? = some x → Pv i H → g x (wipe σ vs) H fun σ2 H2 => wipe σ2 vs = wipe σ vs ∧ tt σ2 H2 fun b H3 =>
      if b = true then tk σ2 H3 fun y H4 => tv σ2 H4 fun z H5 => ∃ kvs k, y = kV k ∧ H5 D = some (.dK kvs) ∧ kvs.length < sizeLine ∧ Pv (i + 1) (upd H5 D (.dK (putK kvs k z))) else Pv (i + 1) H3)
    (hd : ∀ H, Pv xs.length H → Qd H) :
    ∃ W : Nat → Nat → Hp → Prop, (∃ m, W 0 m (upd H1 D (.dK []))) ∧ ∀ i m H, W i m H →
      ((Itl K a).stop i H ∧ Qd H) ∨ ((Itl K a).go i H ∧ ∃ Nx : Hp → Prop, (∀ H', Nx H' → ∃ m', m' < m ∧ W (i + 1) m' H') ∧ ∀ x H', (Itl K a).yld i H x H' → g x (wipe σ vs) H' fun σ2 H2 => wipe σ2 vs = wipe σ vs ∧ tt σ2 H2 fun b H3 =>
        if b = true then tk σ2 H3 fun y H4 => tv σ2 H4 fun z H5 => ∃ kvs k, y = kV k ∧ H5 D = some (.dK kvs) ∧ kvs.length < sizeLine ∧ Nx (upd H5 D (.dK (putK kvs k z))) else Nx H3) := by
  refine ⟨fun i m H => m = xs.length - i ∧ i ≤ xs.length ∧ Pv i H, ⟨xs.length, by simp, Nat.zero_le _, h0⟩, ?_⟩
  rintro i m H ⟨rfl, hi, p⟩
  have q := hl i H hi p
  by_cases lt : i < xs.length
  · exact .inr ⟨⟨xs, xs[i], q, by simp [lt]⟩, Pv (i + 1), fun H' r => ⟨xs.length - (i + 1), by omega, rfl, lt, r⟩, fun x H' ⟨e, y⟩ => by
      subst e
      exact hs i x _ (y xs q) p⟩
  · have e : i = xs.length := by omega
    subst e
    exact .inl ⟨⟨xs, q, Nat.le_refl _⟩, hd H p⟩
end
/-! ### a fresh dict, walked: it is locked from then on -/
section
variable {X : Cx}
def tFrz (t : TE) : TE := fun σ H Q => t σ H fun x H1 => ∃ d u, H1 d = some u ∧ Mut (some u) ∧ ∀ od, Q x (upd H1 d (.frz od u))
theorem pe_frz {e : Expr} {t : TE} (h : PE X e t) : PE X e (tFrz t) := by
  refine ⟨fun pins s σ H Q I hw => thn (h.run pins s σ H _ I hw) fun v s1 ⟨x, H1, I1, r, d, u, hd, mu, q⟩ => ?_⟩
  obtain ⟨od, I2⟩ := I1.lock hd mu
  exact ⟨x, _, I2, r, q od⟩
theorem lc_keys {d : Addr} {o : Obj} {fs : List (List Nat)} {kvs : List (Key × V)} (hk : kvs.map (fun kv => kV kv.1) = fs.map vS) {g : TG} {tt : TT} {te : TE} {vs : List Nat} {σ : L2.St} {H1 : Hp} {D : Addr} {Qd : Hp → Prop} (Pv : Nat → Hp → Prop)
    (h0 : Pv 0 (upd H1 D (.lst []))) (hl : ∀ i H, i ≤ fs.length → Pv i H → H d = some (.frz o (.dK kvs)))
    (hs : ∀ i u H, fs[i]? = some u → Pv i H → g (vS u) (wipe σ vs) H fun σ2 H2 => wipe σ2 vs = wipe σ vs ∧ tt σ2 H2 fun b H3 =>
      if b = true then te σ2 H3 fun y H4 => ∃ acc, H4 D = some (.lst acc) ∧ acc.length < sizeLine ∧ Pv (i + 1) (upd H4 D (.lst (acc ++ [y]))) else Pv (i + 1) H3)
    (hd : ∀ H, Pv fs.length H → Qd H) :
    ∃ W : Nat → Nat → Hp → Prop, (∃ m, W 0 m (upd H1 D (.lst []))) ∧ ∀ i m H, W i m H →
      ((Itk d o kvs).stop i H ∧ Qd H) ∨ ((Itk d o kvs).go i H ∧ ∃ Nx : Hp → Prop, (∀ H', Nx H' → ∃ m', m' < m ∧ W (i + 1) m' H') ∧ ∀ x H', (Itk d o kvs).yld i H x H' → g x (wipe σ vs) H' fun σ2 H2 => wipe σ2 vs = wipe σ vs ∧ tt σ2 H2 fun b H3 =>
        if b = true then te σ2 H3 fun y H4 => ∃ acc, H4 D = some (.lst acc) ∧ acc.length < sizeLine ∧ Nx (upd H4 D (.lst (acc ++ [y]))) else Nx H3) := by
  have el : kvs.length = fs.length := by
    have := congrArg List.length hk
    rw [List.length_map, List.length_map] at this
    exact this
  refine ⟨fun i m H => m = fs.length - i ∧ i ≤ fs.length ∧ Pv i H, ⟨fs.length, by simp, Nat.zero_le _, h0⟩, ?_⟩
  rintro i m H ⟨rfl, hi, p⟩
  by_cases lt : i < fs.length
  · refine .inr ⟨⟨hl i H hi p, by omega⟩, Pv (i + 1), fun H' r => ⟨fs.length - (i + 1), by omega, rfl, lt, r⟩, ?_⟩
    rintro x H' ⟨rfl, k, v, e1, rfl⟩
    have e2 : (fs.map vS)[i]? = some (kV k) := by rw [← hk, List.getElem?_map, e1]; rfl
    rw [List.getElem?_map] at e2
    cases e3 : fs[i]? with
    | none => rw [e3] at e2; cases e2
    | some u =>
      rw [e3] at e2
      have e4 : vS u = kV k := Option.some.inj e2
      rw [← e4]
      exact hs i u _ e3 p
  · have e : i = fs.length := by omega
    subst e
    exact .inl ⟨⟨hl _ H hi p, by omega⟩, hd H p⟩
end
/-! ### walks, whatever is done in a turn -/
section
theorem it_gen {J : It} {n : Nat} {G : Hp → Prop} {Y : Nat → Hp → V → Hp → Prop} (w : Walk J n G Y) {Body : (Hp → Prop) → V → Hp → Prop} {H0 : Hp} {Qd : Hp → Prop} (Pv : Nat → Hp → Prop) (h0 : Pv 0 H0) (hG : ∀ i H, i ≤ n → Pv i H → G H)
    (hs : ∀ i x H H', i < n → Pv i H → Y i H x H' → Body (Pv (i + 1)) x H') (hd : ∀ H, Pv n H → Qd H) :
    ∃ W : Nat → Nat → Hp → Prop, (∃ m, W 0 m H0) ∧ ∀ i m H, W i m H → (J.stop i H ∧ Qd H) ∨ (J.go i H ∧ ∃ Nx : Hp → Prop, (∀ H', Nx H' → ∃ m', m' < m ∧ W (i + 1) m' H') ∧ ∀ x H', J.yld i H x H' → Body Nx x H') := by
  refine ⟨fun i m H => m = n - i ∧ i ≤ n ∧ Pv i H, ⟨n, by simp, Nat.zero_le _, h0⟩, ?_⟩
  rintro i m H ⟨rfl, hi, p⟩
  have gH := hG i H hi p
  by_cases lt : i < n
  · exact .inr ⟨w.goes i H lt gH, Pv (i + 1), fun H' r => ⟨n - (i + 1), by omega, rfl, lt, r⟩, fun x H' y => hs i x H H' lt p (w.yields i H x H' lt gH y)⟩
  · have e : i = n := by omega
    subst e
    exact .inl ⟨w.stops H gH, hd H p⟩
/-- the i-th of xs, told by f -/
def YM {α : Type} (f : α → V) (xs : List α) : Nat → Hp → V → Hp → Prop := fun i H v H' => H' = H ∧ ∃ u, xs[i]? = some u ∧ v = f u
theorem ym_of {α : Type} {f : α → V} {xs : List α} {i : Nat} {x : V} (h : (xs.map f)[i]? = some x) : ∃ u, xs[i]? = some u ∧ x = f u := by
  rw [List.getElem?_map] at h
  cases e : xs[i]? with
  | none => rw [e] at h; cases h
  | some c => rw [e] at h; exact ⟨c, rfl, (Option.some.inj h).symm⟩
theorem wk_list {K : PySem.W.Frag} {a : Addr} {α : Type} (f : α → V) (xs : List α) : Walk (Itl K a) xs.length (fun H => SqL K H a (xs.map f)) (YM f xs) :=
  ⟨fun i H hi h => (walk_list (xs := xs.map f)).goes i H (by rw [List.length_map]; exact hi) h,
   fun H h => by have := (walk_list (xs := xs.map f)).stops H h; rw [List.length_map] at this; exact this,
   fun i H x H' hi h y => by
    obtain ⟨e, q⟩ := (walk_list (xs := xs.map f)).yields i H x H' (by rw [List.length_map]; exact hi) h y
    exact ⟨e, ym_of q⟩⟩
theorem wk_tup {K : PySem.W.Frag} {a : Addr} {α : Type} (f : α → V) (xs : List α) : Walk (Itt K a) xs.length (fun H => SqT K H a (xs.map f)) (YM f xs) :=
  ⟨fun i H hi h => (walk_tup (xs := xs.map f)).goes i H (by rw [List.length_map]; exact hi) h,
   fun H h => by have := (walk_tup (xs := xs.map f)).stops H h; rw [List.length_map] at this; exact this,
   fun i H x H' hi h y => by
    obtain ⟨e, q⟩ := (walk_tup (xs := xs.map f)).yields i H x H' (by rw [List.length_map]; exact hi) h y
    exact ⟨e, ym_of q⟩⟩
theorem wk_str (l : List Nat) : Walk (Its (S l)) l.length (fun _ => True) (YM (fun c => vS [c]) l) :=
  ⟨fun i H hi h => (walk_str (z := S l)).goes i H (by simpa [SX.S] using hi) h,
   fun H h => by have := (walk_str (z := S l)).stops H h; simpa [SX.S] using this,
   fun i H x H' hi h y => by
    obtain ⟨e, c, q1, q2⟩ := (walk_str (z := S l)).yields i H x H' (by simpa [SX.S] using hi) h y
    exact ⟨e, c, by simpa [SX.S] using q1, q2⟩⟩
end
section
variable {X : Cx}
def tTru (K : PySem.W.Frag) (te : TE) : TT := fun σ H Q => te σ H fun x H' => ∃ k, TruV K x H' k ∧ Q k H'
theorem pt_tru (K : PySem.W.Frag) {a : Expr} {ta : TE} (hk : X.K = K) (h : PE X a ta) (he : ∀ whole, isTrue a X.env whole = (do let v ← whole; standAt a.pos; holding [v] (truthy v))) : PT X a (tTru K ta) := by
  subst hk
  exact pt_truth h he
end
/-! ### rules with the fragment told (within comprehensions) -/
section
variable {X : Cx}
theorem sl_listK (K : PySem.W.Frag) (hk : X.K = K) : SlR X (rSlL K) := by subst hk; exact sl_list
theorem ix_listK (K : PySem.W.Frag) (hk : X.K = K) : IxR X (rIxL K) := by subst hk; exact ix_list
theorem ix_tupK (K : PySem.W.Frag) (hk : X.K = K) : IxR X (rIxT K) := by subst hk; exact ix_tup
theorem call_lenK (K : PySem.W.Frag) (hk : X.K = K) : CallR X (.builtin "len") (fun xs H Q => ∃ p ys, xs = [.ref p] ∧ (SqL K H p ys ∨ SqT K H p ys) ∧ Q (.int ys.length) H) := by subst hk; exact call_len_seq
theorem pi_listK (K : PySem.W.Frag) (hk : X.K = K) {tg l : Expr} {tl : TE} (h : PE X l tl) : PI X tg l (iList K tl) := by subst hk; exact pi_list h
theorem pi_tupK (K : PySem.W.Frag) (hk : X.K = K) {tg l : Expr} {tl : TE} (h : PE X l tl) : PI X tg l (iTup K tl) := by subst hk; exact pi_tup h
end
end Lk

namespace Lk
open PySem PySem.Spec PyProof.Rows L2
/-! ### the text by places -/
def topS (i : Nat) : Stmt := PySem.Challenge.pw_likefolds_k07_whole_longer_strips_fold_b.main.body.getD i (.Pass ⟨0, 0, 0, 0⟩)
abbrev s_is_from : Stmt := topS 4
theorem sc_is_from : FnScope ["thing", "low", "high"] ["thing", "low", "high"] (defScope s_is_from) := ⟨rfl, rfl, rfl, by decide +kernel, rfl, by decide +kernel, by decide +kernel⟩
abbrev s_lies_well : Stmt := topS 5
theorem sc_lies_well : FnScope ["strip", "crease", "reach"] ["strip", "crease"] (defScope s_lies_well) := ⟨rfl, rfl, rfl, by decide +kernel, rfl, by decide +kernel, by decide +kernel⟩
abbrev s_creases : Stmt := topS 6
theorem sc_creases : FnScope ["strip", "crease"] ["strip"] (defScope s_creases) := ⟨rfl, rfl, rfl, by decide +kernel, rfl, by decide +kernel, by decide +kernel⟩
abbrev s_is_crease : Stmt := topS 7
theorem sc_is_crease : FnScope ["strip", "thing"] ["strip", "thing"] (defScope s_is_crease) := ⟨rfl, rfl, rfl, by decide +kernel, rfl, by decide +kernel, by decide +kernel⟩
abbrev s_left_of : Stmt := topS 8
theorem sc_left_of : FnScope ["strip", "crease"] ["strip", "crease"] (defScope s_left_of) := ⟨rfl, rfl, rfl, by decide +kernel, rfl, by decide +kernel, by decide +kernel⟩
abbrev s_folded : Stmt := topS 9
theorem sc_folded : FnScope ["strip", "crease"] ["strip", "crease"] (defScope s_folded) := ⟨rfl, rfl, rfl, by decide +kernel, rfl, by decide +kernel, by decide +kernel⟩
abbrev s_least : Stmt := topS 11
theorem sc_least : FnScope ["strip", "some"] ["strip"] (defScope s_least) := ⟨rfl, rfl, rfl, by decide +kernel, rfl, by decide +kernel, by decide +kernel⟩
abbrev s_unfolded : Stmt := topS 13
theorem sc_unfolded : FnScope ["strip", "end", "many"] ["strip", "end", "many"] (defScope s_unfolded) := ⟨rfl, rfl, rfl, by decide +kernel, rfl, by decide +kernel, by decide +kernel⟩
abbrev s_ways_to_unfold : Stmt := topS 14
theorem sc_ways_to_unfold : FnScope ["strip", "found", "many"] ["strip"] (defScope s_ways_to_unfold) := ⟨rfl, rfl, rfl, by decide +kernel, rfl, by decide +kernel, by decide +kernel⟩
abbrev s_all_over : Stmt := topS 15
theorem sc_all_over : FnScope ["strips", "long", "found", "rows", "here", "end", "many", "there", "strip"] ["strips", "long"] (defScope s_all_over) := ⟨rfl, rfl, rfl, by decide +kernel, rfl, by decide +kernel, by decide +kernel⟩
abbrev s_over : Stmt := topS 16
theorem sc_over : FnScope ["strip", "long", "one"] ["strip", "long"] (defScope s_over) := ⟨rfl, rfl, rfl, by decide +kernel, rfl, by decide +kernel, by decide +kernel⟩
abbrev s_kin_of : Stmt := topS 17
theorem sc_kin_of : FnScope ["strip", "long", "last", "one"] ["strip", "long"] (defScope s_kin_of) := ⟨rfl, rfl, rfl, by decide +kernel, rfl, by decide +kernel, by decide +kernel⟩
abbrev s__law_bag : Stmt := topS 19
theorem sc__law_bag : FnScope ["script", "k", "cell", "seed"] ["script", "k"] (defScope s__law_bag) := ⟨rfl, rfl, rfl, by decide +kernel, rfl, by decide +kernel, by decide +kernel⟩
abbrev s__law_take : Stmt := topS 20
theorem sc__law_take : FnScope ["bag", "count", "found"] ["bag", "count"] (defScope s__law_take) := ⟨rfl, rfl, rfl, by decide +kernel, rfl, by decide +kernel, by decide +kernel⟩
abbrev s__law_of : Stmt := topS 21
theorem sc__law_of : FnScope ["bag", "some"] ["bag", "some"] (defScope s__law_of) := ⟨rfl, rfl, rfl, by decide +kernel, rfl, by decide +kernel, by decide +kernel⟩
abbrev s__law_lies : Stmt := topS 25
theorem sc__law_lies : FnScope ["text", "crease", "step", "near", "far"] ["text", "crease"] (defScope s__law_lies) := ⟨rfl, rfl, rfl, by decide +kernel, rfl, by decide +kernel, by decide +kernel⟩
abbrev s__law_creases : Stmt := topS 26
theorem sc__law_creases : FnScope ["text", "crease"] ["text"] (defScope s__law_creases) := ⟨rfl, rfl, rfl, by decide +kernel, rfl, by decide +kernel, by decide +kernel⟩
abbrev s__law_left : Stmt := topS 27
theorem sc__law_left : FnScope ["text", "crease"] ["text", "crease"] (defScope s__law_left) := ⟨rfl, rfl, rfl, by decide +kernel, rfl, by decide +kernel, by decide +kernel⟩
abbrev s__law_texts : Stmt := topS 28
theorem sc__law_texts : FnScope ["long", "signs", "found", "turn", "longer", "sign", "text"] ["long", "signs"] (defScope s__law_texts) := ⟨rfl, rfl, rfl, by decide +kernel, rfl, by decide +kernel, by decide +kernel⟩
abbrev s__law_comes : Stmt := topS 29
theorem sc__law_comes : FnScope ["text", "goal", "known", "crease"] ["text", "goal", "known"] (defScope s__law_comes) := ⟨rfl, rfl, rfl, by decide +kernel, rfl, by decide +kernel, by decide +kernel⟩
abbrev s__law_last : Stmt := topS 30
theorem sc__law_last : FnScope ["text", "some"] ["text"] (defScope s__law_last) := ⟨rfl, rfl, rfl, by decide +kernel, rfl, by decide +kernel, by decide +kernel⟩
abbrev s_law : Stmt := topS 31
theorem sc_law : FnScope ["script", "k", "bag", "signs", "text", "many", "wide", "long", "every", "last", "known", "turn", "one"] ["script"] (defScope s_law) := ⟨rfl, rfl, rfl, by decide +kernel, rfl, by decide +kernel, by decide +kernel⟩
/-- what the top has written -/
structure Txt (K : PySem.W.Frag) (mg : Str → Option Value) : Prop where
  b_bool : mg "bool" = none
  b_int : mg "int" = none
  b_isinstance : mg "isinstance" = none
  b_len : mg "len" = none
  b_list : mg "list" = none
  b_min : mg "min" = none
  b_range : mg "range" = none
  b_sorted : mg "sorted" = none
  d_is_from : Def K mg "is_from" s_is_from ["thing", "low", "high"]
  d_lies_well : Def K mg "lies_well" s_lies_well ["strip", "crease"]
  d_creases : Def K mg "creases" s_creases ["strip"]
  d_is_crease : Def K mg "is_crease" s_is_crease ["strip", "thing"]
  d_left_of : Def K mg "left_of" s_left_of ["strip", "crease"]
  d_folded : Def K mg "folded" s_folded ["strip", "crease"]
  d_least : Def K mg "least" s_least ["strip"]
  d_unfolded : Def K mg "unfolded" s_unfolded ["strip", "end", "many"]
  d_ways_to_unfold : Def K mg "ways_to_unfold" s_ways_to_unfold ["strip"]
  d_all_over : Def K mg "all_over" s_all_over ["strips", "long"]
  d_over : Def K mg "over" s_over ["strip", "long"]
  d_kin_of : Def K mg "kin_of" s_kin_of ["strip", "long"]
  d__law_bag : Def K mg "_law_bag" s__law_bag ["script", "k"]
  d__law_take : Def K mg "_law_take" s__law_take ["bag", "count"]
  d__law_of : Def K mg "_law_of" s__law_of ["bag", "some"]
  d__law_lies : Def K mg "_law_lies" s__law_lies ["text", "crease"]
  d__law_creases : Def K mg "_law_creases" s__law_creases ["text"]
  d__law_left : Def K mg "_law_left" s__law_left ["text", "crease"]
  d__law_texts : Def K mg "_law_texts" s__law_texts ["long", "signs"]
  d__law_comes : Def K mg "_law_comes" s__law_comes ["text", "goal", "known"]
  d__law_last : Def K mg "_law_last" s__law_last ["text"]
  d_law : Def K mg "law" s_law ["script"]
end Lk

namespace Lk
open PySem PySem.Spec PyProof.Rows L2
/-! ### the law's draws -/
/-- a bag stands at b -/
def Bag (H : Hp) (b : Addr) : Prop := ∃ x y : Int, H b = some (.lst [.int x, .int y]) ∧ 0 ≤ x ∧ 0 ≤ y ∧ y ≤ 2147483646
theorem Bag.same {H H' : Hp} {b : Addr} (h : Bag H b) (s : Same H H') : Bag H' b := by
  obtain ⟨x, y, h1, h2⟩ := h
  exact ⟨x, y, s _ _ h1, h2⟩
theorem Bag.but {H H' : Hp} {a b : Addr} (h : Bag H b) (n : b ≠ a) (s : But a H H') : Bag H' b := by
  obtain ⟨x, y, h1, h2⟩ := h
  exact ⟨x, y, s _ _ n h1, h2⟩
theorem Bag.upd {H : Hp} {b p : Addr} {o : HO} (h : Bag H b) (n : b ≠ p) : Bag (L2.upd H p o) b := by
  obtain ⟨x, y, h1, h2⟩ := h
  exact ⟨x, y, by rw [upd_ne n]; exact h1, h2⟩
theorem Bag.ne {H : Hp} {b p : Addr} (h : Bag H b) (n : H p = none) : b ≠ p := by
  obtain ⟨x, y, h1, _⟩ := h
  exact ne_of_none h1 n
def sp_bag (K : PySem.W.Frag) : Sp := fun vs H Q _ => ∃ (a : Addr) (ns : List Int) (k : Int), vs = [.ref a, .int k] ∧ SqL K H a (ns.map V.int) ∧ 0 ≤ k ∧ k ≤ 100 ∧ ∀ p H', H p = none → Same H H' → Bag H' p → Q (.ref p) H'
section
variable {P : Program} {w : World} {K : PySem.W.Frag} {mg : Str → Option Value} {base : Heap}
theorem pA : (0 : Int) < 2147483629 := by decide
theorem pB : (0 : Int) < 2147483645 := by decide
theorem pC : (0 : Int) < 2147483647 := by decide
theorem pD : (0 : Int) < 32749 := by decide
theorem pow60 : (0 : Int) < 10 ^ (60 : Int).toNat := by decide +kernel
theorem ok__law_bag (T : Txt K mg) : Fn P w K mg base CX0 1 "_law_bag" ["script", "k"] (sp_bag K) := by
  refine T.d__law_bag.fn fun f fd F => F.ok sc__law_bag (fun vs H Q E h => ?_) (fun cdv A outer s H vs Q E hr h => ?_)
  · obtain ⟨a, ns, k, rfl, _⟩ := h
    rfl
  · obtain ⟨a, ns, k, rfl, hS, k0, k1, q⟩ := h
    refine ⟨_, pss_cons (ps_set (i := 2) sc__law_bag.nd rfl (.inl rfl) pe_int)
      (C8.pss_cut (ps_if (pt_cmpR op_lt (pv 1) (pe_callB call_len_seq (by rfl) T.b_len PySem.boot_len (pa_cons (pv 0) pa_nil)) (nomark _))
          (pss_one (ps_set (i := 2) sc__law_bag.nd rfl (.inl rfl) (pe_op op_mod (pe_ix ix_list (pv 0) (pv 1) (fun _ _ => rfl)) (pe_op op_pow pe_int pe_int)))) pss_nil)
      (pss_cons (ps_set (i := 3) sc__law_bag.nd rfl (.inl rfl) (pe_op op_add pe_int (pe_op op_mod (pe_op op_add (pe_op op_add (pe_op op_add (pe_op op_mul (pe_op op_mod (pv 2) pe_int) pe_int) (pe_op op_mul (pe_op op_mul pe_int (pv 1)) (pv 1))) (pe_op op_mul pe_int (pv 1))) pe_int) pe_int)))
      (pss_cons (ps_if (pt_cmpR op_lt (pv 2) (pe_op op_pow pe_int pe_int) (nomark _)) (pss_one (ps_ret (pe_lst (pa_cons pe_int (pa_cons (pv 3) pa_nil))))) pss_nil)
      (pss_one (ps_ret (pe_lst (pa_cons (pv 2) (pa_cons (pv 3) pa_nil)))))))), ?_⟩
    refine ⟨fun σ' H' => H' = H ∧ ∃ z : Int, 0 ≤ z ∧ σ' = [some (.ref a), some (.int k), some (.int z), none], ?_, ?_⟩
    · refine ⟨_, rfl, .ref a, rfl, a, ns.map V.int, rfl, .inl hS, _, _, rfl, rfl, _, rfl, ite2 (fun c => ?_) (fun _ => ?_)⟩
      · have c' : k < ((ns.map V.int).length : Int) := of_decide_eq_true c
        rw [List.length_map] at c'
        have hk : k.toNat < ns.length := by omega
        refine ⟨.ref a, rfl, _, rfl, a, ns.map V.int, k, .int ns[k.toNat], rfl, rfl, hS, ?_, _, _, rfl, rfl, ⟨by decide, by decide, by decide⟩, _, _, rfl, rfl, pow60, rfl, _, Int.emod_nonneg _ (Int.ne_of_gt pow60), rfl⟩
        refine at_of (j := k.toNat) (by omega) ?_
        rw [List.getElem?_map, List.getElem?_eq_getElem hk]
        rfl
      · exact ⟨rfl, 0, Int.le_refl 0, rfl⟩
    · rintro σ' H' ⟨rfl, z, hz, rfl⟩
      have e1 := Int.emod_nonneg z (show (2147483629 : Int) ≠ 0 by decide)
      have e2 := Int.emod_lt_of_pos z (show (0 : Int) < 2147483629 by decide)
      have e3 : ∀ y : Int, 0 ≤ y % 2147483645 ∧ y % 2147483645 < 2147483645 := fun y => ⟨Int.emod_nonneg y (by decide), Int.emod_lt_of_pos y (by decide)⟩
      refine ⟨_, rfl, _, _, rfl, rfl, pA, _, _, rfl, rfl, .inl ⟨by omega, by omega⟩, _, rfl, _, _, rfl, rfl, .inl ⟨by decide, by decide⟩, _, rfl, _, _, rfl, rfl, .inl ⟨by omega, by omega⟩, _, _, rfl, rfl, _, rfl, _, _, rfl, rfl, .inl ⟨by decide, by decide⟩, _, _, rfl, rfl, _, _, rfl, rfl, _, _, rfl, rfl, pB, _, _, rfl, rfl, ?_⟩
      dsimp only
      generalize hy : z % 2147483629 * 16807 + 40009 * k * k + 7919 * k + 1009 = y
      obtain ⟨y0, y1⟩ := e3 y
      refine ⟨_, rfl, _, _, rfl, rfl, ⟨by decide, by decide, by decide⟩, _, _, rfl, rfl, _, rfl, ite2 (fun c => ?_) (fun _ => ?_)⟩
      · refine ⟨_, rfl, (by show 2 ≤ sizeLine; decide), fun p hp => ?_⟩
        exact q p _ hp (Same.upd hp) ⟨0, 1 + y % 2147483645, upd_same, by omega, by omega, by omega⟩
      · refine ⟨_, rfl, _, rfl, (by show 2 ≤ sizeLine; decide), fun p hp => ?_⟩
        exact q p _ hp (Same.upd hp) ⟨z, 1 + y % 2147483645, upd_same, hz, by omega, by omega⟩
/-- a draw below c -/
def sp_take : Sp := fun vs H Q _ => ∃ (b : Addr) (c : Int), vs = [.ref b, .int c] ∧ Bag H b ∧ 1 ≤ c ∧ c ≤ 100000 ∧ ∀ r H', But b H H' → Bag H' b → 0 ≤ r → r < c → Q (.int r) H'
theorem ok__law_take (T : Txt K mg) : Fn P w K mg base CX0 1 "_law_take" ["bag", "count"] sp_take := by
  refine T.d__law_take.fn fun f fd F => F.ok sc__law_take (fun vs H Q E h => ?_) (fun cdv A outer s H vs Q E hr h => ?_)
  · obtain ⟨b, c, rfl, _⟩ := h
    rfl
  · obtain ⟨b, c, rfl, ⟨x, y, hb, x0, y0, y1⟩, c0, c1, q⟩ := h
    have hS : SqL K H b [.int x, .int y] := SqL.of hb
    have a0 : atI [V.int x, .int y] 0 = some (.int x) := rfl
    have a1 : atI [V.int x, .int y] 1 = some (.int y) := rfl
    refine ⟨_, pss_cons (ps_if (pt_cmpR op_gt (pe_ix ix_list (pv 0) pe_int (fun _ _ => rfl)) pe_int (nomark _))
        (pss_cons (ps_set (i := 2) sc__law_take.nd rfl (.inl rfl) (pe_op op_mod (pe_ix ix_list (pv 0) pe_int (fun _ _ => rfl)) (pv 1)))
        (pss_cons (ps_asg (pe_op op_fdiv (pe_ix ix_list (pv 0) pe_int (fun _ _ => rfl)) (pv 1)) (pg_sub (pv 0) pe_int set_list))
        (pss_one (ps_ret (pv 2))))) pss_nil)
      (pss_cons (ps_asg (pe_op op_mod (pe_op op_mul (pe_ix ix_list (pv 0) pe_int (fun _ _ => rfl)) pe_int) pe_int) (pg_sub (pv 0) pe_int set_list))
      (pss_one (ps_ret (pe_op op_mod (pe_op op_fdiv (pe_op op_mod (pe_op op_mul (pe_op op_fdiv (pe_ix ix_list (pv 0) pe_int (fun _ _ => rfl)) pe_int)
        (pe_op op_add (pe_op op_mod (pe_ix ix_list (pv 0) pe_int (fun _ _ => rfl)) pe_int) pe_int)) pe_int) pe_int) (pv 1))))), ?_⟩
    refine ⟨.ref b, rfl, b, _, 0, _, rfl, rfl, hS, a0, _, _, rfl, rfl, _, rfl, ite2 (fun _ => ?_) (fun _ => ?_)⟩
    · refine ⟨.ref b, rfl, b, _, 0, _, rfl, rfl, hS, a0, _, rfl, _, _, rfl, rfl, (by show 0 < c; omega), ?_⟩
      refine ⟨.ref b, rfl, b, _, 0, _, rfl, rfl, hS, a0, _, rfl, _, _, rfl, rfl, ⟨by omega, by omega⟩, ?_⟩
      refine ⟨.ref b, rfl, b, _, 0, 0, rfl, rfl, hb, rfl, _, rfl, ?_⟩
      refine q _ _ (fun a o n e => ?_) ⟨x / c, y, upd_same, Int.ediv_nonneg x0 (by omega), y0, y1⟩ (Int.emod_nonneg _ (by omega)) (Int.emod_lt_of_pos _ (by omega))
      rw [upd_ne n]
      exact e
    · refine ⟨.ref b, rfl, b, _, 1, _, rfl, rfl, hS, a1, _, _, rfl, rfl, .inr ⟨by decide, by decide⟩, _, _, rfl, rfl, pC, ?_⟩
      refine ⟨.ref b, rfl, b, _, 1, 1, rfl, rfl, hb, rfl, ?_⟩
      dsimp only
      have z0 := Int.emod_nonneg (y * 48271) (show (2147483647 : Int) ≠ 0 by decide)
      have z1 := Int.emod_lt_of_pos (y * 48271) (show (0 : Int) < 2147483647 by decide)
      generalize y * 48271 % 2147483647 = z at z0 z1 ⊢
      have hb' : (upd H b (.lst [.int x, .int z])) b = some (.lst [.int x, .int z]) := upd_same
      have hS' : SqL K (upd H b (.lst [.int x, .int z])) b [.int x, .int z] := SqL.of hb'
      have a1' : atI [V.int x, .int z] 1 = some (.int z) := rfl
      have d0 : 0 ≤ z / 13 := Int.ediv_nonneg z0 (by decide)
      have d1 : z / 13 ≤ z := Int.ediv_le_self _ z0
      refine ⟨.ref b, rfl, b, _, 1, _, rfl, rfl, hS', a1', _, _, rfl, rfl, ⟨by decide, by decide⟩, .ref b, rfl, b, _, 1, _, rfl, rfl, hS', a1', _, _, rfl, rfl, pD, _, _, rfl, rfl, _, _, rfl, rfl, .inl ⟨by omega, by omega⟩, _, _, rfl, rfl, pA, _, _, rfl, rfl, ⟨by decide, by decide⟩, _, rfl, _, _, rfl, rfl, (by show 0 < c; omega), ?_⟩
      refine q _ _ (fun a o n e => ?_) ⟨x, z, hb', x0, z0, by omega⟩ (Int.emod_nonneg _ (by omega)) (Int.emod_lt_of_pos _ (by omega))
      rw [upd_ne n]
      exact e
/-- a sign of a text; an item of a list -/
def sp_of (K : PySem.W.Frag) : Sp := fun vs H Q _ => (∃ (b : Addr) (l : List Nat), vs = [.ref b, vS l] ∧ Bag H b ∧ l ≠ [] ∧ l.length ≤ 1000 ∧ ∀ c H', But b H H' → Bag H' b → c ∈ l → Q (vS [c]) H') ∨
  ∃ (b a : Addr) (xs : List V), vs = [.ref b, .ref a] ∧ Bag H b ∧ SqL K H a xs ∧ a ≠ b ∧ xs ≠ [] ∧ xs.length ≤ 1000 ∧ ∀ x H', But b H H' → Bag H' b → x ∈ xs → Q x H'
theorem ok__law_of (T : Txt K mg) : Fn P w K mg base CX0 2 "_law_of" ["bag", "some"] (sp_of K) := by
  have GT := ok__law_take (P := P) (w := w) (base := base) T
  refine T.d__law_of.fn fun f fd F => F.ok sc__law_of (fun vs H Q E h => ?_) (fun cdv A outer s H vs Q E hr h => ?_)
  · rcases h with ⟨b, l, rfl, _⟩ | ⟨b, a, xs, rfl, _⟩ <;> rfl
  · refine ⟨_, pss_one (ps_ret (pe_ix ix_seq (pv 1) (pe_fn GT hr (pa_cons (pv 0) (pa_cons (pe_callB call_len (by rfl) T.b_len PySem.boot_len (pa_cons (pv 1) pa_nil)) pa_nil))) (fun _ _ => rfl))), ?_⟩
    rcases h with ⟨b, l, rfl, hb, hn, hl, q⟩ | ⟨b, a, xs, rfl, hb, hS, na, hn, hl, q⟩
    · have hp := List.length_pos_iff.mpr hn
      have hz : (S l).length ≤ sizeLine := by rw [S_len]; exact Nat.le_trans hl (by decide)
      refine ⟨_, rfl, .ref b, rfl, _, rfl, vS l, l.length, rfl, ⟨hz, (S_len l).symm⟩, b, _, rfl, hb, by omega, by omega, fun r H' bt hb' r0 r1 => ?_⟩
      have hr' : r.toNat < l.length := by omega
      refine .inr (.inr ⟨S l, r, l[r.toNat], rfl, rfl, hz, ?_, ?_⟩)
      · have e : ((r.toNat : Nat) : Int) = r := by omega
        exact (congrArg (atI l) e.symm).trans (atI_nat (List.getElem?_eq_getElem hr'))
      · exact q _ _ bt hb' (List.getElem_mem hr')
    · have hp := List.length_pos_iff.mpr hn
      refine ⟨_, rfl, .ref b, rfl, _, rfl, .ref a, xs.length, rfl, .inl ⟨xs, hS, rfl⟩, b, _, rfl, hb, by omega, by omega, fun r H' bt hb' r0 r1 => ?_⟩
      have hr' : r.toNat < xs.length := by omega
      refine .inl ⟨a, xs, r, xs[r.toNat], rfl, rfl, bt.seq na hS, at_of (j := r.toNat) (by omega) (List.getElem?_eq_getElem hr'), ?_⟩
      exact q _ _ bt hb' (List.getElem_mem hr')
end
end Lk

namespace Lk
open PySem PySem.Spec PyProof.Rows L2
/-! ### texts drawn -/
open Fo
section
variable {P : Program} {w : World} {K : PySem.W.Frag} {mg : Str → Option Value} {base : Heap}
theorem Sg.one {c : Nat} (h : 97 ≤ c ∧ c ≤ 100) : Sg [c] := fun x hx => by
  rw [List.mem_singleton.mp hx]
  exact h
def sp_any : Sp := fun vs H Q _ => ∃ (b : Addr) (m k : Int), vs = [.ref b, .int m, .int k] ∧ Bag H b ∧ 1 ≤ m ∧ m ≤ 100 ∧ 1 ≤ k ∧ k ≤ 4 ∧ ∀ (l : List Nat) H', But b H H' → Bag H' b → 1 ≤ l.length → (l.length : Int) ≤ m → Sg l → Q (vS l) H'
theorem abcd_take {k : Int} (h1 : 1 ≤ k) (h2 : k ≤ 4) : cutL [97, 98, 99, 100] none (some k) ≠ [] ∧ (cutL [97, 98, 99, 100] none (some k)).length ≤ 4 ∧ Sg (cutL [97, 98, 99, 100] none (some k)) := by
  rw [cut_to _ (by omega)]
  have : k.toNat = 1 ∨ k.toNat = 2 ∨ k.toNat = 3 ∨ k.toNat = 4 := by omega
  rcases this with e | e | e | e <;> rw [e] <;> refine ⟨by decide, by decide, fun c hc => ?_⟩ <;> simp at hc <;> omega
/-- text, or what is unfolded of it at its ends -/
def sp_grown : Sp := fun vs H Q _ => ∃ (b : Addr) (l : List Nat) (m : Int), vs = [.ref b, vS l, .int m] ∧ Bag H b ∧ 1 ≤ l.length ∧ l.length ≤ 100 ∧ Sg l ∧ m ≤ 100 ∧
  ∀ (r : List Nat) H', But b H H' → Bag H' b → Up r l → Sg r → ((r.length : Int) ≤ m ∨ r = l) → Q (vS r) H'
/-- any strip of at most so many cells -/
def sp_strip : Sp := fun vs H Q _ => ∃ (b : Addr) (m : Int), vs = [.ref b, .int m] ∧ Bag H b ∧ 5 ≤ m ∧ m ≤ 100 ∧ ∀ (r : List Nat) H', But b H H' → Bag H' b → 1 ≤ r.length → (r.length : Int) ≤ m → Sg r → Q (vS r) H'
end
end Lk

namespace Lk
open PySem PySem.Spec PyProof.Rows L2
/-! ### creases -/
open Fo
section
variable {P : Program} {w : World} {K : PySem.W.Frag} {mg : Str → Option Value} {base : Heap}
def sp_lies : Sp := fun vs H Q _ => ∃ (l : List Nat) (c : Nat), vs = [vS l, vI c] ∧ l.length ≤ 1000 ∧ 1 ≤ c ∧ c < l.length ∧ Q (.bl (decide (Lies l c))) H
theorem ok__law_lies (T : Txt K mg) : Fn P w K mg base CX0 1 "_law_lies" ["text", "crease"] sp_lies := by
  refine T.d__law_lies.fn fun f fd F => F.ok sc__law_lies (fun vs H Q E h => ?_) (fun cdv A outer s H vs Q E hr h => ?_)
  · obtain ⟨l, c, rfl, _⟩ := h
    rfl
  · obtain ⟨l, c, rfl, hl, c1, c2, q⟩ := h
    refine ⟨_, pss_cons (ps_for PassesOwn.never rfl (pi_range1 rfl T.b_range (pa_cons (pe_callB call_lenS (by rfl) T.b_len PySem.boot_len (pa_cons (pv 0) pa_nil)) pa_nil)) (pg_name (i := 2) sc__law_lies.nd rfl (.inl rfl))
        (pss_cons (ps_par (i := 3) (j := 4) (by rfl) sc__law_lies.nd rfl rfl (by decide) rfl rfl (pa_cons (pe_op op_sub (pe_op op_sub (pv 1) pe_int) (pv 2)) (pa_cons (pe_op op_add (pv 1) (pv 2)) pa_nil)) (by rfl))
        (pss_one (ps_if (PW.pt (pw_and (pt_cmpR op_ge (pv 3) pe_int (nomark _)) (pw_and (pt_cmpR op_lt (pv 4) (pe_callB call_lenS (by rfl) T.b_len PySem.boot_len (pa_cons (pv 0) pa_nil)) (nomark _))
          (pw_and1 (pt_cmpR op_ne (pe_ix ix_S (pv 0) (pv 3) (fun _ _ => rfl)) (pe_ix ix_S (pv 0) (pv 4) (fun _ _ => rfl)) (nomark _)))))) (pss_one (ps_ret pe_bl)) pss_nil))))
      (pss_one (ps_ret pe_bl)), ?_⟩
    refine ⟨_, rfl, l, rfl, by omega, _, rfl, by omega, by omega, ?_⟩
    refine for_range (lo := 0) (n := ((l.length : Nat) : Int).toNat) (fun i σ H2 => H2 = H ∧ (∀ j, j < i → j < c → c + j < l.length → l[c - 1 - j]? = l[c + j]?) ∧ ∃ v2 v3 v4 : Option V, σ = [some (vS l), some (vI c), v2, v3, v4])
      ⟨rfl, (fun j hj => absurd hj (Nat.not_lt_zero _)), none, none, none, rfl⟩ ?_ ?_
    · rintro i σ H2 hi ⟨rfl, hj, v2, v3, v4, rfl⟩
      refine ⟨_, rfl, _, _, rfl, rfl, _, rfl, _, _, rfl, rfl, _, rfl, _, rfl, _, _, rfl, rfl, _, _, rfl, ?_⟩
      have next : (i < c → c + i < l.length → l[c - 1 - i]? = l[c + i]?) → ∀ j, j < i + 1 → j < c → c + j < l.length → l[c - 1 - j]? = l[c + j]? := fun h j h1 h2 h3 => by
        by_cases e : j = i
        · subst e
          exact h h2 h3
        · exact hj j (by omega) h2 h3
      refine ⟨_, rfl, _, _, rfl, rfl, _, rfl, ite2 (fun c3 => ?_) (fun c3 => ?_)⟩
      · have c3' : (0 : Int) ≤ (c : Int) - 1 - (0 + (i : Int)) := of_decide_eq_true c3
        refine ⟨_, rfl, _, rfl, l, rfl, by omega, _, _, rfl, rfl, _, rfl, ite2 (fun c4 => ?_) (fun c4 => ?_)⟩
        · have c4' : (c : Int) + (0 + (i : Int)) < (l.length : Int) := of_decide_eq_true c4
          have g1 : c - 1 - i < l.length := by omega
          have g2 : c + i < l.length := by omega
          have i1 : (c : Int) - 1 - (0 + (i : Int)) = ((c - 1 - i : Nat) : Int) := by omega
          have i2 : (c : Int) + (0 + (i : Int)) = ((c + i : Nat) : Int) := by omega
          refine ⟨_, rfl, _, rfl, l, _, l[c - 1 - i], rfl, rfl, by omega, (congrArg (atI l) i1).trans (atI_nat (List.getElem?_eq_getElem g1)), _, rfl, _, rfl, l, _, l[c + i], rfl, rfl, by omega, (congrArg (atI l) i2).trans (atI_nat (List.getElem?_eq_getElem g2)), rfl, _, rfl, ?_⟩
          by_cases e : l[c - 1 - i] = l[c + i]
          · rw [e]
            refine iteNS rfl ?_
            exact ⟨rfl, next fun _ _ => by rw [List.getElem?_eq_getElem g1, List.getElem?_eq_getElem g2, e], _, _, _, rfl⟩
          · have hne : ¬ (vS [l[c - 1 - i]] = vS [l[c + i]]) := fun z => e (List.cons.inj (vS_inj.mp z)).1
            rw [decide_eq_false hne]
            refine iteT ?_
            have hf : decide (Lies l c) = false := decide_eq_false fun z => e (by
              have := z i (by omega) g2
              rw [List.getElem?_eq_getElem g1, List.getElem?_eq_getElem g2] at this
              exact Option.some.inj this)
            rw [hf] at q
            exact q
        · have c4' : ¬ (c : Int) + (0 + (i : Int)) < (l.length : Int) := fun z => c4 (decide_eq_true z)
          refine iteF ?_
          exact ⟨rfl, next fun _ h => absurd h (by omega), _, _, _, rfl⟩
      · have c3' : ¬ (0 : Int) ≤ (c : Int) - 1 - (0 + (i : Int)) := fun z => c3 (decide_eq_true z)
        refine iteF ?_
        exact ⟨rfl, next fun h _ => absurd h (by omega), _, _, _, rfl⟩
    · rintro σ H2 ⟨rfl, hj, v2, v3, v4, rfl⟩
      have ht : decide (Lies l c) = true := decide_eq_true fun i h1 h2 => hj i (by omega) h1 h2
      rw [ht] at q
      exact q
def sp_creases : Sp := fun vs H Q _ => ∃ (l : List Nat), vs = [vS l] ∧ l.length ≤ 1000 ∧ ∀ p, H p = none → Q (.ref p) (upd H p (.lst ((creases l).map vI)))
theorem ok__law_creases (T : Txt K mg) : Fn P w K mg base CX0 2 "_law_creases" ["text"] sp_creases := by
  have GL := ok__law_lies (P := P) (w := w) (base := base) T
  refine T.d__law_creases.fn fun f fd F => F.ok sc__law_creases (fun vs H Q E h => ?_) (fun cdv A outer s H vs Q E hr h => ?_)
  · obtain ⟨l, rfl, _⟩ := h
    rfl
  · obtain ⟨l, rfl, hl, q⟩ := h
    refine ⟨_, pss_one (ps_ret (pe_lc (own := [("crease", 1)]) (g := gName 1) rfl sc__law_creases.nd (pi_range2 rfl T.b_range (pa_cons pe_int (pa_cons (pe_callB call_lenS (by rfl) T.b_len PySem.boot_len (pa_cons (pv 0) pa_nil)) pa_nil)))
      (blkOk_by (own := [("crease", 1)]) (N := ["text", "crease"]) (sc := defScope s__law_creases) (by decide +kernel)) (fun _ _ _ _ _ => pg_name (i := 1) sc__law_creases.nd rfl (Or.inl rfl))
      (fun _ _ _ _ _ => pts_one (pt_val (pe_fn GL hr (pa_cons (pv 0) (pa_cons (pv 1) pa_nil))))) (fun _ _ _ _ _ => pv 1))), ?_⟩
    refine ⟨_, rfl, l, rfl, by omega, _, _, rfl, ⟨by decide, by decide, by omega, by omega⟩, fun D hD => ?_⟩
    refine lc_range (lo := 1) (n := ((l.length : Int) - 1).toNat) (fun i H2 => H2 = upd H D (.lst ((crTo l i).map vI))) rfl ?_ ?_
    · rintro i H2 hi rfl
      refine ⟨rfl, vS l, rfl, .int (1 + (i : Int)), rfl, l, 1 + i, congrArg (fun z => [vS l, V.int z]) (by omega), hl, by omega, by omega, ?_⟩
      by_cases e : Lies l (1 + i)
      · rw [decide_eq_true e]
        refine ⟨_, rfl, iteT ?_⟩
        refine ⟨_, rfl, _, upd_same, ?_, ?_⟩
        · rw [List.length_map]
          have := crTo_len l i
          exact small1000 (by omega)
        · rw [upd_upd, crTo_yes e, List.map_append]
          rfl
      · rw [decide_eq_false e]
        refine ⟨_, rfl, iteF ?_⟩
        rw [crTo_no e]
    · rintro H2 rfl
      have e : ((l.length : Int) - 1).toNat = l.length - 1 := by omega
      rw [e, crTo_all]
      exact q D hD
def sp_left : Sp := fun vs H Q _ => ∃ (l : List Nat) (c : Nat), vs = [vS l, vI c] ∧ l.length ≤ 1000 ∧ c ≤ l.length ∧ Q (vS (left l c)) H
theorem ok__law_left (T : Txt K mg) : Fn P w K mg base CX0 1 "_law_left" ["text", "crease"] sp_left := by
  refine T.d__law_left.fn fun f fd F => F.ok sc__law_left (fun vs H Q E h => ?_) (fun cdv A outer s H vs Q E hr h => ?_)
  · obtain ⟨l, c, rfl, _⟩ := h
    rfl
  · obtain ⟨l, c, rfl, hl, hc, q⟩ := h
    refine ⟨_, pss_one (ps_ret (pe_ifExp (pt_cmpR op_gt (pv 1) (pe_op op_sub (pe_callB call_lenS (by rfl) T.b_len PySem.boot_len (pa_cons (pv 0) pa_nil)) (pv 1)) (nomark _))
      (pe_slice sl_S (pv 0) po_none (po_some (pv 1))) (pe_slice sl_S (pv 0) (po_some (pv 1)) po_none))), ?_⟩
    refine ⟨_, rfl, _, rfl, l, rfl, by omega, _, rfl, _, _, rfl, rfl, _, _, rfl, rfl, _, rfl, ite2 (fun k => ?_) (fun k => ?_)⟩
    · have c' : (l.length : Int) - (c : Int) < (c : Int) := of_decide_eq_true k
      refine ⟨_, rfl, _, rfl, _, rfl, l, rfl, by omega, ?_⟩
      rw [cut_to _ (by omega), Int.toNat_natCast]
      unfold left at q
      rw [if_neg (by omega)] at q
      exact q
    · have c' : ¬ (l.length : Int) - (c : Int) < (c : Int) := fun z => k (decide_eq_true z)
      refine ⟨_, rfl, _, rfl, _, rfl, l, rfl, by omega, ?_⟩
      rw [cut_from _ (by omega), Int.toNat_natCast]
      unfold left at q
      rw [if_pos (by omega)] at q
      exact q
/-! ### the program's -/
theorem ok_lies_well (T : Txt K mg) : Fn P w K mg base CX0 1 "lies_well" ["strip", "crease"] sp_lies := by
  refine T.d_lies_well.fn fun f fd F => F.ok sc_lies_well (fun vs H Q E h => ?_) (fun cdv A outer s H vs Q E hr h => ?_)
  · obtain ⟨l, c, rfl, _⟩ := h
    rfl
  · obtain ⟨l, c, rfl, hl, c1, c2, q⟩ := h
    refine ⟨_, pss_cons (ps_set (i := 2) sc_lies_well.nd rfl (.inl rfl) (pe_callB (call_min2 rfl) (by rfl) T.b_min (by decide +kernel) (pa_cons (pv 1) (pa_cons (pe_op op_sub (pe_callB call_lenS (by rfl) T.b_len PySem.boot_len (pa_cons (pv 0) pa_nil)) (pv 1)) pa_nil))))
      (pss_one (ps_ret (pe_cmpR op_eq (pe_slice sl_S (pv 0) (po_some (pe_op op_sub (pv 1) (pv 2))) (po_some (pv 1))) (pe_revS (pe_slice sl_S (pv 0) (po_some (pv 1)) (po_some (pe_op op_add (pv 1) (pv 2))))) (nomark _)))), ?_⟩
    refine ⟨_, rfl, _, rfl, l, rfl, by omega, _, rfl, _, _, rfl, rfl, _, _, rfl, ?_⟩
    have em : (if (l.length : Int) - (c : Int) < (c : Int) then (l.length : Int) - (c : Int) else (c : Int)) = ((min c (l.length - c) : Nat) : Int) := by split <;> omega
    rw [em]
    have hr1 : min c (l.length - c) ≤ c := Nat.min_le_left _ _
    have hr2 : min c (l.length - c) ≤ l.length - c := Nat.min_le_right _ _
    have main := lies_rev_iff c1 c2
    generalize min c (l.length - c) = r at hr1 hr2 main ⊢
    refine ⟨vS l, rfl, _, rfl, _, rfl, _, _, rfl, rfl, _, rfl, _, rfl, _, rfl, l, rfl, by omega, vS l, rfl, _, rfl, _, rfl, _, rfl, _, rfl, _, _, rfl, rfl, _, rfl, l, rfl, by omega, _, rfl, big (Nat.le_trans (cut_len _ _ _) (by omega)), rfl, ?_⟩
    rw [vS_dec]
    have e1 : cutL l (some ((c : Int) - (r : Int))) (some (c : Int)) = (l.drop (c - r)).take (c - (c - r)) := by
      rw [cut_mid _ (by omega) (by omega) (by omega)]
      congr 1
      · omega
      · congr 1
        omega
    have e2 : cutL l (some (c : Int)) (some ((c : Int) + (r : Int))) = (l.drop c).take (c + r - c) := by
      rw [cut_mid _ (by omega) (by omega) (by omega)]
      congr 1
    rw [e1, e2, decide_eq_decide.mpr main]
    exact q
theorem ok_creases (T : Txt K mg) : Fn P w K mg base CX0 2 "creases" ["strip"] sp_creases := by
  have GL := ok_lies_well (P := P) (w := w) (base := base) T
  refine T.d_creases.fn fun f fd F => F.ok sc_creases (fun vs H Q E h => ?_) (fun cdv A outer s H vs Q E hr h => ?_)
  · obtain ⟨l, rfl, _⟩ := h
    rfl
  · obtain ⟨l, rfl, hl, q⟩ := h
    refine ⟨_, pss_one (ps_ret (pe_lc (own := [("crease", 1)]) (g := gName 1) rfl sc_creases.nd (pi_range2 rfl T.b_range (pa_cons pe_int (pa_cons (pe_callB call_lenS (by rfl) T.b_len PySem.boot_len (pa_cons (pv 0) pa_nil)) pa_nil)))
      (blkOk_by (own := [("crease", 1)]) (N := ["strip", "crease"]) (sc := defScope s_creases) (by decide +kernel)) (fun _ _ _ _ _ => pg_name (i := 1) sc_creases.nd rfl (Or.inl rfl))
      (fun _ _ _ _ _ => pts_one (pt_val (pe_fn GL hr (pa_cons (pv 0) (pa_cons (pv 1) pa_nil))))) (fun _ _ _ _ _ => pv 1))), ?_⟩
    refine ⟨_, rfl, l, rfl, by omega, _, _, rfl, ⟨by decide, by decide, by omega, by omega⟩, fun D hD => ?_⟩
    refine lc_range (lo := 1) (n := ((l.length : Int) - 1).toNat) (fun i H2 => H2 = upd H D (.lst ((crTo l i).map vI))) rfl ?_ ?_
    · rintro i H2 hi rfl
      refine ⟨rfl, vS l, rfl, .int (1 + (i : Int)), rfl, l, 1 + i, congrArg (fun z => [vS l, V.int z]) (by omega), hl, by omega, by omega, ?_⟩
      by_cases e : Lies l (1 + i)
      · rw [decide_eq_true e]
        refine ⟨_, rfl, iteT ?_⟩
        refine ⟨_, rfl, _, upd_same, ?_, ?_⟩
        · rw [List.length_map]
          have := crTo_len l i
          exact small1000 (by omega)
        · rw [upd_upd, crTo_yes e, List.map_append]
          rfl
      · rw [decide_eq_false e]
        refine ⟨_, rfl, iteF ?_⟩
        rw [crTo_no e]
    · rintro H2 rfl
      have e : ((l.length : Int) - 1).toNat = l.length - 1 := by omega
      rw [e, crTo_all]
      exact q D hD
theorem ok_left_of (T : Txt K mg) : Fn P w K mg base CX0 1 "left_of" ["strip", "crease"] sp_left := by
  refine T.d_left_of.fn fun f fd F => F.ok sc_left_of (fun vs H Q E h => ?_) (fun cdv A outer s H vs Q E hr h => ?_)
  · obtain ⟨l, c, rfl, _⟩ := h
    rfl
  · obtain ⟨l, c, rfl, hl, hc, q⟩ := h
    refine ⟨_, pss_one (ps_ret (pe_ifExp (pt_cmpR op_le (pe_op op_mul pe_int (pv 1)) (pe_callB call_lenS (by rfl) T.b_len PySem.boot_len (pa_cons (pv 0) pa_nil)) (nomark _))
      (pe_slice sl_S (pv 0) (po_some (pv 1)) po_none) (pe_slice sl_S (pv 0) po_none (po_some (pv 1))))), ?_⟩
    refine ⟨_, rfl, _, _, rfl, rfl, .inl ⟨by decide, by decide⟩, _, rfl, l, rfl, by omega, _, _, rfl, rfl, _, rfl, ite2 (fun k => ?_) (fun k => ?_)⟩
    · have c' : 2 * (c : Int) ≤ (l.length : Int) := of_decide_eq_true k
      refine ⟨_, rfl, _, rfl, _, rfl, l, rfl, by omega, ?_⟩
      rw [cut_from _ (by omega), Int.toNat_natCast]
      unfold left at q
      rw [if_pos (by omega)] at q
      exact q
    · have c' : ¬ 2 * (c : Int) ≤ (l.length : Int) := fun z => k (decide_eq_true z)
      refine ⟨_, rfl, _, rfl, _, rfl, l, rfl, by omega, ?_⟩
      rw [cut_to _ (by omega), Int.toNat_natCast]
      unfold left at q
      rw [if_neg (by omega)] at q
      exact q
end
end Lk

namespace Lk
open PySem PySem.Spec PyProof.Rows L2
/-! ### least strips, all that come -/
open Fo
section
variable {P : Program} {w : World} {K : PySem.W.Frag} {mg : Str → Option Value} {base : Heap}
def sp_least : Sp := fun vs H Q _ => ∃ (l : List Nat), vs = [vS l] ∧ l.length ≤ 1000 ∧ ∀ H', Same H H' → Q (vS (least l)) H'
theorem ok_least (T : Txt K mg) : Fn P w K mg base CX0 3 "least" ["strip"] sp_least := by
  have GC := ok_creases (P := P) (w := w) (base := base) T
  have GL := ok_left_of (P := P) (w := w) (base := base) T
  refine T.d_least.fn fun f fd F => F.ok sc_least (fun vs H Q E h => ?_) (fun cdv A outer s H vs Q E hr h => ?_)
  · obtain ⟨l, rfl, _⟩ := h
    rfl
  · obtain ⟨l, rfl, hl, q⟩ := h
    refine ⟨_, pss_cons (ps_set (i := 1) sc_least.nd rfl (.inl rfl) (pe_fn GC hr (pa_cons (pv 0) pa_nil)))
      (pss_cons (ps_while PassesOwn.never (pt_truth (pv 1) (by intro _; rfl))
        (pss_cons (ps_set (i := 0) sc_least.nd rfl (.inl rfl) (pe_fn GL hr (pa_cons (pv 0) (pa_cons (pe_ix ix_list (pv 1) pe_int (fun _ _ => rfl)) pa_nil))))
        (pss_one (ps_set (i := 1) sc_least.nd rfl (.inl rfl) (pe_fn GC hr (pa_cons (pv 0) pa_nil))))))
      (pss_one (ps_ret (pe_callB (call_minS rfl) (by rfl) T.b_min (by decide +kernel) (pa_cons (pv 0) (pa_cons (pe_revS (pv 0)) pa_nil)))))), ?_⟩
    refine ⟨_, rfl, l, rfl, hl, fun p hp => ?_⟩
    refine ⟨fun m σ H' => ∃ (t : L) (p : Addr), σ = [some (vS t), some (.ref p)] ∧ H' p = some (.lst ((creases t).map vI)) ∧ Same H H' ∧ Comes l t ∧ m = t.length,
      ⟨l.length, l, p, rfl, upd_same, Same.upd hp, .refl l, rfl⟩, ?_⟩
    rintro m σ H' ⟨t, p', rfl, hp', sm, ct, rfl⟩
    have lt := ct.len
    refine ⟨_, rfl, _, .inl ⟨_, SqL.of hp', rfl⟩, ?_⟩
    cases ec : creases t with
    | nil =>
      refine iteF ?_
      have nt : NF t := nf_iff.mpr ec
      refine ⟨_, rfl, _, rfl, t, rfl, big (by omega), _, _, rfl, ?_⟩
      have e : (if t.reverse < t then t.reverse else t) = least l := (least_of ct nt).symm
      rw [e]
      exact q H' sm
    | cons c r =>
      refine iteT ?_
      have hc : Cr t c := mem_creases.mp (by rw [ec]; exact List.mem_cons_self ..)
      rw [ec] at hp'
      refine ⟨fun σ' H2 => ∃ m', m' < t.length ∧ ∃ (t : L) (p : Addr), σ' = [some (vS t), some (.ref p)] ∧ H2 p = some (.lst ((creases t).map vI)) ∧ Same H H2 ∧ Comes l t ∧ m' = t.length, fun _ _ z => z, ?_⟩
      refine ⟨_, rfl, _, rfl, p', _, 0, vI c, rfl, rfl, SqL.of hp', atI_nat (j := 0) rfl, t, c, rfl, by omega, Nat.le_of_lt hc.2.1, ?_⟩
      have ll := left_len hc
      refine ⟨_, rfl, left t c, rfl, by omega, fun p2 hp2 => ?_⟩
      exact ⟨_, ll.1, left t c, p2, rfl, upd_same, Same.upd' sm hp2, ct.trans (.one hc), rfl⟩
/-- all strips that come of one, longer ones behind -/
def sp_all_of : Sp := fun vs H Q _ => ∃ (l : List Nat), vs = [vS l] ∧ l.length ≤ 100 ∧ ∀ H' p (xs : List L), H p = none → Same H H' → H' p = some (.lst (xs.map vS)) → xs.Nodup → (∀ t, t ∈ xs ↔ Comes l t) → xs.Pairwise (fun a b => a.length ≤ b.length) → Q (.ref p) H'
theorem n_bound {l : L} {fs : List L} (hl : l.length ≤ 100) (nd : fs.Nodup) (rc : ∀ t ∈ fs, Rch nxtF [l] t) : fs.length ≤ 10201 := by
  have h := found_le nd fun t ht => rch_comes.mp (rc t ht)
  have : (l.length + 1) * (l.length + 1) ≤ 101 * 101 := Nat.mul_le_mul (by omega) (by omega)
  omega
end
end Lk

namespace Lk
open PySem PySem.Spec PyProof.Rows L2
/-! ### unfolding, all that comes -/
open Fo
section
variable {P : Program} {w : World} {K : PySem.W.Frag} {mg : Str → Option Value} {base : Heap}
def sp_unfolded : Sp := fun vs H Q _ => ∃ (l : List Nat) (e m : Nat), vs = [vS l, vI e, vI m] ∧ l.length ≤ 1000 ∧ (e, m) ∈ waysL l.length ∧ Q (vS (unfL l (e, m))) H
theorem ok_unfolded (T : Txt K mg) : Fn P w K mg base CX0 1 "unfolded" ["strip", "end", "many"] sp_unfolded := by
  refine T.d_unfolded.fn fun f fd F => F.ok sc_unfolded (fun vs H Q E h => ?_) (fun cdv A outer s H vs Q E hr h => ?_)
  · obtain ⟨l, e, m, rfl, _⟩ := h
    rfl
  · obtain ⟨l, e, m, rfl, hl, hw, q⟩ := h
    refine ⟨_, pss_cons (ps_if (pt_cmpR op_eqI (pv 1) pe_int (nomark _)) (pss_one (ps_ret (pe_op op_catS (pe_revS (pe_slice sl_S (pv 0) po_none (po_some (pv 2)))) (pv 0)))) pss_nil)
      (pss_one (ps_ret (pe_op op_catS (pv 0) (pe_revS (pe_slice sl_S (pv 0) (po_some (pe_op op_sub (pe_callB call_lenS (by rfl) T.b_len PySem.boot_len (pa_cons (pv 0) pa_nil)) (pv 2))) po_none))))), ?_⟩
    have hm : m ≤ l.length := by
      rcases mem_ways.mp hw with ⟨_, _, h⟩ | ⟨_, _, h⟩
      · exact h
      · exact Nat.le_of_lt h
    refine ⟨_, rfl, _, _, rfl, rfl, _, rfl, ite2 (fun c => ?_) (fun c => ?_)⟩
    · have c' : (e : Int) = 0 := of_decide_eq_true c
      have e0 : e = 0 := by omega
      refine ⟨_, rfl, _, rfl, _, rfl, l, rfl, by omega, _, rfl, big (Nat.le_trans (cut_len _ _ _) (by omega)), ?_⟩
      rw [cut_to _ (by omega), Int.toNat_natCast]
      refine ⟨_, rfl, _, _, rfl, rfl, by rw [List.length_reverse, List.length_take]; omega, ?_⟩
      have : unfL l (e, m) = (l.take m).reverse ++ l := by unfold unfL; rw [if_pos e0]
      rw [this] at q
      exact q
    · have c' : ¬ (e : Int) = 0 := fun z => c (decide_eq_true z)
      refine ⟨_, rfl, _, rfl, _, rfl, l, rfl, by omega, _, rfl, _, _, rfl, rfl, _, rfl, l, rfl, by omega, _, rfl, big (Nat.le_trans (cut_len _ _ _) (by omega)), ?_⟩
      rw [cut_from _ (by omega), show ((l.length : Int) - (m : Int)).toNat = l.length - m by omega]
      refine ⟨_, _, rfl, rfl, by rw [List.length_reverse, List.length_drop]; omega, ?_⟩
      have : unfL l (e, m) = l ++ (l.drop (l.length - m)).reverse := by unfold unfL; rw [if_neg (by show ¬ e = 0; omega)]
      rw [this] at q
      exact q
/-- a list of ways stands at p -/
def WaysAt (H : Hp) (p : Addr) (ws : List (Nat × Nat)) : Prop := ∃ as : List Addr, H p = some (.lst (as.map V.ref)) ∧ as.length = ws.length ∧ ∀ (i : Nat) (a : Addr) (w : Nat × Nat), as[i]? = some a → ws[i]? = some w → H a = some (.tup [vI w.1, vI w.2])
theorem WaysAt.same {H H' : Hp} {p : Addr} {ws : List (Nat × Nat)} (h : WaysAt H p ws) (s : Same H H') : WaysAt H' p ws := by
  obtain ⟨as, h1, h2, h3⟩ := h
  exact ⟨as, s _ _ h1, h2, fun i a (w : Nat × Nat) ha hw => s _ _ (h3 i a w ha hw)⟩
theorem WaysAt.snoc {H H' : Hp} {p a : Addr} {ws : List (Nat × Nat)} {w : Nat × Nat} (h : WaysAt H p ws) (hb : ∀ x o, x ≠ p → H x = some o → H' x = some o) (ha : H' a = some (.tup [vI w.1, vI w.2]))
    {xs : List V} (hx : H p = some (.lst xs)) (hp : H' p = some (.lst (xs ++ [.ref a]))) : WaysAt H' p (ws ++ [w]) := by
  obtain ⟨as, h1, h2, h3⟩ := h
  rw [h1] at hx
  injection hx with hx
  injection hx with hx
  subst hx
  refine ⟨as ++ [a], by rw [hp, List.map_append]; rfl, by rw [List.length_append, List.length_append, h2]; rfl, fun i b v hb' hv => ?_⟩
  by_cases hi : i < as.length
  · rw [List.getElem?_append_left hi] at hb'
    rw [List.getElem?_append_left (by omega)] at hv
    refine hb b _ (fun e => ?_) (h3 i b v hb' hv)
    have := h3 i b v hb' hv
    rw [e, h1] at this
    cases this
  · rw [List.getElem?_append_right (by omega)] at hb' hv
    have e0 : i - as.length = 0 := by
      cases e : i - as.length with
      | zero => rfl
      | succ n => rw [e] at hb'; simp at hb'
    rw [e0] at hb'
    rw [show i - ws.length = 0 by omega] at hv
    have e1 : a = b := by simpa using hb'
    have e2 : w = v := by simpa using hv
    subst e1 e2
    exact ha
def sp_ways : Sp := fun vs H Q _ => ∃ (l : List Nat), vs = [vS l] ∧ l.length ≤ 1000 ∧ ∀ H' p, H p = none → Same H H' → WaysAt H' p (waysL l.length) → Q (.ref p) H'
theorem ok_ways_to_unfold (T : Txt K mg) : Fn P w K mg base CX0 1 "ways_to_unfold" ["strip"] sp_ways := by
  refine T.d_ways_to_unfold.fn fun f fd F => F.ok sc_ways_to_unfold (fun vs H Q E h => ?_) (fun cdv A outer s H vs Q E hr h => ?_)
  · obtain ⟨l, rfl, _⟩ := h
    rfl
  · obtain ⟨l, rfl, hl, q⟩ := h
    refine ⟨_, pss_cons (ps_setLc (i := 1) (own := [("many", 2)]) (g := gName 2) (tt := tYes) (by rfl) sc_ways_to_unfold.nd rfl rfl (sw_true rfl rfl rfl (by decide +kernel))
        (pi_range2 rfl T.b_range (pa_cons pe_int (pa_cons (pe_op op_add (pe_callB call_lenS (by rfl) T.b_len PySem.boot_len (pa_cons (pv 0) pa_nil)) pe_int) pa_nil)))
        (blkOk_by (own := [("many", 2)]) (N := ["strip", "found", "many"]) (sc := defScope s_ways_to_unfold) (by decide +kernel)) (fun _ _ _ _ _ => pg_name (i := 2) sc_ways_to_unfold.nd rfl (Or.inl rfl)) (fun _ _ _ _ _ => pts_nil)
        (fun _ _ _ _ _ => pe_tup (pa_cons pe_int (pa_cons (pv 2) pa_nil))))
      (pss_one (ps_ret (pe_op op_cat (pv 1) (pe_lc (own := [("many", 2)]) (g := gName 2) (tt := tYes) rfl sc_ways_to_unfold.nd (pi_range2 rfl T.b_range (pa_cons pe_int (pa_cons (pe_callB call_lenS (by rfl) T.b_len PySem.boot_len (pa_cons (pv 0) pa_nil)) pa_nil)))
        (blkOk_by (own := [("many", 2)]) (N := ["strip", "found", "many"]) (sc := defScope s_ways_to_unfold) (by decide +kernel)) (fun _ _ _ _ _ => pg_name (i := 2) sc_ways_to_unfold.nd rfl (Or.inl rfl)) (fun _ _ _ _ _ => pts_nil)
        (fun _ _ _ _ _ => pe_tup (pa_cons pe_int (pa_cons (pv 2) pa_nil))))))), ?_⟩
    refine ⟨_, rfl, l, rfl, by omega, _, _, rfl, rfl, 1, _, rfl, ⟨by decide, by decide, by omega, by omega⟩, fun D hD => ?_⟩
    refine lc_range (lo := 1) (n := ((l.length : Int) + 1 - 1).toNat) (fun i H2 => Same H H2 ∧ WaysAt H2 D ((List.range' 1 i).map fun m => (0, m)))
      ⟨Same.upd hD, [], upd_same, rfl, fun i a w ha hw => by simp at ha⟩ ?_ ?_
    · rintro i H2 hi ⟨sm, wa⟩
      obtain ⟨as, a1, a2, a3⟩ := id wa
      refine ⟨rfl, _, rfl, (by show 2 ≤ sizeLine; decide), fun p hp => ?_⟩
      have npD : D ≠ p := ne_of_none a1 hp
      refine ⟨as.map V.ref, by rw [upd_ne npD]; exact a1, ?_, Same.upd2 (Same.upd' sm hp) hD, ?_⟩
      · rw [List.length_map, a2, List.length_map, List.length_range']
        exact small1000 (by omega)
      · rw [List.range'_1_concat, List.map_append]
        refine wa.snoc (fun x o hx ho => by rw [upd_ne hx, upd_ne (ne_of_none ho hp)]; exact ho) ?_ a1 upd_same
        rw [upd_ne npD.symm, upd_same]
        congr 4
    · rintro H2 ⟨sm, wa⟩
      have e1 : ((l.length : Int) + 1 - 1).toNat = l.length := by omega
      rw [e1] at wa
      refine ⟨_, rfl, _, rfl, l, rfl, by omega, 1, _, rfl, ⟨by decide, by decide, by omega, by omega⟩, fun D2 hD2 => ?_⟩
      have hD2' : H D2 = none := sm.free hD2
      refine lc_range (lo := 1) (n := ((l.length : Int) - 1).toNat) (fun i H3 => Same H2 H3 ∧ WaysAt H3 D2 ((List.range' 1 i).map fun m => (1, m)))
        ⟨Same.upd hD2, [], upd_same, rfl, fun i a w ha hw => by simp at ha⟩ ?_ ?_
      · rintro i H3 hi ⟨sm3, wa3⟩
        obtain ⟨as, a1, a2, a3⟩ := id wa3
        refine ⟨rfl, _, rfl, (by show 2 ≤ sizeLine; decide), fun p hp => ?_⟩
        have npD : D2 ≠ p := ne_of_none a1 hp
        refine ⟨as.map V.ref, by rw [upd_ne npD]; exact a1, ?_, Same.upd2 (Same.upd' sm3 hp) hD2, ?_⟩
        · rw [List.length_map, a2, List.length_map, List.length_range']
          exact small1000 (by omega)
        · rw [List.range'_1_concat, List.map_append]
          refine wa3.snoc (fun x o hx ho => by rw [upd_ne hx, upd_ne (ne_of_none ho hp)]; exact ho) ?_ a1 upd_same
          rw [upd_ne npD.symm, upd_same]
          congr 4
      · rintro H3 ⟨sm3, wa3⟩
        have e2 : ((l.length : Int) - 1).toNat = l.length - 1 := by omega
        rw [e2] at wa3
        obtain ⟨as, a1, a2, a3⟩ := wa.same sm3
        obtain ⟨bs, b1, b2, b3⟩ := wa3
        refine ⟨D, D2, _, _, rfl, rfl, a1, b1, ?_, fun p hp => ?_⟩
        · rw [List.length_map, List.length_map, a2, b2, List.length_map, List.length_map, List.length_range', List.length_range']
          exact Nat.le_trans (show _ ≤ 2000 by omega) (by decide)
        · refine q _ p ((sm.trans sm3).free hp) (Same.upd' (sm.trans sm3) hp) ⟨as ++ bs, by rw [upd_same, List.map_append], ?_, fun i a w ha hw => ?_⟩
          · unfold waysL
            rw [List.length_append, List.length_append, a2, b2]
          · have hq : ∀ o, H3 a = some o → (upd H3 p (.lst (as.map V.ref ++ bs.map V.ref))) a = some o := fun o ho => by rw [upd_ne (ne_of_none ho hp)]; exact ho
            unfold waysL at hw
            by_cases hi : i < as.length
            · rw [List.getElem?_append_left hi] at ha
              rw [List.getElem?_append_left (by omega)] at hw
              exact hq _ (a3 i a w ha hw)
            · rw [List.getElem?_append_right (by omega)] at ha hw
              exact hq _ (b3 (i - as.length) a w ha (by rw [a2]; exact hw))
end
end Lk

namespace Lk
open PySem PySem.Spec PyProof.Rows L2
/-! ### all over, kin -/
open Fo
theorem putK_old {fs : List L} {u : L} (h : u ∈ fs) : putK (kvF fs) (Sum.inr (S u) : Key) (V.bl true) = kvF fs := by
  unfold putK
  have e1 : ((kvF fs).any fun kv => decide (kv.1 = (Sum.inr (S u) : Key))) = true := by
    rw [List.any_eq_true]
    exact ⟨(Sum.inr (S u), V.bl true), List.mem_map.mpr ⟨u, h, rfl⟩, decide_eq_true rfl⟩
  rw [if_pos e1]
  unfold kvF
  rw [List.map_map]
  apply List.map_congr_left
  intro t _
  show (if (Sum.inr (S t) : Key) = Sum.inr (S u) then ((Sum.inr (S t) : Key), V.bl true) else (Sum.inr (S t), V.bl true)) = (Sum.inr (S t), V.bl true)
  split <;> rfl
theorem kvF_list (fs : List L) : (kvF fs).map (fun kv => kV kv.1) = fs.map vS := by
  unfold kvF
  rw [List.map_map]
  rfl
theorem WaysAt.upd {H : Hp} {p x : Addr} {o : HO} {ws : List (Nat × Nat)} (h : WaysAt H p ws) (n : p ≠ x) (nt : ∀ u v, H x ≠ some (.tup [u, v])) : WaysAt (L2.upd H x o) p ws := by
  obtain ⟨as, h1, h2, h3⟩ := h
  refine ⟨as, by rw [upd_ne n]; exact h1, h2, fun i a w ha hw => ?_⟩
  have := h3 i a w ha hw
  rw [upd_ne fun e => nt _ _ (by rw [← e]; exact this)]
  exact this
section
variable {P : Program} {w : World} {K : PySem.W.Frag} {mg : Str → Option Value} {base : Heap}
def sp_all_over (K : PySem.W.Frag) : Sp := fun vs H Q _ => ∃ (a : Addr) (xs : List L) (m : Nat), vs = [.ref a, vI m] ∧ SqL K H a (xs.map vS) ∧ xs.length ≤ 1000 ∧ (∀ x ∈ xs, x.length ≤ 1000 ∧ Sg x) ∧ m ≤ 10 ∧
  ∀ H' d (fs : List L), H d = none → Same H H' → H' d = some (.dK (kvF fs)) → fs.Nodup → (∀ t, t ∈ fs ↔ t.length ≤ m ∧ ∃ s ∈ xs, Comes t s) → Q (.ref d) H'
theorem ok_all_over (T : Txt K mg) : Fn P w K mg base CX0 3 "all_over" ["strips", "long"] (sp_all_over K) := by
  have GU := ok_unfolded (P := P) (w := w) (base := base) T
  have GW := ok_ways_to_unfold (P := P) (w := w) (base := base) T
  refine T.d_all_over.fn fun f fd F => F.ok sc_all_over (fun vs H Q E h => ?_) (fun cdv A outer s H vs Q E hr h => ?_)
  · obtain ⟨a, xs, m, rfl, _⟩ := h
    rfl
  · obtain ⟨a, xs, m, rfl, hS, hxl, hxs, hm, q⟩ := h
    have hu := hu_of hr
    refine ⟨_, pss_cons (ps_setDc (i := 2) (own := [("strip", 8)]) (g := gName 8) (by rfl) sc_all_over.nd rfl rfl (sw_trueD rfl rfl rfl (by decide +kernel))
        (pi_list (pv 0)) (blkOk_by (own := [("strip", 8)]) (N := ["strips", "long", "found", "rows", "here", "end", "many", "there", "strip"]) (sc := defScope s_all_over) (by decide +kernel)) (fun _ _ _ _ _ => pg_name (i := 8) sc_all_over.nd rfl (Or.inl rfl))
        (fun _ _ _ _ _ => pts_one (pt_cmpR op_le (pe_callB call_lenS (by rfl) T.b_len PySem.boot_len (pa_cons (pv 8) pa_nil)) (pv 1) (nomark _))) (fun _ _ _ _ _ => pv 8) (fun _ _ _ _ _ => pe_bl))
      (pss_cons (ps_set (i := 3) sc_all_over.nd rfl (.inl rfl) (pe_callTy (call_listD rfl) (by rfl) T.b_list (by decide +kernel) (pa_cons (pv 2) pa_nil)))
      (pss_cons (ps_while PassesOwn.never (pt_truth (pv 3) (by intro _; rfl))
        (pss_cons (ps_set (i := 4) sc_all_over.nd rfl (.inl rfl) (pe_bm0 PySem.F.plainAttrs_list PySem.F.slot_list_pop PySem.F.type_list_pop mt_pop (pv 3)))
        (pss_one (ps_for PassesOwn.never rfl (pi_list (pe_fn GW hr (pa_cons (pv 4) pa_nil))) (pg_tup rfl (pgs_cons (pg_name (i := 5) sc_all_over.nd rfl (.inl rfl)) (pgs_cons (pg_name (i := 6) sc_all_over.nd rfl (.inl rfl)) pgs_nil)))
          (pss_one (ps_if (pt_cmpR op_le (pe_op op_add (pe_callB call_lenS (by rfl) T.b_len PySem.boot_len (pa_cons (pv 4) pa_nil)) (pv 6)) (pv 1) (nomark _))
            (pss_cons (ps_set (i := 7) sc_all_over.nd rfl (.inl rfl) (pe_fn GU hr (pa_cons (pv 4) (pa_cons (pv 5) (pa_cons (pv 6) pa_nil)))))
            (pss_one (ps_if (pt_cmp (pc_dnotin hu (pv 7) (pv 2))) (pss_cons (ps_dput hu (pv 2) (pv 7) pe_bl rfl)
              (pss_one (ps_expr (pe_bm PySem.F.plainAttrs_list PySem.F.slot_list_append PySem.F.type_list_append mt_append (pv 3) (pa_cons (pv 7) pa_nil))))) pss_nil))) pss_nil))))))
      (pss_one (ps_ret (pv 2))))), ?_⟩
    refine ⟨_, rfl, a, rfl, ⟨_, hS⟩, fun d hd => ?_⟩
    refine dc_list (K := K) (a := a) (xs := xs.map vS) (fun i H2 => Same H H2 ∧ ∃ fs : List L, H2 d = some (.dK (kvF fs)) ∧ fs.Nodup ∧ (∀ t, t ∈ fs ↔ t ∈ xs.take i ∧ t.length ≤ m) ∧ fs.length ≤ i)
      ⟨Same.upd hd, [], upd_same, List.nodup_nil, fun t => by simp, Nat.le_refl _⟩ (fun i H2 _ h => h.1.seq hS) ?_ ?_
    · rintro i x H2 hx ⟨sm, fs, e1, nd, hf, hfl⟩
      have hi : i < xs.length := by
        have := (List.getElem?_eq_some_iff.mp hx).1
        rw [List.length_map] at this
        exact this
      obtain ⟨u, hu', rfl⟩ : ∃ u, xs[i]? = some u ∧ x = vS u := by
        rw [List.getElem?_map] at hx
        cases e : xs[i]? with
        | none => rw [e] at hx; cases hx
        | some c => rw [e] at hx; exact ⟨c, rfl, (Option.some.inj hx).symm⟩
      have hul := (hxs u (List.mem_of_getElem? hu')).1
      refine ⟨rfl, _, rfl, u, rfl, by omega, _, rfl, _, _, rfl, rfl, _, rfl, ?_⟩
      by_cases c : u.length ≤ m
      · rw [show decide ((u.length : Int) ≤ (m : Int)) = true from decide_eq_true (by omega)]
        refine iteT ?_
        refine ⟨_, rfl, kvF fs, Sum.inr (S u), rfl, e1, ?_, ?_⟩
        · rw [kvF_len]
          exact small1000 (by omega)
        · refine ⟨Same.upd2 sm hd, ?_⟩
          by_cases hmem : u ∈ fs
          · rw [putK_old hmem]
            refine ⟨fs, upd_same, nd, fun t => ?_, by omega⟩
            rw [hf, List.take_add_one, hu', List.mem_append]
            constructor
            · rintro ⟨h1, h2⟩
              exact ⟨.inl h1, h2⟩
            · rintro ⟨h1 | h1, h2⟩
              · exact ⟨h1, h2⟩
              · rw [show t = u by simpa using h1]
                exact (hf u).mp hmem
          · rw [putK_kvF hmem]
            refine ⟨fs ++ [u], upd_same, ?_, fun t => ?_, by rw [List.length_append]; simp only [List.length_singleton]; omega⟩
            · rw [List.nodup_append]
              refine ⟨nd, by simp, fun a ha b hb => ?_⟩
              rw [List.mem_singleton.mp hb]
              intro e
              rw [e] at ha
              exact hmem ha
            · rw [List.mem_append, hf, List.take_add_one, hu', List.mem_append]
              constructor
              · rintro (⟨h1, h2⟩ | h1)
                · exact ⟨.inl h1, h2⟩
                · rw [List.mem_singleton.mp h1]
                  exact ⟨.inr (by simp), c⟩
              · rintro ⟨h1 | h1, h2⟩
                · exact .inl ⟨h1, h2⟩
                · exact .inr (by simpa using h1)
      · rw [show decide ((u.length : Int) ≤ (m : Int)) = false from decide_eq_false (by omega)]
        refine iteF ⟨sm, fs, e1, nd, fun t => ?_, by omega⟩
        rw [hf, List.take_add_one, hu', List.mem_append]
        constructor
        · rintro ⟨h1, h2⟩
          exact ⟨.inl h1, h2⟩
        · rintro ⟨h1 | h1, h2⟩
          · exact ⟨h1, h2⟩
          · rw [show t = u by simpa using h1] at h2
            exact absurd h2 c
    · rintro H2 ⟨sm2, st, e2, nds, hst, hstl⟩
      rw [List.length_map] at hst
      rw [List.take_length] at hst
      have hS2 : ∀ s ∈ st, s.length ≤ m := fun s hs => ((hst s).mp hs).2
      have fact : ∀ t, Rch (nxtO m) st t → t.length ≤ m ∧ Sg t := fun t ht => by
        obtain ⟨h1, s, hs, c⟩ := (rch_over hS2).mp ht
        exact ⟨h1, c.sg2 (hxs s ((hst s).mp hs).1).2⟩
      obtain ⟨N, hN⟩ : ∃ N, N = 4 ^ (m + 1) := ⟨_, rfl⟩
      have hN2 : N < sizeLine := by
        rw [hN]
        exact Nat.lt_of_le_of_lt (Nat.pow_le_pow_right (by decide) (show m + 1 ≤ 11 by omega)) (by decide)
      have nbd : ∀ fs : List L, fs.Nodup → (∀ t ∈ fs, Rch (nxtO m) st t) → fs.length ≤ N := fun fs nd rc => by
        rw [hN]
        exact found_upTo nd fun t ht => fact t (rc t ht)
      refine ⟨_, rfl, d, kvF st, rfl, Rd.of e2, fun r hrn => ?_⟩
      rw [kvF_list]
      have ndr : d ≠ r := ne_of_none e2 hrn
      have hrH : H r = none := sm2.free hrn
      refine ⟨fun k σ H' => ∃ (fs rs : List L) (v4 v5 v6 v7 v8 : Option V), σ = [some (.ref a), some (vI m), some (.ref d), some (.ref r), v4, v5, v6, v7, v8] ∧ Same H H' ∧ H' d = some (.dK (kvF fs)) ∧ H' r = some (.lst (rs.map vS)) ∧ Dfs (nxtO m) st fs rs ∧ rs.length ≤ fs.length ∧ k = 2 * (N - fs.length) + rs.length,
        ⟨_, st, st, none, none, none, none, _, rfl, Same.upd' sm2 hrn, by rw [upd_ne ndr]; exact e2, upd_same, Dfs.start nds, Nat.le_refl _, rfl⟩, ?_⟩
      rintro k σ H' ⟨fs, rs, v4, v5, v6, v7, v8, rfl, sm, ed', er, D, hrf, rfl⟩
      refine ⟨_, rfl, _, .inl ⟨_, SqL.of er, rfl⟩, ?_⟩
      have nb := nbd fs D.nd D.rc
      rcases List.eq_nil_or_concat rs with e | ⟨rs0, here, e⟩
      · subst e
        refine iteF ?_
        refine ⟨_, rfl, q H' d fs hd sm ed' D.nd fun t => ?_⟩
        rw [D.done, rch_over hS2]
        constructor
        · rintro ⟨h1, s, h2, h3⟩
          exact ⟨h1, s, ((hst s).mp h2).1, h3⟩
        · rintro ⟨h1, s, h2, h3⟩
          have := h3.len
          exact ⟨h1, s, (hst s).mpr ⟨h2, by omega⟩, h3⟩
      · rw [List.concat_eq_append] at e
        subst e
        have hne : ((rs0 ++ [here]).map vS).isEmpty = false := by rw [List.map_append]; cases rs0 <;> rfl
        rw [hne]
        refine iteT ?_
        refine ⟨fun σ' H2 => ∃ k', k' < 2 * (N - fs.length) + (rs0 ++ [here]).length ∧ ∃ (fs rs : List L) (v4 v5 v6 v7 v8 : Option V), σ' = [some (.ref a), some (vI m), some (.ref d), some (.ref r), v4, v5, v6, v7, v8] ∧ Same H H2 ∧ H2 d = some (.dK (kvF fs)) ∧ H2 r = some (.lst (rs.map vS)) ∧ Dfs (nxtO m) st fs rs ∧ rs.length ≤ fs.length ∧ k' = 2 * (N - fs.length) + rs.length, fun _ _ z => z, ?_⟩
        obtain ⟨hhl, hsg⟩ := fact here (D.rc here (D.sub here (by simp)))
        refine ⟨_, rfl, .inl ⟨rfl, _, SqL.of er⟩, r, _, vS here, rfl, rfl, er, ?_, ?_⟩
        · rw [List.length_map, List.length_append, List.map_append]
          simp
        · have edl : ((rs0 ++ [here]).map vS).dropLast = rs0.map vS := by rw [List.map_append]; simp
          rw [edl]
          refine ⟨_, rfl, here, rfl, by omega, fun H3 wp hwp sm3 wa => ?_⟩
          have nwr : r ≠ wp := ne_of_none upd_same hwp
          have hwp' : H' wp = none := by rw [upd_ne nwr.symm] at hwp; exact hwp
          have nwd : d ≠ wp := ne_of_none ed' hwp'
          obtain ⟨as, a1, a2, _⟩ := id wa
          refine ⟨wp, rfl, ⟨_, SqL.of a1⟩, ?_⟩
          refine for_list (K := K) (a := wp) (xs := as.map V.ref) (fun i σ H3 => ∃ (fs' rs' : List L) (v5 v6 v7 : Option V), σ = [some (.ref a), some (vI m), some (.ref d), some (.ref r), some (vS here), v5, v6, v7, v8] ∧ Same H H3 ∧ H3 d = some (.dK (kvF fs')) ∧ H3 r = some (.lst (rs'.map vS)) ∧ H3 wp = some (.lst (as.map V.ref)) ∧ WaysAt H3 wp (waysL here.length) ∧
              DfsIn (nxtO m) st fs' rs' here i ∧ rs'.length ≤ fs'.length ∧ 2 * (N - fs'.length) + rs'.length < 2 * (N - fs.length) + (rs0 ++ [here]).length)
            ⟨fs, rs0, v5, v6, v7, rfl, ?_, ?_, ?_, a1, wa, D.pop, (by rw [List.length_append] at hrf; simp only [List.length_singleton] at hrf; omega), ?_⟩ ?_ ?_ ?_
          · exact (Same.upd2 sm hrH).trans sm3
          · refine sm3 _ _ ?_
            rw [upd_ne ndr]
            exact ed'
          · exact sm3 _ _ upd_same
          · rw [List.length_append]
            simp
          · rintro i σ H3 _ ⟨fs', rs', v5, v6, v7, _, _, _, _, e5, _⟩
            exact SqL.of e5
          · rintro i x σ H3 hx ⟨fs', rs', v5, v6, v7, rfl, sm3, e1, e2, e3, wa3, DI, hrf', hk⟩
            obtain ⟨ta, hta, rfl⟩ : ∃ u, as[i]? = some u ∧ x = .ref u := by
              rw [List.getElem?_map] at hx
              cases e : as[i]? with
              | none => rw [e] at hx; cases hx
              | some c => rw [e] at hx; exact ⟨c, rfl, (Option.some.inj hx).symm⟩
            have hi : i < as.length := (List.getElem?_eq_some_iff.mp hta).1
            obtain ⟨⟨e, c⟩, hw⟩ : ∃ v, (waysL here.length)[i]? = some v := ⟨_, List.getElem?_eq_getElem (by omega)⟩
            have hwm : (e, c) ∈ waysL here.length := List.mem_of_getElem? hw
            have hta2 : H3 ta = some (.tup [vI e, vI c]) := by
              obtain ⟨bs, b1, b2, b3⟩ := wa3
              rw [e3] at b1
              injection b1 with b1
              injection b1 with b1
              have : as = bs := by
                have := congrArg (List.map fun v : V => match v with | .ref x => x | _ => 0) b1
                rw [List.map_map, List.map_map] at this
                simpa [Function.comp_def] using this
              subst this
              exact b3 i ta _ hta hw
            have hnx : (nxtO m here)[i]? = some (if here.length + c ≤ m then unfL here (e, c) else here) := by
              unfold nxtO
              rw [List.getElem?_map, hw]
              rfl
            have nb' := nbd fs' DI.nd DI.rc
            refine ⟨ta, _, rfl, SqT.of hta2, rfl, _, _, rfl, _, _, rfl, rfl, ?_⟩
            refine ⟨_, rfl, here, rfl, by omega, _, rfl, _, _, rfl, rfl, _, rfl, _, _, rfl, rfl, _, rfl, ?_⟩
            by_cases hlc : here.length + c ≤ m
            · rw [show decide ((here.length : Int) + (c : Int) ≤ (m : Int)) = true from decide_eq_true (by omega)]
              rw [if_pos hlc] at hnx
              refine iteT ?_
              refine ⟨_, rfl, _, rfl, _, rfl, here, e, c, rfl, by omega, hwm, ?_⟩
              refine ⟨_, rfl, _, rfl, d, _, rfl, DGet.k (k := Sum.inr (S (unfL here (e, c)))) e1, _, rfl, ?_⟩
              rw [valV_kvF]
              by_cases hmem : unfL here (e, c) ∈ fs'
              · rw [if_pos hmem]
                refine iteF ?_
                exact ⟨fs', rs', _, _, _, rfl, sm3, e1, e2, e3, wa3, DI.old hnx hmem, hrf', hk⟩
              · rw [if_neg hmem]
                refine iteT ?_
                refine ⟨_, rfl, _, rfl, d, _, rfl, DPut.k (k := Sum.inr (S (unfL here (e, c)))) e1 (by rw [kvF_len]; exact Nat.lt_of_le_of_lt nb' hN2), ?_⟩
                rw [putK_kvF hmem]
                refine ⟨_, rfl, .inl ⟨rfl, _, SqL.of (by rw [upd_ne ndr.symm]; exact e2)⟩, _, rfl, r, _, _, rfl, rfl, (by rw [upd_ne ndr.symm]; exact e2), ?_, ?_⟩
                · rw [List.length_map]
                  exact Nat.lt_of_le_of_lt (Nat.le_trans hrf' nb') hN2
                · have D2 := DI.new hnx hmem
                  have nb2 := nbd _ D2.nd D2.rc
                  rw [List.length_append] at nb2
                  refine ⟨fs' ++ [unfL here (e, c)], rs' ++ [unfL here (e, c)], _, _, _, rfl, Same.upd2 (Same.upd2 sm3 hd) hrH, ?_, ?_, ?_, ?_, D2, (by rw [List.length_append, List.length_append]; omega), ?_⟩
                  · rw [upd_ne ndr, upd_same]
                  · rw [upd_same, List.map_append]
                    rfl
                  · rw [upd_ne nwr.symm, upd_ne nwd.symm]
                    exact e3
                  · exact (wa3.upd nwd.symm (fun u v z => by rw [e1] at z; cases z)).upd nwr.symm (fun u v z => by rw [upd_ne ndr.symm, e2] at z; cases z)
                  · rw [List.length_append, List.length_append]
                    simp only [List.length_singleton] at nb2 ⊢
                    omega
            · rw [show decide ((here.length : Int) + (c : Int) ≤ (m : Int)) = false from decide_eq_false (by omega)]
              rw [if_neg hlc] at hnx
              refine iteF ?_
              exact ⟨fs', rs', _, _, _, rfl, sm3, e1, e2, e3, wa3, DI.old hnx DI.mem, hrf', hk⟩
          · rintro σ H3 ⟨fs', rs', v5, v6, v7, rfl, sm3, e1, e2, e3, wa3, DI, hrf', hk⟩
            exact ⟨_, hk, fs', rs', _, _, _, _, _, rfl, sm3, e1, e2, DI.skip (by unfold nxtO; rw [List.length_map, List.length_map, a2]; exact Nat.le_refl _), hrf', rfl⟩
end
end Lk

namespace Lk
open PySem PySem.Spec PyProof.Rows L2
/-! ### over, kin_of -/
open Fo
section
variable {P : Program} {w : World} {K : PySem.W.Frag} {mg : Str → Option Value} {base : Heap}
/-- [one for one in all_over(..) if len(one) == long], sorted: what stands there -/
theorem filt_take {α : Type} (p : α → Bool) (xs : List α) (i : Nat) (u : α) (h : xs[i]? = some u) : (xs.take (i + 1)).filter p = (xs.take i).filter p ++ (if p u then [u] else []) := by
  rw [List.take_add_one, h, List.filter_append]
  congr 1
  by_cases hp : p u <;> simp [hp]
def sp_over : Sp := fun vs H Q _ => ∃ (l : L) (m : Nat), vs = [vS l, vI m] ∧ l.length ≤ 1000 ∧ Sg l ∧ m ≤ 10 ∧
  ∀ H' p (xs : List L), H p = none → Same H H' → H' p = some (.lst (xs.map vS)) → Srt xs → xs.Nodup → (∀ t, t ∈ xs ↔ t.length = m ∧ Comes t l) → Q (.ref p) H'
def sp_kin_of : Sp := fun vs H Q _ => ∃ (l : L) (m : Nat), vs = [vS l, vI m] ∧ l.length ≤ 1000 ∧ Sg l ∧ m ≤ 10 ∧
  ∀ H' p (xs : List L), H p = none → Same H H' → H' p = some (.lst (xs.map vS)) → Srt xs → xs.Nodup → (∀ t, t ∈ xs ↔ t.length = m ∧ (Comes t (least l) ∨ Comes t (least l).reverse)) → Q (.ref p) H'
theorem ok_kin_of (T : Txt K mg) : Fn P w K mg base CX0 4 "kin_of" ["strip", "long"] sp_kin_of := by
  have GL := ok_least (P := P) (w := w) (base := base) T
  have GA := ok_all_over (P := P) (w := w) (base := base) T
  refine T.d_kin_of.fn fun f fd F => F.ok sc_kin_of (fun vs H Q E h => ?_) (fun cdv A outer s H vs Q E hr h => ?_)
  · obtain ⟨l, m, rfl, _⟩ := h
    rfl
  · obtain ⟨l, m, rfl, hl, sg, hm, q⟩ := h
    refine ⟨_, pss_cons (ps_set (i := 2) sc_kin_of.nd rfl (.inl rfl) (pe_fn GL hr (pa_cons (pv 0) pa_nil)))
      (pss_one (ps_ret (pe_callB cr_sortedSA (by rfl) T.b_sorted (by decide +kernel) (pa_cons (pe_lc (own := [("one", 3)]) (g := gName 3) rfl sc_kin_of.nd
        (pi_keys (pe_frz (pe_fn GA hr (pa_cons (pe_lst (pa_cons (pv 2) (pa_cons (pe_revS (pv 2)) pa_nil))) (pa_cons (pv 1) pa_nil)))))
        (blkOk_by (own := [("one", 3)]) (N := ["strip", "long", "last", "one"]) (sc := defScope s_kin_of) (by decide +kernel)) (fun _ _ _ _ _ => pg_name (i := 3) sc_kin_of.nd rfl (Or.inl rfl))
        (fun _ _ _ _ _ => pts_one (pt_cmpR op_eqI (pe_callB call_lenS (by rfl) T.b_len PySem.boot_len (pa_cons (pv 3) pa_nil)) (pv 1) (nomark _)))
        (fun _ _ _ _ _ => pv 3)) pa_nil)))), ?_⟩
    have hll := least_len l
    refine ⟨_, rfl, l, rfl, by omega, fun H1 sm1 => ?_⟩
    refine ⟨_, rfl, _, rfl, _, rfl, big (by omega), (by show 2 ≤ sizeLine; decide), fun a ha => ?_⟩
    refine ⟨_, rfl, a, [least l, (least l).reverse], m, rfl, SqL.of upd_same, by show 2 ≤ 1000; decide, ?_, hm, fun H2 d fs hd2 sm2 ed nd hf => ?_⟩
    · intro x hx
      rcases List.mem_cons.mp hx with rfl | hx
      · exact ⟨by omega, sg.least⟩
      · rw [List.mem_singleton.mp hx]
        exact ⟨by rw [List.length_reverse]; omega, sg.least.rev⟩
    have smA : Same H1 (upd H1 a (.lst [vS (least l), vS (least l).reverse])) := Same.upd ha
    have smB : Same H H2 := (sm1.trans smA).trans sm2
    have hd0 : H d = none := (sm1.trans smA).free hd2
    refine ⟨d, _, ed, trivial, fun od => ?_⟩
    refine ⟨d, od, rfl, .inl ⟨kvF fs, upd_same, fun D hD => ?_⟩⟩
    have ndD : d ≠ D := ne_of_none upd_same hD
    have smC : Same H (upd H2 d (.frz od (.dK (kvF fs)))) := Same.upd2 smB hd0
    have hDH : H D = none := smC.free hD
    have hfl : fs.length ≤ 4 ^ 11 := Nat.le_trans (found_upTo (m := 10) nd fun t ht => by
      obtain ⟨h1, s, h2, h3⟩ := (hf t).mp ht
      refine ⟨by omega, h3.sg2 ?_⟩
      rcases List.mem_cons.mp h2 with rfl | h2
      · exact sg.least
      · rw [List.mem_singleton.mp h2]
        exact sg.least.rev) (Nat.le_refl _)
    refine lc_keys (kvF_list fs) (fun i H3 => Same H H3 ∧ H3 d = some (.frz od (.dK (kvF fs))) ∧ H3 D = some (.lst (((fs.take i).filter fun t => decide (t.length = m)).map vS)))
      ⟨Same.upd2 smC hDH, by rw [upd_ne ndD, upd_same], by rw [upd_same]; rfl⟩ (fun i H3 _ h => h.2.1) ?_ ?_
    · rintro i u H3 hu ⟨sm3, e3, e4⟩
      have hul : u.length ≤ 10 := by
        have := ((hf u).mp (List.mem_of_getElem? hu)).1
        omega
      refine ⟨rfl, _, rfl, u, rfl, by omega, _, rfl, _, _, rfl, rfl, _, rfl, ?_⟩
      rw [filt_take _ _ _ _ hu]
      dsimp only
      by_cases c : u.length = m
      · rw [show decide ((u.length : Int) = (m : Int)) = true from decide_eq_true (by omega), decide_eq_true c]
        refine iteT ?_
        refine ⟨_, rfl, _, e4, ?_, Same.upd2 sm3 hDH, by rw [upd_ne ndD]; exact e3, ?_⟩
        · rw [List.length_map]
          refine Nat.lt_of_le_of_lt (Nat.le_trans (List.length_filter_le ..) (Nat.le_trans (by rw [List.length_take]; exact Nat.min_le_right _ _) hfl)) (by decide)
        · rw [upd_same, List.map_append]
          rfl
      · rw [show decide ((u.length : Int) = (m : Int)) = false from decide_eq_false (by omega), decide_eq_false c]
        refine iteF ⟨sm3, e3, ?_⟩
        rw [e4]
        simp
    · rintro H3 ⟨sm3, e3, e4⟩
      rw [List.take_length] at e4
      refine ⟨D, (fs.filter fun t => decide (t.length = m)).map S, rfl, SqL.of (by rw [map_vS]; exact e4), fun ys p2 hys hs hp2 => ?_⟩
      obtain ⟨zs, rfl, hz⟩ := perm_S hys
      refine q _ p2 zs (sm3.free hp2) (Same.upd' sm3 hp2) (by rw [upd_same, map_vS]) (srt_of hs) (hz.symm.nodup (nd.filter _)) fun t => ?_
      rw [hz.mem_iff, List.mem_filter, hf, decide_eq_true_eq]
      constructor
      · rintro ⟨⟨_, s, h1, h2⟩, h3⟩
        refine ⟨h3, ?_⟩
        rcases List.mem_cons.mp h1 with rfl | h1
        · exact .inl h2
        · rw [List.mem_singleton.mp h1] at h2
          exact .inr h2
      · rintro ⟨h1, h2 | h2⟩
        · exact ⟨⟨by omega, _, List.mem_cons_self .., h2⟩, h1⟩
        · exact ⟨⟨by omega, _, List.mem_cons_of_mem _ (List.mem_singleton.mpr rfl), h2⟩, h1⟩
theorem ok_over (T : Txt K mg) : Fn P w K mg base CX0 4 "over" ["strip", "long"] sp_over := by
  have GA := ok_all_over (P := P) (w := w) (base := base) T
  refine T.d_over.fn fun f fd F => F.ok sc_over (fun vs H Q E h => ?_) (fun cdv A outer s H vs Q E hr h => ?_)
  · obtain ⟨l, m, rfl, _⟩ := h
    rfl
  · obtain ⟨l, m, rfl, hl, sg, hm, q⟩ := h
    refine ⟨_, pss_one (ps_ret (pe_callB cr_sortedSA (by rfl) T.b_sorted (by decide +kernel) (pa_cons (pe_lc (own := [("one", 2)]) (g := gName 2) rfl sc_over.nd
        (pi_keys (pe_frz (pe_fn GA hr (pa_cons (pe_lst (pa_cons (pv 0) pa_nil)) (pa_cons (pv 1) pa_nil)))))
        (blkOk_by (own := [("one", 2)]) (N := ["strip", "long", "one"]) (sc := defScope s_over) (by decide +kernel)) (fun _ _ _ _ _ => pg_name (i := 2) sc_over.nd rfl (Or.inl rfl))
        (fun _ _ _ _ _ => pts_one (pt_cmpR op_eqI (pe_callB call_lenS (by rfl) T.b_len PySem.boot_len (pa_cons (pv 2) pa_nil)) (pv 1) (nomark _)))
        (fun _ _ _ _ _ => pv 2)) pa_nil))), ?_⟩
    refine ⟨_, rfl, (by show 1 ≤ sizeLine; decide), fun a ha => ?_⟩
    refine ⟨_, rfl, a, [l], m, rfl, SqL.of upd_same, by show 1 ≤ 1000; decide, ?_, hm, fun H2 d fs hd2 sm2 ed nd hf => ?_⟩
    · intro x hx
      rw [List.mem_singleton.mp hx]
      exact ⟨hl, sg⟩
    have smA : Same H (upd H a (.lst [vS l])) := Same.upd ha
    have smB : Same H H2 := smA.trans sm2
    have hd0 : H d = none := smA.free hd2
    refine ⟨d, _, ed, trivial, fun od => ?_⟩
    refine ⟨d, od, rfl, .inl ⟨kvF fs, upd_same, fun D hD => ?_⟩⟩
    have ndD : d ≠ D := ne_of_none upd_same hD
    have smC : Same H (upd H2 d (.frz od (.dK (kvF fs)))) := Same.upd2 smB hd0
    have hDH : H D = none := smC.free hD
    have hfl : fs.length ≤ 4 ^ 11 := Nat.le_trans (found_upTo (m := 10) nd fun t ht => by
      obtain ⟨h1, s, h2, h3⟩ := (hf t).mp ht
      refine ⟨by omega, h3.sg2 ?_⟩
      rw [List.mem_singleton.mp h2]
      exact sg) (Nat.le_refl _)
    refine lc_keys (kvF_list fs) (fun i H3 => Same H H3 ∧ H3 d = some (.frz od (.dK (kvF fs))) ∧ H3 D = some (.lst (((fs.take i).filter fun t => decide (t.length = m)).map vS)))
      ⟨Same.upd2 smC hDH, by rw [upd_ne ndD, upd_same], by rw [upd_same]; rfl⟩ (fun i H3 _ h => h.2.1) ?_ ?_
    · rintro i u H3 hu ⟨sm3, e3, e4⟩
      have hul : u.length ≤ 10 := by
        have := ((hf u).mp (List.mem_of_getElem? hu)).1
        omega
      refine ⟨rfl, _, rfl, u, rfl, by omega, _, rfl, _, _, rfl, rfl, _, rfl, ?_⟩
      rw [filt_take _ _ _ _ hu]
      dsimp only
      by_cases c : u.length = m
      · rw [show decide ((u.length : Int) = (m : Int)) = true from decide_eq_true (by omega), decide_eq_true c]
        refine iteT ?_
        refine ⟨_, rfl, _, e4, ?_, Same.upd2 sm3 hDH, by rw [upd_ne ndD]; exact e3, ?_⟩
        · rw [List.length_map]
          refine Nat.lt_of_le_of_lt (Nat.le_trans (List.length_filter_le ..) (Nat.le_trans (by rw [List.length_take]; exact Nat.min_le_right _ _) hfl)) (by decide)
        · rw [upd_same, List.map_append]
          rfl
      · rw [show decide ((u.length : Int) = (m : Int)) = false from decide_eq_false (by omega), decide_eq_false c]
        refine iteF ⟨sm3, e3, ?_⟩
        rw [e4]
        simp
    · rintro H3 ⟨sm3, e3, e4⟩
      rw [List.take_length] at e4
      refine ⟨D, (fs.filter fun t => decide (t.length = m)).map S, rfl, SqL.of (by rw [map_vS]; exact e4), fun ys p2 hys hs hp2 => ?_⟩
      obtain ⟨zs, rfl, hz⟩ := perm_S hys
      refine q _ p2 zs (sm3.free hp2) (Same.upd' sm3 hp2) (by rw [upd_same, map_vS]) (srt_of hs) (hz.symm.nodup (nd.filter _)) fun t => ?_
      rw [hz.mem_iff, List.mem_filter, hf, decide_eq_true_eq]
      constructor
      · rintro ⟨⟨_, s, h1, h2⟩, h3⟩
        rw [List.mem_singleton.mp h1] at h2
        exact ⟨h3, h2⟩
      · rintro ⟨h1, h2⟩
        exact ⟨⟨by omega, _, List.mem_singleton.mpr rfl, h2⟩, h1⟩
end
end Lk

namespace Lk
open PySem PySem.Spec PyProof.Rows L2
/-! ### of every law -/
open Fo
theorem same_but {b : Addr} {H H1 H2 : Hp} (s : Same H H1) (n : H b = none) (e : But b H1 H2) : Same H H2 := fun a o q => e a o (ne_of_none q n) (s a o q)
def sp_law (K : PySem.W.Frag) : Sp := fun vs H Q _ => ∃ (a : Addr) (ns : List Int), vs = [.ref a] ∧ SqL K H a (ns.map V.int) ∧ ns.length ≤ 63 ∧ ∀ H', Q (.bl true) H'
theorem map_get {α : Type} {f : α → V} {xs : List α} {i : Nat} {x : V} (h : (xs.map f)[i]? = some x) : ∃ u, xs[i]? = some u ∧ x = f u := ym_of h
theorem cutV_to {α : Type} (f : α → V) (xs : List α) (n : Nat) : cutV (xs.map f) none (some (n : Int)) = (xs.take n).map f := by
  unfold cutV
  rw [HT.sIx_none, HT.sIx_nat, List.drop_zero, Nat.sub_zero, List.length_map, List.map_take]
  by_cases h : n ≤ xs.length
  · rw [Nat.min_eq_left h]
  · rw [Nat.min_eq_right (by omega), List.take_of_length_le (by rw [List.length_map]; exact Nat.le_refl _), List.take_of_length_le (by rw [List.length_map]; omega)]
/-- x if c else y, both constants -/
theorem ite_tC {c : Bool} {σ : L2.St} {H : Hp} {Q : VK} {x y : V} (h : ∀ v, v = x ∨ v = y → Q v H) : if c = true then tC x σ H Q else tC y σ H Q := by
  cases c
  · exact h y (.inr rfl)
  · exact h x (.inl rfl)
end Lk

namespace Lk
open PySem PySem.Spec PyProof.Rows L2
/-! ### is_from, is_crease, folded -/
open Fo
section
variable {P : Program} {w : World} {K : PySem.W.Frag} {mg : Str → Option Value} {base : Heap}
/-- not an int -/
def NoInt (K : PySem.W.Frag) (H : Hp) (x : V) : Prop := (∃ b, x = .bl b) ∨ ∃ t, TyX K H x t ∧ PySem.W.kitOne K t (.type "int") = some false
def sp_is_from (K : PySem.W.Frag) : Sp := fun vs H Q _ => (∃ x lo hi : Int, vs = [.int x, .int lo, .int hi] ∧ Q (.bl (decide (lo ≤ x ∧ x ≤ hi))) H) ∨
  ∃ (x : V) (lo hi : Int), vs = [x, .int lo, .int hi] ∧ NoInt K H x ∧ Q (.bl false) H
theorem ok_is_from (T : Txt K mg) : Fn P w K mg base CX0 1 "is_from" ["thing", "low", "high"] (sp_is_from K) := by
  refine T.d_is_from.fn fun f fd F => F.ok sc_is_from (fun vs H Q E h => ?_) (fun cdv A outer s H vs Q E hr h => ?_)
  · rcases h with ⟨x, lo, hi, rfl, _⟩ | ⟨x, lo, hi, rfl, _⟩ <;> rfl
  · 
    refine ⟨_, pss_one (ps_ret (pe_and (pe_callB call_isi (by rfl) T.b_isinstance (by decide +kernel) (pa_cons (pv 0) (pa_cons (pe_bltn (v := .ty "int") (by rfl) T.b_int (by decide +kernel) rfl) pa_nil))) (pe_and (pe_not (pe_callB call_isi (by rfl) T.b_isinstance (by decide +kernel) (pa_cons (pv 0) (pa_cons (pe_bltn (v := .ty "bool") (by rfl) T.b_bool (by decide +kernel) rfl) pa_nil)))) (pe_one (pe_chain op_le op_le (pv 1) (pv 0) (pv 2)))))), ?_⟩
    rcases h with ⟨x, lo, hi, rfl, q⟩ | ⟨x, lo, hi, rfl, ⟨b, rfl⟩ | ⟨t, ht, hk⟩, q⟩
    · refine ⟨_, rfl, .int x, .ty "int", .type "int", .type "int", true, rfl, .ty _, .base (.int _), kit_ty (by decide +kernel), true, rfl, iteT ?_⟩
      refine ⟨_, rfl, .int x, .ty "bool", .type "int", .type "bool", false, rfl, .ty _, .base (.int _), kit_ty (by decide +kernel), false, rfl, true, rfl, iteT ?_⟩
      refine ⟨_, rfl, _, rfl, _, _, rfl, rfl, _, rfl, ite2 (fun c => ?_) (fun c => ?_)⟩
      · have c' : lo ≤ x := of_decide_eq_true c
        refine ⟨_, rfl, _, _, rfl, rfl, ?_⟩
        rw [decide_eq_decide.mpr (show (lo ≤ x ∧ x ≤ hi) ↔ x ≤ hi from ⟨fun z => z.2, fun z => ⟨c', z⟩⟩)] at q
        exact q
      · have c' : ¬ lo ≤ x := fun z => c (decide_eq_true z)
        rw [decide_eq_false (fun z => c' z.1)] at q
        exact q
    · refine ⟨_, rfl, .bl b, .ty "int", .type "bool", .type "int", true, rfl, .ty _, .base (.bl _), kit_ty (by decide +kernel), true, rfl, iteT ?_⟩
      exact ⟨_, rfl, .bl b, .ty "bool", .type "bool", .type "bool", true, rfl, .ty _, .base (.bl _), kit_ty (by decide +kernel), true, rfl, false, rfl, q⟩
    · exact ⟨_, rfl, x, .ty "int", t, .type "int", false, rfl, .ty _, ht, hk, false, rfl, q⟩
def sp_is_crease (K : PySem.W.Frag) : Sp := fun vs H Q _ => (∃ (l : L) (x : Int), vs = [vS l, .int x] ∧ l.length ≤ 1000 ∧ Q (.bl (decide (0 ≤ x ∧ Cr l x.toNat))) H) ∨
  ∃ (l : L) (x : V), vs = [vS l, x] ∧ l.length ≤ 1000 ∧ NoInt K H x ∧ Q (.bl false) H
theorem ok_is_crease (T : Txt K mg) : Fn P w K mg base CX0 2 "is_crease" ["strip", "thing"] (sp_is_crease K) := by
  have G_is_from := ok_is_from (P := P) (w := w) (base := base) T
  have G_lies_well := ok_lies_well (P := P) (w := w) (base := base) T
  refine T.d_is_crease.fn fun f fd F => F.ok sc_is_crease (fun vs H Q E h => ?_) (fun cdv A outer s H vs Q E hr h => ?_)
  · rcases h with ⟨l, x, rfl, _⟩ | ⟨l, x, rfl, _⟩ <;> rfl
  · 
    refine ⟨_, pss_one (ps_ret (pe_and (pe_fn G_is_from hr (pa_cons (pv 1) (pa_cons pe_int (pa_cons (pe_op op_sub (pe_callB call_lenS (by rfl) T.b_len PySem.boot_len (pa_cons (pv 0) pa_nil)) pe_int) pa_nil)))) (pe_one (pe_fn G_lies_well hr (pa_cons (pv 0) (pa_cons (pv 1) pa_nil)))))), ?_⟩
    rcases h with ⟨l, x, rfl, hl, q⟩ | ⟨l, x, rfl, hl, hx, q⟩
    · refine ⟨_, rfl, _, rfl, l, rfl, by omega, _, _, rfl, rfl, .inl ⟨x, 1, _, rfl, ?_⟩⟩
      refine ⟨_, rfl, ite2 (fun c => ?_) (fun c => ?_)⟩
      · have c' : 1 ≤ x ∧ x ≤ (l.length : Int) - 1 := of_decide_eq_true c
        refine ⟨_, rfl, _, rfl, l, x.toNat, by show [vS l, V.int x] = [vS l, V.int ((x.toNat : Nat) : Int)]; rw [Int.toNat_of_nonneg (by omega)], hl, by omega, by omega, ?_⟩
        rw [decide_eq_decide.mpr (show (0 ≤ x ∧ Cr l x.toNat) ↔ Lies l x.toNat from ⟨fun z => z.2.2.2, fun z => ⟨by omega, by omega, by omega, z⟩⟩)] at q
        exact q
      · have c' : ¬ (1 ≤ x ∧ x ≤ (l.length : Int) - 1) := fun z => c (decide_eq_true z)
        rw [decide_eq_false (fun z => c' ⟨by have := z.2.1; omega, by have := z.2.2.1; omega⟩)] at q
        exact q
    · exact ⟨_, rfl, _, rfl, l, rfl, by omega, _, _, rfl, rfl, .inr ⟨x, 1, _, rfl, hx, false, rfl, q⟩⟩
theorem ok_folded (T : Txt K mg) : Fn P w K mg base CX0 3 "folded" ["strip", "crease"] (fun vs H Q _ => ∃ (l : L) (c : Nat), vs = [vS l, vI c] ∧ l.length ≤ 1000 ∧ Cr l c ∧ Q (vS (left l c)) H) := by
  have G_is_crease := ok_is_crease (P := P) (w := w) (base := base) T
  have G_left_of := ok_left_of (P := P) (w := w) (base := base) T
  refine T.d_folded.fn fun f fd F => F.ok sc_folded (fun vs H Q E h => ?_) (fun cdv A outer s H vs Q E hr h => ?_)
  · obtain ⟨l, c, rfl, _⟩ := h
    rfl
  · obtain ⟨l, c, rfl, hl, hc, q⟩ := h
    refine ⟨_, pss_cons (ps_if (pt_not (pt_val (pe_fn G_is_crease hr (pa_cons (pv 0) (pa_cons (pv 1) pa_nil)))))
      (pss_one ps_never)
      pss_nil)
    (pss_one (ps_ret (pe_fn G_left_of hr (pa_cons (pv 0) (pa_cons (pv 1) pa_nil))))), ?_⟩
    refine ⟨_, rfl, _, rfl, .inl ⟨l, c, rfl, hl, ?_⟩⟩
    rw [decide_eq_true (show 0 ≤ (c : Int) ∧ Cr l (c : Int).toNat from ⟨by omega, by rw [Int.toNat_natCast]; exact hc⟩)]
    refine ⟨_, rfl, iteF ?_⟩
    exact ⟨_, rfl, _, rfl, l, c, rfl, hl, Nat.le_of_lt hc.2.1, q⟩
end
end Lk

namespace Lk
open PySem PySem.Spec PyProof.Rows L2
/-! ### the law's own of k07 -/
open Fo
section
variable {P : Program} {w : World} {K : PySem.W.Frag} {mg : Str → Option Value} {base : Heap}
theorem ok__law_last (T : Txt K mg) : Fn P w K mg base CX0 3 "_law_last" ["text"] sp_least := by
  have G__law_creases := ok__law_creases (P := P) (w := w) (base := base) T
  have G__law_left := ok__law_left (P := P) (w := w) (base := base) T
  refine T.d__law_last.fn fun f fd F => F.ok sc__law_last (fun vs H Q E h => ?_) (fun cdv A outer s H vs Q E hr h => ?_)
  · obtain ⟨l, rfl, _⟩ := h
    rfl
  · obtain ⟨l, rfl, hl, q⟩ := h
    refine ⟨_, pss_cons (ps_set (i := 1) sc__law_last.nd rfl (.inl rfl) (pe_fn G__law_creases hr (pa_cons (pv 0) pa_nil)))
    (pss_cons (ps_while PassesOwn.never (pt_cmpR (op_neLI hr.units) (pv 1) (pe_lst pa_nil) (nomark _))
      (pss_cons (ps_set (i := 0) sc__law_last.nd rfl (.inl rfl) (pe_fn G__law_left hr (pa_cons (pv 0) (pa_cons (pe_ix ix_list (pv 1) (pe_un un_neg pe_int) (fun _ _ => rfl)) pa_nil))))
      (pss_one (ps_set (i := 1) sc__law_last.nd rfl (.inl rfl) (pe_fn G__law_creases hr (pa_cons (pv 0) pa_nil))))))
    (pss_one (ps_ret (pe_callB (call_minS rfl) (by rfl) T.b_min (by decide +kernel) (pa_cons (pv 0) (pa_cons (pe_revS (pv 0)) pa_nil)))))), ?_⟩
    refine ⟨_, rfl, l, rfl, hl, fun p hp => ?_⟩
    refine ⟨fun m σ H' => ∃ (t : L) (p : Addr), σ = [some (vS t), some (.ref p)] ∧ H' p = some (.lst ((creases t).map vI)) ∧ Same H H' ∧ Comes l t ∧ m = t.length,
      ⟨l.length, l, p, rfl, upd_same, Same.upd hp, .refl l, rfl⟩, ?_⟩
    rintro m σ H' ⟨t, p', rfl, hp', sm, ct, rfl⟩
    have lt := ct.len
    refine ⟨_, rfl, Nat.zero_le _, fun z hz => ?_⟩
    have npz : p' ≠ z := ne_of_none hp' hz
    refine ⟨p', z, creases t, [], rfl, rfl, SqL.of (by rw [upd_ne npz]; exact hp'), SqL.of upd_same, _, rfl, ?_⟩
    have smz := Same.upd' (o := .lst []) sm hz
    have hpz : (upd H' z (.lst [])) p' = some (.lst ((creases t).map vI)) := by rw [upd_ne npz]; exact hp'
    generalize upd H' z (.lst []) = H' at smz hpz ⊢
    by_cases ec : creases t = []
    · rw [show (if true = true then !decide (creases t = []) else decide (creases t = [])) = false by simp [ec]]
      refine iteF ?_
      refine ⟨_, rfl, _, rfl, t, rfl, big (by omega), _, _, rfl, ?_⟩
      have e : (if t.reverse < t then t.reverse else t) = least l := (least_of ct (nf_iff.mpr ec)).symm
      rw [e]
      exact q H' smz
    · rw [show (if true = true then !decide (creases t = []) else decide (creases t = [])) = true by simp [ec]]
      refine iteT ?_
      obtain ⟨c, hc⟩ : ∃ c, (creases t)[(creases t).length - 1]? = some c := by
        refine ⟨_, List.getElem?_eq_getElem (by have := List.length_pos_iff.mpr ec; omega)⟩
      have hcr : Cr t c := mem_creases.mp (List.mem_of_getElem? hc)
      refine ⟨fun σ' H2 => ∃ m', m' < t.length ∧ ∃ (t : L) (p : Addr), σ' = [some (vS t), some (.ref p)] ∧ H2 p = some (.lst ((creases t).map vI)) ∧ Same H H2 ∧ Comes l t ∧ m' = t.length, fun _ _ z => z, ?_⟩
      refine ⟨_, rfl, _, rfl, 1, rfl, p', _, -1, vI c, rfl, rfl, SqL.of hpz, ?_, t, c, rfl, by omega, Nat.le_of_lt hcr.2.1, ?_⟩
      · have hlen := List.length_pos_iff.mpr ec
        show (ixN ((creases t).map vI).length (-1)).bind (fun j => ((creases t).map vI)[j]?) = some (vI c)
        have e1 : ixN ((creases t).map vI).length (-1) = some ((creases t).length - 1) := by
          rw [List.length_map]
          unfold ixN
          simp
          omega
        rw [e1]
        show ((creases t).map vI)[(creases t).length - 1]? = _
        rw [List.getElem?_map, hc]
        rfl
      have ll := left_len hcr
      refine ⟨_, rfl, left t c, rfl, by omega, fun p2 hp2 => ?_⟩
      exact ⟨_, ll.1, left t c, p2, rfl, upd_same, Same.upd' smz hp2, ct.trans (.one hcr), rfl⟩
/-! all texts of some signs, in order -/
def txC (g : L) : Nat → List L
  | 0 => [[]]
  | n + 1 => g.flatMap fun c => (txC g n).map fun t => t ++ [c]
theorem mem_txC {g : L} : ∀ {n : Nat} {t : L}, t ∈ txC g n ↔ t.length = n ∧ ∀ c ∈ t, c ∈ g
  | 0, t => by
    unfold txC
    rw [List.mem_singleton]
    constructor
    · rintro rfl
      exact ⟨rfl, fun c hc => nomatch hc⟩
    · rintro ⟨h, _⟩
      exact List.length_eq_zero_iff.mp h
  | n + 1, t => by
    unfold txC
    rw [List.mem_flatMap]
    constructor
    · rintro ⟨c, hc, h⟩
      obtain ⟨u, hu, rfl⟩ := List.mem_map.mp h
      obtain ⟨h1, h2⟩ := mem_txC.mp hu
      refine ⟨by rw [List.length_append, h1]; rfl, fun x hx => ?_⟩
      rcases List.mem_append.mp hx with hx | hx
      · exact h2 x hx
      · rw [List.mem_singleton.mp hx]
        exact hc
    · rintro ⟨h1, h2⟩
      obtain ⟨u, c, rfl, hu⟩ := snoc_cases h1
      exact ⟨c, h2 c (by simp), List.mem_map.mpr ⟨u, mem_txC.mpr ⟨hu, fun x hx => h2 x (List.mem_append_left _ hx)⟩, rfl⟩⟩
theorem txC_nd {g : L} (hg : g.Nodup) : ∀ n, (txC g n).Nodup
  | 0 => by simp [txC]
  | n + 1 => by
    unfold txC List.Nodup
    rw [List.pairwise_flatMap]
    refine ⟨fun t _ => ?_, hg.imp fun {a b} hab x hx y hy e => ?_⟩
    · rw [List.pairwise_map]
      exact (txC_nd hg n).imp fun {a b} hab e => hab (snoc_inj e).1
    · obtain ⟨c, _, rfl⟩ := List.mem_map.mp hx
      obtain ⟨d, _, rfl⟩ := List.mem_map.mp hy
      exact hab (snoc_inj e).2
theorem txC_len {g : L} (hg : g.length ≤ 4) : ∀ n, (txC g n).length ≤ 4 ^ n
  | 0 => by simp [txC]
  | n + 1 => by
    unfold txC
    rw [List.length_flatMap]
    have h := sum_le (fun c : Nat => ((txC g n).map fun t => t ++ [c]).length) (4 ^ n) g (fun t _ => by rw [List.length_map]; exact txC_len hg n)
    have h2 : g.length * 4 ^ n ≤ 4 * 4 ^ n := Nat.mul_le_mul_right _ hg
    refine Nat.le_trans h (Nat.le_trans h2 ?_)
    rw [Nat.pow_succ]
    omega
theorem flat_snoc' {α β : Type} (f : α → List β) (xs : List α) (i : Nat) (u : α) (h : xs[i]? = some u) : (xs.take (i + 1)).flatMap f = (xs.take i).flatMap f ++ f u := by
  rw [List.take_add_one, h, List.flatMap_append]
  simp
theorem flat_le' {α β : Type} (f : α → List β) (b : Nat) (xs : List α) (h : ∀ x ∈ xs, (f x).length ≤ b) : (xs.flatMap f).length ≤ xs.length * b := by
  rw [List.length_flatMap]
  exact sum_le (fun x => (f x).length) b xs h
theorem pow_small9 {n : Nat} (h : n ≤ 9) : 4 ^ n ≤ 4 ^ 9 := Nat.pow_le_pow_right (by decide) h
def sp_texts : Sp := fun vs H Q _ => ∃ (n : Nat) (g : L), vs = [vI n, vS g] ∧ n ≤ 9 ∧ g.length ≤ 4 ∧ g.Nodup ∧ ∀ H' p (es : List L), H p = none → Same H H' → H' p = some (.lst (es.map vS)) → Srt es → es.Nodup → (∀ t, t ∈ es ↔ t.length = n ∧ ∀ c ∈ t, c ∈ g) → Q (.ref p) H'
theorem ok__law_texts (T : Txt K mg) : Fn P w K mg base CX0 1 "_law_texts" ["long", "signs"] sp_texts := by

  refine T.d__law_texts.fn fun f fd F => F.ok sc__law_texts (fun vs H Q E h => ?_) (fun cdv A outer s H vs Q E hr h => ?_)
  · obtain ⟨n, g, rfl, _⟩ := h
    rfl
  · obtain ⟨n, g, rfl, hn, hg, hgn, q⟩ := h
    refine ⟨_, pss_cons (ps_set (i := 2) sc__law_texts.nd rfl (.inl rfl) (pe_lst (pa_cons pe_str pa_nil)))
    (pss_cons (ps_for PassesOwn.never rfl (pi_range1 rfl T.b_range (pa_cons (pv 0) pa_nil)) (pg_name (i := 3) sc__law_texts.nd rfl (.inl rfl))
      (pss_cons (ps_set (i := 4) sc__law_texts.nd rfl (.inl rfl) (pe_lst pa_nil))
      (pss_cons (ps_for PassesOwn.never rfl (pi_str (pv 1)) (pg_name (i := 5) sc__law_texts.nd rfl (.inr rfl))
        (pss_one (ps_set (i := 4) sc__law_texts.nd rfl (.inl rfl) (pe_op op_cat (pv 4) (pe_lc (own := [("text", 6)]) (g := gName 6) (tt := tYes)  rfl sc__law_texts.nd (pi_list (pv 2)) (blkOk_by (own := [("text", 6)]) (N := ["long", "signs", "found", "turn", "longer", "sign", "text"]) (sc := defScope s__law_texts) (by decide +kernel)) (fun _ _ _ _ _ => pg_name (i := 6) sc__law_texts.nd rfl (Or.inl rfl)) (fun _ _ _ _ _ => pts_nil) (fun _ _ _ _ _ => (pe_op op_catS (pv 6) (pv 5))))))))
      (pss_one (ps_set (i := 2) sc__law_texts.nd rfl (.inl rfl) (pv 4))))))
    (pss_one (ps_ret (pe_callB cr_sortedSA (by rfl) T.b_sorted (by decide +kernel) (pa_cons (pv 2) pa_nil))))), ?_⟩
    refine ⟨(by show 1 ≤ sizeLine; decide), fun p0 hp0 => ?_⟩
    refine ⟨_, rfl, _, rfl, by omega, by omega, ?_⟩
    refine for_range (lo := 0) (n := _) (fun i σ H' => Same H H' ∧ ∃ (p : Addr) (v3 v4 v5 v6 : Option V), σ = [some (vI n), some (vS g), some (.ref p), v3, v4, v5, v6] ∧ H p = none ∧ H' p = some (.lst ((txC g i).map vS)))
      ⟨Same.upd hp0, p0, none, none, none, none, rfl, hp0, upd_same⟩ ?_ ?_
    · rintro i σ H1 hi ⟨sm1, p, v3, v4, v5, v6, rfl, hp0, hp⟩
      have hi7 : i ≤ 9 := by omega
      have hxl : (txC g i).length ≤ 4 ^ 9 := Nat.le_trans (txC_len hg i) (pow_small9 hi7)
      refine ⟨Nat.zero_le _, fun r hr0 => ?_⟩
      have npr : p ≠ r := ne_of_none hp hr0
      refine ⟨_, rfl, _, rfl, ?_⟩
      refine for_it (wk_str g) (fun j σ H2 => Same H H2 ∧ H2 p = some (.lst ((txC g i).map vS)) ∧ ∃ (r : Addr) (v5 v6 : Option V), σ = [some (vI n), some (vS g), some (.ref p), some (.int (0 + (i : Int))), some (.ref r), v5, v6] ∧ H r = none ∧
          H2 r = some (.lst (((g.take j).flatMap fun c => (txC g i).map fun t => t ++ [c]).map vS)))
        ⟨Same.upd' sm1 hr0, by rw [upd_ne npr]; exact hp, r, v5, v6, rfl, sm1.free hr0, by rw [upd_same]; rfl⟩ (fun _ _ _ _ _ => trivial) ?_ ?_
      · rintro j x σ H2 hjl hj ⟨sm2, e1, r, v5, v6, rfl, hrH, e2⟩ ⟨rfl, c, hc, rfl⟩
        refine ⟨_, rfl, _, rfl, p, rfl, ⟨_, SqL.of e1⟩, fun D hD => ?_⟩
        have npD : p ≠ D := ne_of_none e1 hD
        have nrD : r ≠ D := ne_of_none e2 hD
        have hDH : H D = none := sm2.free hD
        refine it_gen (wk_list (K := K) vS (txC g i)) (fun m H3 => Same H H3 ∧ H3 p = some (.lst ((txC g i).map vS)) ∧ H3 r = some (.lst (((g.take j).flatMap fun c => (txC g i).map fun t => t ++ [c]).map vS)) ∧ H3 D = some (.lst ((((txC g i).take m).map fun t => t ++ [c]).map vS)))
          ⟨Same.upd' sm2 hD, by rw [upd_ne npD]; exact e1, by rw [upd_ne nrD]; exact e2, by rw [upd_same]; rfl⟩ (fun m H3 _ h => SqL.of h.2.1) ?_ ?_
        · rintro m x H3 _ hm ⟨sm3, f1, f2, f3⟩ ⟨rfl, u, hu, rfl⟩
          have hul : u.length = i := (mem_txC.mp (List.mem_of_getElem? hu)).1
          refine ⟨rfl, _, rfl, _, rfl, u, [c], rfl, rfl, (by simp only [List.length_singleton]; omega), _, f3, ?_, Same.upd2 sm3 hDH, by rw [upd_ne npD]; exact f1, by rw [upd_ne nrD]; exact f2, ?_⟩
          · rw [List.length_map, List.length_map, List.length_take]
            refine Nat.lt_of_le_of_lt (show _ ≤ 4 ^ 9 by omega) (by decide)
          · rw [upd_same, List.take_add_one, hu]
            simp
        · rintro H3 ⟨sm3, f1, f2, f3⟩
          rw [List.take_length] at f3
          have hfl : (((g.take j).flatMap fun c => (txC g i).map fun t => t ++ [c])).length ≤ 4 * 4 ^ 9 := by
            refine Nat.le_trans (flat_le' _ (4 ^ 9) _ fun t _ => by rw [List.length_map]; exact hxl) (Nat.mul_le_mul_right _ ?_)
            rw [List.length_take]
            omega
          refine ⟨r, D, _, _, rfl, rfl, f2, f3, ?_, fun p2 hp2 => ?_⟩
          · rw [List.length_map, List.length_map, List.length_map]
            refine Nat.le_trans (show _ ≤ 4 * 4 ^ 9 + 4 ^ 9 by omega) (by decide)
          · refine ⟨Same.upd' sm3 hp2, by rw [upd_ne (ne_of_none f1 hp2)]; exact f1, p2, _, _, rfl, sm3.free hp2, ?_⟩
            rw [upd_same, flat_snoc' _ _ _ _ hc, List.map_append]
      · rintro σ H2 ⟨sm2, e1, r, v5, v6, rfl, hrH, e2⟩
        rw [List.take_length] at e2
        exact ⟨_, rfl, sm2, r, _, _, _, _, rfl, hrH, e2⟩
    · rintro σ H1 ⟨sm1, p, v3, v4, v5, v6, rfl, hp0, hp⟩
      rw [Int.toNat_natCast] at hp
      refine ⟨_, rfl, p, (txC g n).map S, rfl, SqL.of (by rw [map_vS]; exact hp), fun ys p2 hys hs hp2 => ?_⟩
      obtain ⟨zs, rfl, hz⟩ := perm_S hys
      exact q _ p2 zs (sm1.free hp2) (Same.upd' sm1 hp2) (by rw [upd_same, map_vS]) (srt_of hs) (hz.symm.nodup (txC_nd hgn n)) fun t => by rw [hz.mem_iff, mem_txC]
/-! comes, remembered -/
/-- the dict of what is known -/
structure Kn (H : Hp) (d : Addr) (kvs : List (Key × V)) : Prop where
  at_ : H d = some (.dK kvs)
  keys : ∃ ks : List L, kvs.map (·.1) = (ks.map S).map Sum.inr ∧ ks.Nodup ∧ ∀ u ∈ ks, u.length ≤ 9 ∧ Sg u
/-- what it tells of those shorter than n is true -/
def Tr (kvs : List (Key × V)) (g : L) (n : Nat) : Prop := ∀ u : L, u.length < n → ∀ v, valV kvs (Sum.inr (S u) : Key) = some v → ∃ b, v = .bl b ∧ (b = true ↔ Comes u g)
theorem Kn.len {H : Hp} {d : Addr} {kvs : List (Key × V)} (k : Kn H d kvs) : kvs.length < sizeLine := by
  obtain ⟨ks, h1, h2, h3⟩ := k.keys
  have e := congrArg List.length h1
  rw [List.length_map, List.length_map, List.length_map] at e
  rw [e]
  exact Nat.lt_of_le_of_lt (found_upTo h2 h3) (by decide)
theorem Kn.put {H H' : Hp} {d : Addr} {kvs : List (Key × V)} (k : Kn H d kvs) {t : L} {v : V} (ht : t.length ≤ 9 ∧ Sg t) (e : H' d = some (.dK (putK kvs (Sum.inr (S t) : Key) v))) : Kn H' d (putK kvs (Sum.inr (S t) : Key) v) := by
  refine ⟨e, ?_⟩
  obtain ⟨ks, h1, h2, h3⟩ := k.keys
  unfold putK
  split
  · refine ⟨ks, ?_, h2, h3⟩
    rw [← h1, List.map_map]
    apply List.map_congr_left
    intro kv _
    show (if kv.1 = Sum.inr (S t) then (kv.1, v) else kv).1 = kv.1
    split <;> rfl
  · rename_i hno
    have hnt : t ∉ ks := fun hm => hno (by
      have h4 : (Sum.inr (S t) : Key) ∈ kvs.map (·.1) := by
        rw [h1]
        exact List.mem_map.mpr ⟨S t, List.mem_map.mpr ⟨t, hm, rfl⟩, rfl⟩
      obtain ⟨kv, k1, k2⟩ := List.mem_map.mp h4
      exact List.any_eq_true.mpr ⟨kv, k1, decide_eq_true k2⟩)
    refine ⟨ks ++ [t], ?_, ?_, fun u hu => ?_⟩
    · rw [List.map_append, h1, List.map_append, List.map_append]
      rfl
    · rw [List.nodup_append]
      refine ⟨h2, by simp, fun a ha b hb => ?_⟩
      rw [List.mem_singleton.mp hb]
      intro e
      rw [e] at ha
      exact hnt ha
    · rcases List.mem_append.mp hu with hu | hu
      · exact h3 u hu
      · rw [List.mem_singleton.mp hu]
        exact ht
def sp_comesR (n : Nat) : Sp := fun vs H Q _ => ∃ (t g : L) (d : Addr) (kvs : List (Key × V)), vs = [vS t, vS g, .ref d] ∧ t.length < n ∧ t.length ≤ 9 ∧ Sg t ∧ g.length ≤ 1000 ∧ Kn H d kvs ∧ Tr kvs g (t.length + 1) ∧
  ∀ H' kvs' b, But d H H' → Kn H' d kvs' → Tr kvs' g (t.length + 1) → (∀ u : L, t.length < u.length → valV kvs' (Sum.inr (S u) : Key) = valV kvs (Sum.inr (S u) : Key)) → (b = true ↔ Comes t g) → Q (.bl b) H'
theorem comes_short {t g : L} (h : t.length ≤ g.length) : Comes t g ↔ t = g := by
  constructor
  · intro a
    cases a with
    | refl => rfl
    | step hc b =>
      have := (left_len hc).1
      have := b.len
      omega
  · rintro rfl
    exact .refl _
theorem comes_long {t g : L} (h : g.length < t.length) : Comes t g ↔ ∃ c ∈ creases t, Comes (left t c) g := by
  constructor
  · intro a
    cases a with
    | refl => omega
    | step hc b => exact ⟨_, mem_creases.mpr hc, b⟩
  · rintro ⟨c, hc, b⟩
    exact .step (mem_creases.mp hc) b
theorem okn__law_comes (T : Txt K mg) : ∀ n, Fn P w K mg base CX0 (n + 3) "_law_comes" ["text", "goal", "known"] (sp_comesR n) := by
  have G__law_creases := ok__law_creases (P := P) (w := w) (base := base) T
  have G__law_left := ok__law_left (P := P) (w := w) (base := base) T
  intro n
  induction n with
  | zero =>
    refine T.d__law_comes.fn fun f fd F => F.ok sc__law_comes (fun vs H Q E h => ?_) (fun cdv A outer s H vs Q E hr h => ?_)
    · obtain ⟨t, g, d, kvs, _, h0, _⟩ := h
      exact absurd h0 (Nat.not_lt_zero _)
    · obtain ⟨t, g, d, kvs, _, h0, _⟩ := h
      exact absurd h0 (Nat.not_lt_zero _)
  | succ n G__law_comes =>
    refine T.d__law_comes.fn fun f fd F => F.ok sc__law_comes (fun vs H Q E h => ?_) (fun cdv A outer s H vs Q E hr h => ?_)
    · obtain ⟨t, g, d, kvs, rfl, _⟩ := h
      rfl
    · obtain ⟨t, g, d, kvs, rfl, htn, ht9, sg, hg, kn, tr, q⟩ := h
      have hu := hu_of hr
      refine ⟨_, pss_cons (ps_if (pt_cmpR op_le (pe_callB call_lenS (by rfl) T.b_len PySem.boot_len (pa_cons (pv 0) pa_nil)) (pe_callB call_lenS (by rfl) T.b_len PySem.boot_len (pa_cons (pv 1) pa_nil)) (nomark _))
        (pss_one (ps_ret (pe_cmpR op_eqS (pv 0) (pv 1) (by rfl))))
        pss_nil)
      (pss_cons (ps_if (pt_cmp (pc_dnotin hu (pv 0) (pv 2)))
        (pss_cons (ps_dput hu (pv 2) (pv 0) pe_bl rfl)
        (pss_one (ps_for PassesOwn.never rfl (pi_list (pe_fn G__law_creases hr (pa_cons (pv 0) pa_nil) (by omega))) (pg_name (i := 3) sc__law_comes.nd rfl (.inl rfl))
          (pss_one (ps_if (PW.pt (pw_and (pt_not (pt_val (pe_dget hu (pv 2) (pv 0) (fun _ _ => rfl)))) (pw_and1 (pt_val (pe_fn G__law_comes hr (pa_cons (pe_fn G__law_left hr (pa_cons (pv 0) (pa_cons (pv 3) pa_nil)) (by omega)) (pa_cons (pv 1) (pa_cons (pv 2) pa_nil))) (by omega))))))
            (pss_one (ps_dput hu (pv 2) (pv 0) pe_bl rfl))
            pss_nil)))))
        pss_nil)
      (pss_one (ps_ret (pe_dget hu (pv 2) (pv 0) (fun _ _ => rfl))))), ?_⟩
      refine ⟨_, rfl, t, rfl, by omega, _, rfl, g, rfl, by omega, _, _, rfl, rfl, _, rfl, ite2 (fun c => ?_) (fun c => ?_)⟩
      · have c' : (t.length : Int) ≤ (g.length : Int) := of_decide_eq_true c
        refine ⟨_, rfl, _, rfl, t, g, rfl, rfl, ?_⟩
        exact q H kvs _ (But.refl d H) kn tr (fun _ _ => rfl) (by rw [decide_eq_true_eq, comes_short (by omega)])
      · have c' : ¬ (t.length : Int) ≤ (g.length : Int) := fun z => c (decide_eq_true z)
        have hlong := comes_long (t := t) (g := g) (by omega)
        refine ⟨_, rfl, _, rfl, d, _, rfl, DGet.k (k := Sum.inr (S t)) kn.at_, _, rfl, ?_⟩
        cases ev : valV kvs (Sum.inr (S t) : Key) with
        | some v =>
          refine iteF ?_
          obtain ⟨b, rfl, hb⟩ := tr t (Nat.lt_succ_self _) v ev
          refine ⟨_, rfl, _, rfl, d, .bl b, rfl, ev ▸ DGet.k (k := Sum.inr (S t)) kn.at_, ?_⟩
          exact q H kvs b (But.refl d H) kn tr (fun _ _ => rfl) hb
        | none =>
          refine iteT ?_
          refine ⟨_, rfl, _, rfl, d, _, rfl, DPut.k (k := Sum.inr (S t)) kn.at_ kn.len, ?_⟩
          have kn1 : Kn (upd H d (.dK (putK kvs (Sum.inr (S t) : Key) (.bl false)))) d (putK kvs (Sum.inr (S t) : Key) (.bl false)) := kn.put ⟨ht9, sg⟩ upd_same
          have bt1 : But d H (upd H d (.dK (putK kvs (Sum.inr (S t) : Key) (.bl false)))) := fun a o n e => by rw [upd_ne n]; exact e
          have v1 : valV (putK kvs (Sum.inr (S t) : Key) (V.bl false)) (Sum.inr (S t) : Key) = some (.bl false) := by rw [valV_put, if_pos rfl]
          have v2 : ∀ u : L, u ≠ t → valV (putK kvs (Sum.inr (S t) : Key) (V.bl false)) (Sum.inr (S u) : Key) = valV kvs (Sum.inr (S u) : Key) := fun u hne => by rw [valV_put, if_neg fun z => hne (inrS.mp z)]
          generalize upd H d (.dK (putK kvs (Sum.inr (S t) : Key) (.bl false))) = H1 at kn1 bt1 ⊢
          generalize putK kvs (Sum.inr (S t) : Key) (V.bl false) = kv1 at kn1 v1 v2
          refine ⟨_, rfl, t, rfl, by omega, fun cp hcp => ?_⟩
          have ndc : d ≠ cp := ne_of_none kn1.at_ hcp
          refine ⟨cp, rfl, ⟨_, SqL.of upd_same⟩, ?_⟩
          refine for_it (wk_list (K := K) vI (creases t)) (fun i σ H3 => But d H H3 ∧ H3 cp = some (.lst ((creases t).map vI)) ∧ ∃ (v3 : Option V) (kv3 : List (Key × V)) (b : Bool), σ = [some (vS t), some (vS g), some (.ref d), v3] ∧ Kn H3 d kv3 ∧
              valV kv3 (Sum.inr (S t) : Key) = some (.bl b) ∧ (b = true ↔ ∃ c ∈ (creases t).take i, Comes (left t c) g) ∧ Tr kv3 g t.length ∧ (∀ u : L, t.length < u.length → valV kv3 (Sum.inr (S u) : Key) = valV kvs (Sum.inr (S u) : Key)) ∧
              (∀ u : L, t.length = u.length → u ≠ t → valV kv3 (Sum.inr (S u) : Key) = valV kvs (Sum.inr (S u) : Key)))
            ⟨bt1.same (Same.upd hcp), upd_same, none, kv1, false, rfl, ⟨by rw [upd_ne ndc]; exact kn1.at_, kn1.keys⟩, v1, ⟨fun z => (nomatch z), fun ⟨_, z, _⟩ => (nomatch z)⟩, fun u hu v hv => tr u (by omega) v (by rw [← v2 u (fun e => by rw [e] at hu; omega)]; exact hv), fun u hu => v2 u (fun e => by rw [e] at hu; omega), fun u _ hne => v2 u hne⟩
            (fun i σ H3 _ h => SqL.of h.2.1) ?_ ?_
          · rintro i x σ H3 _ hi ⟨bt3, e3, v3, kv3, b, rfl, kn3, w1, w2, w3, w4, w5⟩ ⟨rfl, c, hc, rfl⟩
            have hcr : Cr t c := mem_creases.mp (List.mem_of_getElem? hc)
            have hll := left_len hcr
            refine ⟨_, rfl, _, rfl, d, .bl b, rfl, w1 ▸ DGet.k (k := Sum.inr (S t)) kn3.at_, b, rfl, ?_⟩
            cases b with
            | true =>
              refine iteF (iteF ?_)
              refine ⟨bt3, e3, _, kv3, true, rfl, kn3, w1, ⟨fun _ => ?_, fun _ => rfl⟩, w3, w4, w5⟩
              obtain ⟨c0, h0, h1⟩ := w2.mp rfl
              exact ⟨c0, by rw [List.take_add_one]; exact List.mem_append_left _ h0, h1⟩
            | false =>
              refine iteT ?_
              refine ⟨_, rfl, _, rfl, t, c, rfl, by omega, Nat.le_of_lt hcr.2.1, ?_⟩
              refine ⟨_, rfl, _, rfl, left t c, g, d, kv3, rfl, by omega, by omega, sg.comes (.one hcr), hg, kn3, fun u hu => w3 u (by omega), fun H4 kv4 b bt4 kn4 tr4 fr4 hb => ?_⟩
              have e4 := bt4 _ _ ndc.symm e3
              have x1 : valV kv4 (Sum.inr (S t) : Key) = some (.bl false) := by rw [fr4 t hll.1]; exact w1
              have x3 : Tr kv4 g t.length := fun u hu v hv => by
                by_cases hs : u.length < (left t c).length + 1
                · exact tr4 u hs v hv
                · exact w3 u hu v (by rw [← fr4 u (by omega)]; exact hv)
              have hno : ¬ ∃ c ∈ (creases t).take i, Comes (left t c) g := fun z => by cases w2.mpr z
              refine ⟨b, rfl, ?_⟩
              cases b with
              | false =>
                refine iteF ⟨bt3.trans bt4, e4, _, kv4, false, rfl, kn4, x1, ⟨fun z => (nomatch z), fun ⟨c0, h0, h1⟩ => ?_⟩, x3, fun u hu => by rw [fr4 u (by omega)]; exact w4 u hu, fun u hu hne => by rw [fr4 u (by omega)]; exact w5 u hu hne⟩
                rw [List.take_add_one, hc] at h0
                rcases List.mem_append.mp h0 with h0 | h0
                · exact absurd ⟨c0, h0, h1⟩ hno
                · have : c0 = c := by simpa using h0
                  rw [this] at h1
                  cases hb.mpr h1
              | true =>
                refine iteT ?_
                refine ⟨_, rfl, _, rfl, d, _, rfl, DPut.k (k := Sum.inr (S t)) kn4.at_ kn4.len, ?_⟩
                have y2 : ∀ u : L, u ≠ t → valV (putK kv4 (Sum.inr (S t) : Key) (V.bl true)) (Sum.inr (S u) : Key) = valV kv4 (Sum.inr (S u) : Key) := fun u hne => by rw [valV_put, if_neg fun z => hne (inrS.mp z)]
                refine ⟨fun a o n e => by rw [upd_ne n]; exact (bt3.trans bt4) a o n e, by rw [upd_ne ndc.symm]; exact e4, _, putK kv4 (Sum.inr (S t) : Key) (.bl true), true, rfl, kn4.put ⟨ht9, sg⟩ upd_same, by rw [valV_put, if_pos rfl], ⟨fun _ => ⟨c, ?_, hb.mp rfl⟩, fun _ => rfl⟩, fun u hu v hv => x3 u hu v (by rw [← y2 u (fun e => by rw [e] at hu; omega)]; exact hv), fun u hu => ?_, fun u hu hne => ?_⟩
                · rw [List.take_add_one, hc]
                  exact List.mem_append_right _ (by simp)
                · rw [y2 u (fun e => by rw [e] at hu; omega), fr4 u (by omega)]
                  exact w4 u hu
                · rw [y2 u hne, fr4 u (by omega)]
                  exact w5 u hu hne
          · rintro σ H3 ⟨bt3, e3, v3, kv3, b, rfl, kn3, w1, w2, w3, w4, w5⟩
            rw [List.take_length, ← hlong] at w2
            refine ⟨_, rfl, _, rfl, d, .bl b, rfl, w1 ▸ DGet.k (k := Sum.inr (S t)) kn3.at_, ?_⟩
            refine q H3 kv3 b bt3 kn3 (fun u hu v hv => ?_) w4 w2
            by_cases e : u.length < t.length
            · exact w3 u e v hv
            · by_cases e2 : u = t
              · subst e2
                rw [w1] at hv
                exact ⟨b, (Option.some.inj hv).symm, w2⟩
              · rw [w5 u (by omega) e2] at hv
                exact tr u hu v hv
theorem ok__law_comes (T : Txt K mg) : Fn P w K mg base CX0 13 "_law_comes" ["text", "goal", "known"] (sp_comesR 10) := okn__law_comes T 10
end
end Lk

namespace Lk
open PySem PySem.Spec PyProof.Rows L2
/-! ### the law -/
open Fo
section
variable {P : Program} {w : World} {K : PySem.W.Frag} {mg : Str → Option Value} {base : Heap}
theorem ok_law (T : Txt K mg) {f : Addr} {fd : FuncData} (F : Fun K "law" "law" s_law f fd) : FnOk P w K mg base CX0 60 f fd ["script"] (sp_law K) := by
  have G__law_bag := ok__law_bag (P := P) (w := w) (base := base) T
  have G__law_comes := ok__law_comes (P := P) (w := w) (base := base) T
  have G__law_last := ok__law_last (P := P) (w := w) (base := base) T
  have G__law_of := ok__law_of (P := P) (w := w) (base := base) T
  have G__law_take := ok__law_take (P := P) (w := w) (base := base) T
  have G__law_texts := ok__law_texts (P := P) (w := w) (base := base) T
  have G_folded := ok_folded (P := P) (w := w) (base := base) T
  have G_kin_of := ok_kin_of (P := P) (w := w) (base := base) T
  have G_least := ok_least (P := P) (w := w) (base := base) T
  have G_over := ok_over (P := P) (w := w) (base := base) T
  have G_unfolded := ok_unfolded (P := P) (w := w) (base := base) T
  refine F.ok sc_law (fun vs H Q E h => ?_) (fun cdv A outer s H vs Q E hr h => ?_)
  · obtain ⟨a, ns, rfl, _⟩ := h
    rfl
  · obtain ⟨a, ns, rfl, hS, hlen, q⟩ := h
    have hu := hu_of hr
    refine ⟨_, pss_cons (ps_for PassesOwn.never rfl (pi_range1 rfl T.b_range (pa_cons (pe_op op_add (pe_callB (call_min2 rfl) (by rfl) T.b_min (by decide +kernel) (pa_cons (pe_callB call_len_seq (by rfl) T.b_len PySem.boot_len (pa_cons (pv 0) pa_nil)) (pa_cons pe_int pa_nil))) pe_int) pa_nil)) (pg_name (i := 1) sc_law.nd rfl (.inl rfl))
      (pss_cons (ps_set (i := 2) sc_law.nd rfl (.inr rfl) (pe_fn G__law_bag hr (pa_cons (pv 0) (pa_cons (pv 1) pa_nil))))
      (pss_cons (ps_set (i := 3) sc_law.nd rfl (.inr rfl) (pe_fn G__law_of hr (pa_cons (pv 2) (pa_cons (pe_lst (pa_cons pe_str (pa_cons pe_str (pa_cons pe_str pa_nil)))) pa_nil))))
      (pss_cons (ps_set (i := 4) sc_law.nd rfl (.inr rfl) (pe_joinS pe_str (pe_lc (own := [("turn", 11)]) (g := gName 11) (tt := tYes)  rfl sc_law.nd (pi_range1 rfl T.b_range (pa_cons (pe_op op_add pe_int (pe_fn G__law_take hr (pa_cons (pv 2) (pa_cons pe_int pa_nil)))) pa_nil)) (blkOk_by (own := [("turn", 11)]) (N := ["script", "k", "bag", "signs", "text", "many", "wide", "long", "every", "last", "known", "turn", "one"]) (sc := defScope s_law) (by decide +kernel)) (fun _ _ _ _ _ => pg_name (i := 11) sc_law.nd rfl (Or.inl rfl)) (fun _ _ _ _ _ => pts_nil) (fun _ _ _ _ _ => (pe_fn G__law_of hr (pa_cons (pv 2) (pa_cons (pv 3) pa_nil)))))))
      (pss_cons (ps_for PassesOwn.never rfl (pi_range2 rfl T.b_range (pa_cons pe_int (pa_cons (pe_op op_add (pe_callB call_lenS (by rfl) T.b_len PySem.boot_len (pa_cons (pv 4) pa_nil)) pe_int) pa_nil))) (pg_name (i := 5) sc_law.nd rfl (.inl rfl))
        (pss_cons (ps_set (i := 6) sc_law.nd rfl (.inl rfl) (pe_fn G_unfolded hr (pa_cons (pv 4) (pa_cons pe_int (pa_cons (pv 5) pa_nil)))))
        (pss_cons (ps_if (PW.pt (pw_or (pt_cmpR op_neI (pe_callB call_lenS (by rfl) T.b_len PySem.boot_len (pa_cons (pv 6) pa_nil)) (pe_op op_add (pe_callB call_lenS (by rfl) T.b_len PySem.boot_len (pa_cons (pv 4) pa_nil)) (pv 5)) (nomark _)) (pw_or (pt_cmpR op_neS (pe_fn G_folded hr (pa_cons (pv 6) (pa_cons (pv 5) pa_nil))) (pv 4) (nomark _)) (pw_or1 (pt_cmpR op_neS (pe_slice sl_S (pv 6) (po_some (pv 5)) po_none) (pv 4) (nomark _))))))
          (pss_one (ps_ret pe_bl))
          pss_nil)
        (pss_one (ps_if (pt_cmpR op_lt (pv 5) (pe_callB call_lenS (by rfl) T.b_len PySem.boot_len (pa_cons (pv 4) pa_nil)) (nomark _))
          (pss_cons (ps_set (i := 6) sc_law.nd rfl (.inl rfl) (pe_fn G_unfolded hr (pa_cons (pv 4) (pa_cons pe_int (pa_cons (pv 5) pa_nil)))))
          (pss_one (ps_if (PW.pt (pw_or (pt_cmpR op_neI (pe_callB call_lenS (by rfl) T.b_len PySem.boot_len (pa_cons (pv 6) pa_nil)) (pe_op op_add (pe_callB call_lenS (by rfl) T.b_len PySem.boot_len (pa_cons (pv 4) pa_nil)) (pv 5)) (nomark _)) (pw_or1 (pt_cmpR op_neS (pe_fn G_folded hr (pa_cons (pv 6) (pa_cons (pe_callB call_lenS (by rfl) T.b_len PySem.boot_len (pa_cons (pv 4) pa_nil)) pa_nil))) (pv 4) (nomark _)))))
            (pss_one (ps_ret pe_bl))
            pss_nil)))
          pss_nil)))))
      (pss_cons (ps_set (i := 7) sc_law.nd rfl (.inl rfl) (pe_op op_add pe_int (pe_fn G__law_take hr (pa_cons (pv 2) (pa_cons (pe_ifExp (pt_cmpR op_eqS (pv 3) pe_str (nomark _)) pe_int pe_int) pa_nil)))))
      (pss_cons (ps_asg (pe_tup (pa_cons (pe_fn G__law_texts hr (pa_cons (pv 7) (pa_cons (pv 3) pa_nil))) (pa_cons (pe_fn G__law_last hr (pa_cons (pv 4) pa_nil)) (pa_cons pe_dnewK pa_nil)))) (pg_tup rfl (pgs_cons (pg_name (i := 8) sc_law.nd rfl (.inl rfl)) (pgs_cons (pg_name (i := 9) sc_law.nd rfl (.inr rfl)) (pgs_cons (pg_name (i := 10) sc_law.nd rfl (.inr rfl)) pgs_nil)))))
      (pss_cons (ps_if (pt_cmpR (op_neLS hr.units) (pe_fn G_over hr (pa_cons (pv 4) (pa_cons (pv 7) pa_nil))) (pe_lc (own := [("one", 12)]) (g := gName 12)  rfl sc_law.nd (pi_list (pv 8)) (blkOk_by (own := [("one", 12)]) (N := ["script", "k", "bag", "signs", "text", "many", "wide", "long", "every", "last", "known", "turn", "one"]) (sc := defScope s_law) (by decide +kernel)) (fun _ _ _ _ _ => pg_name (i := 12) sc_law.nd rfl (Or.inl rfl)) (fun _ _ _ _ _ => pts_one (pt_val (pe_fn G__law_comes hr (pa_cons (pv 12) (pa_cons (pv 4) (pa_cons (pv 10) pa_nil)))))) (fun _ _ _ _ _ => (pv 12))) (nomark _))
        (pss_one (ps_ret pe_bl))
        pss_nil)
      (pss_cons (ps_if (pt_cmpR (op_neLS hr.units) (pe_fn G_kin_of hr (pa_cons (pv 4) (pa_cons (pv 7) pa_nil))) (pe_lc (own := [("one", 12)]) (g := gName 12)  rfl sc_law.nd (pi_list (pv 8)) (blkOk_by (own := [("one", 12)]) (N := ["script", "k", "bag", "signs", "text", "many", "wide", "long", "every", "last", "known", "turn", "one"]) (sc := defScope s_law) (by decide +kernel)) (fun _ _ _ _ _ => pg_name (i := 12) sc_law.nd rfl (Or.inl rfl)) (fun _ _ _ _ _ => pts_one (pt_cmpR op_eqS (pe_fn G__law_last hr (pa_cons (pv 12) pa_nil)) (pv 9) (nomark _))) (fun _ _ _ _ _ => (pv 12))) (nomark _))
        (pss_one (ps_ret pe_bl))
        pss_nil)
      (pss_cons (ps_if (PW.pt (pw_or (pt_cmpR (op_neLS hr.units) (pe_fn G_over hr (pa_cons (pv 4) (pa_cons (pe_callB call_lenS (by rfl) T.b_len PySem.boot_len (pa_cons (pv 4) pa_nil)) pa_nil))) (pe_lst (pa_cons (pv 4) pa_nil)) (nomark _)) (pw_or (pt_cmpR op_notinLS (pv 4) (pe_fn G_kin_of hr (pa_cons (pv 4) (pa_cons (pe_callB call_lenS (by rfl) T.b_len PySem.boot_len (pa_cons (pv 4) pa_nil)) pa_nil))) (by with_unfolding_all rfl)) (pw_or1 (pt_cmpR op_neS (pe_fn G_least hr (pa_cons (pv 4) pa_nil)) (pv 9) (nomark _))))))
        (pss_one (ps_ret pe_bl))
        pss_nil)
      (pss_cons (ps_expr (pe_bm PySem.F.plainAttrs_list PySem.F.slot_list_append PySem.F.type_list_append mt_append (pe_fn G_over hr (pa_cons (pv 4) (pa_cons (pv 7) pa_nil))) (pa_cons pe_str pa_nil)))
      (pss_one (ps_if (pt_cmpR (op_eqLS hr.units) (pe_fn G_over hr (pa_cons (pv 4) (pa_cons (pe_op op_add (pe_callB call_lenS (by rfl) T.b_len PySem.boot_len (pa_cons (pv 4) pa_nil)) pe_int) pa_nil))) (pe_lst pa_nil) (nomark _))
        (pss_one (ps_ret pe_bl))
        pss_nil)))))))))))))
    (pss_one (ps_ret pe_bl)), ?_⟩
    refine ⟨_, rfl, a, _, rfl, .inl hS, _, _, rfl, _, _, rfl, rfl, _, rfl, ?_, ?_, ?_⟩
    · split <;> (try rw [List.length_map]) <;> omega
    · split <;> (try rw [List.length_map]) <;> omega
    refine for_range (lo := 0) (n := _) (fun i σ H' => Same H H' ∧ ∃ v1 v2 v3 v4 v5 v6 v7 v8 v9 v10 v11 v12 : Option V, σ = [some (.ref a), v1, v2, v3, v4, v5, v6, v7, v8, v9, v10, v11, v12]) ⟨Same.refl H, none, none, none, none, none, none, none, none, none, none, none, none, rfl⟩ ?_ ?_
    · rintro i σ H1 hi ⟨sm1, v1, v2, v3, v4, v5, v6, v7, v8, v9, v10, v11, v12, rfl⟩
      have hi' : i ≤ 20 := by
        revert hi
        split <;> omega
      -- bag, signs
      refine ⟨_, rfl, _, rfl, a, ns, _, rfl, sm1.seq hS, by omega, by omega, fun b H2 hb2 sm2 bag2 => ?_⟩
      have smb : Same H H2 := sm1.trans sm2
      have fb : H b = none := sm1.free hb2
      refine ⟨_, rfl, (by show 3 ≤ sizeLine; decide), fun lp hlp => ?_⟩
      have nbl := bag2.ne hlp
      refine .inr ⟨b, lp, [vS [97, 98], vS [97, 98], vS [97, 98, 99]], rfl, bag2.upd nbl, SqL.of upd_same, nbl.symm, by simp, by show 3 ≤ 1000; decide, fun x H3 bt3 bag3 hx => ?_⟩
      have sm3 : Same H H3 := same_but (Same.upd' smb hlp) fb bt3
      obtain ⟨g, rfl, hg⟩ : ∃ g : L, x = vS g ∧ (g = [97, 98] ∨ g = [97, 98, 99]) := by
        simp only [List.mem_cons, List.not_mem_nil, or_false] at hx
        rcases hx with rfl | rfl | rfl
        · exact ⟨_, rfl, .inl rfl⟩
        · exact ⟨_, rfl, .inl rfl⟩
        · exact ⟨_, rfl, .inr rfl⟩
      have hg4 : g.length ≤ 4 ∧ g.Nodup ∧ g ≠ [] ∧ Sg g := by
        rcases hg with rfl | rfl
        · exact ⟨by decide, by decide, by decide, fun c hc => by simp at hc; omega⟩
        · exact ⟨by decide, by decide, by decide, fun c hc => by simp at hc; omega⟩
      obtain ⟨hgl, hgn, hg0, hgs⟩ := hg4
      -- text
      refine ⟨⟨S [], rfl⟩, _, rfl, b, 6, rfl, bag3, by decide, by decide, fun r H4 bt4 bag4 r0 r1 => ?_⟩
      have sm4 : Same H H4 := same_but sm3 fb bt4
      refine ⟨1, r, rfl, rfl, 1 + r, rfl, by omega, by omega, fun D hD => ?_⟩
      have nDb : b ≠ D := bag4.ne hD
      have fD : H D = none := sm4.free hD
      refine lc_range (lo := 0) (n := (1 + r).toNat) (fun i H2 => Same H H2 ∧ Bag H2 b ∧ ∃ ys : List L, H2 D = some (.lst (ys.map vS)) ∧ ys.length = i ∧ (∀ y ∈ ys, y.length = 1) ∧ ∀ c ∈ ys.flatten, c ∈ g)
        ⟨Same.upd' sm4 hD, bag4.upd nDb, [], upd_same, rfl, (fun y hy => nomatch hy), (fun c hc => nomatch hc)⟩ ?_ ?_
      · rintro j H2 hj ⟨sm2, hb2, ys, hys, el, e1, e2⟩
        refine ⟨rfl, _, rfl, _, rfl, ?_⟩
        refine .inl ⟨b, g, rfl, hb2, hg0, by omega, fun c H3 bt3 hb3 hc => ?_⟩
        refine ⟨ys.map vS, bt3 _ _ nDb.symm hys, ?_, ?_⟩
        · rw [List.length_map, el]
          exact small1000 (by omega)
        · refine ⟨Same.upd2 (same_but sm2 fb bt3) fD, hb3.upd nDb, ys ++ [[c]], ?_, ?_, ?_, ?_⟩
          · rw [upd_same, List.map_append]
            rfl
          · rw [List.length_append, el]
            rfl
          · intro y hy
            rcases List.mem_append.mp hy with hy | hy
            · exact e1 y hy
            · rw [List.mem_singleton.mp hy]
              rfl
          · intro x hx
            rw [List.flatten_append] at hx
            rcases List.mem_append.mp hx with hx | hx
            · exact e2 x hx
            · have : x = c := by simpa using hx
              rw [this]
              exact hc
      rintro H5 ⟨sm5, bag5, ys, hys, el, e1, e2⟩
      have efl : ys.flatten.length = ys.length := by
        rw [List.length_flatten]
        clear e2 hys el
        induction ys with
        | nil => rfl
        | cons y r ih =>
          rw [List.map_cons, List.sum_cons, ih fun z hz => e1 z (List.mem_cons_of_mem _ hz), e1 y (List.mem_cons_self ..), List.length_cons]
          omega
      have esum : (ys.map (·.length)).sum = ys.length := by rw [← List.length_flatten, efl]
      refine ⟨[], D, ys, rfl, rfl, .inl (SqL.of hys), by rw [esum, el]; simp only [List.length_nil, Nat.mul_zero]; omega, ?_⟩
      rw [joinL_flat]
      obtain ⟨l, hl⟩ : ∃ l, l = ys.flatten := ⟨_, rfl⟩
      rw [← hl]
      have l1 : 1 ≤ l.length := by rw [hl, efl]; omega
      have l6 : l.length ≤ 6 := by rw [hl, efl]; omega
      have hlg : ∀ c ∈ l, c ∈ g := fun c hc => e2 c (by rw [← hl]; exact hc)
      have sg : Sg l := fun c hc => hgs c (hlg c hc)
      clear hl esum efl e2 e1 el hys
      -- unfolded and folded back
      refine ⟨_, rfl, l, rfl, by omega, _, _, rfl, rfl, 1, _, rfl, ⟨by decide, by decide, by omega, by omega⟩, ?_⟩
      refine for_range (lo := 1) (n := _) (fun j σ H' => H' = H5 ∧ ∃ v5 v6 : Option V, σ = [some (.ref a), some (.int (0 + (i : Int))), some (.ref b), some (vS g), some (vS l), v5, v6, v7, v8, v9, v10, v11, v12]) ⟨rfl, v5, v6, rfl⟩ ?_ ?_
      · rintro j σ H' hj ⟨rfl, v5, v6, rfl⟩
        obtain ⟨m, ej, m1, m2⟩ : ∃ m : Nat, (1 : Int) + (j : Int) = (m : Int) ∧ 1 ≤ m ∧ m ≤ l.length := ⟨1 + j, by omega, by omega, by omega⟩
        rw [ej]
        have hw0 : (0, m) ∈ waysL l.length := mem_ways.mpr (.inl ⟨rfl, m1, m2⟩)
        have hu0 := unfL_len hw0
        have eu0 : unfL l (0, m) = (l.take m).reverse ++ l := by unfold unfL; rw [if_pos rfl]
        obtain ⟨hc0, hf0⟩ := unf_left m1 m2
        rw [← eu0] at hc0 hf0
        refine ⟨_, rfl, _, rfl, l, 0, m, rfl, by omega, hw0, ?_⟩
        refine ⟨_, rfl, _, rfl, by rw [hu0]; show l.length + m ≤ 1000000; omega, _, rfl, l, rfl, by omega, _, rfl, _, _, rfl, rfl, _, _, rfl, rfl, _, rfl, iteNS (show ((unfL l (0, m)).length : Int) = (l.length : Int) + (m : Int) by rw [hu0]; show ((l.length + m : Nat) : Int) = _; omega) ?_⟩
        refine ⟨_, rfl, _, rfl, unfL l (0, m), m, rfl, by rw [hu0]; show l.length + m ≤ 1000; omega, hc0, _, rfl, _, _, rfl, rfl, _, rfl, iteNS hf0 ?_⟩
        have hcut : cutL (unfL l (0, m)) (some (m : Int)) none = l := by
          rw [cut_from _ (by omega), Int.toNat_natCast, eu0, List.drop_append_of_le_length (by rw [List.length_reverse, List.length_take]; omega), List.drop_of_length_le (by rw [List.length_reverse, List.length_take]; omega), List.nil_append]
        refine ⟨_, rfl, _, rfl, _, rfl, _, rfl, by rw [hu0]; show l.length + m ≤ 1000000; omega, _, rfl, _, _, rfl, rfl, _, rfl, iteNS hcut ?_⟩
        refine ⟨_, rfl, _, rfl, l, rfl, by omega, _, _, rfl, rfl, _, rfl, ite2 (fun c => ?_) (fun c => ?_)⟩
        · have c' : (m : Int) < (l.length : Int) := of_decide_eq_true c
          have hw1 : (1, m) ∈ waysL l.length := mem_ways.mpr (.inr ⟨rfl, m1, by show m < l.length; omega⟩)
          have hu1 := unfL_len hw1
          have eu1 : unfL l (1, m) = l ++ (l.drop (l.length - m)).reverse := by unfold unfL; rw [if_neg (by show ¬ 1 = 0; decide)]
          obtain ⟨hc1, hf1, _⟩ := unf_right m1 m2
          have hf1 := hf1 (by omega)
          rw [← eu1] at hc1 hf1
          refine ⟨_, rfl, _, rfl, l, 1, m, rfl, by omega, hw1, ?_⟩
          refine ⟨_, rfl, _, rfl, by rw [hu1]; show l.length + m ≤ 1000000; omega, _, rfl, l, rfl, by omega, _, rfl, _, _, rfl, rfl, _, _, rfl, rfl, _, rfl, iteNS (show ((unfL l (1, m)).length : Int) = (l.length : Int) + (m : Int) by rw [hu1]; show ((l.length + m : Nat) : Int) = _; omega) ?_⟩
          refine ⟨_, rfl, _, rfl, l, rfl, by omega, unfL l (1, m), l.length, rfl, by rw [hu1]; show l.length + m ≤ 1000; omega, hc1, _, rfl, _, _, rfl, rfl, _, rfl, iteNS hf1 ?_⟩
          exact ⟨rfl, _, _, rfl⟩
        · exact ⟨rfl, _, _, rfl⟩
      · rintro σ H' ⟨rfl, v5, v6, rfl⟩
        -- long
        refine ⟨_, rfl, _, rfl, _, _, rfl, rfl, _, rfl, ?_⟩
        refine ite_tC fun v hv => ?_
        obtain ⟨k, rfl, k1, k2⟩ : ∃ k : Int, v = .int k ∧ 7 ≤ k ∧ k ≤ 9 := by
          rcases hv with rfl | rfl
          · exact ⟨9, rfl, by decide, by decide⟩
          · exact ⟨7, rfl, by decide, by decide⟩
        refine ⟨b, k, rfl, bag5, by omega, by omega, fun r2 H6 bt6 bag6 r20 r21 => ?_⟩
        refine ⟨_, _, rfl, rfl, ?_⟩
        obtain ⟨n, hn, n1, n2⟩ : ∃ n : Nat, 1 + r2 = (n : Int) ∧ 1 ≤ n ∧ n ≤ 9 := ⟨(1 + r2).toNat, by omega, by omega, by omega⟩
        dsimp only
        rw [hn]
        have sm6 : Same H H6 := same_but sm5 fb bt6
        clear sm5 bag5 bt6
        -- every, last, known
        refine ⟨_, rfl, _, rfl, n, g, rfl, n2, hgl, hgn, fun H7 e es he sm7 hes sre nde hme => ?_⟩
        refine ⟨_, rfl, l, rfl, by omega, fun H8 sm8 => fun d hd => ?_⟩
        have hes8 := sm8 _ _ hes
        have ned : e ≠ d := ne_of_none hes8 hd
        have sm8H := (sm6.trans sm7).trans sm8
        refine ⟨(by show 3 ≤ sizeLine; decide), fun tp htp => ?_⟩
        have ndt : d ≠ tp := ne_of_none upd_same htp
        refine ⟨tp, _, rfl, SqT.of upd_same, rfl, _, _, rfl, _, _, rfl, _, _, rfl, rfl, ?_⟩
        have htp8 : H8 tp = none := by rw [upd_ne ndt.symm] at htp; exact htp
        have sm9 : Same H (upd (upd H8 d (.dK [])) tp (.tup [.ref e, vS (least l), .ref d])) := Same.upd' (Same.upd' sm8H hd) htp
        have ed9 : (upd (upd H8 d (.dK [])) tp (.tup [.ref e, vS (least l), .ref d])) d = some (.dK []) := by rw [upd_ne ndt, upd_same]
        have ee9 : (upd (upd H8 d (.dK [])) tp (.tup [.ref e, vS (least l), .ref d])) e = some (.lst (es.map vS)) := by
          rw [upd_ne (ne_of_none hes8 htp8), upd_ne ned]
          exact hes8
        have hdH : H d = none := sm8H.free hd
        generalize upd (upd H8 d (.dK [])) tp (.tup [.ref e, vS (least l), .ref d]) = H9 at sm9 ed9 ee9 ⊢
        have sme : ∀ t ∈ es, Sg t := fun t ht c hc => hgs c (((hme t).mp ht).2 c hc)
        have hel : es.length ≤ 4 ^ 10 := found_upTo (m := 9) nde fun t ht => ⟨by have := ((hme t).mp ht).1; omega, sme t ht⟩
        clear sm6 sm7 sm8 hes he hd htp sm8H hes8 htp8
        -- over
        refine ⟨_, rfl, _, rfl, l, n, rfl, by omega, sg, by omega, fun H10 op xs hop sm10 hxs srx ndx hmx => ?_⟩
        have ed10 := sm10 _ _ ed9
        have ee10 := sm10 _ _ ee9
        have smA := sm9.trans sm10
        have hopH : H op = none := sm9.free hop
        have nod : op ≠ d := fun z => by rw [z, ed10] at hxs; cases hxs
        refine ⟨_, rfl, e, rfl, ⟨_, SqL.of ee10⟩, fun D hD => ?_⟩
        have hDH : H D = none := smA.free hD
        have neD : e ≠ D := ne_of_none ee10 hD
        have ndD : d ≠ D := ne_of_none ed10 hD
        have noD : op ≠ D := ne_of_none hxs hD
        refine it_gen (wk_list (K := K) vS es) (fun j H2 => Same H H2 ∧ H2 e = some (.lst (es.map vS)) ∧ H2 op = some (.lst (xs.map vS)) ∧ (∃ kvs, Kn H2 d kvs ∧ Tr kvs l 100) ∧ ∃ ys : List L, H2 D = some (.lst (ys.map vS)) ∧ ys.length ≤ j ∧ ys.Sublist (es.take j) ∧ ∀ t, t ∈ ys ↔ t ∈ es.take j ∧ Comes t l)
          ⟨Same.upd' smA hD, by rw [upd_ne neD]; exact ee10, by rw [upd_ne noD]; exact hxs, ⟨[], ⟨by rw [upd_ne ndD]; exact ed10, [], rfl, List.nodup_nil, fun _ z => nomatch z⟩, fun u _ v z => nomatch z⟩, [], upd_same, Nat.le_refl _, .slnil, fun t => by simp⟩ (fun j H2 _ h => SqL.of h.2.1) ?_ ?_
        · rintro j x H2 hjl hj ⟨sm2, f1, f2, ⟨kvs, kn, tr⟩, ys, f3, f4, f5, f6⟩ ⟨rfl, u, hu, rfl⟩
          have hue := List.mem_of_getElem? hu
          have hul := ((hme u).mp hue).1
          have tk : es.take (j + 1) = es.take j ++ [u] := by rw [List.take_add_one, hu]; rfl
          refine ⟨rfl, _, rfl, _, rfl, _, rfl, u, l, d, kvs, rfl, by omega, by omega, sme u hue, by omega, kn, fun w hw v hv => tr w (by omega) v hv, fun H3 kv3 b bt3 kn3 tr3 fr3 hb => ?_⟩
          have sm3 : Same H H3 := same_but sm2 hdH bt3
          have tr4 : Tr kv3 l 100 := fun w hw v hv => by
            by_cases hs : w.length < u.length + 1
            · exact tr3 w hs v hv
            · exact tr w hw v (by rw [← fr3 w (by omega)]; exact hv)
          have g1 := bt3 _ _ ned f1
          have g2 := bt3 _ _ nod f2
          have g3 := bt3 _ _ ndD.symm f3
          refine ⟨b, rfl, ?_⟩
          cases b with
          | true =>
            refine iteT ?_
            refine ⟨_, rfl, _, g3, by rw [List.length_map]; exact Nat.lt_of_le_of_lt (show _ ≤ 4 ^ 10 by omega) (by decide), Same.upd2 sm3 hDH, by rw [upd_ne neD]; exact g1, by rw [upd_ne noD]; exact g2, ⟨kv3, ⟨by rw [upd_ne ndD]; exact kn3.at_, kn3.keys⟩, tr4⟩, ys ++ [u], by rw [upd_same, List.map_append]; rfl, by rw [List.length_append]; simp only [List.length_singleton]; omega, by rw [tk]; exact f5.append (.refl _), fun t => ?_⟩
            rw [tk, List.mem_append, List.mem_append, f6]
            constructor
            · rintro (⟨h1, h2⟩ | h1)
              · exact ⟨.inl h1, h2⟩
              · exact ⟨.inr h1, by rw [List.mem_singleton.mp h1]; exact hb.mp rfl⟩
            · rintro ⟨h1 | h1, h2⟩
              · exact .inl ⟨h1, h2⟩
              · exact .inr h1
          | false =>
            refine iteF ⟨sm3, g1, g2, ⟨kv3, kn3, tr4⟩, ys, g3, by omega, by rw [tk]; exact f5.trans (List.sublist_append_left ..), fun t => ?_⟩
            rw [tk, List.mem_append, f6]
            constructor
            · rintro ⟨h1, h2⟩
              exact ⟨.inl h1, h2⟩
            · rintro ⟨h1 | h1, h2⟩
              · exact ⟨h1, h2⟩
              · rw [List.mem_singleton.mp h1] at h2
                cases hb.mpr h2
        rintro H2 ⟨sm2, f1, f2, _, ys, f3, f4, f5, f6⟩
        rw [List.take_length] at f5 f6
        have hxy : xs = ys := srt_uniq srx (sre.sublist f5) ndx (nde.sublist f5) fun t => by
          rw [hmx, f6, hme]
          constructor
          · rintro ⟨h1, h2⟩
            exact ⟨⟨h1, fun c hc => hlg c (h2.mem2 hc)⟩, h2⟩
          · rintro ⟨⟨h1, _⟩, h2⟩
            exact ⟨h1, h2⟩
        have smx : ∀ t ∈ xs, Sm t := fun t ht => Lk.Sg.sm (((hmx t).mp ht).2.sg2 sg)
        refine ⟨op, D, xs, ys, rfl, rfl, SqL.of f2, SqL.of f3, smx, by rw [← hxy]; exact smx, _, rfl, iteNS hxy ?_⟩
        clear hxy smx hmx srx ndx f2 f3 f4 f5 f6 hopH nod noD ndD neD hDH hD smA ed10 ee10 hxs hop sm10 ed9 ee9 sm9
        -- kin_of
        refine ⟨_, rfl, _, rfl, l, n, rfl, by omega, sg, by omega, fun H10 op xs hop sm10 hxs srx ndx hmx => ?_⟩
        have ee10 := sm10 _ _ f1
        have smA := sm2.trans sm10
        refine ⟨_, rfl, e, rfl, ⟨_, SqL.of ee10⟩, fun D hD => ?_⟩
        have hDH : H D = none := smA.free hD
        have neD : e ≠ D := ne_of_none ee10 hD
        have noD : op ≠ D := ne_of_none hxs hD
        refine it_gen (wk_list (K := K) vS es) (fun j H2 => Same H H2 ∧ H2 e = some (.lst (es.map vS)) ∧ H2 op = some (.lst (xs.map vS)) ∧ H2 D = some (.lst (((es.take j).filter fun t => decide (least t = least l)).map vS)))
          ⟨Same.upd' smA hD, by rw [upd_ne neD]; exact ee10, by rw [upd_ne noD]; exact hxs, by rw [upd_same]; rfl⟩ (fun j H2 _ h => SqL.of h.2.1) ?_ ?_
        · rintro j x H2 hjl hj ⟨sm2, f1, f2, f3⟩ ⟨rfl, u, hu, rfl⟩
          have hul := ((hme u).mp (List.mem_of_getElem? hu)).1
          refine ⟨rfl, _, rfl, u, rfl, by omega, fun H3 sm3 => ⟨_, rfl, _, _, rfl, rfl, _, rfl, ?_⟩⟩
          rw [filt_take _ _ _ _ hu]
          dsimp only
          by_cases ec : least u = least l
          · rw [decide_eq_true ec]
            refine iteT ?_
            refine ⟨_, rfl, _, sm3 _ _ f3, ?_, Same.upd2 (sm2.trans sm3) hDH, by rw [upd_ne neD]; exact sm3 _ _ f1, by rw [upd_ne noD]; exact sm3 _ _ f2, ?_⟩
            · rw [List.length_map]
              exact Nat.lt_of_le_of_lt (Nat.le_trans (List.length_filter_le ..) (Nat.le_trans (by rw [List.length_take]; exact Nat.min_le_right _ _) hel)) (by decide)
            · rw [upd_same, List.map_append]
              rfl
          · rw [decide_eq_false ec]
            refine iteF ⟨sm2.trans sm3, sm3 _ _ f1, sm3 _ _ f2, ?_⟩
            rw [sm3 _ _ f3]
            simp
        rintro H2 ⟨sm2, f1, f2, f3⟩
        rw [List.take_length] at f3
        have hkin : ∀ t, (Comes t (least l) ∨ Comes t (least l).reverse) ↔ least t = least l := fun t => by
          constructor
          · rintro (h | h)
            · rw [← least_comes h, least_least]
            · rw [← least_comes h, least_rev, least_least]
          · intro h
            obtain ⟨y, y1, y2⟩ := to_least t
            rw [h] at y2
            rcases y2 with rfl | rfl
            · exact .inl y1
            · exact .inr y1
        have hmem2 : ∀ t, (Comes t (least l) ∨ Comes t (least l).reverse) → ∀ c ∈ t, c ∈ l := fun t h c hc => by
          rcases h with h | h
          · exact least_mem (h.mem2 hc)
          · exact least_mem (List.mem_reverse.mp (h.mem2 hc))
        have hxy : xs = es.filter fun t => decide (least t = least l) := srt_uniq srx (sre.sublist List.filter_sublist) ndx (nde.filter _) fun t => by
          rw [hmx, List.mem_filter, hme, decide_eq_true_eq]
          constructor
          · rintro ⟨h1, h2⟩
            exact ⟨⟨h1, fun c hc => hlg c (hmem2 t h2 c hc)⟩, (hkin t).mp h2⟩
          · rintro ⟨⟨h1, _⟩, h2⟩
            exact ⟨h1, (hkin t).mpr h2⟩
        have smx : ∀ t ∈ xs, Sm t := fun t ht c hc => by
          have := sg c (hmem2 t ((hmx t).mp ht).2 c hc)
          omega
        refine ⟨op, D, xs, _, rfl, rfl, SqL.of f2, SqL.of f3, smx, by rw [← hxy]; exact smx, _, rfl, iteNS hxy ?_⟩
        clear hxy smx hmx srx ndx f2 f3 noD neD hDH hD smA ee10 hxs hop sm10
        -- the third
        refine ⟨_, rfl, _, rfl, l, rfl, by omega, l, l.length, rfl, by omega, sg, by omega, fun H3 op xs hop sm3 hxs srx ndx hmx => ?_⟩
        refine ⟨_, rfl, (by show 1 ≤ sizeLine; decide), fun z hz => ?_⟩
        have noz : op ≠ z := ne_of_none hxs hz
        have hx1 : xs = [l] := srt_uniq srx (List.pairwise_singleton _ _) ndx (by simp) fun t => by
          rw [hmx, List.mem_singleton]
          constructor
          · rintro ⟨h1, h2⟩
            exact (comes_short (by omega)).mp h2
          · rintro rfl
            exact ⟨rfl, .refl _⟩
        have sml : ∀ t ∈ [l], Sm t := fun t ht => by rw [List.mem_singleton.mp ht]; exact Lk.Sg.sm sg
        refine ⟨op, z, xs, [l], rfl, rfl, SqL.of (by rw [upd_ne noz]; exact hxs), SqL.of upd_same, by rw [hx1]; exact sml, sml, _, rfl, iteNS hx1 ?_⟩
        have smB := Same.upd' (o := .lst [vS l]) (sm2.trans sm3) hz
        generalize upd H3 z (.lst [vS l]) = H4 at smB ⊢
        refine ⟨_, rfl, _, rfl, _, rfl, l, rfl, by omega, l, l.length, rfl, by omega, sg, by omega, fun H5 op2 xs2 hop2 sm5 hxs2 _ _ hmx2 => ?_⟩
        have hin : l ∈ xs2 := (hmx2 l).mpr ⟨rfl, (hkin l).mpr rfl⟩
        refine ⟨op2, l, xs2, rfl, rfl, SqL.of hxs2, _, rfl, iteNS hin ?_⟩
        refine ⟨_, rfl, l, rfl, by omega, fun H6 sm6 => ⟨_, rfl, _, _, rfl, rfl, _, rfl, iteNS (show least l = least l from rfl) ?_⟩⟩
        have smC := (smB.trans sm5).trans sm6
        -- over(..).append
        refine ⟨_, rfl, _, rfl, l, n, rfl, by omega, sg, by omega, fun H7 op3 xs3 hop3 sm7 hxs3 _ ndx3 hmx3 => ?_⟩
        have hx3 : xs3.length ≤ 4 ^ 10 := found_upTo (m := 9) ndx3 fun t ht => ⟨by have := ((hmx3 t).mp ht).1; omega, ((hmx3 t).mp ht).2.sg2 sg⟩
        have hop3H : H op3 = none := smC.free hop3
        refine ⟨.inl ⟨rfl, _, SqL.of hxs3⟩, op3, _, _, rfl, rfl, hxs3, by rw [List.length_map]; exact Nat.lt_of_le_of_lt hx3 (by decide), ?_⟩
        have smD := Same.upd2 (o := .lst (xs3.map vS ++ [.str ""])) (smC.trans sm7) hop3H
        -- one more
        refine ⟨_, rfl, _, rfl, l, rfl, by omega, _, _, rfl, rfl, l, l.length + 1, rfl, by omega, sg, by omega, fun H8 op4 xs4 hop4 sm8 hxs4 _ ndx4 hmx4 => ?_⟩
        refine ⟨Nat.zero_le _, fun z2 hz2 => ?_⟩
        have noz2 : op4 ≠ z2 := ne_of_none hxs4 hz2
        have hne : ¬ xs4 = [] := fun z => by
          have hw : (0, 1) ∈ waysL l.length := mem_ways.mpr (.inl ⟨rfl, Nat.le_refl _, l1⟩)
          obtain ⟨c, c1, c2⟩ := unfL_cr hw
          have : unfL l (0, 1) ∈ xs4 := (hmx4 _).mpr ⟨unfL_len hw, .step c1 (by rw [c2]; exact .refl _)⟩
          rw [z] at this
          cases this
        refine ⟨op4, z2, xs4, [], rfl, rfl, SqL.of (by rw [upd_ne noz2]; exact hxs4), SqL.of upd_same, fun t ht => Lk.Sg.sm (((hmx4 t).mp ht).2.sg2 sg), (fun _ z => nomatch z), _, rfl, ?_⟩
        rw [show (if false = true then !decide (xs4 = []) else decide (xs4 = [])) = false from decide_eq_false hne]
        refine iteF ?_
        exact ⟨Same.upd' (smD.trans sm8) hz2, _, _, _, _, _, _, _, _, _, _, _, _, rfl⟩
    · rintro σ H1 ⟨_, _, _, _, _, _, _, _, _, _, _, _, _, rfl⟩
      exact q H1
end
end Lk
namespace Lk
open PySem PySem.Spec PyProof.Rows L2
/-! ### what the top has left -/
theorem txt_mk {K : PySem.W.Frag} {h : Heap} {mg : Str → Option Value} (X : K.In h) (G : h.Ns mainGlobals mg)
    (z_bool : PySem.W.nsIn K mainGlobals "bool" = some none)
    (z_int : PySem.W.nsIn K mainGlobals "int" = some none)
    (z_isinstance : PySem.W.nsIn K mainGlobals "isinstance" = some none)
    (z_len : PySem.W.nsIn K mainGlobals "len" = some none)
    (z_list : PySem.W.nsIn K mainGlobals "list" = some none)
    (z_min : PySem.W.nsIn K mainGlobals "min" = some none)
    (z_range : PySem.W.nsIn K mainGlobals "range" = some none)
    (z_sorted : PySem.W.nsIn K mainGlobals "sorted" = some none)
    {f4 : Addr} {od_f4 an_f4 : Option Addr} {sl_f4 : Array (Option Value)} {oc_f4 kV_f4 dc_f4 pm_f4 cd_f4 ct_f4 : Value} (a_f4 : PySem.W.nsIn K mainGlobals "is_from" = some (some (.ref f4))) (l_f4 : K.lookup f4 = some ⟨oc_f4, od_f4, .func (PySem.W.fnOf "is_from" "is_from" (defArgs s_is_from) (defBody s_is_from) (defScope s_is_from) .none kV_f4 dc_f4 pm_f4 an_f4 cd_f4 ct_f4), sl_f4⟩) (c_f4 : PySem.W.codeIn K cd_f4 "is_from" = true) (k_f4 : PySem.W.keepIn K (.ref f4) = true)
    {f5 : Addr} {od_f5 an_f5 : Option Addr} {sl_f5 : Array (Option Value)} {oc_f5 kV_f5 dc_f5 pm_f5 cd_f5 ct_f5 : Value} (a_f5 : PySem.W.nsIn K mainGlobals "lies_well" = some (some (.ref f5))) (l_f5 : K.lookup f5 = some ⟨oc_f5, od_f5, .func (PySem.W.fnOf "lies_well" "lies_well" (defArgs s_lies_well) (defBody s_lies_well) (defScope s_lies_well) .none kV_f5 dc_f5 pm_f5 an_f5 cd_f5 ct_f5), sl_f5⟩) (c_f5 : PySem.W.codeIn K cd_f5 "lies_well" = true) (k_f5 : PySem.W.keepIn K (.ref f5) = true)
    {f6 : Addr} {od_f6 an_f6 : Option Addr} {sl_f6 : Array (Option Value)} {oc_f6 kV_f6 dc_f6 pm_f6 cd_f6 ct_f6 : Value} (a_f6 : PySem.W.nsIn K mainGlobals "creases" = some (some (.ref f6))) (l_f6 : K.lookup f6 = some ⟨oc_f6, od_f6, .func (PySem.W.fnOf "creases" "creases" (defArgs s_creases) (defBody s_creases) (defScope s_creases) .none kV_f6 dc_f6 pm_f6 an_f6 cd_f6 ct_f6), sl_f6⟩) (c_f6 : PySem.W.codeIn K cd_f6 "creases" = true) (k_f6 : PySem.W.keepIn K (.ref f6) = true)
    {f7 : Addr} {od_f7 an_f7 : Option Addr} {sl_f7 : Array (Option Value)} {oc_f7 kV_f7 dc_f7 pm_f7 cd_f7 ct_f7 : Value} (a_f7 : PySem.W.nsIn K mainGlobals "is_crease" = some (some (.ref f7))) (l_f7 : K.lookup f7 = some ⟨oc_f7, od_f7, .func (PySem.W.fnOf "is_crease" "is_crease" (defArgs s_is_crease) (defBody s_is_crease) (defScope s_is_crease) .none kV_f7 dc_f7 pm_f7 an_f7 cd_f7 ct_f7), sl_f7⟩) (c_f7 : PySem.W.codeIn K cd_f7 "is_crease" = true) (k_f7 : PySem.W.keepIn K (.ref f7) = true)
    {f8 : Addr} {od_f8 an_f8 : Option Addr} {sl_f8 : Array (Option Value)} {oc_f8 kV_f8 dc_f8 pm_f8 cd_f8 ct_f8 : Value} (a_f8 : PySem.W.nsIn K mainGlobals "left_of" = some (some (.ref f8))) (l_f8 : K.lookup f8 = some ⟨oc_f8, od_f8, .func (PySem.W.fnOf "left_of" "left_of" (defArgs s_left_of) (defBody s_left_of) (defScope s_left_of) .none kV_f8 dc_f8 pm_f8 an_f8 cd_f8 ct_f8), sl_f8⟩) (c_f8 : PySem.W.codeIn K cd_f8 "left_of" = true) (k_f8 : PySem.W.keepIn K (.ref f8) = true)
    {f9 : Addr} {od_f9 an_f9 : Option Addr} {sl_f9 : Array (Option Value)} {oc_f9 kV_f9 dc_f9 pm_f9 cd_f9 ct_f9 : Value} (a_f9 : PySem.W.nsIn K mainGlobals "folded" = some (some (.ref f9))) (l_f9 : K.lookup f9 = some ⟨oc_f9, od_f9, .func (PySem.W.fnOf "folded" "folded" (defArgs s_folded) (defBody s_folded) (defScope s_folded) .none kV_f9 dc_f9 pm_f9 an_f9 cd_f9 ct_f9), sl_f9⟩) (c_f9 : PySem.W.codeIn K cd_f9 "folded" = true) (k_f9 : PySem.W.keepIn K (.ref f9) = true)
    {f11 : Addr} {od_f11 an_f11 : Option Addr} {sl_f11 : Array (Option Value)} {oc_f11 kV_f11 dc_f11 pm_f11 cd_f11 ct_f11 : Value} (a_f11 : PySem.W.nsIn K mainGlobals "least" = some (some (.ref f11))) (l_f11 : K.lookup f11 = some ⟨oc_f11, od_f11, .func (PySem.W.fnOf "least" "least" (defArgs s_least) (defBody s_least) (defScope s_least) .none kV_f11 dc_f11 pm_f11 an_f11 cd_f11 ct_f11), sl_f11⟩) (c_f11 : PySem.W.codeIn K cd_f11 "least" = true) (k_f11 : PySem.W.keepIn K (.ref f11) = true)
    {f13 : Addr} {od_f13 an_f13 : Option Addr} {sl_f13 : Array (Option Value)} {oc_f13 kV_f13 dc_f13 pm_f13 cd_f13 ct_f13 : Value} (a_f13 : PySem.W.nsIn K mainGlobals "unfolded" = some (some (.ref f13))) (l_f13 : K.lookup f13 = some ⟨oc_f13, od_f13, .func (PySem.W.fnOf "unfolded" "unfolded" (defArgs s_unfolded) (defBody s_unfolded) (defScope s_unfolded) .none kV_f13 dc_f13 pm_f13 an_f13 cd_f13 ct_f13), sl_f13⟩) (c_f13 : PySem.W.codeIn K cd_f13 "unfolded" = true) (k_f13 : PySem.W.keepIn K (.ref f13) = true)
    {f14 : Addr} {od_f14 an_f14 : Option Addr} {sl_f14 : Array (Option Value)} {oc_f14 kV_f14 dc_f14 pm_f14 cd_f14 ct_f14 : Value} (a_f14 : PySem.W.nsIn K mainGlobals "ways_to_unfold" = some (some (.ref f14))) (l_f14 : K.lookup f14 = some ⟨oc_f14, od_f14, .func (PySem.W.fnOf "ways_to_unfold" "ways_to_unfold" (defArgs s_ways_to_unfold) (defBody s_ways_to_unfold) (defScope s_ways_to_unfold) .none kV_f14 dc_f14 pm_f14 an_f14 cd_f14 ct_f14), sl_f14⟩) (c_f14 : PySem.W.codeIn K cd_f14 "ways_to_unfold" = true) (k_f14 : PySem.W.keepIn K (.ref f14) = true)
    {f15 : Addr} {od_f15 an_f15 : Option Addr} {sl_f15 : Array (Option Value)} {oc_f15 kV_f15 dc_f15 pm_f15 cd_f15 ct_f15 : Value} (a_f15 : PySem.W.nsIn K mainGlobals "all_over" = some (some (.ref f15))) (l_f15 : K.lookup f15 = some ⟨oc_f15, od_f15, .func (PySem.W.fnOf "all_over" "all_over" (defArgs s_all_over) (defBody s_all_over) (defScope s_all_over) .none kV_f15 dc_f15 pm_f15 an_f15 cd_f15 ct_f15), sl_f15⟩) (c_f15 : PySem.W.codeIn K cd_f15 "all_over" = true) (k_f15 : PySem.W.keepIn K (.ref f15) = true)
    {f16 : Addr} {od_f16 an_f16 : Option Addr} {sl_f16 : Array (Option Value)} {oc_f16 kV_f16 dc_f16 pm_f16 cd_f16 ct_f16 : Value} (a_f16 : PySem.W.nsIn K mainGlobals "over" = some (some (.ref f16))) (l_f16 : K.lookup f16 = some ⟨oc_f16, od_f16, .func (PySem.W.fnOf "over" "over" (defArgs s_over) (defBody s_over) (defScope s_over) .none kV_f16 dc_f16 pm_f16 an_f16 cd_f16 ct_f16), sl_f16⟩) (c_f16 : PySem.W.codeIn K cd_f16 "over" = true) (k_f16 : PySem.W.keepIn K (.ref f16) = true)
    {f17 : Addr} {od_f17 an_f17 : Option Addr} {sl_f17 : Array (Option Value)} {oc_f17 kV_f17 dc_f17 pm_f17 cd_f17 ct_f17 : Value} (a_f17 : PySem.W.nsIn K mainGlobals "kin_of" = some (some (.ref f17))) (l_f17 : K.lookup f17 = some ⟨oc_f17, od_f17, .func (PySem.W.fnOf "kin_of" "kin_of" (defArgs s_kin_of) (defBody s_kin_of) (defScope s_kin_of) .none kV_f17 dc_f17 pm_f17 an_f17 cd_f17 ct_f17), sl_f17⟩) (c_f17 : PySem.W.codeIn K cd_f17 "kin_of" = true) (k_f17 : PySem.W.keepIn K (.ref f17) = true)
    {f19 : Addr} {od_f19 an_f19 : Option Addr} {sl_f19 : Array (Option Value)} {oc_f19 kV_f19 dc_f19 pm_f19 cd_f19 ct_f19 : Value} (a_f19 : PySem.W.nsIn K mainGlobals "_law_bag" = some (some (.ref f19))) (l_f19 : K.lookup f19 = some ⟨oc_f19, od_f19, .func (PySem.W.fnOf "_law_bag" "_law_bag" (defArgs s__law_bag) (defBody s__law_bag) (defScope s__law_bag) .none kV_f19 dc_f19 pm_f19 an_f19 cd_f19 ct_f19), sl_f19⟩) (c_f19 : PySem.W.codeIn K cd_f19 "_law_bag" = true) (k_f19 : PySem.W.keepIn K (.ref f19) = true)
    {f20 : Addr} {od_f20 an_f20 : Option Addr} {sl_f20 : Array (Option Value)} {oc_f20 kV_f20 dc_f20 pm_f20 cd_f20 ct_f20 : Value} (a_f20 : PySem.W.nsIn K mainGlobals "_law_take" = some (some (.ref f20))) (l_f20 : K.lookup f20 = some ⟨oc_f20, od_f20, .func (PySem.W.fnOf "_law_take" "_law_take" (defArgs s__law_take) (defBody s__law_take) (defScope s__law_take) .none kV_f20 dc_f20 pm_f20 an_f20 cd_f20 ct_f20), sl_f20⟩) (c_f20 : PySem.W.codeIn K cd_f20 "_law_take" = true) (k_f20 : PySem.W.keepIn K (.ref f20) = true)
    {f21 : Addr} {od_f21 an_f21 : Option Addr} {sl_f21 : Array (Option Value)} {oc_f21 kV_f21 dc_f21 pm_f21 cd_f21 ct_f21 : Value} (a_f21 : PySem.W.nsIn K mainGlobals "_law_of" = some (some (.ref f21))) (l_f21 : K.lookup f21 = some ⟨oc_f21, od_f21, .func (PySem.W.fnOf "_law_of" "_law_of" (defArgs s__law_of) (defBody s__law_of) (defScope s__law_of) .none kV_f21 dc_f21 pm_f21 an_f21 cd_f21 ct_f21), sl_f21⟩) (c_f21 : PySem.W.codeIn K cd_f21 "_law_of" = true) (k_f21 : PySem.W.keepIn K (.ref f21) = true)
    {f25 : Addr} {od_f25 an_f25 : Option Addr} {sl_f25 : Array (Option Value)} {oc_f25 kV_f25 dc_f25 pm_f25 cd_f25 ct_f25 : Value} (a_f25 : PySem.W.nsIn K mainGlobals "_law_lies" = some (some (.ref f25))) (l_f25 : K.lookup f25 = some ⟨oc_f25, od_f25, .func (PySem.W.fnOf "_law_lies" "_law_lies" (defArgs s__law_lies) (defBody s__law_lies) (defScope s__law_lies) .none kV_f25 dc_f25 pm_f25 an_f25 cd_f25 ct_f25), sl_f25⟩) (c_f25 : PySem.W.codeIn K cd_f25 "_law_lies" = true) (k_f25 : PySem.W.keepIn K (.ref f25) = true)
    {f26 : Addr} {od_f26 an_f26 : Option Addr} {sl_f26 : Array (Option Value)} {oc_f26 kV_f26 dc_f26 pm_f26 cd_f26 ct_f26 : Value} (a_f26 : PySem.W.nsIn K mainGlobals "_law_creases" = some (some (.ref f26))) (l_f26 : K.lookup f26 = some ⟨oc_f26, od_f26, .func (PySem.W.fnOf "_law_creases" "_law_creases" (defArgs s__law_creases) (defBody s__law_creases) (defScope s__law_creases) .none kV_f26 dc_f26 pm_f26 an_f26 cd_f26 ct_f26), sl_f26⟩) (c_f26 : PySem.W.codeIn K cd_f26 "_law_creases" = true) (k_f26 : PySem.W.keepIn K (.ref f26) = true)
    {f27 : Addr} {od_f27 an_f27 : Option Addr} {sl_f27 : Array (Option Value)} {oc_f27 kV_f27 dc_f27 pm_f27 cd_f27 ct_f27 : Value} (a_f27 : PySem.W.nsIn K mainGlobals "_law_left" = some (some (.ref f27))) (l_f27 : K.lookup f27 = some ⟨oc_f27, od_f27, .func (PySem.W.fnOf "_law_left" "_law_left" (defArgs s__law_left) (defBody s__law_left) (defScope s__law_left) .none kV_f27 dc_f27 pm_f27 an_f27 cd_f27 ct_f27), sl_f27⟩) (c_f27 : PySem.W.codeIn K cd_f27 "_law_left" = true) (k_f27 : PySem.W.keepIn K (.ref f27) = true)
    {f28 : Addr} {od_f28 an_f28 : Option Addr} {sl_f28 : Array (Option Value)} {oc_f28 kV_f28 dc_f28 pm_f28 cd_f28 ct_f28 : Value} (a_f28 : PySem.W.nsIn K mainGlobals "_law_texts" = some (some (.ref f28))) (l_f28 : K.lookup f28 = some ⟨oc_f28, od_f28, .func (PySem.W.fnOf "_law_texts" "_law_texts" (defArgs s__law_texts) (defBody s__law_texts) (defScope s__law_texts) .none kV_f28 dc_f28 pm_f28 an_f28 cd_f28 ct_f28), sl_f28⟩) (c_f28 : PySem.W.codeIn K cd_f28 "_law_texts" = true) (k_f28 : PySem.W.keepIn K (.ref f28) = true)
    {f29 : Addr} {od_f29 an_f29 : Option Addr} {sl_f29 : Array (Option Value)} {oc_f29 kV_f29 dc_f29 pm_f29 cd_f29 ct_f29 : Value} (a_f29 : PySem.W.nsIn K mainGlobals "_law_comes" = some (some (.ref f29))) (l_f29 : K.lookup f29 = some ⟨oc_f29, od_f29, .func (PySem.W.fnOf "_law_comes" "_law_comes" (defArgs s__law_comes) (defBody s__law_comes) (defScope s__law_comes) .none kV_f29 dc_f29 pm_f29 an_f29 cd_f29 ct_f29), sl_f29⟩) (c_f29 : PySem.W.codeIn K cd_f29 "_law_comes" = true) (k_f29 : PySem.W.keepIn K (.ref f29) = true)
    {f30 : Addr} {od_f30 an_f30 : Option Addr} {sl_f30 : Array (Option Value)} {oc_f30 kV_f30 dc_f30 pm_f30 cd_f30 ct_f30 : Value} (a_f30 : PySem.W.nsIn K mainGlobals "_law_last" = some (some (.ref f30))) (l_f30 : K.lookup f30 = some ⟨oc_f30, od_f30, .func (PySem.W.fnOf "_law_last" "_law_last" (defArgs s__law_last) (defBody s__law_last) (defScope s__law_last) .none kV_f30 dc_f30 pm_f30 an_f30 cd_f30 ct_f30), sl_f30⟩) (c_f30 : PySem.W.codeIn K cd_f30 "_law_last" = true) (k_f30 : PySem.W.keepIn K (.ref f30) = true)
    {f31 : Addr} {od_f31 an_f31 : Option Addr} {sl_f31 : Array (Option Value)} {oc_f31 kV_f31 dc_f31 pm_f31 cd_f31 ct_f31 : Value} (a_f31 : PySem.W.nsIn K mainGlobals "law" = some (some (.ref f31))) (l_f31 : K.lookup f31 = some ⟨oc_f31, od_f31, .func (PySem.W.fnOf "law" "law" (defArgs s_law) (defBody s_law) (defScope s_law) .none kV_f31 dc_f31 pm_f31 an_f31 cd_f31 ct_f31), sl_f31⟩) (c_f31 : PySem.W.codeIn K cd_f31 "law" = true) (k_f31 : PySem.W.keepIn K (.ref f31) = true)
    : Txt K mg :=
  { b_bool := PySem.W.mg_none_of X G z_bool,
    b_int := PySem.W.mg_none_of X G z_int,
    b_isinstance := PySem.W.mg_none_of X G z_isinstance,
    b_len := PySem.W.mg_none_of X G z_len,
    b_list := PySem.W.mg_none_of X G z_list,
    b_min := PySem.W.mg_none_of X G z_min,
    b_range := PySem.W.mg_none_of X G z_range,
    b_sorted := PySem.W.mg_none_of X G z_sorted,
    d_is_from := def_mk X G (fun _ _ _ _ _ _ us hl => match us, hl with | [_, _, _], _ => rfl) a_f4 l_f4 c_f4 k_f4,
    d_lies_well := def_mk X G (fun _ _ _ _ _ _ us hl => match us, hl with | [_, _], _ => rfl) a_f5 l_f5 c_f5 k_f5,
    d_creases := def_mk X G (fun _ _ _ _ _ _ us hl => match us, hl with | [_], _ => rfl) a_f6 l_f6 c_f6 k_f6,
    d_is_crease := def_mk X G (fun _ _ _ _ _ _ us hl => match us, hl with | [_, _], _ => rfl) a_f7 l_f7 c_f7 k_f7,
    d_left_of := def_mk X G (fun _ _ _ _ _ _ us hl => match us, hl with | [_, _], _ => rfl) a_f8 l_f8 c_f8 k_f8,
    d_folded := def_mk X G (fun _ _ _ _ _ _ us hl => match us, hl with | [_, _], _ => rfl) a_f9 l_f9 c_f9 k_f9,
    d_least := def_mk X G (fun _ _ _ _ _ _ us hl => match us, hl with | [_], _ => rfl) a_f11 l_f11 c_f11 k_f11,
    d_unfolded := def_mk X G (fun _ _ _ _ _ _ us hl => match us, hl with | [_, _, _], _ => rfl) a_f13 l_f13 c_f13 k_f13,
    d_ways_to_unfold := def_mk X G (fun _ _ _ _ _ _ us hl => match us, hl with | [_], _ => rfl) a_f14 l_f14 c_f14 k_f14,
    d_all_over := def_mk X G (fun _ _ _ _ _ _ us hl => match us, hl with | [_, _], _ => rfl) a_f15 l_f15 c_f15 k_f15,
    d_over := def_mk X G (fun _ _ _ _ _ _ us hl => match us, hl with | [_, _], _ => rfl) a_f16 l_f16 c_f16 k_f16,
    d_kin_of := def_mk X G (fun _ _ _ _ _ _ us hl => match us, hl with | [_, _], _ => rfl) a_f17 l_f17 c_f17 k_f17,
    d__law_bag := def_mk X G (fun _ _ _ _ _ _ us hl => match us, hl with | [_, _], _ => rfl) a_f19 l_f19 c_f19 k_f19,
    d__law_take := def_mk X G (fun _ _ _ _ _ _ us hl => match us, hl with | [_, _], _ => rfl) a_f20 l_f20 c_f20 k_f20,
    d__law_of := def_mk X G (fun _ _ _ _ _ _ us hl => match us, hl with | [_, _], _ => rfl) a_f21 l_f21 c_f21 k_f21,
    d__law_lies := def_mk X G (fun _ _ _ _ _ _ us hl => match us, hl with | [_, _], _ => rfl) a_f25 l_f25 c_f25 k_f25,
    d__law_creases := def_mk X G (fun _ _ _ _ _ _ us hl => match us, hl with | [_], _ => rfl) a_f26 l_f26 c_f26 k_f26,
    d__law_left := def_mk X G (fun _ _ _ _ _ _ us hl => match us, hl with | [_, _], _ => rfl) a_f27 l_f27 c_f27 k_f27,
    d__law_texts := def_mk X G (fun _ _ _ _ _ _ us hl => match us, hl with | [_, _], _ => rfl) a_f28 l_f28 c_f28 k_f28,
    d__law_comes := def_mk X G (fun _ _ _ _ _ _ us hl => match us, hl with | [_, _, _], _ => rfl) a_f29 l_f29 c_f29 k_f29,
    d__law_last := def_mk X G (fun _ _ _ _ _ _ us hl => match us, hl with | [_], _ => rfl) a_f30 l_f30 c_f30 k_f30,
    d_law := def_mk X G (fun _ _ _ _ _ _ us hl => match us, hl with | [_], _ => rfl) a_f31 l_f31 c_f31 k_f31 }
theorem all_mk {l : PySem.W.OpenLaw} {w : World} {K : PySem.W.Frag} {mg : Str → Option Value} {fa : Addr} (T : Txt K mg) (hfa : mg "law" = some (.ref fa)) :
    ∃ fd : FuncData, (∀ (s : Shared) (v : Value), BindsTo s fd ⟨[v], []⟩ [("script", v)]) ∧ ∀ base : Heap, K.In base → base.Ns mainGlobals mg → FnOk l.prog w K mg base CX0 60 fa fd ["script"] (sp_law K) := by
  obtain ⟨f, fd, a, F, b, bt⟩ := T.d_law.ex
  have e := hfa.symm.trans a
  cases e
  exact ⟨fd, fun s v => bt s [v] rfl, fun base _ _ => ok_law T F⟩
end Lk
open PySem PySem.W PyProof.Rows
set_option maxRecDepth 100000 in
set_option maxHeartbeats 0 in
theorem PySem.Challenge.cw_likefolds_k07_whole_longer_strips_fold_b_holds : PySem.Challenge.rw_likefolds_k07_whole_longer_strips_fold_b.Holds := by
  w_on; o_law; k_head; (case hw => w_witness2)
  k_fill
  refine L2.walk_of (l := PySem.Challenge.rw_likefolds_k07_whole_longer_strips_fold_b) (n := 63) (k := 60) (x := "script") (CX := fun _ => L2.CX0) (sp := fun w => Lk.sp_law _) rfl (by decide) rfl ⟨rfl, by decide, by decide⟩ (fun w h Y => PySem.W.kIn_of Y) ?F (fun _ _ a ns hl _ hS => ⟨a, ns, rfl, hS, hl, fun _ => rfl⟩) (fun _ _ _ _ _ h => h)
  case F =>
    intro w mg fa h KX G hmg
    refine Lk.all_mk ?T hmg
    refine' Lk.txt_mk KX G ?z_bool ?z_int ?z_isinstance ?z_len ?z_list ?z_min ?z_range ?z_sorted ?a_f4 ?l_f4 ?c_f4 ?k_f4 ?a_f5 ?l_f5 ?c_f5 ?k_f5 ?a_f6 ?l_f6 ?c_f6 ?k_f6 ?a_f7 ?l_f7 ?c_f7 ?k_f7 ?a_f8 ?l_f8 ?c_f8 ?k_f8 ?a_f9 ?l_f9 ?c_f9 ?k_f9 ?a_f11 ?l_f11 ?c_f11 ?k_f11 ?a_f13 ?l_f13 ?c_f13 ?k_f13 ?a_f14 ?l_f14 ?c_f14 ?k_f14 ?a_f15 ?l_f15 ?c_f15 ?k_f15 ?a_f16 ?l_f16 ?c_f16 ?k_f16 ?a_f17 ?l_f17 ?c_f17 ?k_f17 ?a_f19 ?l_f19 ?c_f19 ?k_f19 ?a_f20 ?l_f20 ?c_f20 ?k_f20 ?a_f21 ?l_f21 ?c_f21 ?k_f21 ?a_f25 ?l_f25 ?c_f25 ?k_f25 ?a_f26 ?l_f26 ?c_f26 ?k_f26 ?a_f27 ?l_f27 ?c_f27 ?k_f27 ?a_f28 ?l_f28 ?c_f28 ?k_f28 ?a_f29 ?l_f29 ?c_f29 ?k_f29 ?a_f30 ?l_f30 ?c_f30 ?k_f30 ?a_f31 ?l_f31 ?c_f31 ?k_f31
    (case z_bool => k_is)
    (case z_int => k_is)
    (case z_isinstance => k_is)
    (case z_len => k_is)
    (case z_list => k_is)
    (case z_min => k_is)
    (case z_range => k_is)
    (case z_sorted => k_is)
    (case a_f4 => k_is)
    (case l_f4 => k_is)
    (case c_f4 => k_is)
    (case k_f4 => k_is)
    (case a_f5 => k_is)
    (case l_f5 => k_is)
    (case c_f5 => k_is)
    (case k_f5 => k_is)
    (case a_f6 => k_is)
    (case l_f6 => k_is)
    (case c_f6 => k_is)
    (case k_f6 => k_is)
    (case a_f7 => k_is)
    (case l_f7 => k_is)
    (case c_f7 => k_is)
    (case k_f7 => k_is)
    (case a_f8 => k_is)
    (case l_f8 => k_is)
    (case c_f8 => k_is)
    (case k_f8 => k_is)
    (case a_f9 => k_is)
    (case l_f9 => k_is)
    (case c_f9 => k_is)
    (case k_f9 => k_is)
    (case a_f11 => k_is)
    (case l_f11 => k_is)
    (case c_f11 => k_is)
    (case k_f11 => k_is)
    (case a_f13 => k_is)
    (case l_f13 => k_is)
    (case c_f13 => k_is)
    (case k_f13 => k_is)
    (case a_f14 => k_is)
    (case l_f14 => k_is)
    (case c_f14 => k_is)
    (case k_f14 => k_is)
    (case a_f15 => k_is)
    (case l_f15 => k_is)
    (case c_f15 => k_is)
    (case k_f15 => k_is)
    (case a_f16 => k_is)
    (case l_f16 => k_is)
    (case c_f16 => k_is)
    (case k_f16 => k_is)
    (case a_f17 => k_is)
    (case l_f17 => k_is)
    (case c_f17 => k_is)
    (case k_f17 => k_is)
    (case a_f19 => k_is)
    (case l_f19 => k_is)
    (case c_f19 => k_is)
    (case k_f19 => k_is)
    (case a_f20 => k_is)
    (case l_f20 => k_is)
    (case c_f20 => k_is)
    (case k_f20 => k_is)
    (case a_f21 => k_is)
    (case l_f21 => k_is)
    (case c_f21 => k_is)
    (case k_f21 => k_is)
    (case a_f25 => k_is)
    (case l_f25 => k_is)
    (case c_f25 => k_is)
    (case k_f25 => k_is)
    (case a_f26 => k_is)
    (case l_f26 => k_is)
    (case c_f26 => k_is)
    (case k_f26 => k_is)
    (case a_f27 => k_is)
    (case l_f27 => k_is)
    (case c_f27 => k_is)
    (case k_f27 => k_is)
    (case a_f28 => k_is)
    (case l_f28 => k_is)
    (case c_f28 => k_is)
    (case k_f28 => k_is)
    (case a_f29 => k_is)
    (case l_f29 => k_is)
    (case c_f29 => k_is)
    (case k_f29 => k_is)
    (case a_f30 => k_is)
    (case l_f30 => k_is)
    (case c_f30 => k_is)
    (case k_f30 => k_is)
    (case a_f31 => k_is)
    (case l_f31 => k_is)
    (case c_f31 => k_is)
    (case k_f31 => k_is)
#print axioms PySem.Challenge.cw_likefolds_k07_whole_longer_strips_fold_b_holds
