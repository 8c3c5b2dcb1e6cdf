import PyProof.Rows.All
import Wide.All
import OpenK.AllK
import Wide.FinOn
import HandS.ForMost
import HandS.More
import HandS.Style
import HandS.Codes
import HandS.IsInst
import PyProof.Rows.SortShellAny
import PyProof.Rows.StrRev
import PyProof.Rows.StrMeet
import HandS.DictComp
import HandS.Comp
import HandS.Dict
import HandS.Iter
import HandS.List
import HandS.Walk
import HandS.IsInst
import HandS.Flow
import KE.DataMinMax
import PyProof.StrOps2
import HandS.ExcIs
import HandS.ExcInit
import HandS.ClsMeth
import HandS.ExcOwn
import KE.KExcIs
import HandS.Conv
import HandS.Text
import HandS.Exc
import HandS.WordsExc
import KE.KSortKey
import PyProof.Rows.CallKwBuiltin
import HandS.HotCalls
import HandS.ExcCtx
import HandS.Replace
import HandS.Zip
import PyProof.ZipIter
import PyProof.EnumIter
import PyProof.TupleIter
import PyProof.Rows.TupIter
import KE.KCallOwn
import HandS.RaiseMore
import PySem.Challenge.RW_likefolds_k10_whole_a_strip_kept_fold_by
set_option Elab.async false
set_option linter.all false
set_option maxRecDepth 100000
set_option maxHeartbeats 4000000
/-! The mathematics of strips: folding, confluence, least strips. Plain lists of numbers. -/
namespace Fo
abbrev L := List Nat
/-- cells of the shorter side lie on like signs -/
def Lies (s : L) (c : Nat) : Prop := ∀ i, i < c → c + i < s.length → s[c - 1 - i]? = s[c + i]?
instance (s : L) (c : Nat) : Decidable (Lies s c) :=
  decidable_of_iff (∀ i, i < s.length → (i < c → c + i < s.length → s[c - 1 - i]? = s[c + i]?)) (by
    constructor
    · intro h i h1 h2
      exact h i (by omega) h1 h2
    · intro h i _ h1 h2
      exact h i h1 h2)
def Cr (s : L) (c : Nat) : Prop := 1 ≤ c ∧ c < s.length ∧ Lies s c
instance (s : L) (c : Nat) : Decidable (Cr s c) := by unfold Cr; infer_instance
def left (s : L) (c : Nat) : L := if 2 * c ≤ s.length then s.drop c else s.take c
def creases (s : L) : List Nat := (List.range' 1 (s.length - 1)).filter fun c => decide (Lies s c)
theorem mem_creases {s : L} {c : Nat} : c ∈ creases s ↔ Cr s c := by
  unfold creases Cr
  rw [List.mem_filter, List.mem_range'_1, decide_eq_true_eq]
  constructor
  · rintro ⟨⟨h1, h2⟩, h3⟩
    exact ⟨h1, by omega, h3⟩
  · rintro ⟨h1, h2, h3⟩
    exact ⟨⟨h1, by omega⟩, h3⟩
theorem left_len {s : L} {c : Nat} (h : Cr s c) : (left s c).length < s.length ∧ 1 ≤ (left s c).length := by
  obtain ⟨h1, h2, _⟩ := h
  unfold left
  split
  · rw [List.length_drop]; omega
  · rw [List.length_take]; omega
/-- t comes of s by folds -/
inductive Comes : L → L → Prop
  | refl (s : L) : Comes s s
  | step {s t : L} {c : Nat} : Cr s c → Comes (left s c) t → Comes s t
theorem Comes.trans {s t u : L} (a : Comes s t) (b : Comes t u) : Comes s u := by
  induction a with
  | refl => exact b
  | step h _ ih => exact .step h (ih b)
theorem Comes.one {s : L} {c : Nat} (h : Cr s c) : Comes s (left s c) := .step h (.refl _)
theorem Comes.len {s t : L} (a : Comes s t) : t.length ≤ s.length := by
  induction a with
  | refl => exact Nat.le_refl _
  | step h _ ih => have := (left_len h).1; omega
theorem Comes.pos {s t : L} (a : Comes s t) (h : 1 ≤ s.length) : 1 ≤ t.length := by
  induction a with
  | refl => exact h
  | step hc _ ih => exact ih (left_len hc).2
theorem left_mem {s : L} {c x : Nat} (h : x ∈ left s c) : x ∈ s := by
  unfold left at h
  split at h
  · exact List.mem_of_mem_drop h
  · exact List.mem_of_mem_take h
theorem Comes.mem {s t : L} (a : Comes s t) {x : Nat} (h : x ∈ t) : x ∈ s := by
  induction a with
  | refl => exact h
  | step _ _ ih => exact left_mem (ih h)
/-- least: no crease -/
def NF (s : L) : Prop := ∀ c, ¬ Cr s c
theorem nf_iff {s : L} : NF s ↔ creases s = [] := by
  constructor
  · intro h
    apply List.eq_nil_iff_forall_not_mem.mpr
    intro c hc
    exact h c (mem_creases.mp hc)
  · intro h c hc
    have := mem_creases.mpr hc
    rw [h] at this
    cases this
theorem nf_comes {s t : L} (h : NF s) (a : Comes s t) : t = s := by
  cases a with
  | refl => rfl
  | step h' _ => exact absurd h' (h _)

/-! ### turned about -/
theorem get_rev {s : L} {i : Nat} (h : i < s.length) : s.reverse[i]? = s[s.length - 1 - i]? := List.getElem?_reverse h
theorem cr_rev {s : L} {c : Nat} (h : Cr s c) : Cr s.reverse (s.length - c) := by
  obtain ⟨h1, h2, h3⟩ := h
  refine ⟨by omega, by rw [List.length_reverse]; omega, fun i hi hj => ?_⟩
  rw [List.length_reverse] at hj
  rw [get_rev (by omega), get_rev (by omega)]
  have := h3 i (by omega) (by omega)
  have e1 : s.length - 1 - (s.length - c - 1 - i) = c + i := by omega
  have e2 : s.length - 1 - (s.length - c + i) = c - 1 - i := by omega
  rw [e1, e2, this]
theorem cr_rev_iff {s : L} {c : Nat} (h1 : 1 ≤ c) (h2 : c < s.length) : Cr s.reverse c ↔ Cr s (s.length - c) := by
  constructor
  · intro h
    have := cr_rev h
    rw [List.reverse_reverse, List.length_reverse] at this
    exact this
  · intro h
    have := cr_rev h
    have e : s.length - (s.length - c) = c := by omega
    rw [e] at this
    exact this
theorem left_rev {s : L} {c : Nat} (h : Cr s c) : left s.reverse (s.length - c) = (left s c).reverse ∨ left s.reverse (s.length - c) = left s c := by
  obtain ⟨h1, h2, h3⟩ := h
  unfold left
  rw [List.length_reverse]
  by_cases hm : 2 * c = s.length
  · right
    rw [if_pos (by omega), if_pos (by omega)]
    apply List.ext_getElem?
    intro i
    rw [List.getElem?_drop, List.getElem?_drop]
    by_cases hi : c + i < s.length
    · have := h3 i (by omega) hi
      rw [get_rev (by omega), ← this]
      congr 1
      omega
    · rw [List.getElem?_eq_none (by rw [List.length_reverse]; omega), List.getElem?_eq_none (by omega)]
  · left
    by_cases hc : 2 * c ≤ s.length
    · rw [if_pos hc, if_neg (by omega), List.reverse_drop]
    · rw [if_neg hc, if_pos (by omega), List.reverse_take]
theorem left_rev_ne {s : L} {c : Nat} (h2 : c < s.length) (hm : 2 * c ≠ s.length) : left s.reverse (s.length - c) = (left s c).reverse := by
  unfold left
  rw [List.length_reverse]
  by_cases hc : 2 * c ≤ s.length
  · rw [if_pos hc, if_neg (by omega), List.reverse_drop]
  · rw [if_neg hc, if_pos (by omega), List.reverse_take]
theorem nf_rev {s : L} (h : NF s) : NF s.reverse := fun c hc => by
  have := cr_rev hc
  rw [List.reverse_reverse] at this
  exact h _ this
/-- alike: the same, or turned about -/
def Al (s t : L) : Prop := t = s ∨ t = s.reverse
theorem Al.refl (s : L) : Al s s := .inl rfl
theorem Al.symm {s t : L} (h : Al s t) : Al t s := by
  rcases h with rfl | rfl
  · exact .inl rfl
  · exact .inr (List.reverse_reverse _).symm
theorem Al.trans {s t u : L} (a : Al s t) (b : Al t u) : Al s u := by
  rcases a with rfl | rfl
  · exact b
  · rcases b with rfl | rfl
    · exact .inr rfl
    · exact .inl (List.reverse_reverse _)
theorem Al.rev {s t : L} (h : Al s t) : Al s t.reverse := h.trans (.inr rfl)
theorem Al.len {s t : L} (h : Al s t) : t.length = s.length := by
  rcases h with rfl | rfl
  · rfl
  · exact List.length_reverse
theorem Al.nf {s t : L} (h : Al s t) (n : NF s) : NF t := by
  rcases h with rfl | rfl
  · exact n
  · exact nf_rev n
theorem Al.mem {s t : L} (h : Al s t) {x : Nat} : x ∈ t ↔ x ∈ s := by
  rcases h with rfl | rfl
  · exact Iff.rfl
  · exact List.mem_reverse
/-- what is alike comes to alike -/
theorem Comes.al {s t s' : L} (a : Comes s t) : Al s s' → ∃ t', Comes s' t' ∧ Al t t' := by
  induction a generalizing s' with
  | refl s => exact fun h => ⟨s', .refl _, h⟩
  | @step s t c h _ ih =>
    intro e
    rcases e with rfl | rfl
    · obtain ⟨t', h1, h2⟩ := ih (.inl rfl)
      exact ⟨t', .step h h1, h2⟩
    · rcases left_rev h with e | e
      · obtain ⟨t', h1, h2⟩ := ih (.inr rfl)
        exact ⟨t', .step (cr_rev h) (by rw [e]; exact h1), h2⟩
      · obtain ⟨t', h1, h2⟩ := ih (.inl rfl)
        exact ⟨t', .step (cr_rev h) (by rw [e]; exact h1), h2⟩

/-! ### to and fro -/
/-- r is m turned about again and again, cut somewhere behind the first whole one -/
structure TF (m r : L) : Prop where
  len : m.length ≤ r.length
  a : ∀ i, i < m.length → r[i]? = m[i]?
  b : ∀ i, m.length ≤ i → i < 2 * m.length → i < r.length → r[i]? = r[2 * m.length - 1 - i]?
  c : ∀ i, 2 * m.length ≤ i → i < r.length → r[i]? = r[i - 2 * m.length]?
theorem TF.comes {m : L} (hm : 1 ≤ m.length) : ∀ (n : Nat) {m r : L}, r.length ≤ n → 1 ≤ m.length → TF m r → ∃ t, Comes r t ∧ Al m t := by
  intro n
  induction n with
  | zero =>
    intro m r h h1 t
    have := t.len
    omega
  | succ n ih =>
    intro m r hn h1 t
    have hl := t.len
    by_cases he : r.length = m.length
    · refine ⟨r, .refl _, .inl ?_⟩
      apply List.ext_getElem?
      intro i
      by_cases hi : i < m.length
      · exact t.a i hi
      · rw [List.getElem?_eq_none (by omega), List.getElem?_eq_none (by omega)]
    · have hc : Cr r m.length := by
        refine ⟨h1, by omega, fun i hi hj => ?_⟩
        have := t.b (m.length + i) (by omega) (by omega) hj
        rw [this]
        congr 1
        omega
      by_cases h2 : 2 * m.length ≤ r.length
      · have e : left r m.length = r.drop m.length := by unfold left; rw [if_pos h2]
        have t' : TF m.reverse (r.drop m.length) := by
          refine ⟨by rw [List.length_reverse, List.length_drop]; omega, fun i hi => ?_, fun i h3 h4 h5 => ?_, fun i h3 h4 => ?_⟩
          · rw [List.length_reverse] at hi
            rw [List.getElem?_drop, get_rev hi, ← t.a _ (by omega), t.b _ (by omega) (by omega) (by omega)]
            congr 1
            omega
          · rw [List.length_reverse] at h3 h4
            rw [List.length_drop] at h5
            rw [List.length_reverse, List.getElem?_drop, List.getElem?_drop, t.c _ (by omega) (by omega), t.b _ (by omega : m.length ≤ m.length + (2 * m.length - 1 - i)) (by omega) (by omega)]
            congr 1
            omega
          · rw [List.length_reverse] at h3
            rw [List.length_drop] at h4
            rw [List.length_reverse, List.getElem?_drop, List.getElem?_drop, t.c _ (by omega) (by omega)]
            congr 1
            omega
        obtain ⟨u, c1, c2⟩ := ih (by rw [List.length_drop]; omega) (by rw [List.length_reverse]; exact h1) t'
        refine ⟨u, .step hc (by rw [e]; exact c1), Al.trans (.inr rfl) c2⟩
      · have e : left r m.length = r.take m.length := by unfold left; rw [if_neg h2]
        refine ⟨r.take m.length, .step hc (by rw [e]; exact .refl _), .inl ?_⟩
        apply List.ext_getElem?
        intro i
        by_cases hi : i < m.length
        · rw [List.getElem?_take_of_lt hi, t.a i hi]
        · rw [List.getElem?_eq_none (by rw [List.length_take]; omega), List.getElem?_eq_none (by omega)]
theorem TF.to {m r : L} (hm : 1 ≤ m.length) (t : TF m r) : ∃ u, Comes r u ∧ Al m u := TF.comes hm r.length (Nat.le_refl _) hm t

/-! ### two creases -/
theorem loc {s : L} {c d : Nat} (hc : Cr s c) (hd : Cr s d) (hcd : c < d) : ∃ v w, Comes (left s c) v ∧ Comes (left s d) w ∧ Al v w := by
  obtain ⟨c1, c2, c3⟩ := hc
  obtain ⟨d1, d2, d3⟩ := hd
  by_cases h2d : 2 * d ≤ s.length
  · -- both keep the right
    have e1 : left s c = s.drop c := by unfold left; rw [if_pos (by omega)]
    have e2 : left s d = s.drop d := by unfold left; rw [if_pos h2d]
    rw [e1, e2]
    have k : Cr (s.drop c) (d - c) := by
      refine ⟨by omega, by rw [List.length_drop]; omega, fun i hi hj => ?_⟩
      rw [List.length_drop] at hj
      rw [List.getElem?_drop, List.getElem?_drop]
      have := d3 i (by omega) (by omega)
      have q1 : c + (d - c - 1 - i) = d - 1 - i := by omega
      have q2 : c + (d - c + i) = d + i := by omega
      rw [q1, q2, this]
    have e3 : left (s.drop c) (d - c) = s.drop d := by
      unfold left
      rw [if_pos (by rw [List.length_drop]; omega), List.drop_drop]
      congr 1
      omega
    exact ⟨s.drop d, s.drop d, .step k (by rw [e3]; exact .refl _), .refl _, .refl _⟩
  · have e2 : left s d = s.take d := by unfold left; rw [if_neg h2d]
    rw [e2]
    by_cases h2c : 2 * c ≤ s.length
    · have e1 : left s c = s.drop c := by unfold left; rw [if_pos h2c]
      rw [e1]
      -- the middle part
      have hb : ((s.drop c).take (d - c)).length = d - c := by rw [List.length_take, List.length_drop]; omega
      have mid : ∀ i, i < d - c → ((s.drop c).take (d - c))[i]? = s[c + i]? := fun i hi => by
        rw [List.getElem?_take_of_lt hi, List.getElem?_drop]
      generalize hm : (s.drop c).take (d - c) = m at hb mid
      -- both come to the middle, or it turned about
      have A : ∃ v, Comes (s.drop c) v ∧ Al m v := by
        have k : Cr (s.drop c) (d - c) := by
          refine ⟨by omega, by rw [List.length_drop]; omega, fun i hi hj => ?_⟩
          rw [List.length_drop] at hj
          rw [List.getElem?_drop, List.getElem?_drop]
          have := d3 i (by omega) (by omega)
          have q1 : c + (d - c - 1 - i) = d - 1 - i := by omega
          have q2 : c + (d - c + i) = d + i := by omega
          rw [q1, q2, this]
        by_cases hh : 2 * (d - c) ≤ s.length - c
        · have e3 : left (s.drop c) (d - c) = s.drop d := by
            unfold left
            rw [if_pos (by rw [List.length_drop]; omega), List.drop_drop]
            congr 1
            omega
          have t : TF m.reverse (s.drop d) := by
            refine ⟨by rw [List.length_reverse, List.length_drop, hb]; omega, fun i hi => ?_, fun i h3 h4 h5 => ?_, fun i h3 h4 => ?_⟩
            · rw [List.length_reverse, hb] at hi
              rw [List.getElem?_drop, get_rev (by omega), mid _ (by omega), ← d3 i (by omega) (by omega)]
              congr 1
              omega
            · rw [List.length_reverse, hb] at h3 h4
              rw [List.length_drop] at h5
              rw [List.length_reverse, hb, List.getElem?_drop, List.getElem?_drop, ← d3 i (by omega) (by omega)]
              have q1 : d - 1 - i = c - 1 - (i - (d - c)) := by omega
              rw [q1, c3 _ (by omega) (by omega), ← d3 (2 * (d - c) - 1 - i) (by omega) (by omega)]
              congr 1
              omega
            · rw [List.length_reverse, hb] at h3
              rw [List.length_drop] at h4
              rw [List.length_reverse, hb, List.getElem?_drop, List.getElem?_drop, ← d3 i (by omega) (by omega)]
              have q1 : d - 1 - i = c - 1 - (i - (d - c)) := by omega
              rw [q1, c3 _ (by omega) (by omega)]
              congr 1
              omega
          obtain ⟨u, q1, q2⟩ := t.to (by rw [List.length_reverse, hb]; omega)
          exact ⟨u, .step k (by rw [e3]; exact q1), Al.trans (.inr rfl) q2⟩
        · have e3 : left (s.drop c) (d - c) = m := by
            unfold left
            rw [if_neg (by rw [List.length_drop]; omega), hm]
          exact ⟨m, .step k (by rw [e3]; exact .refl _), .refl _⟩
      have B : ∃ w, Comes (s.take d) w ∧ Al m w := by
        have k : Cr (s.take d) c := by
          refine ⟨by omega, by rw [List.length_take]; omega, fun i hi hj => ?_⟩
          rw [List.length_take] at hj
          rw [List.getElem?_take_of_lt (by omega), List.getElem?_take_of_lt (by omega)]
          exact c3 i hi (by omega)
        by_cases hh : 2 * c ≤ d
        · have e3 : left (s.take d) c = m := by
            unfold left
            rw [if_pos (by rw [List.length_take]; omega), ← hm, List.drop_take]
          exact ⟨m, .step k (by rw [e3]; exact .refl _), .refl _⟩
        · have e3 : left (s.take d) c = s.take c := by
            unfold left
            rw [if_neg (by rw [List.length_take]; omega), List.take_take]
            congr 1
            omega
          have pr : ∀ i, i < c → (s.take c).reverse[i]? = s[c + i]? := fun i hi => by
            rw [get_rev (by rw [List.length_take]; omega), List.length_take, List.getElem?_take_of_lt (by omega), ← c3 i hi (by omega)]
            congr 1
            omega
          have hlr : (s.take c).reverse.length = c := by rw [List.length_reverse, List.length_take]; omega
          have t : TF m (s.take c).reverse := by
            refine ⟨by rw [hlr, hb]; omega, fun i hi => ?_, fun i h3 h4 h5 => ?_, fun i h3 h4 => ?_⟩
            · rw [hb] at hi
              rw [pr i (by omega), mid i hi]
            · rw [hb] at h3 h4
              rw [hlr] at h5
              rw [hb, pr i h5, pr _ (by omega)]
              have q1 : c + i = d + (i - (d - c)) := by omega
              rw [q1, ← d3 _ (by omega) (by omega)]
              congr 1
              omega
            · rw [hb] at h3
              rw [hlr] at h4
              rw [hb, pr i h4, pr _ (by omega)]
              have q1 : c + i = d + (i - (d - c)) := by omega
              rw [q1, ← d3 _ (by omega) (by omega)]
              have q2 : d - 1 - (i - (d - c)) = c - 1 - (i - 2 * (d - c)) := by omega
              rw [q2, c3 _ (by omega) (by omega)]
          obtain ⟨u, q1, q2⟩ := t.to (by omega)
          obtain ⟨u', q3, q4⟩ := q1.al (s' := s.take c) (.inr (List.reverse_reverse _).symm)
          exact ⟨u', .step k (by rw [e3]; exact q3), q2.trans q4⟩
      obtain ⟨v, v1, v2⟩ := A
      obtain ⟨w, w1, w2⟩ := B
      exact ⟨v, w, v1, w1, v2.symm.trans w2⟩
    · -- both keep the left
      have e1 : left s c = s.take c := by unfold left; rw [if_neg h2c]
      rw [e1]
      have k : Cr (s.take d) c := by
        refine ⟨by omega, by rw [List.length_take]; omega, fun i hi hj => ?_⟩
        rw [List.length_take] at hj
        rw [List.getElem?_take_of_lt (by omega), List.getElem?_take_of_lt (by omega)]
        exact c3 i hi (by omega)
      have e3 : left (s.take d) c = s.take c := by
        unfold left
        rw [if_neg (by rw [List.length_take]; omega), List.take_take]
        congr 1
        omega
      exact ⟨s.take c, s.take c, .refl _, .step k (by rw [e3]; exact .refl _), .refl _⟩

/-! ### the least strip -/
theorem has_nf : ∀ (n : Nat) (s : L), s.length ≤ n → ∃ t, Comes s t ∧ NF t := by
  intro n
  induction n with
  | zero =>
    intro s h
    exact ⟨s, .refl _, fun c hc => by have := hc.1; have := hc.2.1; omega⟩
  | succ n ih =>
    intro s h
    by_cases hs : ∃ c, Cr s c
    · obtain ⟨c, hc⟩ := hs
      have := (left_len hc).1
      obtain ⟨t, h1, h2⟩ := ih (left s c) (by omega)
      exact ⟨t, .step hc h1, h2⟩
    · exact ⟨s, .refl _, fun c hc => hs ⟨c, hc⟩⟩
theorem uniq_aux : ∀ (n : Nat) (s : L), s.length ≤ n → ∀ t u, Comes s t → NF t → Comes s u → NF u → Al t u := by
  intro n
  induction n with
  | zero =>
    intro s h t u a _ b _
    have hs : NF s := fun c hc => by have := hc.1; have := hc.2.1; omega
    rw [nf_comes hs a, nf_comes hs b]
    exact .refl _
  | succ n ih =>
    intro s h t u a nt b nu
    cases a with
    | refl => rw [nf_comes nt b]; exact .refl _
    | @step _ _ c hc a =>
      cases b with
      | refl => exact absurd hc (nu c)
      | @step _ _ d hd b =>
        have lc := (left_len hc).1
        have ld := (left_len hd).1
        have key : ∃ v w, Comes (left s c) v ∧ Comes (left s d) w ∧ Al v w := by
          rcases Nat.lt_trichotomy c d with g | g | g
          · exact loc hc hd g
          · subst g
            exact ⟨_, _, .refl _, .refl _, .refl _⟩
          · obtain ⟨v, w, h1, h2, h3⟩ := loc hd hc g
            exact ⟨w, v, h2, h1, h3.symm⟩
        obtain ⟨v, w, h1, h2, h3⟩ := key
        obtain ⟨x, x1, x2⟩ := has_nf w.length w (Nat.le_refl _)
        obtain ⟨x', y1, y2⟩ := x1.al h3.symm
        have p1 : Al t x' := ih (left s c) (by omega) t x' a nt (h1.trans y1) (y2.nf x2)
        have p2 : Al x u := ih (left s d) (by omega) x u (h2.trans x1) x2 b nu
        exact (p1.trans y2.symm).trans p2
/-- whatever is folded first: the same, or turned about -/
theorem uniq {s t u : L} (a : Comes s t) (nt : NF t) (b : Comes s u) (nu : NF u) : Al t u := uniq_aux s.length s (Nat.le_refl _) t u a nt b nu
end Fo


namespace Fo
/-- r comes to l, or to it turned about -/
def Up (r l : L) : Prop := ∃ t, Comes r t ∧ Al l t
theorem Up.refl (l : L) : Up l l := ⟨l, .refl l, .refl l⟩
theorem Up.trans {a b c : L} (h : Up a b) (k : Up b c) : Up a c := by
  obtain ⟨t, t1, t2⟩ := h
  obtain ⟨u, u1, u2⟩ := k
  obtain ⟨v, v1, v2⟩ := u1.al t2
  exact ⟨v, t1.trans v1, u2.trans v2⟩
theorem unf_left {l : L} {k : Nat} (h1 : 1 ≤ k) (h2 : k ≤ l.length) : Cr ((l.take k).reverse ++ l) k ∧ left ((l.take k).reverse ++ l) k = l := by
  have hl : ((l.take k).reverse).length = k := by rw [List.length_reverse, List.length_take]; omega
  refine ⟨⟨h1, by rw [List.length_append, hl]; omega, fun i hi hj => ?_⟩, ?_⟩
  · rw [List.length_append, hl] at hj
    rw [List.getElem?_append_left (by omega), List.getElem?_append_right (by omega), hl, get_rev (by rw [List.length_take]; omega), List.length_take, List.getElem?_take_of_lt (by omega)]
    congr 1
    omega
  · unfold left
    rw [if_pos (by rw [List.length_append, hl]; omega), List.drop_append_of_le_length (by omega), List.drop_of_length_le (by omega), List.nil_append]
theorem unf_right {l : L} {k : Nat} (h1 : 1 ≤ k) (h2 : k ≤ l.length) : Cr (l ++ (l.drop (l.length - k)).reverse) l.length ∧ (k < l.length → left (l ++ (l.drop (l.length - k)).reverse) l.length = l) ∧ Al l (left (l ++ (l.drop (l.length - k)).reverse) l.length) := by
  have hl : ((l.drop (l.length - k)).reverse).length = k := by rw [List.length_reverse, List.length_drop]; omega
  refine ⟨⟨by omega, by rw [List.length_append, hl]; omega, fun i hi hj => ?_⟩, fun hk => ?_, ?_⟩
  · rw [List.length_append, hl] at hj
    rw [List.getElem?_append_left (by omega), List.getElem?_append_right (by omega), get_rev (by rw [List.length_drop]; omega), List.length_drop, List.getElem?_drop]
    congr 1
    omega
  · unfold left
    rw [if_neg (by rw [List.length_append, hl]; omega), List.take_append_of_le_length (by omega), List.take_length]
  · unfold left
    by_cases hk : k = l.length
    · rw [if_pos (by rw [List.length_append, hl]; omega), List.drop_append_of_le_length (by omega), List.drop_length, List.nil_append]
      right
      congr 1
      rw [hk, Nat.sub_self, List.drop_zero]
    · rw [if_neg (by rw [List.length_append, hl]; omega), List.take_append_of_le_length (by omega), List.take_length]
      exact .refl _
theorem up_left {l : L} {k : Nat} (h1 : 1 ≤ k) (h2 : k ≤ l.length) : Up ((l.take k).reverse ++ l) l := by
  obtain ⟨a, b⟩ := unf_left h1 h2
  exact ⟨l, .step a (by rw [b]; exact .refl _), .refl _⟩
theorem up_right {l : L} {k : Nat} (h1 : 1 ≤ k) (h2 : k ≤ l.length) : Up (l ++ (l.drop (l.length - k)).reverse) l := by
  obtain ⟨a, _, b⟩ := unf_right h1 h2
  exact ⟨_, .one a, b⟩
/-- all signs are a, b, c or d -/
def Sg (l : L) : Prop := ∀ c ∈ l, 97 ≤ c ∧ c ≤ 100
theorem Sg.rev {l : L} (h : Sg l) : Sg l.reverse := fun c hc => h c (List.mem_reverse.mp hc)
theorem Sg.app {l m : L} (h : Sg l) (k : Sg m) : Sg (l ++ m) := fun c hc => by
  rcases List.mem_append.mp hc with e | e
  · exact h c e
  · exact k c e
theorem Sg.take {l : L} (h : Sg l) (n : Nat) : Sg (l.take n) := fun c hc => h c (List.mem_of_mem_take hc)
theorem Sg.drop {l : L} (h : Sg l) (n : Nat) : Sg (l.drop n) := fun c hc => h c (List.mem_of_mem_drop hc)
theorem Sg.comes {s t : L} (h : Sg s) (a : Comes s t) : Sg t := fun c hc => h c (a.mem hc)

/-! ### the least strip, told -/
def nfAux : Nat → L → L
  | 0, s => s
  | n + 1, s => match creases s with
    | [] => s
    | c :: _ => nfAux n (left s c)
theorem nfAux_ok : ∀ (n : Nat) (s : L), s.length ≤ n → Comes s (nfAux n s) ∧ NF (nfAux n s)
  | 0, s, h => ⟨.refl s, fun c hc => by have := hc.1; have : c < s.length := hc.2.1; omega⟩
  | n + 1, s, h => by
    unfold nfAux
    cases e : creases s with
    | nil => exact ⟨.refl s, nf_iff.mpr e⟩
    | cons c r =>
      have hc : Cr s c := mem_creases.mp (by rw [e]; exact List.mem_cons_self ..)
      have := (left_len hc).1
      obtain ⟨a, b⟩ := nfAux_ok n (left s c) (by omega)
      exact ⟨.step hc a, b⟩
def nf (s : L) : L := nfAux s.length s
theorem nf_ok (s : L) : Comes s (nf s) ∧ NF (nf s) := nfAux_ok s.length s (Nat.le_refl _)
def minL (a b : L) : L := if b < a then b else a
theorem minL_comm (a b : L) : minL a b = minL b a := by
  unfold minL
  by_cases h1 : b < a
  · rw [if_pos h1, if_neg (List.lt_asymm h1)]
  · by_cases h2 : a < b
    · rw [if_neg h1, if_pos h2]
    · rw [if_neg h1, if_neg h2]
      exact List.le_antisymm (List.not_lt.mp h1) (List.not_lt.mp h2)
theorem minL_al (a : L) : Al a (minL a a.reverse) := by
  unfold minL
  split
  · exact .inr rfl
  · exact .inl rfl
theorem minL_of_al {a b : L} (h : Al a b) : minL a a.reverse = minL b b.reverse := by
  rcases h with rfl | rfl
  · rfl
  · rw [List.reverse_reverse, minL_comm]
def least (s : L) : L := minL (nf s) (nf s).reverse
theorem least_al (s : L) : Al (nf s) (least s) := minL_al _
theorem least_nf (s : L) : NF (least s) := (least_al s).nf (nf_ok s).2
theorem least_le (s : L) : minL (least s) (least s).reverse = least s := (minL_of_al (least_al s)).symm
theorem least_of {s t : L} (a : Comes s t) (n : NF t) : least s = minL t t.reverse := minL_of_al (uniq (nf_ok s).1 (nf_ok s).2 a n)
theorem al_least {s t : L} (a : Comes s t) (n : NF t) : Al (least s) t := (least_al s).symm.trans (uniq (nf_ok s).1 (nf_ok s).2 a n)
theorem least_comes {s t : L} (a : Comes s t) : least t = least s := by
  rw [least_of (a.trans (nf_ok t).1) (nf_ok t).2]
  rfl
theorem least_of_al {s t : L} (h : Al s t) : least s = least t := by
  obtain ⟨u, u1, u2⟩ := (nf_ok s).1.al h
  rw [least_of u1 (u2.nf (nf_ok s).2), ← minL_of_al u2]
  rfl
theorem least_up {r l : L} (h : Up r l) : least r = least l := by
  obtain ⟨t, a, b⟩ := h
  rw [← least_comes a, least_of_al b]
theorem least_rev (s : L) : least s.reverse = least s := (least_of_al (.inr rfl)).symm
/-- s comes to its least strip, or to it turned about -/
theorem to_least (s : L) : Up s (least s) := ⟨nf s, (nf_ok s).1, (least_al s).symm⟩
theorem nf_least {s : L} (h : NF s) : least s = minL s s.reverse := least_of (.refl s) h
theorem least_least (s : L) : least (least s) = least s := by rw [nf_least (least_nf s), least_le]
theorem least_mem {s : L} {x : Nat} (h : x ∈ least s) : x ∈ s := (nf_ok s).1.mem ((least_al s).mem.mp h)
theorem least_len (s : L) : (least s).length ≤ s.length := by rw [(least_al s).len]; exact (nf_ok s).1.len
theorem least_pos {s : L} (h : 1 ≤ s.length) : 1 ≤ (least s).length := by rw [(least_al s).len]; exact (nf_ok s).1.pos h
theorem Sg.least {s : L} (h : Sg s) : Sg (least s) := fun c hc => h c (least_mem hc)
end Fo

namespace Fo
theorem lies_rev_iff {l : L} {c : Nat} (h1 : 1 ≤ c) (h2 : c < l.length) :
    (l.drop (c - min c (l.length - c))).take (c - (c - min c (l.length - c))) = ((l.drop c).take (c + min c (l.length - c) - c)).reverse ↔ Lies l c := by
  generalize hr : min c (l.length - c) = r
  have hr1 : r ≤ c := by omega
  have hr2 : c + r ≤ l.length := by omega
  have e1 : c - (c - r) = r := by omega
  have e2 : c + r - c = r := by omega
  rw [e1, e2]
  have hl : ((l.drop c).take r).length = r := by rw [List.length_take, List.length_drop]; omega
  have A : ∀ i, i < r → ((l.drop (c - r)).take r)[i]? = l[c - r + i]? := fun i hi => by
    rw [List.getElem?_take_of_lt hi, List.getElem?_drop]
  have B : ∀ i, i < r → (((l.drop c).take r).reverse)[i]? = l[c + (r - 1 - i)]? := fun i hi => by
    rw [get_rev (by omega), hl, List.getElem?_take_of_lt (by omega), List.getElem?_drop]
  constructor
  · intro h i hi hj
    have hir : i < r := by omega
    have z := A (r - 1 - i) (by omega)
    rw [h, B (r - 1 - i) (by omega)] at z
    have q1 : c + (r - 1 - (r - 1 - i)) = c + i := by omega
    have q2 : c - r + (r - 1 - i) = c - 1 - i := by omega
    rw [q1, q2] at z
    exact z.symm
  · intro h
    apply List.ext_getElem?
    intro i
    by_cases hi : i < r
    · rw [A i hi, B i hi]
      have z := h (r - 1 - i) (by omega) (by omega)
      have q1 : c - 1 - (r - 1 - i) = c - r + i := by omega
      rw [q1] at z
      exact z
    · rw [List.getElem?_eq_none (by rw [List.length_take]; omega), List.getElem?_eq_none (by rw [List.length_reverse, hl]; omega)]
theorem range'_snoc (n : Nat) : List.range' 1 (n + 1) = List.range' 1 n ++ [1 + n] := by
  rw [List.range'_concat]
  simp
def crTo (l : L) (i : Nat) : List Nat := (List.range' 1 i).filter fun c => decide (Lies l c)
theorem crTo_all (l : L) : crTo l (l.length - 1) = creases l := rfl
theorem crTo_yes {l : L} {i : Nat} (h : Lies l (1 + i)) : crTo l (i + 1) = crTo l i ++ [1 + i] := by
  unfold crTo
  rw [range'_snoc, List.filter_append]
  simp [h]
theorem crTo_no {l : L} {i : Nat} (h : ¬ Lies l (1 + i)) : crTo l (i + 1) = crTo l i := by
  unfold crTo
  rw [range'_snoc, List.filter_append]
  simp [h]
theorem crTo_len (l : L) (i : Nat) : (crTo l i).length ≤ i := by
  unfold crTo
  exact Nat.le_trans (List.length_filter_le _ _) (by simp)
theorem creases_len (l : L) : (creases l).length ≤ l.length := Nat.le_trans (crTo_len l _) (by omega)
end Fo

namespace Fo
/-! ### going through all that is reached -/
section
variable (nxt : L → List L)
/-- what stands behind the turns of a walk: found, and still to be looked at -/
inductive Star : L → L → Prop
  | refl (s : L) : Star s s
  | step {s t u : L} : t ∈ nxt s → Star t u → Star s u
theorem Star.snoc {s t u : L} (a : Star nxt s t) (h : u ∈ nxt t) : Star nxt s u := by
  induction a with
  | refl s => exact .step h (.refl u)
  | step h' _ ih => exact .step h' (ih h)
def Rch (st : List L) (t : L) : Prop := ∃ s ∈ st, Star nxt s t
structure Dfs (st fs rs : List L) : Prop where
  nd : fs.Nodup
  rc : ∀ t ∈ fs, Rch nxt st t
  sub : ∀ t ∈ rs, t ∈ fs
  st : ∀ s ∈ st, s ∈ fs
  cl : ∀ t ∈ fs, t ∉ rs → ∀ u ∈ nxt t, u ∈ fs
/-- within a turn at here, j of its next ones seen -/
structure DfsIn (st fs rs : List L) (here : L) (j : Nat) : Prop where
  nd : fs.Nodup
  rc : ∀ t ∈ fs, Rch nxt st t
  sub : ∀ t ∈ rs, t ∈ fs
  st : ∀ s ∈ st, s ∈ fs
  mem : here ∈ fs
  cl : ∀ t ∈ fs, t ∉ rs → t ≠ here → ∀ u ∈ nxt t, u ∈ fs
  did : ∀ u ∈ (nxt here).take j, u ∈ fs
variable {nxt}
theorem Dfs.start {st : List L} (h : st.Nodup) : Dfs nxt st st st :=
  ⟨h, fun t ht => ⟨t, ht, .refl t⟩, fun _ h => h, fun _ h => h, fun t h1 h2 => absurd h1 h2⟩
theorem Dfs.pop {st fs rs : List L} {here : L} (D : Dfs nxt st fs (rs ++ [here])) : DfsIn nxt st fs rs here 0 :=
  ⟨D.nd, D.rc, fun t ht => D.sub t (List.mem_append_left _ ht), D.st, D.sub here (List.mem_append_right _ (List.mem_singleton.mpr rfl)),
    fun t h1 h2 h3 => D.cl t h1 fun hm => (List.mem_append.mp hm).elim h2 fun z => h3 (List.mem_singleton.mp z), fun u hu => by simp at hu⟩
theorem DfsIn.old {st fs rs : List L} {here u : L} {j : Nat} (D : DfsIn nxt st fs rs here j) (hu : (nxt here)[j]? = some u) (hm : u ∈ fs) : DfsIn nxt st fs rs here (j + 1) := by
  refine ⟨D.nd, D.rc, D.sub, D.st, D.mem, D.cl, fun v hv => ?_⟩
  rw [List.take_add_one, hu] at hv
  rcases List.mem_append.mp hv with hv | hv
  · exact D.did v hv
  · have : v = u := by simpa using hv
    rw [this]
    exact hm
theorem DfsIn.new {st fs rs : List L} {here u : L} {j : Nat} (D : DfsIn nxt st fs rs here j) (hu : (nxt here)[j]? = some u) (hm : u ∉ fs) : DfsIn nxt st (fs ++ [u]) (rs ++ [u]) here (j + 1) := by
  have hnu : u ∈ nxt here := List.mem_of_getElem? hu
  refine ⟨?_, fun t ht => ?_, fun t ht => ?_, fun s hs => List.mem_append_left _ (D.st s hs), List.mem_append_left _ D.mem, fun t h1 h2 h3 v hv => ?_, fun v hv => ?_⟩
  · rw [List.nodup_append]
    refine ⟨D.nd, by simp, fun a ha b hb => ?_⟩
    rw [List.mem_singleton.mp hb]
    intro e
    rw [e] at ha
    exact hm ha
  · rcases List.mem_append.mp ht with ht | ht
    · exact D.rc t ht
    · rw [List.mem_singleton.mp ht]
      obtain ⟨s, hs, a⟩ := D.rc here D.mem
      exact ⟨s, hs, Star.snoc nxt a hnu⟩
  · rcases List.mem_append.mp ht with ht | ht
    · exact List.mem_append_left _ (D.sub t ht)
    · exact List.mem_append_right _ ht
  · rcases List.mem_append.mp h1 with h1 | h1
    · exact List.mem_append_left _ (D.cl t h1 (fun z => h2 (List.mem_append_left _ z)) h3 v hv)
    · exact absurd (List.mem_append_right _ h1) h2
  · rw [List.take_add_one, hu] at hv
    rcases List.mem_append.mp hv with hv | hv
    · exact List.mem_append_left _ (D.did v hv)
    · have : v = u := by simpa using hv
      rw [this]
      exact List.mem_append_right _ (List.mem_singleton.mpr rfl)
theorem DfsIn.skip {st fs rs : List L} {here : L} {j : Nat} (D : DfsIn nxt st fs rs here j) (hj : (nxt here).length ≤ j) : Dfs nxt st fs rs := by
  refine ⟨D.nd, D.rc, D.sub, D.st, fun t h1 h2 u hu => ?_⟩
  by_cases e : t = here
  · subst e
    exact D.did u (by rw [List.take_of_length_le hj]; exact hu)
  · exact D.cl t h1 h2 e u hu
theorem Dfs.done {st fs : List L} (D : Dfs nxt st fs []) (t : L) : t ∈ fs ↔ Rch nxt st t := by
  constructor
  · exact D.rc t
  · rintro ⟨s, hs, a⟩
    have h := D.st s hs
    clear hs
    induction a with
    | refl => exact h
    | @step s t u h1 _ ih => exact ih (D.cl s h (fun z => nomatch z) t h1)
end
/-! ### lists in order -/
def Srt (xs : List L) : Prop := xs.Pairwise fun a b => ¬ b < a
theorem srt_uniq {xs ys : List L} (h1 : Srt xs) (h2 : Srt ys) (n1 : xs.Nodup) (n2 : ys.Nodup) (h : ∀ t, t ∈ xs ↔ t ∈ ys) : xs = ys := by
  have hp : xs.Perm ys := (List.perm_ext_iff_of_nodup n1 n2).mpr h
  refine hp.eq_of_pairwise (le := fun a b => ¬ b < a) ?_ h1 h2
  intro a b _ _ h3 h4
  exact List.le_antisymm (List.not_lt.mp h3) (List.not_lt.mp h4)
/-- all strips that come of one -/
def nxtF (s : L) : List L := (creases s).map (left s)
theorem star_comes {s t : L} : Star nxtF s t ↔ Comes s t := by
  constructor
  · intro a
    induction a with
    | refl s => exact .refl s
    | step h _ ih =>
      obtain ⟨c, hc, rfl⟩ := List.mem_map.mp h
      exact .step (mem_creases.mp hc) ih
  · intro a
    induction a with
    | refl s => exact .refl s
    | step h _ ih => exact .step (List.mem_map.mpr ⟨_, mem_creases.mpr h, rfl⟩) ih
theorem rch_comes {s t : L} : Rch nxtF [s] t ↔ Comes s t := by
  constructor
  · rintro ⟨u, hu, a⟩
    rw [List.mem_singleton.mp hu] at a
    exact star_comes.mp a
  · intro a
    exact ⟨s, List.mem_singleton.mpr rfl, star_comes.mpr a⟩
def subs (l : L) : List L := (List.range (l.length + 1)).flatMap fun i => (List.range (l.length + 1)).map fun j => (l.drop i).take j
theorem mem_subs {l t : L} : t ∈ subs l ↔ ∃ i j, i ≤ l.length ∧ j ≤ l.length ∧ t = (l.drop i).take j := by
  unfold subs
  rw [List.mem_flatMap]
  constructor
  · rintro ⟨i, hi, h⟩
    obtain ⟨j, hj, e⟩ := List.mem_map.mp h
    have := List.mem_range.mp hi
    have := List.mem_range.mp hj
    exact ⟨i, j, by omega, by omega, e.symm⟩
  · rintro ⟨i, j, hi, hj, rfl⟩
    exact ⟨i, List.mem_range.mpr (by omega), List.mem_map.mpr ⟨j, List.mem_range.mpr (by omega), rfl⟩⟩
theorem subs_len (l : L) : (subs l).length = (l.length + 1) * (l.length + 1) := by
  unfold subs
  rw [List.length_flatMap]
  have : (List.map (fun i => ((List.range (l.length + 1)).map fun j => (l.drop i).take j).length) (List.range (l.length + 1))) = List.replicate (l.length + 1) (l.length + 1) := by
    rw [List.eq_replicate_iff]
    refine ⟨by simp, fun b hb => ?_⟩
    obtain ⟨i, _, e⟩ := List.mem_map.mp hb
    rw [← e]
    simp
  rw [this]
  simp
theorem comes_subs {l t : L} (a : Comes l t) : t ∈ subs l := by
  have gen : ∀ s t : L, Comes s t → (∃ i j, i ≤ l.length ∧ j ≤ l.length ∧ s = (l.drop i).take j) → ∃ i j, i ≤ l.length ∧ j ≤ l.length ∧ t = (l.drop i).take j := by
    intro s t a
    induction a with
    | refl => exact id
    | @step s t c hc _ ih =>
      rintro ⟨i, j, hi, hj, rfl⟩
      apply ih
      obtain ⟨c1, c2, _⟩ := hc
      rw [List.length_take, List.length_drop] at c2
      unfold left
      split
      · exact ⟨i + c, j - c, by omega, by omega, by rw [List.drop_take, List.drop_drop]⟩
      · exact ⟨i, min c j, hi, by omega, by rw [List.take_take]⟩
  rw [mem_subs]
  exact gen l t a ⟨0, l.length, by omega, by omega, by simp⟩
theorem found_le {l : L} {fs : List L} (nd : fs.Nodup) (h : ∀ t ∈ fs, Comes l t) : fs.length ≤ (l.length + 1) * (l.length + 1) := by
  rw [← subs_len]
  exact nd.length_le_of_subset fun t ht => comes_subs (h t ht)
end Fo

namespace Fo
/-! ### unfolding, all texts of a length -/
def waysL (n : Nat) : List (Nat × Nat) := (List.range' 1 n).map (fun m => (0, m)) ++ (List.range' 1 (n - 1)).map (fun m => (1, m))
def unfL (s : L) (w : Nat × Nat) : L := if w.1 = 0 then (s.take w.2).reverse ++ s else s ++ (s.drop (s.length - w.2)).reverse
theorem mem_ways {n : Nat} {w : Nat × Nat} : w ∈ waysL n ↔ (w.1 = 0 ∧ 1 ≤ w.2 ∧ w.2 ≤ n) ∨ (w.1 = 1 ∧ 1 ≤ w.2 ∧ w.2 < n) := by
  obtain ⟨e, m⟩ := w
  unfold waysL
  rw [List.mem_append, List.mem_map, List.mem_map]
  constructor
  · rintro (⟨k, hk, h⟩ | ⟨k, hk, h⟩)
    · rw [List.mem_range'_1] at hk
      injection h with h1 h2
      subst h1 h2
      exact .inl ⟨rfl, hk.1, by show k ≤ n; omega⟩
    · rw [List.mem_range'_1] at hk
      injection h with h1 h2
      subst h1 h2
      exact .inr ⟨rfl, hk.1, by show k < n; omega⟩
  · rintro (⟨h1, h2, h3⟩ | ⟨h1, h2, h3⟩)
    · exact .inl ⟨m, by rw [List.mem_range'_1]; have : m ≤ n := h3; have : 1 ≤ m := h2; omega, by rw [show e = 0 from h1]⟩
    · exact .inr ⟨m, by rw [List.mem_range'_1]; have : m < n := h3; have : 1 ≤ m := h2; omega, by rw [show e = 1 from h1]⟩
theorem unfL_len {s : L} {w : Nat × Nat} (h : w ∈ waysL s.length) : (unfL s w).length = s.length + w.2 := by
  unfold unfL
  rcases mem_ways.mp h with ⟨h1, h2, h3⟩ | ⟨h1, h2, h3⟩
  · rw [if_pos h1, List.length_append, List.length_reverse, List.length_take]
    omega
  · rw [if_neg (by omega), List.length_append, List.length_reverse, List.length_drop]
    omega
theorem unfL_cr {s : L} {w : Nat × Nat} (h : w ∈ waysL s.length) : ∃ c, Cr (unfL s w) c ∧ left (unfL s w) c = s := by
  unfold unfL
  rcases mem_ways.mp h with ⟨h1, h2, h3⟩ | ⟨h1, h2, h3⟩
  · rw [if_pos h1]
    exact ⟨_, unf_left h2 h3⟩
  · rw [if_neg (by omega)]
    obtain ⟨a, b, _⟩ := unf_right (l := s) h2 (by omega)
    exact ⟨_, a, b h3⟩
theorem cr_unfL {t : L} {c : Nat} (h : Cr t c) : ∃ w, w ∈ waysL (left t c).length ∧ unfL (left t c) w = t := by
  obtain ⟨h1, h2, h3⟩ := h
  by_cases hc : 2 * c ≤ t.length
  · have e : left t c = t.drop c := by unfold left; rw [if_pos hc]
    rw [e]
    refine ⟨(0, c), mem_ways.mpr (.inl ⟨rfl, h1, by show c ≤ _; rw [List.length_drop]; omega⟩), ?_⟩
    unfold unfL
    rw [if_pos rfl]
    have : ((t.drop c).take c).reverse = t.take c := by
      apply List.ext_getElem?
      intro i
      by_cases hi : i < c
      · rw [get_rev (by rw [List.length_take, List.length_drop]; omega), List.length_take, List.length_drop, List.getElem?_take_of_lt (by omega), List.getElem?_drop, List.getElem?_take_of_lt hi]
        have := h3 (c - 1 - i) (by omega) (by omega)
        rw [show c - 1 - (c - 1 - i) = i by omega] at this
        rw [this]
        congr 1
        omega
      · rw [List.getElem?_eq_none (by rw [List.length_reverse, List.length_take]; omega), List.getElem?_eq_none (by rw [List.length_take]; omega)]
    show ((t.drop c).take c).reverse ++ t.drop c = t
    rw [this, List.take_append_drop]
  · have e : left t c = t.take c := by unfold left; rw [if_neg hc]
    rw [e]
    have hl : (t.take c).length = c := by rw [List.length_take]; omega
    refine ⟨(1, t.length - c), mem_ways.mpr (.inr ⟨rfl, by show 1 ≤ t.length - c; omega, by show t.length - c < _; rw [hl]; omega⟩), ?_⟩
    unfold unfL
    rw [if_neg (by show ¬ (1 = 0); omega), hl]
    show t.take c ++ ((t.take c).drop (c - (t.length - c))).reverse = t
    have : ((t.take c).drop (c - (t.length - c))).reverse = t.drop c := by
      apply List.ext_getElem?
      intro i
      by_cases hi : i < t.length - c
      · rw [get_rev (by rw [List.length_drop, hl]; omega), List.length_drop, hl, List.getElem?_drop, List.getElem?_take_of_lt (by omega), List.getElem?_drop]
        have := h3 i (by omega) (by omega)
        rw [← this]
        congr 1
        omega
      · rw [List.getElem?_eq_none (by rw [List.length_reverse, List.length_drop, hl]; omega), List.getElem?_eq_none (by rw [List.length_drop]; omega)]
    rw [this, List.take_append_drop]
theorem unfL_mem {s : L} {w : Nat × Nat} {x : Nat} (h : x ∈ unfL s w) : x ∈ s := by
  unfold unfL at h
  split at h
  · rcases List.mem_append.mp h with h | h
    · exact List.mem_of_mem_take (List.mem_reverse.mp h)
    · exact h
  · rcases List.mem_append.mp h with h | h
    · exact h
    · exact List.mem_of_mem_drop (List.mem_reverse.mp h)
/-- no sign is lost by a fold -/
theorem Comes.mem2 {s t : L} (a : Comes s t) {x : Nat} (h : x ∈ s) : x ∈ t := by
  induction a with
  | refl => exact h
  | step hc _ ih =>
    obtain ⟨w, _, e⟩ := cr_unfL hc
    exact ih (unfL_mem (s := left _ _) (w := w) (by rw [e]; exact h))
theorem Comes.sg2 {s t : L} (a : Comes s t) (h : Sg t) : Sg s := fun c hc => h c (a.mem2 hc)
/-- the unfoldings of one strip, of at most m cells -/
def nxtO (m : Nat) (s : L) : List L := (waysL s.length).map fun w => if s.length + w.2 ≤ m then unfL s w else s
theorem star_over {m : Nat} {s t : L} (hs : s.length ≤ m) : Star (nxtO m) s t ↔ t.length ≤ m ∧ Comes t s := by
  constructor
  · intro a
    induction a with
    | refl s => exact ⟨hs, .refl s⟩
    | @step s t u h _ ih =>
      obtain ⟨w, hw, rfl⟩ := List.mem_map.mp h
      by_cases hm : s.length + w.2 ≤ m
      · rw [if_pos hm] at ih
        obtain ⟨i1, i2⟩ := ih (by rw [unfL_len hw]; exact hm)
        obtain ⟨c, c1, c2⟩ := unfL_cr hw
        exact ⟨i1, i2.trans (.step c1 (by rw [c2]; exact .refl s))⟩
      · rw [if_neg hm] at ih
        exact ih hs
  · rintro ⟨ht, a⟩
    induction a with
    | refl s => exact .refl s
    | @step t s c hc _ ih =>
      have hl := (left_len hc).1
      refine Star.snoc _ (ih hs (by omega)) ?_
      obtain ⟨w, hw, e⟩ := cr_unfL hc
      refine List.mem_map.mpr ⟨w, hw, ?_⟩
      have := unfL_len hw
      rw [e] at this
      rw [if_pos (by omega), e]
theorem rch_over {m : Nat} {st : List L} {t : L} (hst : ∀ s ∈ st, s.length ≤ m) : Rch (nxtO m) st t ↔ t.length ≤ m ∧ ∃ s ∈ st, Comes t s := by
  constructor
  · rintro ⟨s, hs, a⟩
    obtain ⟨h1, h2⟩ := (star_over (hst s hs)).mp a
    exact ⟨h1, s, hs, h2⟩
  · rintro ⟨h, s, hs, a⟩
    exact ⟨s, hs, (star_over (hst s hs)).mpr ⟨h, a⟩⟩
/-! all texts of a length -/
def sgs (k : Nat) : List Nat := [97, 98, 99, 100].take k
theorem sgs_sg {k c : Nat} (h : c ∈ sgs k) : 97 ≤ c ∧ c ≤ 100 := by
  have := List.mem_of_mem_take h
  simp at this
  omega
theorem sgs_nd (k : Nat) : (sgs k).Nodup := by
  unfold sgs
  exact List.Nodup.sublist (List.take_sublist ..) (by decide)
def txA (k : Nat) : Nat → List L
  | 0 => [[]]
  | n + 1 => (txA k n).flatMap fun t => (sgs k).map fun c => t ++ [c]
def txB (k : Nat) : Nat → List L
  | 0 => [[]]
  | n + 1 => (sgs k).flatMap fun c => (txB k n).map fun t => t ++ [c]
theorem snoc_cases {t : L} {n : Nat} (h : t.length = n + 1) : ∃ u c, t = u ++ [c] ∧ u.length = n := by
  refine ⟨t.dropLast, t.getLast (fun e => by rw [e] at h; simp at h), ?_, ?_⟩
  · rw [List.dropLast_concat_getLast]
  · rw [List.length_dropLast]; omega
theorem mem_txA {k : Nat} : ∀ {n : Nat} {t : L}, t ∈ txA k n ↔ t.length = n ∧ ∀ c ∈ t, c ∈ sgs k
  | 0, t => by
    unfold txA
    rw [List.mem_singleton]
    constructor
    · rintro rfl
      exact ⟨rfl, fun c hc => nomatch hc⟩
    · rintro ⟨h, _⟩
      exact List.length_eq_zero_iff.mp h
  | n + 1, t => by
    unfold txA
    rw [List.mem_flatMap]
    constructor
    · rintro ⟨u, hu, h⟩
      obtain ⟨c, hc, rfl⟩ := List.mem_map.mp h
      obtain ⟨h1, h2⟩ := mem_txA.mp hu
      refine ⟨by rw [List.length_append, h1]; rfl, fun x hx => ?_⟩
      rcases List.mem_append.mp hx with hx | hx
      · exact h2 x hx
      · rw [List.mem_singleton.mp hx]
        exact hc
    · rintro ⟨h1, h2⟩
      obtain ⟨u, c, rfl, hu⟩ := snoc_cases h1
      exact ⟨u, mem_txA.mpr ⟨hu, fun x hx => h2 x (List.mem_append_left _ hx)⟩, List.mem_map.mpr ⟨c, h2 c (by simp), rfl⟩⟩
theorem mem_txB {k : Nat} : ∀ {n : Nat} {t : L}, t ∈ txB k n ↔ t.length = n ∧ ∀ c ∈ t, c ∈ sgs k
  | 0, t => by
    unfold txB
    rw [List.mem_singleton]
    constructor
    · rintro rfl
      exact ⟨rfl, fun c hc => nomatch hc⟩
    · rintro ⟨h, _⟩
      exact List.length_eq_zero_iff.mp h
  | n + 1, t => by
    unfold txB
    rw [List.mem_flatMap]
    constructor
    · rintro ⟨c, hc, h⟩
      obtain ⟨u, hu, rfl⟩ := List.mem_map.mp h
      obtain ⟨h1, h2⟩ := mem_txB.mp hu
      refine ⟨by rw [List.length_append, h1]; rfl, fun x hx => ?_⟩
      rcases List.mem_append.mp hx with hx | hx
      · exact h2 x hx
      · rw [List.mem_singleton.mp hx]
        exact hc
    · rintro ⟨h1, h2⟩
      obtain ⟨u, c, rfl, hu⟩ := snoc_cases h1
      exact ⟨c, h2 c (by simp), List.mem_map.mpr ⟨u, mem_txB.mpr ⟨hu, fun x hx => h2 x (List.mem_append_left _ hx)⟩, rfl⟩⟩
theorem snoc_inj {u v : L} {c d : Nat} (h : u ++ [c] = v ++ [d]) : u = v ∧ c = d := by
  have := List.append_inj' h rfl
  exact ⟨this.1, by simpa using this.2⟩
theorem txA_nd (k : Nat) : ∀ n, (txA k n).Nodup
  | 0 => by simp [txA]
  | n + 1 => by
    unfold txA List.Nodup
    rw [List.pairwise_flatMap]
    refine ⟨fun t _ => ?_, (txA_nd k n).imp fun {a b} hab x hx y hy e => ?_⟩
    · rw [List.pairwise_map]
      exact (sgs_nd k).imp fun {a b} hab e => hab (snoc_inj e).2
    · obtain ⟨c, _, rfl⟩ := List.mem_map.mp hx
      obtain ⟨d, _, rfl⟩ := List.mem_map.mp hy
      exact hab (snoc_inj e).1
theorem txB_nd (k : Nat) : ∀ n, (txB k n).Nodup
  | 0 => by simp [txB]
  | n + 1 => by
    unfold txB List.Nodup
    rw [List.pairwise_flatMap]
    refine ⟨fun t _ => ?_, (sgs_nd k).imp fun {a b} hab x hx y hy e => ?_⟩
    · rw [List.pairwise_map]
      exact (txB_nd k n).imp fun {a b} hab e => hab (snoc_inj e).1
    · obtain ⟨c, _, rfl⟩ := List.mem_map.mp hx
      obtain ⟨d, _, rfl⟩ := List.mem_map.mp hy
      exact hab (snoc_inj e).2
theorem txAB (k n : Nat) : (txA k n).Perm (txB k n) := (List.perm_ext_iff_of_nodup (txA_nd k n) (txB_nd k n)).mpr fun t => mem_txA.trans mem_txB.symm
theorem sgs_le (k : Nat) : (sgs k).length ≤ 4 := by
  unfold sgs
  rw [List.length_take]
  exact Nat.min_le_right _ _
theorem sum_le {α : Type} (f : α → Nat) (b : Nat) : ∀ xs : List α, (∀ x ∈ xs, f x ≤ b) → (xs.map f).sum ≤ xs.length * b
  | [], _ => by simp
  | x :: r, h => by
    rw [List.map_cons, List.sum_cons, List.length_cons, Nat.add_mul]
    have := h x (List.mem_cons_self ..)
    have := sum_le f b r fun y hy => h y (List.mem_cons_of_mem _ hy)
    omega
theorem txA_len (k : Nat) : ∀ n, (txA k n).length ≤ 4 ^ n
  | 0 => by simp [txA]
  | n + 1 => by
    unfold txA
    rw [List.length_flatMap]
    have h := sum_le (fun t : L => ((sgs k).map fun c => t ++ [c]).length) 4 (txA k n) (fun t _ => by rw [List.length_map]; exact sgs_le k)
    have := txA_len k n
    rw [Nat.pow_succ]
    omega
theorem txB_len (k n : Nat) : (txB k n).length ≤ 4 ^ n := by
  rw [← (txAB k n).length_eq]
  exact txA_len k n
def upTo (n : Nat) : List L := (List.range n).flatMap (txA 4)
theorem upTo_len : ∀ n, (upTo n).length ≤ 4 ^ n
  | 0 => by simp [upTo]
  | n + 1 => by
    have e : upTo (n + 1) = upTo n ++ txA 4 n := by
      unfold upTo
      rw [List.range_succ, List.flatMap_append]
      simp
    rw [e, List.length_append]
    have := upTo_len n
    have := txA_len 4 n
    rw [Nat.pow_succ]
    omega
theorem sg_sgs {t : L} (h : Sg t) : ∀ c ∈ t, c ∈ sgs 4 := fun c hc => by
  have := h c hc
  have : c = 97 ∨ c = 98 ∨ c = 99 ∨ c = 100 := by omega
  rcases this with e | e | e | e <;> subst e <;> decide
theorem found_upTo {fs : List L} {m : Nat} (nd : fs.Nodup) (h : ∀ t ∈ fs, t.length ≤ m ∧ Sg t) : fs.length ≤ 4 ^ (m + 1) := by
  refine Nat.le_trans (nd.length_le_of_subset fun t ht => ?_) (upTo_len (m + 1))
  obtain ⟨h1, h2⟩ := h t ht
  exact List.mem_flatMap.mpr ⟨t.length, List.mem_range.mpr (by omega), mem_txA.mpr ⟨rfl, sg_sgs h2⟩⟩
end Fo

namespace Fo
/-! ### the best rows -/
/-- a stands ahead of b: fewer (more) folds, then the lower row -/
def Ahead (few : Bool) (a b : List Nat) : Prop := (if few then a.length < b.length else b.length < a.length) ∨ a.length = b.length ∧ a < b
instance (few : Bool) (a b : List Nat) : Decidable (Ahead few a b) := by unfold Ahead; infer_instance
theorem ahead_total {few : Bool} {a b : List Nat} (h1 : ¬ Ahead few a b) (h2 : ¬ Ahead few b a) : a = b := by
  unfold Ahead at h1 h2
  have e : a.length = b.length := by
    cases few <;> simp at h1 h2 <;> omega
  have n1 : ¬ a < b := fun z => h1 (.inr ⟨e, z⟩)
  have n2 : ¬ b < a := fun z => h2 (.inr ⟨e.symm, z⟩)
  exact List.le_antisymm (List.not_lt.mp n2) (List.not_lt.mp n1)
theorem ahead_trans {few : Bool} {a b c : List Nat} (h1 : Ahead few a b) (h2 : Ahead few b c) : Ahead few a c := by
  unfold Ahead at *
  rcases h1 with h1 | ⟨h1, h1'⟩ <;> rcases h2 with h2 | ⟨h2, h2'⟩
  · left; cases few <;> simp at * <;> omega
  · left; cases few <;> simp at * <;> omega
  · left; cases few <;> simp at * <;> omega
  · right; exact ⟨by omega, List.lt_trans h1' h2'⟩
theorem ahead_irrefl {few : Bool} (a : List Nat) : ¬ Ahead few a a := by
  unfold Ahead
  rintro (h | ⟨_, h⟩)
  · cases few <;> simp at h
  · exact List.lt_irrefl _ h
/-- r is the best of some -/
def Best (few : Bool) (cs : List (List Nat)) (r : List Nat) : Prop := r ∈ cs ∧ ∀ x ∈ cs, ¬ Ahead few x r
theorem Best.uniq {few : Bool} {cs : List (List Nat)} {r s : List Nat} (h : Best few cs r) (k : Best few cs s) : r = s := ahead_total (k.2 r h.1) (h.2 s k.1)
def pickB (few : Bool) : Option (List Nat) → List (List Nat) → Option (List Nat)
  | o, [] => o
  | none, x :: r => pickB few (some x) r
  | some y, x :: r => pickB few (some (if Ahead few x y then x else y)) r
theorem pickB_snoc (few : Bool) : ∀ (xs : List (List Nat)) (o : Option (List Nat)) (x : List Nat), pickB few o (xs ++ [x]) = some (match pickB few o xs with | none => x | some y => if Ahead few x y then x else y)
  | [], none, x => rfl
  | [], some y, x => rfl
  | z :: r, none, x => by
    show pickB few (some z) (r ++ [x]) = _
    rw [pickB_snoc few r (some z) x]
    rfl
  | z :: r, some y, x => by
    show pickB few (some (if Ahead few z y then z else y)) (r ++ [x]) = _
    rw [pickB_snoc few r _ x]
    rfl
theorem pickB_ok (few : Bool) (xs : List (List Nat)) (hne : xs ≠ []) : ∃ r, pickB few none xs = some r ∧ Best few xs r := by
  have gen : ∀ n, ∀ xs : List (List Nat), xs.length = n → xs ≠ [] → ∃ r, pickB few none xs = some r ∧ Best few xs r := by
    intro n
    induction n with
    | zero => intro xs h hne; exact absurd (List.length_eq_zero_iff.mp h) hne
    | succ n ih =>
      intro xs h hne
      obtain ⟨ys, x, rfl⟩ : ∃ ys x, xs = ys ++ [x] := ⟨xs.dropLast, xs.getLast hne, (List.dropLast_concat_getLast hne).symm⟩
      rw [pickB_snoc]
      by_cases hy : ys = []
      · subst hy
        exact ⟨x, rfl, by simp, fun z hz => by rw [show z = x by simpa using hz]; exact ahead_irrefl x⟩
      · obtain ⟨r, h1, h2, h3⟩ := ih ys (by rw [List.length_append] at h; simp at h; exact h) hy
        rw [h1]
        refine ⟨_, rfl, ?_, fun z hz => ?_⟩
        · show (if Ahead few x r then x else r) ∈ _
          split
          · exact List.mem_append_right _ (by simp)
          · exact List.mem_append_left _ h2
        · show ¬ Ahead few z (if Ahead few x r then x else r)
          rcases List.mem_append.mp hz with hz | hz
          · split
            · rename_i hx
              exact fun k => h3 z hz (ahead_trans k hx)
            · exact h3 z hz
          · rw [show z = x by simpa using hz]
            split
            · exact ahead_irrefl x
            · assumption
  exact gen xs.length xs rfl hne
/-- the best row that leads to an end -/
def bestN (few : Bool) : Nat → L → List Nat
  | 0, _ => []
  | n + 1, s => (pickB few none ((creases s).map fun c => c :: bestN few n (left s c))).getD []
theorem bestN_eq (few : Bool) : ∀ (n m : Nat) (s : L), s.length ≤ n → s.length ≤ m → bestN few n s = bestN few m s
  | 0, m, s, h, _ => by
    have e : s = [] := List.length_eq_zero_iff.mp (by omega)
    subst e
    cases m with
    | zero => rfl
    | succ m => rfl
  | n + 1, 0, s, _, h => by
    have e : s = [] := List.length_eq_zero_iff.mp (by omega)
    subst e
    rfl
  | n + 1, m + 1, s, h1, h2 => by
    unfold bestN
    congr 2
    apply List.map_congr_left
    intro c hc
    have := (left_len (mem_creases.mp hc)).1
    rw [bestN_eq few n m (left s c) (by omega) (by omega)]
def best (few : Bool) (s : L) : List Nat := bestN few s.length s
def cands (few : Bool) (s : L) : List (List Nat) := (creases s).map fun c => c :: best few (left s c)
theorem best_step (few : Bool) (s : L) : best few s = (pickB few none (cands few s)).getD [] := by
  unfold best cands
  cases h : s.length with
  | zero =>
    have e : s = [] := List.length_eq_zero_iff.mp h
    subst e
    rfl
  | succ n =>
    show (pickB few none ((creases s).map fun c => c :: bestN few n (left s c))).getD [] = _
    congr 2
    apply List.map_congr_left
    intro c hc
    have := (left_len (mem_creases.mp hc)).1
    show c :: bestN few n (left s c) = c :: bestN few (left s c).length (left s c)
    rw [bestN_eq few n (left s c).length (left s c) (by omega) (Nat.le_refl _)]
theorem best_nil (few : Bool) {s : L} (h : creases s = []) : best few s = [] := by
  rw [best_step]
  unfold cands
  rw [h]
  rfl
theorem best_best (few : Bool) {s : L} (h : creases s ≠ []) : Best few (cands few s) (best few s) := by
  obtain ⟨r, h1, h2⟩ := pickB_ok few (cands few s) (by unfold cands; intro e; exact h (List.map_eq_nil_iff.mp e))
  rw [best_step, h1]
  exact h2
/-- a row of folds, one after the other -/
def RowOk : L → List Nat → L → Prop
  | s, [], t => s = t
  | s, c :: r, t => Cr s c ∧ RowOk (left s c) r t
theorem RowOk.comes : ∀ {r : List Nat} {s t : L}, RowOk s r t → Comes s t
  | [], s, t, h => by rw [show s = t from h]; exact .refl t
  | c :: r, s, t, h => .step h.1 (RowOk.comes h.2)
theorem RowOk.len : ∀ {r : List Nat} {s t : L}, RowOk s r t → r.length + t.length ≤ s.length
  | [], s, t, h => by rw [show s = t from h]; simp
  | c :: r, s, t, h => by
    have := RowOk.len h.2
    have := (left_len h.1).1
    rw [List.length_cons]
    omega
theorem best_row (few : Bool) : ∀ (n : Nat) (s : L), s.length ≤ n → ∃ t, RowOk s (best few s) t ∧ NF t
  | n, s, h => by
    by_cases hc : creases s = []
    · rw [best_nil few hc]
      exact ⟨s, rfl, nf_iff.mpr hc⟩
    · obtain ⟨c, c1, c2⟩ := List.mem_map.mp (best_best few hc).1
      have hcr := mem_creases.mp c1
      have := (left_len hcr).1
      obtain ⟨t, t1, t2⟩ := best_row few (left s c).length (left s c) (Nat.le_refl _)
      rw [← c2]
      exact ⟨t, ⟨hcr, t1⟩, t2⟩
termination_by _ s _ => s.length
theorem best_ok (few : Bool) (s : L) : ∃ t, RowOk s (best few s) t ∧ NF t := best_row few s.length s (Nat.le_refl _)
theorem best_len (few : Bool) (s : L) : (best few s).length ≤ s.length := by
  obtain ⟨t, h, _⟩ := best_ok few s
  have := h.len
  omega
theorem row_lt : ∀ {r : List Nat} {s t : L}, RowOk s r t → ∀ c ∈ r, c < s.length
  | [], _, _, _, _, hc => nomatch hc
  | c :: r, s, t, h, x, hx => by
    rcases List.mem_cons.mp hx with rfl | hx
    · exact h.1.2.1
    · have := row_lt h.2 x hx
      have := (left_len h.1).1
      omega
/-- the program's choice: the shortest (longest), of these the lowest -/
theorem best_choice {few : Bool} {cs : List (List Nat)} {m : Nat} {r : List Nat} (h1 : ∃ x ∈ cs, x.length = m) (h2 : ∀ x ∈ cs, if few then m ≤ x.length else x.length ≤ m) (h3 : r ∈ cs.filter fun x => decide (x.length = m)) (h4 : ∀ x ∈ cs.filter fun x => decide (x.length = m), ¬ x < r) : Best few cs r := by
  obtain ⟨r1, r2⟩ := List.mem_filter.mp h3
  have r2 := of_decide_eq_true r2
  refine ⟨r1, fun x hx => ?_⟩
  unfold Ahead
  have := h2 x hx
  rintro (h | ⟨h, k⟩)
  · cases few <;> simp at this h <;> omega
  · exact h4 x (List.mem_filter.mpr ⟨hx, decide_eq_true (by omega)⟩) k
end Fo

namespace Fo
/-! ### to and fro words, words of one sign -/
theorem TF.take {m r : L} (t : TF m r) {n : Nat} (h : m.length ≤ n) : TF m (r.take n) := by
  refine ⟨by rw [List.length_take]; have := t.len; omega, fun i hi => ?_, fun i h1 h2 h3 => ?_, fun i h1 h2 => ?_⟩
  · rw [List.getElem?_take_of_lt (by omega)]
    exact t.a i hi
  · rw [List.length_take] at h3
    rw [List.getElem?_take_of_lt (by omega), List.getElem?_take_of_lt (by omega)]
    exact t.b i h1 h2 (by omega)
  · rw [List.length_take] at h2
    rw [List.getElem?_take_of_lt (by omega), List.getElem?_take_of_lt (by omega)]
    exact t.c i h1 (by omega)
theorem TF.least {m r : L} (hm : 1 ≤ m.length) (t : TF m r) : least r = least m := by
  obtain ⟨u, a, b⟩ := t.to hm
  rw [← least_comes a, least_of_al b]
/-- w, w turned about, w, .. -/
def tfw (w : L) : Nat → L
  | 0 => []
  | n + 1 => tfw w n ++ (if n % 2 = 0 then w else w.reverse)
theorem tfw_len (w : L) : ∀ n, (tfw w n).length = n * w.length
  | 0 => by simp [tfw]
  | n + 1 => by
    unfold tfw
    rw [List.length_append, tfw_len w n, Nat.add_mul]
    split <;> simp
theorem tfw_get (w : L) : ∀ (n i : Nat), i < n * w.length → (tfw w n)[i]? = if (i / w.length) % 2 = 0 then w[i % w.length]? else w[w.length - 1 - i % w.length]?
  | 0, i, h => by simp at h
  | n + 1, i, h => by
    have hw : 0 < w.length := by
      rcases Nat.eq_zero_or_pos w.length with e | e
      · rw [e] at h; simp at h
      · exact e
    unfold tfw
    by_cases hi : i < n * w.length
    · rw [List.getElem?_append_left (by rw [tfw_len]; exact hi)]
      exact tfw_get w n i hi
    · rw [List.getElem?_append_right (by rw [tfw_len]; omega), tfw_len]
      rw [Nat.add_mul, Nat.one_mul] at h
      have e1 : i / w.length = n := by
        rw [Nat.div_eq_iff hw]
        omega
      have e2 : i % w.length = i - n * w.length := by
        have h9 := Nat.div_add_mod i w.length
        rw [e1, Nat.mul_comm] at h9
        omega
      rw [e1, e2]
      by_cases hp : n % 2 = 0
      · rw [if_pos hp, if_pos hp]
      · rw [if_neg hp, if_neg hp, get_rev (by omega)]
theorem tfw_tf {w : L} (hw : 1 ≤ w.length) {n : Nat} (hn : 1 ≤ n) : TF w (tfw w n) := by
  refine ⟨by rw [tfw_len]; exact Nat.le_mul_of_pos_left _ hn, fun i hi => ?_, fun i h1 h2 h3 => ?_, fun i h1 h2 => ?_⟩
  · rw [tfw_get w n i (Nat.lt_of_lt_of_le hi (Nat.le_mul_of_pos_left _ hn)), Nat.div_eq_of_lt hi, Nat.mod_eq_of_lt hi]
    rfl
  · rw [tfw_len] at h3
    have hj : 2 * w.length - 1 - i < w.length := by omega
    rw [tfw_get w n i h3, tfw_get w n _ (by omega), Nat.div_eq_of_lt hj, Nat.mod_eq_of_lt hj]
    have e1 : i / w.length = 1 := by
      rw [Nat.div_eq_iff (by omega)]
      omega
    have e2 : i % w.length = i - w.length := by
      have h9 := Nat.div_add_mod i w.length
      rw [e1] at h9
      omega
    rw [e1, e2, if_neg (by decide), if_pos (by decide)]
    congr 1
    omega
  · rw [tfw_len] at h2
    rw [tfw_get w n i h2, tfw_get w n _ (by omega)]
    have e1 : i / w.length = (i - 2 * w.length) / w.length + 2 := by
      have : i = (i - 2 * w.length) + 2 * w.length := by omega
      rw [this, Nat.add_mul_div_right _ _ (by omega)]
      simp
    have e2 : i % w.length = (i - 2 * w.length) % w.length := by
      have : i = (i - 2 * w.length) + w.length * 2 := by omega
      rw [this, Nat.add_mul_mod_self_left]
      congr 1
      omega
    rw [e1, e2, Nat.add_mod_right]
theorem tfw_rev (w : L) {n : Nat} (h : n = 2 ∨ n = 3 ∨ n = 4) : (tfw w n).reverse = tfw w n ∨ (tfw w n).reverse = tfw w.reverse n := by
  rcases h with rfl | rfl | rfl
  · left; simp [tfw]
  · right; simp [tfw]
  · left; simp [tfw]
theorem tfw_least {w : L} (hw : 1 ≤ w.length) {n k : Nat} (h : n = 2 ∨ n = 3 ∨ n = 4) (hk : w.length ≤ k) : least ((tfw w n).take k) = least w ∧ least ((tfw w n).drop ((tfw w n).length - k)) = least w := by
  refine ⟨((tfw_tf hw (by omega)).take hk).least hw, ?_⟩
  have e : ((tfw w n).drop ((tfw w n).length - k)).reverse = (tfw w n).reverse.take k := by
    by_cases h2 : k ≤ (tfw w n).length
    · rw [List.reverse_drop]
      congr 1
      omega
    · rw [show (tfw w n).length - k = 0 by omega, List.drop_zero, List.take_of_length_le (by rw [List.length_reverse]; omega)]
  rw [← least_rev, e]
  rcases tfw_rev w h with h2 | h2
  · rw [h2]
    exact ((tfw_tf hw (by omega)).take hk).least hw
  · rw [h2]
    have := ((tfw_tf (w := w.reverse) (by rw [List.length_reverse]; exact hw) (n := n) (by omega)).take (n := k) (by rw [List.length_reverse]; exact hk)).least (by rw [List.length_reverse]; exact hw)
    rw [this, least_rev]
/-! one sign -/
theorem rep_cr {b n c : Nat} (h1 : 1 ≤ c) (h2 : c < n) : Cr (List.replicate n b) c := by
  refine ⟨h1, by rw [List.length_replicate]; exact h2, fun i hi hj => ?_⟩
  rw [List.length_replicate] at hj
  rw [List.getElem?_replicate, List.getElem?_replicate, if_pos (by omega), if_pos hj]
theorem rep_left {b n c : Nat} (h1 : 1 ≤ c) (h2 : c < n) : left (List.replicate n b) c = List.replicate (max c (n - c)) b := by
  unfold left
  rw [List.length_replicate]
  split
  · rw [List.drop_replicate]; congr 1; omega
  · rw [List.take_replicate]; congr 1; omega
theorem rep_creases (b n : Nat) : creases (List.replicate n b) = List.range' 1 (n - 1) := by
  unfold creases
  rw [List.length_replicate, List.filter_eq_self.mpr]
  intro c hc
  rw [List.mem_range'_1] at hc
  exact decide_eq_true (rep_cr (b := b) hc.1 (by omega)).2.2
theorem rep_least {b n : Nat} (h : 1 ≤ n) : least (List.replicate n b) = [b] := by
  have h1 : ∀ x ∈ least (List.replicate n b), x = b := fun x hx => List.eq_of_mem_replicate (least_mem hx)
  have h2 := List.eq_replicate_iff.mpr ⟨rfl, h1⟩
  have h3 := least_nf (List.replicate n b)
  have h4 := least_pos (s := List.replicate n b) (by rw [List.length_replicate]; exact h)
  rw [h2] at h3
  by_cases h5 : (least (List.replicate n b)).length ≤ 1
  · rw [h2, show (least (List.replicate n b)).length = 1 by omega]
    rfl
  · exact absurd (rep_cr (b := b) (Nat.le_refl 1) (by omega)) (h3 1)
/-- halvings -/
def halv : Nat → Nat → Nat
  | 0, _ => 0
  | k + 1, n => if n ≤ 1 then 0 else 1 + halv k ((n + 1) / 2)
theorem halv_eq : ∀ (j k n : Nat), n ≤ j → n ≤ k → halv j n = halv k n
  | 0, k, n, h, _ => by
    have : n = 0 := by omega
    subst this
    cases k <;> rfl
  | j + 1, 0, n, _, h => by
    have : n = 0 := by omega
    subst this
    rfl
  | j + 1, k + 1, n, h1, h2 => by
    unfold halv
    split
    · rfl
    · rw [halv_eq j k ((n + 1) / 2) (by omega) (by omega)]
def hv (n : Nat) : Nat := halv n n
theorem hv_step {n : Nat} (h : 2 ≤ n) : hv n = 1 + hv ((n + 1) / 2) := by
  unfold hv
  obtain ⟨k, rfl⟩ : ∃ k, n = k + 1 := ⟨n - 1, by omega⟩
  show (if k + 1 ≤ 1 then 0 else 1 + halv k ((k + 1 + 1) / 2)) = _
  rw [if_neg (by omega), halv_eq k ((k + 1 + 1) / 2) ((k + 1 + 1) / 2) (by omega) (Nat.le_refl _)]
theorem hv_one {n : Nat} (h : n ≤ 1) : hv n = 0 := by
  have : n = 0 ∨ n = 1 := by omega
  rcases this with rfl | rfl <;> rfl
theorem hv_mono : ∀ (k m n : Nat), n ≤ k → m ≤ n → hv m ≤ hv n
  | k, m, n, hk, h => by
    by_cases hm : m ≤ 1
    · rw [hv_one hm]; exact Nat.zero_le _
    · rw [hv_step (by omega : 2 ≤ m), hv_step (by omega : 2 ≤ n)]
      have := hv_mono ((n + 1) / 2) ((m + 1) / 2) ((n + 1) / 2) (Nat.le_refl _) (by omega)
      omega
termination_by _ _ n => n
theorem rep_few (b : Nat) : ∀ (k n : Nat), n ≤ k → (best true (List.replicate n b)).length = hv n
  | k, n, hk => by
    by_cases hn : n ≤ 1
    · rw [hv_one hn, best_nil true (by rw [rep_creases, show n - 1 = 0 by omega]; rfl)]
      rfl
    · have hne : creases (List.replicate n b) ≠ [] := by
        rw [rep_creases]
        intro e
        have := congrArg List.length e
        rw [List.length_range'] at this
        simp at this
        omega
      have hb := best_best true hne
      have cand : ∀ c, 1 ≤ c → c < n → (c :: best true (left (List.replicate n b) c)).length = 1 + hv (max c (n - c)) := fun c h1 h2 => by
        rw [rep_left h1 h2, List.length_cons, rep_few b (max c (n - c)) (max c (n - c)) (Nat.le_refl _)]
        omega
      rw [hv_step (by omega : 2 ≤ n)]
      apply Nat.le_antisymm
      · have hm : (n / 2) ∈ creases (List.replicate n b) := by rw [rep_creases, List.mem_range'_1]; omega
        have := hb.2 _ (List.mem_map.mpr ⟨n / 2, hm, rfl⟩)
        have hle : ¬ (n / 2 :: best true (left (List.replicate n b) (n / 2))).length < (best true (List.replicate n b)).length := fun z => this (.inl (by simpa using z))
        rw [cand (n / 2) (by omega) (by omega), show max (n / 2) (n - n / 2) = (n + 1) / 2 by omega] at hle
        omega
      · obtain ⟨c, hc, e⟩ := List.mem_map.mp hb.1
        rw [rep_creases, List.mem_range'_1] at hc
        rw [← e, cand c hc.1 (by omega)]
        have := hv_mono (max c (n - c)) ((n + 1) / 2) (max c (n - c)) (Nat.le_refl _) (by omega)
        omega
termination_by _ n => n
decreasing_by all_goals omega
theorem rep_most (b : Nat) : ∀ (k n : Nat), n ≤ k → best false (List.replicate n b) = List.replicate (n - 1) 1
  | k, n, hk => by
    by_cases hn : n ≤ 1
    · rw [best_nil false (by rw [rep_creases, show n - 1 = 0 by omega]; rfl), show n - 1 = 0 by omega]
      rfl
    · have hne : creases (List.replicate n b) ≠ [] := by
        rw [rep_creases]
        intro e
        have := congrArg List.length e
        rw [List.length_range'] at this
        simp at this
        omega
      have cand : ∀ c, 1 ≤ c → c < n → (c :: best false (left (List.replicate n b) c)) = c :: List.replicate (max c (n - c) - 1) 1 := fun c h1 h2 => by
        rw [rep_left h1 h2, rep_most b (max c (n - c)) (max c (n - c)) (Nat.le_refl _)]
      refine (best_best false hne).uniq ⟨?_, fun x hx => ?_⟩
      · refine List.mem_map.mpr ⟨1, by rw [rep_creases, List.mem_range'_1]; omega, ?_⟩
        rw [cand 1 (Nat.le_refl _) (by omega), show max 1 (n - 1) = n - 1 by omega]
        obtain ⟨j, hj⟩ : ∃ j, n - 1 = j + 1 := ⟨n - 2, by omega⟩
        rw [hj]
        rfl
      · obtain ⟨c, hc, rfl⟩ := List.mem_map.mp hx
        rw [rep_creases, List.mem_range'_1] at hc
        rw [cand c hc.1 (by omega)]
        unfold Ahead
        rw [List.length_cons, List.length_replicate, List.length_replicate]
        rintro (h | ⟨h1, h2⟩)
        · simp at h
          omega
        · obtain ⟨j, hj⟩ : ∃ j, n - 1 = j + 1 := ⟨n - 2, by omega⟩
          rw [hj, List.replicate_succ, List.cons_lt_cons_iff] at h2
          rcases h2 with h2 | ⟨h2, h3⟩
          · omega
          · rw [show max c (n - c) - 1 = j by omega] at h3
            exact List.lt_irrefl _ h3
termination_by _ n => n
decreasing_by all_goals omega
/-! all that comes, by computing -/
def comesL : Nat → L → List L
  | 0, s => [s]
  | n + 1, s => s :: (creases s).flatMap fun c => comesL n (left s c)
theorem mem_comesL : ∀ (n : Nat) {s t : L}, s.length ≤ n → (t ∈ comesL n s ↔ Comes s t)
  | 0, s, t, h => by
    have e : s = [] := List.length_eq_zero_iff.mp (by omega)
    subst e
    unfold comesL
    rw [List.mem_singleton]
    constructor
    · rintro rfl; exact .refl _
    · intro a
      have := a.len
      exact List.length_eq_zero_iff.mp (by simpa using this)
  | n + 1, s, t, h => by
    unfold comesL
    rw [List.mem_cons, List.mem_flatMap]
    constructor
    · rintro (rfl | ⟨c, hc, ht⟩)
      · exact .refl _
      · have hcr := mem_creases.mp hc
        have := (left_len hcr).1
        exact .step hcr ((mem_comesL n (by omega)).mp ht)
    · intro a
      cases a with
      | refl => exact .inl rfl
      | step hc b =>
        have := (left_len hc).1
        exact .inr ⟨_, mem_creases.mpr hc, (mem_comesL n (by omega)).mpr b⟩
theorem comes_dec (s t : L) : Comes s t ↔ t ∈ comesL s.length s := (mem_comesL s.length (Nat.le_refl _)).symm
end Fo

/-! Infrastructure: a def of the text by its name (Def), its promise (Fn), calls by name. -/
namespace Lk
open PySem PySem.Spec PyProof.Rows L2
/-- the def x of the text stands under its name -/
structure Def (K : PySem.W.Frag) (mg : Str → Option Value) (x : Str) (st : Stmt) (ps : List Str) : Prop where
  ex : ∃ f fd, mg x = some (.ref f) ∧ Fun K x x st f fd ∧ Binds K fd ps [] ∧ ∀ (s : Shared) (us : List Value), us.length = ps.length → BindsTo s fd ⟨us, []⟩ (ps.zip us)
theorem def_mk {K : PySem.W.Frag} {h : Heap} {mg : Str → Option Value} {x : Str} {st : Stmt} {ps : List Str} {f : Addr} {oc : Value} {od an : Option Addr} {osl : Array (Option Value)} {kV doc pm cdv ct : Value} (X : K.In h) (G : h.Ns mainGlobals mg)
    (hb : ∀ (kV doc pm : Value) (an : Option Addr) (cdv ct : Value) (us : List Value), us.length = ps.length → bindArgs (PySem.W.fnOf x x (defArgs st) (defBody st) (defScope st) .none kV doc pm an cdv ct) ⟨us, []⟩ = pure (ps.zip us))
    (a : PySem.W.nsIn K mainGlobals x = some (some (.ref f))) (l : K.lookup f = some ⟨oc, od, .func (PySem.W.fnOf x x (defArgs st) (defBody st) (defScope st) .none kV doc pm an cdv ct), osl⟩)
    (c : PySem.W.codeIn K cdv x = true) (k : PySem.W.keepIn K (.ref f) = true) : Def K mg x st ps := by
  have F := fun_mk (st := st) l c k
  exact ⟨f, _, PySem.W.mg_of X G a, F, F.binds hb, fun s us hl => .of_eq (hb _ _ _ _ _ _ us hl)⟩
/-- what a def named x is worth -/
def Fn (P : Program) (w : World) (K : PySem.W.Frag) (mg : Str → Option Value) (base : Heap) (CX : CXT) (k : Nat) (x : Str) (ps : List Str) (sp : Sp) : Prop :=
  ∃ f fd, mg x = some (.ref f) ∧ PySem.W.keepIn K (.ref f) = true ∧ Binds K fd ps [] ∧ FnOk P w K mg base CX k f fd ps sp
section
variable {P : Program} {w : World} {K : PySem.W.Frag} {mg : Str → Option Value} {base : Heap}
theorem Def.fn {CX : CXT} {x : Str} {st : Stmt} {ps : List Str} {k : Nat} {sp : Sp} (D : Def K mg x st ps) (h : ∀ f fd, Fun K x x st f fd → FnOk P w K mg base CX k f fd ps sp) : Fn P w K mg base CX k x ps sp := by
  obtain ⟨f, fd, a, F, b, _⟩ := D.ex
  exact ⟨f, fd, a, F.kp, b, h f fd F⟩
theorem Fn.mono {CX : CXT} {x : Str} {ps : List Str} {j k : Nat} {sp : Sp} (F : Fn P w K mg base CX j x ps sp) (h : j ≤ k) : Fn P w K mg base CX k x ps sp := by
  obtain ⟨f, fd, a, b, c, d⟩ := F
  exact ⟨f, fd, a, b, c, d.mono h⟩
theorem Fn.imp {CX : CXT} {x : Str} {ps : List Str} {k : Nat} {sp sp' : Sp} (F : Fn P w K mg base CX k x ps sp) (h : ∀ vs H Q E, sp' vs H Q E → sp vs H Q E) : Fn P w K mg base CX k x ps sp' := by
  obtain ⟨f, fd, a, b, c, d⟩ := F
  exact ⟨f, fd, a, b, c, d.imp h⟩
end
section
variable {X : Cx} {x : Str} {ps : List Str} {k j : Nat} {sp : Sp} {e : Expr} {es : List Expr} {t : TA} {p pos : Pos}
/-- x(e, ..), nothing raised -/
def tFn (sp : Sp) (t : TA) : TE := fun σ H Q => t σ H fun vs H1 => sp vs H1 Q E0
theorem pe_fn (F : Fn X.prog X.w X.K X.mg X.base CX0 k x ps sp) (hr : Room j X.A) (ha : PA X (e :: es) t) (hj : k ≤ j := by decide) (hg : Gl X x := by rfl)
    (hdb : (x == ("__debug__" : Str)) = false := by decide) (he : starEach (e :: es) X.env = (false, eval e X.env) :: starEach es X.env := by rfl) (hpl : (backTo pos (starEach es X.env)).any (·.1) = false := by rfl) :
    PE X (.Call (.Name x p) (e :: es) [] pos) (tFn sp t) := by
  obtain ⟨f, fd, a, b, c, d⟩ := F
  have z := pe_call (E := E0) (p := p) (pos := pos) d (hr.mono hj) hg a b c .nil pass0 ha hdb he hpl
  refine ⟨fun pins s σ H Q I h => z.run pins s σ H Q I ?_⟩
  show t σ H fun vs H1 => sp (vs ++ []) H1 Q E0
  have e : (fun vs H1 => sp (vs ++ []) H1 Q E0) = fun (vs : List V) H1 => sp vs H1 Q E0 := by
    funext vs H1
    rw [List.append_nil]
  rw [e]
  exact h
end
/-- all but the object at b stands as it was -/
def But (b : Addr) (H H' : Hp) : Prop := ∀ a o, a ≠ b → H a = some o → H' a = some o
theorem But.refl (b : Addr) (H : Hp) : But b H H := fun _ _ _ h => h
theorem But.trans {b : Addr} {H H1 H2 : Hp} (a : But b H H1) (c : But b H1 H2) : But b H H2 := fun x o n h => c x o n (a x o n h)
theorem But.same {b : Addr} {H H1 H2 : Hp} (a : But b H H1) (c : Same H1 H2) : But b H H2 := fun x o n h => c x o (a x o n h)
theorem Same.but {b : Addr} {H H1 : Hp} (a : Same H H1) : But b H H1 := fun x o _ h => a x o h
theorem Same.upd {H : Hp} {p : Addr} {o : HO} (h : H p = none) : Same H (L2.upd H p o) := fun b x e => by
  rw [upd_ne (ne_of_none e h)]
  exact e
theorem Same.upd' {H0 H : Hp} {p : Addr} {o : HO} (s : Same H0 H) (h : H p = none) : Same H0 (L2.upd H p o) := s.trans (Same.upd h)
theorem Same.upd2 {H0 H : Hp} {p : Addr} {o : HO} (s : Same H0 H) (h : H0 p = none) : Same H0 (L2.upd H p o) := fun b x e => by
  rw [upd_ne (ne_of_none e h)]
  exact s b x e
theorem But.free {b l : Addr} {H H' : Hp} (e : But b H H') (n : l ≠ b) (h : H' l = none) : H l = none := by
  cases q : H l with
  | none => rfl
  | some o =>
    rw [e l o n q] at h
    cases h
theorem But.upd2 {b p : Addr} {o : HO} {H H' : Hp} (e : But b H H') (h : H p = none) : But b H (L2.upd H' p o) := fun c x n q => by
  rw [upd_ne (ne_of_none q h)]
  exact e c x n q
theorem But.seq {K : PySem.W.Frag} {b : Addr} {H H' : Hp} {a : Addr} {xs : List V} (e : But b H H') (n : a ≠ b) (h : SqL K H a xs) : SqL K H' a xs := by
  rcases h with (h | ⟨o, h⟩) | h
  · exact .inl (.inl (e _ _ n h))
  · exact .inl (.inr ⟨o, e _ _ n h⟩)
  · exact .inr h
end Lk


/-! Rules for texts: [::-1], min of two, sorting of any number. -/
namespace Lk
open PySem PySem.Spec PyProof.Rows L2
abbrev S (l : List Nat) : Str := SX.S l
abbrev vS (l : List Nat) : V := .str (S l)
theorem S_len (l : List Nat) : (S l).length = l.length := SX.S_len l
theorem S_tl (l : List Nat) : (S l).cps.toList = l := rfl
theorem S_of (x : Str) : S x.cps.toList = x := SX.S_tl x
theorem S_inj {a b : List Nat} : S a = S b ↔ a = b := ⟨SX.S_inj, fun h => by rw [h]⟩
theorem vS_inj {a b : List Nat} : vS a = vS b ↔ a = b := ⟨fun h => SX.S_inj (V.str.inj h), fun h => by rw [h]⟩
theorem vS_dec (a b : List Nat) : decide (vS a = vS b) = decide (a = b) := by
  by_cases h : a = b
  · rw [decide_eq_true h, decide_eq_true (vS_inj.mpr h)]
  · rw [decide_eq_false h, decide_eq_false fun e => h (vS_inj.mp e)]
section
variable {X : Cx}
/-! ### s[::-1] -/
def tRevS (te : TE) : TE := fun σ H Q => te σ H fun x H1 => ∃ l, x = vS l ∧ l.length ≤ sizeLine ∧ Q (vS l.reverse) H1
theorem rev_list (x : Str) (u : Tok) : (Txt.sliceBy x none none (-1, u)).cps.toList = x.cps.toList.reverse := by
  rw [step_rev_list]
  apply List.ext_getElem?
  intro i
  by_cases hi : i < x.length
  · have hs : x.cps.size = x.length := rfl
    rw [List.getElem?_map, List.getElem?_range hi, List.getElem?_reverse (by rw [Array.length_toList]; exact hi), Array.length_toList]
    show some (x.cps.getD (x.length - 1 - i) 0) = x.cps.toList[x.length - 1 - i]?
    have h2 : x.length - 1 - i < x.cps.size := by omega
    rw [Array.getElem?_toList, Array.getElem?_eq_getElem h2]
    congr 1
    simp [Array.getD, h2]
  · rw [List.getElem?_eq_none (by rw [List.length_map, List.length_range]; omega), List.getElem?_eq_none (by rw [List.length_reverse, Array.length_toList]; show x.length ≤ i; omega)]
theorem pe_revS {e : Expr} {te : TE} {k : Nat} {p1 p2 p3 pos : Pos} (he : PE X e te) : PE X (.Subscript e (.Slice none none (some (.UnaryOp .USub (.Constant (.int 1) k p1) p2)) p3) pos) (tRevS te) := by
  refine ⟨fun pins s σ H Q I h => ?_⟩
  refine Subscript_ (thn (he.run pins s σ H _ I h) fun v s1 ⟨x, H1, I1, r1, q1⟩ => ?_)
  obtain ⟨z, ex, hz, q⟩ := q1
  subst ex
  obtain ⟨tz, rfl⟩ := r1
  have hst : PO X (some (.UnaryOp .USub (.Constant (.int 1) k p1) p2)) (tPart (tUn (rU fun i => .int (-i)) (tC (.int 1)))) := po_some (pe_un un_neg pe_int)
  refine wpAny_Slice (thn (po_none.run pins s1 σ H1 (fun o H2 => o = none ∧ H2 = H1) I1 ⟨rfl, rfl⟩) fun vl s2 ⟨l, H2, I2, pl, el, e2⟩ => ?_)
  subst el e2
  refine thn (po_none.run pins s2 σ H2 (fun o H3 => o = none ∧ H3 = H2) I2 ⟨rfl, rfl⟩) fun vu s3 ⟨u, H3, I3, pu, eu, e3⟩ => ?_
  subst eu e3
  refine thn (hst.run pins s3 σ H3 (fun o H4 => o = some (-1) ∧ H4 = H3) I3 ⟨1, rfl, -1, rfl, rfl, rfl⟩) fun vs s4 ⟨o, H4, I4, ps, eo, e4⟩ => ?_
  subst eo e4
  have I5 : Inv X pins σ H4 { s4 with heap := s4.heap.push { cls := .type "slice", data := .fields #[vl, vu, vs] } } := I4.kept (t' := s4.toks) fun b ob q => Heap.get?_push_of_some _ q
  show wpAny (model X.prog X.w) X.A (subscriptTail e (.Slice none none (some (.UnaryOp .USub (.Constant (.int 1) k p1) p2)) p3) (.str (S z) tz) (.ref s4.heap.objs.size)) (EP X pins σ Q) X.xe { s4 with heap := s4.heap.push { cls := .type "slice", data := .fields #[vl, vu, vs] } }
  obtain ⟨l, rfl, el⟩ := IsPart.raw pl
  obtain ⟨u, rfl, eu⟩ := IsPart.raw pu
  obtain ⟨st, rfl, es⟩ := IsPart.raw ps
  have el' : l = none := by cases l with | none => rfl | some p => simp at el
  have eu' : u = none := by cases u with | none => rfl | some p => simp at eu
  subst el' eu'
  obtain ⟨t, es'⟩ : ∃ t, st = some (-1, t) := by
    cases st with
    | none => simp at es
    | some p =>
      obtain ⟨p1, p2⟩ := p
      have e1 : p1 = -1 := Option.some.inj es
      exact ⟨p2, by rw [e1]⟩
  subst es'
  refine tail_any (ops := [.str (S z) tz, .ref s4.heap.objs.size]) (typeIs_str _ _ _) (PySem.F.slot_str_getitem.lookup) ?_ (by with_unfolding_all rfl)
  refine wpAny_getItem_str_slice (l := none) (u := none) (st := some (-1, t)) ⟨_, Heap.get?_push_size _ rfl, rfl, rfl⟩ (by rfl) ?_
  have hrl := rev_list (S z) t
  have hcond : ¬ ((((some ((-1 : Int), t)).map (·.1)).getD 1 == 1 && (slicePicked (S z) none none (some (-1, t))).length == (S z).length) = true) := by
    have : ((((some ((-1 : Int), t)).map (·.1)).getD 1 == 1)) = false := rfl
    rw [this]; simp
  unfold Txt.sliceBy at hrl
  rw [if_neg hcond] at hrl
  unfold sliceMade
  rw [if_neg hcond]
  have e9 : (⟨((slicePicked (S z) none none (some (-1, t))).filterMap ((S z).cps[·]?)).toArray⟩ : Str) = S z.reverse := by
    apply TL.ext_tl
    exact hrl
  rw [e9]
  exact ⟨by rw [S_len, List.length_reverse]; exact hz, vS z.reverse, _, I5.tok _, ⟨_, rfl⟩, q⟩

/-! ### min(s, t) -/
def strItems (xs : Array (Str × Tok)) : Array Value := xs.map fun p => .str p.1 p.2
def strAt (xs : Array (Str × Tok)) (i : Nat) : Str := (xs[i]?.map (·.1)).getD ⟨#[]⟩
theorem strItems_at {xs : Array (Str × Tok)} {i : Nat} {v : Value} (h : (strItems xs)[i]? = some v) : ∃ t, v = .str (strAt xs i) t := by
  simp only [strItems, Array.getElem?_map, Option.map_eq_some_iff] at h
  obtain ⟨p, hp, rfl⟩ := h
  exact ⟨p.2, by simp [strAt, hp]⟩
theorem cmp_strs_lt {prog : Program} {w : World} {A : Around} {P : Nat → Value → Prop} (val : Nat → Str) (hval : ∀ i v, P i v → ∃ t, v = .str (val i) t) :
    CmpOf prog w A .Lt P (fun i j => decide ((val i).cps.toList < (val j).cps.toList)) := fun i j vi vj s Q E hi hj h => by
  obtain ⟨t, rfl⟩ := hval i vi hi
  obtain ⟨u, rfl⟩ := hval j vj hj
  exact richCompare_gives (op := .Lt) (typeIs_str s _ t) (typeIs_str s _ u) PySem.F.slot_str_lt PySem.F.entry_str_lt (PySem.F.args_str_lt_2 _ _) (gives_str_lt _ _ t u) (fun x => nomatch x) h
theorem min_two_strs {prog : Program} {w : World} {A : Around} {E : Value → Shared → Prop} {s : Shared} {a b : Str} {t u : Tok} {Q : Value → Shared → Prop} (hh : A.handled = none)
    (h : ∀ h' tk, (∀ c o, s.heap.get? c = some o → h'.get? c = some o) → Q (if b.cps.toList < a.cps.toList then .str b u else .str a t) { s with heap := h', toks := tk }) :
    wpAny (model prog w) A (call (.builtin "min") [.str a t, .str b u]) Q E s := by
  have hT : (s.heap.push { cls := .type "tuple", data := .seq #[.str a t, .str b u] }).IsTuple s.heap.objs.size (strItems #[(a, t), (b, u)]) := ⟨_, Heap.get?_push_size _ rfl, rfl, 0, by simp [strItems]⟩
  refine call_min_two (wpAny_pyIter_tuple hT ?_)
  have hsz : (s.heap.push { cls := .type "tuple", data := .seq #[.str a t, .str b u] }).objs.size = s.heap.objs.size + 1 := Heap.size_push ..
  refine ⟨_, [_, s.heap.objs.size], [_], _, _, _, _, rfl, Walks.tuple (A := A.in1) hh _ s.heap.objs.size (by rw [hsz]; exact Nat.ne_of_lt (Nat.lt_succ_self _)) (strItems #[(a, t), (b, u)]),
    ⟨⟨_, Heap.get?_push_size _ rfl, rfl, rfl⟩, hT.push _⟩, fun c hc => ?_, by simp [strItems], cmp_strs_lt (strAt #[(a, t), (b, u)]) (fun _ _ => strItems_at), fun v h' tk hP hk => ?_⟩
  · show c < ((s.heap.push _).push _).objs.size
    rw [Heap.size_push, hsz]
    rcases List.mem_cons.mp hc with rfl | hc
    · rw [hsz]; exact Nat.lt_succ_self _
    · rcases List.mem_cons.mp hc with rfl | hc
      · exact Nat.lt_succ_of_lt (Nat.lt_succ_self _)
      · cases hc
  · have hold : ∀ c o, s.heap.get? c = some o → h'.get? c = some o := fun c o e => by
      refine hk c o (fun hm => ?_) (Heap.get?_push_of_some _ (Heap.get?_push_of_some _ e))
      rcases List.mem_cons.mp hm with e1 | hm
      · have := Heap.lt_size e; rw [e1, hsz] at this; exact Nat.lt_irrefl _ (Nat.lt_of_succ_lt this)
      · cases hm
    have := h h' tk hold
    have hv : v = if b.cps.toList < a.cps.toList then Value.str b u else Value.str a t := by
      have hP' : (strItems #[(a, t), (b, u)])[argBest (fun i j => decide ((strAt #[(a, t), (b, u)] i).cps.toList < (strAt #[(a, t), (b, u)] j).cps.toList)) 1]? = some v := by
        have hsz2 : (strItems #[(a, t), (b, u)]).size - 1 = 1 := by simp [strItems]
        rw [← hsz2]; exact hP
      by_cases hba : b.cps.toList < a.cps.toList
      · have e : argBest (fun i j => decide ((strAt #[(a, t), (b, u)] i).cps.toList < (strAt #[(a, t), (b, u)] j).cps.toList)) 1 = 1 := by simp [argBest, strAt, hba]
        rw [e] at hP'
        simpa [strItems, hba] using hP'.symm
      · have e : argBest (fun i j => decide ((strAt #[(a, t), (b, u)] i).cps.toList < (strAt #[(a, t), (b, u)] j).cps.toList)) 1 = 0 := by simp [argBest, strAt, hba]
        rw [e] at hP'
        simpa [strItems, hba] using hP'.symm
    rw [hv]; exact this
theorem call_minS (hc : X.calm = true) : CallR X (.builtin "min") (fun xs H Q => ∃ a b, xs = [vS a, vS b] ∧ Q (vS (if b < a then b else a)) H) := by
  intro pins s σ H xs us Q I r h
  obtain ⟨a, b, rfl, q⟩ := h
  obtain ⟨u, w', rfl, ⟨t, rfl⟩, ⟨t', rfl⟩⟩ := vals2 r
  refine min_two_strs (I.ok.hd hc) fun h' tk k => ⟨_, H, I.kept k, ?_, q⟩
  by_cases hb : b < a
  · rw [if_pos hb, if_pos (show (S b).cps.toList < (S a).cps.toList from hb)]; exact ⟨_, rfl⟩
  · rw [if_neg hb, if_neg (show ¬ (S b).cps.toList < (S a).cps.toList from hb)]; exact ⟨_, rfl⟩

/-! ### sorted(xs), sorted(d): texts, any number -/
def rSortedSA (K : PySem.W.Frag) : List V → Hp → VK → Prop := fun vs H Q => ∃ (a : Addr) (xs : List Str), vs = [V.ref a] ∧ SqL K H a (xs.map V.str) ∧
  ∀ (ys : List Str) (p : Addr), ys.Perm xs → sortedS ys = true → H p = none → Q (.ref p) (upd H p (.lst (ys.map V.str)))
theorem cr_sortedSA : CallR X (.builtin "sorted") (rSortedSA X.K) := by
  intro pins s σ H vs us Q I r h
  obtain ⟨a, xs, rfl, hs, q⟩ := h
  obtain ⟨its, rv, hl, hz⟩ := I.list hs
  rw [Vals.ref1 r]
  have hlen0 := rv.length
  refine PyProof.Rows.sorted_strsAny hl.isList rv.strs (by rw [← hlen0]; exact hz) fun out ys h1 h2 h3 => ?_
  obtain ⟨ep, he'⟩ := PyProof.Rows.sortedAll_at s.heap its out
  have hlen : (ys.map V.str).length ≤ sizeLine := by rw [List.length_map, h2.length_eq]; rw [List.length_map] at hz; exact hz
  exact ⟨.ref _, upd H (s.heap.objs.size + 1) (.lst (ys.map V.str)), I.laid (t' := s.toks) (fun _ _ => PyProof.Rows.sortedAll_old) (Nat.le_succ _) ⟨hlen, out.toList, ep, vals_of_strs h1, he'⟩, rfl, q ys _ h2 h3 (I.hok.fresh (Nat.le_succ _))⟩
def rSortedDA : List V → Hp → VK → Prop := fun xs H Q => ∃ (a : Addr) (kvs : List (Key × V)) (ks : List Str), xs = [.ref a] ∧ Rd H a (.dK kvs) ∧ kvs.map (·.1) = ks.map Sum.inr ∧
    ∀ ys p, ys.Perm ks → sortedS ys = true → H p = none → Q (.ref p) (upd H p (.lst (ys.map V.str)))
theorem call_sortedDA (hcalm : X.calm = true) : CallR X (.builtin "sorted") rSortedDA := by
  intro pins s σ H xs us Q I r q
  obtain ⟨a, kvs, ks, ex, hd, hks, q⟩ := q
  subst ex
  obtain ⟨u, eu, rx⟩ := vals1 r
  subst eu
  cases rx
  obtain ⟨z, lo, vs, rel, dd⟩ := dk_rd I.hok hd
  obtain ⟨ep, hat⟩ := dd.dictAt
  have hkeys : vs.map (·.1) = ks.map Sum.inr := rel.keys.symm.trans hks
  have hl : vs.length = ks.length := by
    have e := congrArg List.length hkeys
    rw [List.length_map, List.length_map] at e
    exact e
  have h16' : kvs.length = ks.length := by
    have e := congrArg List.length hks
    rw [List.length_map, List.length_map] at e
    exact e
  have h16 : vs.length ≤ sizeLine := by rw [hl, ← h16']; exact z
  refine Calls.call_function_entry PyProof.Rows.kind_sorted PyProof.Rows.plain_sorted PyProof.Rows.entry_sorted (PyProof.Rows.args_sorted1 _) ?_
  unfold Builtin.«sorted»
  refine wpAny_bind (m := checkCount "sorted" 1 1 _) (wpAny_pure ?_)
  refine wpAny_bind (PySem.W.kdu_collect (A := X.A.in1) (PySem.W.kdl_dict (knd := mixKind X.prog X.w) (kvs := vs) (ep := ep) lo) (I.ok.hd hcalm) hat h16 fun h' tk acc hk hacc => ?_)
  have hal : acc.toList.length = ks.length := by rw [Array.length_toList, hacc.1, hl]
  have hS : StrsAre acc.toList ks := strs_at hal fun j v e => by
    obtain ⟨k, x, e1, e2⟩ := hacc.2 j v (by rw [← Array.getElem?_toList]; exact e)
    have e3 : (vs.map (·.1))[j]? = some k := by rw [List.getElem?_map, e1]; all_goals rfl
    rw [hkeys, List.getElem?_map] at e3
    cases e4 : ks[j]? with
    | none => rw [e4] at e3; cases e3
    | some y =>
      rw [e4] at e3
      have e5 : Sum.inr y = k := Option.some.inj e3
      subst e5
      obtain ⟨t, ev⟩ := Value.isStrOf_shape (x := y) (v := v) e2
      exact ⟨y, t, rfl, ev⟩
  have I1 : Inv X pins σ H { s with heap := h', toks := tk } := I.kept hk
  refine wpAny_bind (wpAny_newList ?_ (by rw [hal, ← hl]; exact h16))
  have hoL : (h'.push (seqObj "list" acc.toList.toArray 0)).get? h'.objs.size = some (seqObj "list" acc.toList.toArray 0) := Heap.get?_push_size _ rfl
  show wpAny _ _ _ _ _ { s with heap := h'.push (seqObj "list" acc.toList.toArray 0), toks := tk }
  refine wpAny_bind (wpAny_holding (wpAny_call_entry PyProof.Rows.slot_list_sort ⟨_, hoL, rfl⟩ PyProof.Rows.entry_list_sort
    (list_sort_treeKAny strKind_oneLt (s := { s with heap := h'.push (seqObj "list" acc.toList.toArray 0), toks := tk }) hoL hS.keysOf (fun v₁ v₂ rest e => keyKind_strs (by rw [← e]; exact hS)) (by rw [hal, ← hl]; exact h16) fun st' hp hs => ⟨_, rfl, ?_⟩)
    (PyProof.Rows.args_list_sort _)))
  obtain ⟨ys, g1, g2, g3⟩ := sorted_out_str hS hp hs
  obtain ⟨e', he'⟩ := PyProof.Rows.sortedHeap_at (vs := acc.toList) (out := (arrOf st').map (·.2)) hoL
  have hlen : (ys.map V.str).length ≤ sizeLine := by
    rw [List.length_map, g2.length_eq, ← hl]
    exact h16
  refine wpAny_pure ⟨_, rfl, .ref h'.objs.size, upd H h'.objs.size (.lst (ys.map V.str)), I1.laid (t' := tk) (fun b u e => ?_) (Nat.le_refl _)
    (show ObjOk X.prog X.w _ _ _ (.lst (ys.map V.str)) from ⟨hlen, ((arrOf st').map (·.2)).toList, e', vals_of_strs g1, by rw [Array.toArray_toList]; exact he'⟩), rfl, q ys _ g2 g3 (I1.hok.fresh (Nat.le_refl _))⟩
  have hb : b < h'.objs.size := Heap.lt_size e
  rw [PyProof.Rows.sortedHeap_old (Nat.ne_of_lt hb) (by rw [size_push']; exact Nat.lt_succ_of_lt hb)]
  exact Heap.get?_push_of_some _ e
end
end Lk


namespace Lk
open PySem PySem.Spec PyProof.Rows L2
/-! ### rules over lists of signs -/
abbrev vI (c : Nat) : V := .int (c : Int)
/-- l[lo:hi] -/
def cutL (l : List Nat) (lo hi : Option Int) : List Nat := (l.drop (HT.sIx l.length 0 lo)).take (HT.sIx l.length l.length hi - HT.sIx l.length 0 lo)
theorem cutS_S (l : List Nat) (lo hi : Option Int) : cutS (S l) lo hi = S (cutL l lo hi) := by
  unfold cutS cutL
  rw [S_len]
theorem cut_to (l : List Nat) {i : Int} (h : 0 ≤ i) : cutL l none (some i) = l.take i.toNat := by
  have e : i = ((i.toNat : Nat) : Int) := by omega
  unfold cutL
  rw [HT.sIx_none, e, HT.sIx_nat, List.drop_zero, Nat.sub_zero, Int.toNat_natCast]
  by_cases hl : i.toNat ≤ l.length
  · rw [Nat.min_eq_left hl]
  · rw [Nat.min_eq_right (by omega), List.take_length, List.take_of_length_le (by omega)]
theorem cut_from (l : List Nat) {i : Int} (h : 0 ≤ i) : cutL l (some i) none = l.drop i.toNat := by
  have e : i = ((i.toNat : Nat) : Int) := by omega
  unfold cutL
  rw [HT.sIx_none, e, HT.sIx_nat, Int.toNat_natCast]
  by_cases hl : i.toNat ≤ l.length
  · rw [Nat.min_eq_left hl, List.take_of_length_le (by rw [List.length_drop]; omega)]
  · rw [Nat.min_eq_right (by omega), List.drop_length, List.drop_eq_nil_of_le (by omega), List.take_nil]
theorem cut_mid (l : List Nat) {i j : Int} (h : 0 ≤ i) (h2 : i ≤ j) (h3 : j ≤ l.length) : cutL l (some i) (some j) = (l.drop i.toNat).take (j.toNat - i.toNat) := by
  have e : i = ((i.toNat : Nat) : Int) := by omega
  have e2 : j = ((j.toNat : Nat) : Int) := by omega
  unfold cutL
  rw [e, e2, HT.sIx_nat, HT.sIx_nat, Int.toNat_natCast, Int.toNat_natCast, Nat.min_eq_left (by omega), Nat.min_eq_left (by omega)]
theorem cut_neg (l : List Nat) {i : Int} (h : i < 0) (h2 : 0 ≤ l.length + i) : cutL l (some i) none = l.drop (l.length + i).toNat := by
  have e : HT.sIx l.length 0 (some i) = (l.length + i).toNat := by
    show (if i < 0 then (i + (l.length : Int)).toNat else min i.toNat l.length) = _
    rw [if_pos h, Int.add_comm]
  unfold cutL
  rw [HT.sIx_none, e, List.take_of_length_le (by rw [List.length_drop]; omega)]
theorem cut_len (l : List Nat) (lo hi : Option Int) : (cutL l lo hi).length ≤ l.length := by
  unfold cutL
  rw [List.length_take, List.length_drop]
  omega
section
variable {X : Cx}
theorem big {n : Nat} (h : n ≤ 1000000) : n ≤ sizeLine := Nat.le_trans h (by decide)
theorem sl_S : SlR X (fun x lo hi H Q => ∃ l, x = vS l ∧ l.length ≤ 1000000 ∧ Q (vS (cutL l lo hi)) H) := by
  intro pins s σ H x v vl vu lo hi sl Q I rx hs pl pu ⟨l, e, hl, q⟩
  refine sl_str pins s σ H x v vl vu lo hi sl Q I rx hs pl pu ⟨S l, e, by rw [S_len]; exact big hl, ?_⟩
  rw [cutS_S]
  exact q
theorem op_catS : OpR X (binaryOp .Add) (fun x y H Q => ∃ a b, x = vS a ∧ y = vS b ∧ a.length + b.length ≤ 1000000 ∧ Q (vS (a ++ b)) H) := by
  intro pins s σ H x y v u Q I rx ry ⟨a, b, e1, e2, hl, q⟩
  refine op_add_str pins s σ H x y v u Q I rx ry ⟨S a, S b, e1, e2, by rw [S_len, S_len]; exact big hl, ?_⟩
  rw [SX.S_cat]
  exact q
theorem call_lenS : CallR X (.builtin "len") (fun xs H Q => ∃ l, xs = [vS l] ∧ l.length ≤ 1000000 ∧ Q (.int l.length) H) := by
  intro pins s σ H xs us Q I r ⟨l, e, hl, q⟩
  refine call_len_str pins s σ H xs us Q I r ⟨S l, e, by rw [S_len]; exact big hl, ?_⟩
  rw [S_len]
  exact q
/-- len of a text, a list, a tuple -/
def LenX (K : PySem.W.Frag) (x : V) (H : Hp) (n : Nat) : Prop := (∃ l, x = vS l ∧ l.length ≤ 1000000 ∧ n = l.length) ∨ (∃ p xs, x = .ref p ∧ SqL K H p xs ∧ n = xs.length) ∨ ∃ p xs, x = .ref p ∧ SqT K H p xs ∧ n = xs.length
theorem call_lenX : CallR X (.builtin "len") (fun xs H Q => ∃ x n, xs = [x] ∧ LenX X.K x H n ∧ Q (.int n) H) := by
  intro pins s σ H xs us Q I r ⟨x, n, e, hl, q⟩
  rcases hl with ⟨l, rfl, h1, rfl⟩ | ⟨p, ys, rfl, h1, rfl⟩ | ⟨p, ys, rfl, h1, rfl⟩
  · exact call_len pins s σ H xs us Q I r ⟨_, _, e, ⟨by rw [S_len]; exact big h1, (S_len l).symm⟩, q⟩
  · exact call_len pins s σ H xs us Q I r ⟨_, _, e, .inl ⟨ys, h1, rfl⟩, q⟩
  · exact call_len pins s σ H xs us Q I r ⟨_, _, e, .inr ⟨ys, h1, rfl⟩, q⟩
theorem ix_S : IxR X (fun x y H Q => ∃ l i c, x = vS l ∧ y = .int i ∧ l.length ≤ 1000000 ∧ atI l i = some c ∧ Q (vS [c]) H) := by
  intro value slice pins s σ H x y v u Q I rx ry ⟨l, i, c, e1, e2, hl, ha, q⟩ hs
  exact ix_str value slice pins s σ H x y v u Q I rx ry ⟨S l, i, c, e1, e2, by rw [S_len]; exact big hl, ha, q⟩ hs
theorem map_vS (ys : List (List Nat)) : (ys.map S).map V.str = ys.map vS := by rw [List.map_map]; rfl
/-- sep.join(list of texts) -/
theorem mt_joinS : MtR X "str.join" (fun x xs H Q => ∃ a p, ∃ ys : List (List Nat), x = vS a ∧ xs = [.ref p] ∧ (SqL X.K H p (ys.map vS) ∨ SqT X.K H p (ys.map vS)) ∧ (ys.map (·.length)).sum + ys.length * a.length ≤ 16777216 ∧ Q (vS (TL.joinL a ys)) H) := by
  intro pins s σ H x xs v us Q I rx rxs ⟨a, p, ys, e1, e2, h1, h2, q⟩
  refine mt_join pins s σ H x xs v us Q I rx rxs ⟨S a, p, ys.map S, e1, e2, by rw [map_vS]; exact h1, by rw [SX.lens, S_len, List.length_map]; exact h2, ?_⟩
  rw [SX.join_S]
  exact q
theorem pe_joinS {o e : Expr} {to te : TE} {apos pos : Pos} (ho : PE X o to) (he : PE X e te) (hs : starEach [e] X.env = [(false, eval e X.env)] := by rfl) (hbase : attributeBase o "join" X.env (eval o X.env) = eval o X.env := by rfl) (hline : (apos.endLine == pos.line) = true := by rfl) :
    PE X (.Call (.Attribute o "join" apos) [e] [] pos) (tM1 (fun x xs H Q => ∃ a p, ∃ ys : List (List Nat), x = vS a ∧ xs = [.ref p] ∧ (SqL X.K H p (ys.map vS) ∨ SqT X.K H p (ys.map vS)) ∧ (ys.map (·.length)).sum + ys.length * a.length ≤ 16777216 ∧ Q (vS (TL.joinL a ys)) H) to te) :=
  pe_m1 PySem.F.slot_str_join PySem.F.type_str_join mt_joinS ho he hs hbase hline
theorem joinL_flat : ∀ ys : List (List Nat), TL.joinL [] ys = ys.flatten
  | [] => rfl
  | [p] => by simp [TL.joinL]
  | p :: q :: r => by
    show p ++ ([] ++ TL.joinL [] (q :: r)) = _
    rw [joinL_flat (q :: r), List.nil_append]
    rfl
end
end Lk

/-! sorted(d, key=len), d a dict whose keys are texts; any number of them. -/
namespace Lk
open PySem PySem.Spec PyProof.Rows L2
section
variable {prog : Program} {w : World} {A : Around} {E : Value → Shared → Prop} {s : Shared}
def lensOf (ss : List Str) : List Int := ss.map fun x => (x.length : Int)
/-- what a sort by length hands on -/
def ByLen (ss : List Str) (vs out : List Value) : Prop := ∃ ys : List Str, StrsAre out ys ∧ ys.Perm ss ∧ ys.Pairwise (fun x y => x.length ≤ y.length)
theorem byLen_of {vs out : List Value} {ss : List Str} (hS : StrsAre vs ss) (h : KskOut false (lensOf ss) vs out) : ByLen ss vs out := by
  obtain ⟨ps, h1, h2, h3⟩ := h
  have hlen := StrsAre.length hS
  have key : ∀ p ∈ ps, ∃ x t, p.2 = Value.str x t ∧ p.1 = (x.length : Int) := fun p hp => by
    have hm := h1.mem_iff.mp hp
    obtain ⟨i, hi, e⟩ := List.getElem_of_mem hm
    rw [List.getElem_zip] at e
    have hi1 : i < ss.length := by
      have := hi
      rw [List.length_zip, lensOf, List.length_map] at this
      omega
    have hi2 : i < vs.length := by
      have := hi
      rw [List.length_zip] at this
      omega
    have hi0 : i < (lensOf ss).length := by
      unfold lensOf
      rw [List.length_map]
      exact hi1
    obtain ⟨x, t, ev⟩ := StrsAre.all hS _ (List.getElem_mem hi2)
    refine ⟨x, t, by rw [← e]; exact ev, ?_⟩
    rw [← e]
    show (lensOf ss)[i] = (x.length : Int)
    have es : ss = vs.map strOf := (StrsAre.strs hS).symm
    have q0 : (lensOf ss)[i]? = some ((ss[i]).length : Int) := by
      unfold lensOf
      rw [List.getElem?_map, List.getElem?_eq_getElem hi1]
      rfl
    rw [List.getElem?_eq_getElem hi0] at q0
    have this : (lensOf ss)[i] = ((ss[i]).length : Int) := Option.some.inj q0
    rw [this]
    have e2 : ss[i] = strOf vs[i] := by
      have := List.getElem_map strOf (l := vs) (i := i) (h := by rw [List.length_map]; exact hi2)
      rw [← this]
      congr 1
    rw [e2, ev]
    rfl
  refine ⟨out.map strOf, strsAre_map _ (fun v hv => ?_), ?_, ?_⟩
  · rw [h2] at hv
    obtain ⟨p, hp, rfl⟩ := List.mem_map.mp hv
    obtain ⟨x, t, e, _⟩ := key p hp
    exact ⟨x, t, e⟩
  · have e1 : (ps.map Prod.snd).Perm vs := by
      have := h1.map Prod.snd
      rw [List.map_snd_zip (by rw [lensOf, List.length_map]; omega)] at this
      exact this
    rw [h2, ← StrsAre.strs hS]
    exact e1.map strOf
  · rw [h2, List.map_map, List.pairwise_map]
    have hp : ps.Pairwise (fun p q : Int × Value => p.1 ≤ q.1) := h3
    refine hp.imp_of_mem fun {a b} ha hb hab => ?_
    obtain ⟨x, t, e1, e2⟩ := key a ha
    obtain ⟨y, u, e3, e4⟩ := key b hb
    show (strOf a.2).length ≤ (strOf b.2).length
    rw [e1, e3]
    show x.length ≤ y.length
    omega
variable {a kS : Addr} {vs : List Value} {kz : List Int} {keys : Array Value} {e e1 : Nat} {P : PySem.Fin → Shared → Prop}
theorem len_tail {st : SortSt} (nk : s.heap.get? kS = some (seqObj "list" keys e)) (na : s.heap.get? a = some (seqObj "list" #[] e1)) (hka : kS ≠ a)
    (hk : IntsAre keys.toList kz) (hlen : kz.length = vs.length) (hL : vs.length ≤ sizeLine) (hp : (arrOf st).Perm (keys.zip vs.toArray)) (hs : SortedTo (arrOf st) (arrOf st).size) (hfl : failedOf st = none)
    (h : ∀ h' tk out c, (∀ b o, b ≠ kS → b ≠ a → s.heap.get? b = some o → h'.get? b = some o) → h'.get? a = some (seqObj "list" out c) → KskOut false kz vs out.toList → P (.done (.ret .none)) { s with heap := h', toks := tk }) :
    wpAny (model prog w) A (ksk_tail a false e1 (.ref kS) st) P E s := by
  have hL2 := hL
  rw [sizeLine_eq] at hL2
  have hsz : keys.size = vs.length := by
    have h1 := hk.length
    rw [Array.length_toList] at h1
    omega
  have hsz2 : (arrOf st).size = vs.length := by rw [hp.size_eq, Array.size_zip, hsz, List.size_toArray, Nat.min_self]
  have hout : ((arrOf st).map (·.2)).size = vs.length := by rw [Array.size_map]; exact hsz2
  have s1 := Heap.SameBut.update s.heap kS (Obj.mapSeq fun _ => (#[] : Array Value))
  have na1 : (s.heap.update kS (Obj.mapSeq fun _ => (#[] : Array Value))).get? a = some (seqObj "list" #[] e1) := (s1.2 a hka.symm).trans na
  have s2 := Heap.SameBut.update (s.heap.update kS (Obj.mapSeq fun _ => (#[] : Array Value))) a (Obj.mapSeq fun _ => (arrOf st).map (·.2))
  obtain ⟨c2, hc2⟩ : ∃ c2, ((s.heap.update kS (Obj.mapSeq fun _ => (#[] : Array Value))).update a (Obj.mapSeq fun _ => (arrOf st).map (·.2))).get? a = some (seqObj "list" ((arrOf st).map (·.2)) c2) :=
    ⟨_, get?_update_seq na1 fun _ => (arrOf st).map (·.2)⟩
  unfold ksk_tail
  try dsimp only
  refine wpAny_bind (listUpdate_at nk rfl ?_ (by rw [hsz]; exact hL) (Nat.zero_le _))
  refine wpAny_bind (wpAny_letGo ?_)
  refine wpAny_bind (seqEpoch_at na1 rfl ?_)
  refine wpAny_bind (listUpdate_at na1 rfl ?_ (Nat.zero_le _) (Nat.le_trans (Nat.le_of_eq hout) (Nat.le_succ_of_le hL)))
  rw [hfl]
  simp only [bne_self_eq_false, Bool.false_eq_true, if_false]
  exact wpAny_pure (h _ _ _ c2 (fun b o h1 h2 q => (s2.2 b h2).trans ((s1.2 b h1).trans q)) hc2 (ksk_out (b := false) hk hp hs))
theorem len_end (nk : s.heap.get? kS = some (seqObj "list" keys e)) (na : s.heap.get? a = some (seqObj "list" #[] e1)) (hka : kS ≠ a)
    (hk : IntsAre keys.toList kz) (hlen : kz.length = vs.length) (hL : vs.length ≤ sizeLine)
    (h : ∀ h' tk out c, (∀ b o, b ≠ kS → b ≠ a → s.heap.get? b = some o → h'.get? b = some o) → h'.get? a = some (seqObj "list" out c) → KskOut false kz vs out.toList → P (.done (.ret .none)) { s with heap := h', toks := tk }) :
    wpAny (model prog w) A (ksk_end a false vs.toArray e1 (.ref kS) keys) P E s := by
  have hsz : keys.size = vs.length := by
    have h1 := hk.length
    rw [Array.length_toList] at h1
    omega
  have hzs : (keys.zip vs.toArray).size = vs.length := by rw [Array.size_zip, hsz, List.size_toArray, Nat.min_self]
  unfold ksk_end
  try dsimp only
  simp only [Bool.false_eq_true, if_false]
  by_cases h2 : vs.toArray.size < 2
  · rw [if_pos h2, if_pos h2]
    refine wpAny_bind (wpAny_pure ?_)
    rw [StateT.run_pure]
    refine wpAny_bind (wpAny_pure ?_)
    try dsimp only
    refine len_tail (st := SortSt.mk' general' (keys.zip vs.toArray) #[] 7 none) nk na hka hk hlen hL (Array.Perm.refl _) ?_ rfl h
    intro i j hij hj
    have hj2 : j < (keys.zip vs.toArray).size := hj
    rw [hzs] at hj2
    rw [List.size_toArray] at h2
    have : i = j := by omega
    subst this
    exact Int.le_refl _
  · rw [if_neg h2, if_neg h2]
    rw [List.size_toArray] at h2
    rw [ksk_kind hk (by rw [hsz]; omega)]
    refine wpAny_bind (wpAny_pure ?_)
    have hkeys : KeysOf intKind (keys.zip vs.toArray) := fun p hp => by
      obtain ⟨n, t, e⟩ := ksk_intKeys (vs := vs) hk p hp
      exact ⟨n, by rw [e]⟩
    refine wpAny_bind (wpAny_mono (wpS_sortRunsAny (κ := intKind) (a₀ := keys.zip vs.toArray) (st := SortSt.mk' oneType' (keys.zip vs.toArray) #[] 7 none)
      (Q := fun _ st' => (arrOf st').Perm (keys.zip vs.toArray) ∧ failedOf st' = none ∧ SortedToK intKind (arrOf st') (keys.zip vs.toArray).size)
      intKind_oneLt hkeys ⟨Array.Perm.refl _, rfl, rfl⟩ rfl (by rw [hzs]; omega) fun st' a1 a2 a3 => ⟨a1, a2, a3⟩) ?_ fun _ _ e => e)
    rintro ⟨⟨⟩, st'⟩ s' ⟨rfl, hp, hf, hs⟩
    try dsimp only
    exact len_tail nk na hka hk hlen hL hp (by rw [hp.size_eq]; exact sortedTo_of_int hs) hf h
theorem len_rest {ss : List Str} (nk : s.heap.get? kS = some (seqObj "list" #[] 0)) (na : s.heap.get? a = some (seqObj "list" #[] e1)) (hka : kS ≠ a)
    (hS : StrsAre vs ss) (hL : vs.length ≤ sizeLine) (hz : ∀ x ∈ ss, x.length ≤ sizeLine)
    (h : ∀ h' tk out c, (∀ b o, b ≠ kS → b ≠ a → s.heap.get? b = some o → h'.get? b = some o) → h'.get? a = some (seqObj "list" out c) → KskOut false (lensOf ss) vs out.toList → P (.done (.ret .none)) { s with heap := h', toks := tk }) :
    wpAny (model prog w) A (ksk_rest a (.builtin "len") false vs.toArray e1 (.ref kS)) P E s := by
  have hll := StrsAre.length hS
  have hlen : (lensOf ss).length = vs.length := by
    unfold lensOf
    rw [List.length_map]
    omega
  unfold ksk_rest
  refine wpAny_bind (wpAny_rule ?_)
  first
    | rw [List.forIn_toArray]
    | (rw [← Array.forIn_toList]; simp only [List.toList_toArray])
    | rw [← Array.forIn_toList]
  refine wpAny_bind (ksk_fold (fun i s' => ∃ h' tk kA e, s' = { s with heap := h', toks := tk } ∧ (∀ b o, b ≠ kS → s.heap.get? b = some o → h'.get? b = some o) ∧ h'.get? kS = some (seqObj "list" kA e) ∧ IntsAre kA.toList ((lensOf ss).take i)) vs 0 s
    ⟨s.heap, s.toks, #[], 0, rfl, fun _ _ _ q => q, nk, by simpa using IntsAre.nil⟩ ?step ?done)
  case step =>
    rintro j x s' hx ⟨h', tk, kA, e, rfl, kp, nk', hk⟩
    simp only [Nat.zero_add] at hk ⊢
    have hj : j < vs.length := (List.getElem?_eq_some_iff.mp hx).1
    have hj2 : j < ss.length := by omega
    obtain ⟨y, t, rfl⟩ := StrsAre.all hS x (List.mem_of_getElem? hx)
    have ey : ss[j]? = some y := by
      rw [← StrsAre.strs hS, List.getElem?_map, hx]
      rfl
    have hkj : (lensOf ss)[j]? = some (y.length : Int) := by
      unfold lensOf
      rw [List.getElem?_map, ey]
      rfl
    have hzy := hz y (List.mem_of_getElem? ey)
    have hn := line63
    have hzz : kA.size ≤ vs.length := by
      have h1 := hk.length
      rw [Array.length_toList, List.length_take] at h1
      omega
    refine wpAny_bind (wpAny_attempt (len_str (by omega) ?_))
    try dsimp only
    have s1 := Heap.SameBut.update h' kS (Obj.mapSeq (·.push (.int (y.length : Int) (tk + 1))))
    obtain ⟨c2, hc2⟩ : ∃ c2, (h'.update kS (Obj.mapSeq (·.push (.int (y.length : Int) (tk + 1))))).get? kS = some (seqObj "list" (kA.push (.int (y.length : Int) (tk + 1))) c2) := ⟨_, get?_update_seq nk' (·.push (.int (y.length : Int) (tk + 1)))⟩
    have ek : (lensOf ss).take (j + 1) = (lensOf ss).take j ++ [(y.length : Int)] := by rw [List.take_add_one, hkj]; simp
    have ea : (kA.push (Value.int (y.length : Int) (tk + 1))).toList = kA.toList ++ [Value.int (y.length : Int) (tk + 1)] := by simp
    refine wpAny_bind (listUpdate_at nk' rfl ?_ (by omega) (Nat.le_trans (Nat.le_of_eq (Array.size_push ..)) (by omega)))
    exact wpAny_pure ⟨rfl, _, _, kA.push (.int (y.length : Int) (tk + 1)), c2, rfl, fun b o hb q => (s1.2 b hb).trans (kp b o hb q), hc2, by rw [ea, ek]; exact ksk_snoc hk⟩
  case done =>
    rintro s' ⟨h', tk, kA, e, rfl, kp, nk', hk⟩
    have hk' : IntsAre kA.toList (lensOf ss) := by
      have e3 : (lensOf ss).take (0 + vs.length) = lensOf ss := List.take_of_length_le (by omega)
      rw [e3] at hk
      exact hk
    try dsimp only
    refine wpAny_bind (listItems_at nk' rfl ?_)
    exact len_end nk' (kp a _ hka.symm na) hka hk' hlen hL fun h3 tk3 out c k3 na3 o3 => h h3 tk3 out c (fun b o h1 h2 q => k3 b o h1 h2 (kp b o h1 q)) na3 o3
theorem len_sort {n : Nat} {ss : List Str} (ho : s.heap.get? a = some (seqObj "list" vs.toArray n)) (hS : StrsAre vs ss) (hL : vs.length ≤ sizeLine) (hz : ∀ x ∈ ss, x.length ≤ sizeLine)
    (h : ∀ h' tk out c, (∀ b o, b ≠ a → s.heap.get? b = some o → h'.get? b = some o) → h'.get? a = some (seqObj "list" out c) → ByLen ss vs out.toList → P (.done (.ret .none)) { s with heap := h', toks := tk }) :
    wpAny (model prog w) A (ksk_tree a (.builtin "len") false) P E s := by
  have ha : a < s.heap.objs.size := Heap.lt_size ho
  have s1 := Heap.SameBut.update s.heap a (Obj.mapSeq fun _ => (#[] : Array Value))
  obtain ⟨e1, ho1⟩ : ∃ e1, (s.heap.update a (Obj.mapSeq fun _ => (#[] : Array Value))).get? a = some (seqObj "list" #[] e1) := ⟨_, get?_update_seq ho fun _ => #[]⟩
  have hkS : ((s.heap.update a (Obj.mapSeq fun _ => (#[] : Array Value))).push (seqObj "tuple" vs.toArray 0)).objs.size = s.heap.objs.size + 1 := by rw [size_push', Heap.size_update]
  unfold ksk_tree
  refine wpAny_bind (listItems_at ho rfl ?_)
  refine wpAny_bind (listUpdate_at ho rfl ?_ (by rw [List.size_toArray]; exact hL) (Nat.zero_le _))
  refine wpAny_bind (seqEpoch_at ho1 rfl ?_)
  refine wpAny_bind (wpAny_newTuple ?_ (by show vs.length ≤ _; exact hL))
  refine wpAny_bind (wpAny_newList ?_ (Nat.zero_le _))
  refine wpAny_holding ?_
  refine len_rest (s := { s with heap := ((s.heap.update a (Obj.mapSeq fun _ => (#[] : Array Value))).push (seqObj "tuple" vs.toArray 0)).push (seqObj "list" #[] 0) }) (kS := ((s.heap.update a (Obj.mapSeq fun _ => (#[] : Array Value))).push (seqObj "tuple" vs.toArray 0)).objs.size)
    (Heap.get?_push_size _ rfl) (Heap.get?_push_of_some _ (Heap.get?_push_of_some _ ho1)) (by rw [hkS]; exact Nat.ne_of_gt (Nat.lt_succ_of_lt ha)) hS hL hz fun h' tk out c kp na o => h h' tk out c (fun b u hb q => ?_) na (byLen_of hS o)
  have hlt : b < s.heap.objs.size := Heap.lt_size q
  refine kp b u (by rw [hkS]; exact Nat.ne_of_lt (Nat.lt_succ_of_lt hlt)) hb (Heap.get?_push_of_some _ (Heap.get?_push_of_some _ ((s1.2 b hb).trans q)))
end
section
variable {X : Cx}
/-- sorted(d, key=len) -/
def rSL : List V → Hp → VK → Prop := fun vs H Q => ∃ (a : Addr) (kvs : List (Key × V)) (ks : List Str), vs = [.ref a] ∧ Rd H a (.dK kvs) ∧ kvs.map (·.1) = ks.map Sum.inr ∧ (∀ y ∈ ks, y.length ≤ sizeLine) ∧
    ∀ (ys : List Str) (p : Addr), ys.Perm ks → ys.Pairwise (fun x y => x.length ≤ y.length) → H p = none → Q (.ref p) (upd H p (.lst (ys.map V.str)))
def tSortLen (t : TA) : TE := fun σ H Q => t σ H fun vs H1 => rSL vs H1 Q
theorem pe_sortLen {e : Expr} {t : TA} {p p2 kp pos : Pos} (hcalm : X.calm = true) (hm : X.mg "sorted" = none) (hm2 : X.mg "len" = none) (ha : PA X [e] t) (hg : Gl X "sorted" := by rfl) (hg2 : Gl X "len" := by rfl)
    (he : backTo pos (starEach [e] X.env) = (false, eval e X.env) :: backTo pos (starEach [] X.env) := by rfl) (hpl : (backTo pos (starEach [e] X.env)).any (·.1) = false := by rfl) :
    PE X (.Call (.Name "sorted" p) [e] [⟨some "key", .Name "len" p2, kp⟩] pos) (tSortLen t) := by
  refine ⟨fun pins s σ H Q I h => ?_⟩
  refine wpAny_Call_Name_kw (ld_blt I hg hm (by decide +kernel : bootBuiltins "sorted" = some (.builtin "sorted")) ?_)
  refine PyProof.Rows.callWith_kw (thn (ha.run pos pins s σ H _ I h) fun us s1 hh => ?_) he hpl
  · obtain ⟨vs, H1, I1, r1, a, kvs, ks, ex, hd, hks, hz, q⟩ := hh
    subst ex
    obtain ⟨u, eu, rx⟩ := vals1 r1
    subst eu
    cases rx
    show wpAny _ _ (evalAll ((do let v ← eval (.Name "len" p2) X.env; standAt pos; pure v) :: (backToKw pos (keywordEach [] X.env)).map (·.2))) _ _ s1
    refine wpAny_evalAll_cons (wpAny_bind (ld_blt I1 hg2 hm2 (by decide +kernel : bootBuiltins "len" = some (.builtin "len")) (wpAny_bind (wpAny_standAt (wpAny_pure (wpAny_evalAll_nil ?_))))))
    show wpAny _ _ (call (.builtin "sorted") [.ref a] [(Str.ofString "key", .builtin "len")]) _ _ _
    obtain ⟨z, lo, vs, rel, dd⟩ := dk_rd I1.hok hd
    obtain ⟨ep, hat⟩ := dd.dictAt
    have hkeys : vs.map (·.1) = ks.map Sum.inr := rel.keys.symm.trans hks
    have hl : vs.length = ks.length := by
      have e := congrArg List.length hkeys
      rw [List.length_map, List.length_map] at e
      exact e
    have h16' : kvs.length = ks.length := by
      have e := congrArg List.length hks
      rw [List.length_map, List.length_map] at e
      exact e
    have h16 : vs.length ≤ sizeLine := by rw [hl, ← h16']; exact z
    refine call_function_entry_kw kind_sorted plain_sorted entry_sorted (ksk_s1 _ _) ?_
    unfold Builtin.«sorted»
    refine wpAny_bind (m := checkCount "sorted" 1 1 _) (wpAny_pure ?_)
    refine wpAny_bind (PySem.W.kdu_collect (A := X.A.in1) (PySem.W.kdl_dict (knd := mixKind X.prog X.w) (kvs := vs) (ep := ep) lo) (I1.ok.hd hcalm) hat h16 fun h' tk acc hk hacc => ?_)
    have hal : acc.toList.length = ks.length := by rw [Array.length_toList, hacc.1, hl]
    have hS : StrsAre acc.toList ks := strs_at hal fun j v e => by
      obtain ⟨k, x, e1, e2⟩ := hacc.2 j v (by rw [← Array.getElem?_toList]; exact e)
      have e3 : (vs.map (·.1))[j]? = some k := by rw [List.getElem?_map, e1]; all_goals rfl
      rw [hkeys, List.getElem?_map] at e3
      cases e4 : ks[j]? with
      | none => rw [e4] at e3; cases e3
      | some y =>
        rw [e4] at e3
        have e5 : Sum.inr y = k := Option.some.inj e3
        subst e5
        obtain ⟨t, ev⟩ := Value.isStrOf_shape (x := y) (v := v) e2
        exact ⟨y, t, rfl, ev⟩
    have I2 : Inv X pins σ H1 { s1 with heap := h', toks := tk } := I1.kept hk
    refine wpAny_bind (wpAny_newList ?_ (by rw [hal, ← hl]; exact h16))
    have hoL : (h'.push (seqObj "list" acc.toList.toArray 0)).get? h'.objs.size = some (seqObj "list" acc.toList.toArray 0) := Heap.get?_push_size _ rfl
    show wpAny _ _ _ _ _ { s1 with heap := h'.push (seqObj "list" acc.toList.toArray 0), toks := tk }
    refine wpAny_bind (wpAny_holding (wpAny_call_entry_kw slot_list_sort ⟨_, hoL, rfl⟩ entry_list_sort ?body (ksk_l1 _ _)))
    case body =>
      rw [ksk_t4]
      refine len_sort (s := { s1 with heap := h'.push (seqObj "list" acc.toList.toArray 0), toks := tk }) hoL hS (by rw [hal, ← hl]; exact h16) hz fun h3 tk3 out c kp na o => ⟨_, rfl, ?_⟩
      obtain ⟨ys, g1, g2, g3⟩ := o
      have hlen : (ys.map V.str).length ≤ sizeLine := by
        rw [List.length_map, g2.length_eq, ← hl]
        exact h16
      refine wpAny_pure ⟨_, rfl, .ref h'.objs.size, upd H1 h'.objs.size (.lst (ys.map V.str)), I2.laid (t' := tk3) (fun b u e => ?_) (Nat.le_refl _)
        (show ObjOk X.prog X.w _ _ _ (.lst (ys.map V.str)) from ⟨hlen, out.toList, c, vals_of_strs g1, by rw [Array.toArray_toList]; exact na⟩), rfl, q ys _ g2 g3 (I2.hok.fresh (Nat.le_refl _))⟩
      have hb : b < h'.objs.size := Heap.lt_size e
      exact kp b u (Nat.ne_of_lt hb) (Heap.get?_push_of_some _ e)
end
end Lk


namespace Lk
open PySem PySem.Spec PyProof.Rows L2
/-! ### dicts of texts seen, sorted lists -/
open Fo
def kvF (fs : List L) : List (Key × V) := fs.map fun t => (Sum.inr (S t), V.bl true)
theorem kvF_len (fs : List L) : (kvF fs).length = fs.length := List.length_map _
theorem kvF_keys (fs : List L) : (kvF fs).map (·.1) = (fs.map S).map Sum.inr := by
  unfold kvF
  rw [List.map_map, List.map_map]
  rfl
theorem inrS {a b : L} : ((Sum.inr (S a) : Key) = Sum.inr (S b)) ↔ a = b := ⟨fun h => S_inj.mp (Sum.inr.inj h), fun h => by rw [h]⟩
theorem valV_kvF (fs : List L) (u : L) : valV (kvF fs) (Sum.inr (S u) : Key) = if u ∈ fs then some (.bl true) else none := by
  induction fs with
  | nil => rfl
  | cons t r ih =>
    by_cases e : t = u
    · subst e
      rw [if_pos (List.mem_cons_self ..)]
      exact valV_pos rfl
    · have e2 : ¬ ((Sum.inr (S t) : Key) = Sum.inr (S u)) := fun z => e (inrS.mp z)
      rw [show kvF (t :: r) = (Sum.inr (S t), V.bl true) :: kvF r from rfl, valV_neg e2, ih]
      by_cases hm : u ∈ r
      · rw [if_pos hm, if_pos (List.mem_cons_of_mem _ hm)]
      · rw [if_neg hm, if_neg fun z => (List.mem_cons.mp z).elim (fun q => e q.symm) hm]
theorem putK_kvF {fs : List L} {u : L} (h : u ∉ fs) : putK (kvF fs) (Sum.inr (S u) : Key) (V.bl true) = kvF (fs ++ [u]) := by
  rw [putK_new _ (by rw [valV_kvF, if_neg h])]
  unfold kvF
  rw [List.map_append]
  rfl
theorem perm_S {ys : List Str} {fs : List L} (h : ys.Perm (fs.map S)) : ∃ zs : List L, ys = zs.map S ∧ zs.Perm fs := by
  refine ⟨ys.map fun x => x.cps.toList, ?_, ?_⟩
  · rw [List.map_map]
    have : (S ∘ fun (x : Str) => x.cps.toList) = id := by
      funext x
      exact S_of x
    rw [this, List.map_id]
  · have := h.map fun x : Str => x.cps.toList
    rw [List.map_map] at this
    have e : ((fun x : Str => x.cps.toList) ∘ S) = id := by
      funext x
      rfl
    rw [e, List.map_id] at this
    exact this
theorem rising_pw : ∀ (p : L) (xs : List L), risingS (S p) (xs.map S) = true → (p :: xs).Pairwise (fun a b => ¬ b < a)
  | p, [], _ => List.pairwise_singleton _ _
  | p, x :: r, h => by
    have h' : (!ltCps x p && risingS (S x) (r.map S)) = true := h
    rw [Bool.and_eq_true, Bool.not_eq_true', ltCps_eq] at h'
    have h1 : ¬ x < p := of_decide_eq_false h'.1
    have ih := rising_pw x r h'.2
    rw [List.pairwise_cons]
    refine ⟨fun y hy => ?_, ih⟩
    rcases List.mem_cons.mp hy with e | hy
    · rw [e]
      exact h1
    · have h2 := (List.pairwise_cons.mp ih).1 y hy
      exact List.not_lt.mpr (List.le_trans (List.not_lt.mp h1) (List.not_lt.mp h2))
theorem srt_of {xs : List L} (h : sortedS (xs.map S) = true) : Srt xs := by
  cases xs with
  | nil => exact List.Pairwise.nil
  | cons x r => exact rising_pw x r h
end Lk

namespace Lk
open PySem PySem.Spec PyProof.Rows L2
/-! ### == of lists of texts, of numbers -/
open Fo
/-- data told in Lean: how it is handed (g), what it is (f) -/
structure Emb (K : PySem.W.Frag) (H : Hp) {α : Type} (xs : List α) (g : α → V) (f : α → PyData) : Prop where
  dp : ∀ a ∈ xs, Dp K H (g a) (f a)
  lay : ∀ a ∈ xs, (f a).canLay0 = true
  dep : ∀ a ∈ xs, (f a).depth ≤ 60
theorem dpAll_of {K : PySem.W.Frag} {H : Hp} {α : Type} {g : α → V} {f : α → PyData} : ∀ {xs : List α}, (∀ a ∈ xs, Dp K H (g a) (f a)) → DpAll K H (xs.map g) (xs.map f)
  | [], _ => .nil
  | x :: r, h => .cons (h x (List.mem_cons_self ..)) (dpAll_of fun a ha => h a (List.mem_cons_of_mem _ ha))
theorem layAll_of {α : Type} {f : α → PyData} : ∀ {xs : List α}, (∀ a ∈ xs, (f a).canLay0 = true) → PyData.canLayAll0 (xs.map f) = true
  | [], _ => by simp [PyData.canLayAll0]
  | x :: r, h => by
    rw [List.map_cons, PyData.canLayAll0, h x (List.mem_cons_self ..), layAll_of fun a ha => h a (List.mem_cons_of_mem _ ha)]
    rfl
theorem depAll_of {α : Type} {f : α → PyData} {n : Nat} : ∀ {xs : List α}, (∀ a ∈ xs, (f a).depth ≤ n) → PyData.depthAll (xs.map f) ≤ n
  | [], _ => by simp [PyData.depthAll]
  | x :: r, h => by
    rw [List.map_cons, PyData.depthAll]
    exact Nat.max_le.mpr ⟨h x (List.mem_cons_self ..), depAll_of fun a ha => h a (List.mem_cons_of_mem _ ha)⟩
theorem eqvAll_of {α : Type} [DecidableEq α] {f : α → PyData} : ∀ {xs ys : List α}, (∀ a ∈ xs, ∀ b ∈ ys, PyData.eqv (f a) (f b) = decide (a = b)) → PyData.eqvAll (xs.map f) (ys.map f) = decide (xs = ys)
  | [], [], _ => rfl
  | [], _ :: _, _ => rfl
  | _ :: _, [], _ => rfl
  | x :: r, y :: t, h => by
    rw [List.map_cons, List.map_cons, PyData.eqvAll, h x (List.mem_cons_self ..) y (List.mem_cons_self ..), eqvAll_of fun a ha b hb => h a (List.mem_cons_of_mem _ ha) b (List.mem_cons_of_mem _ hb)]
    by_cases e : x = y
    · subst e
      by_cases e2 : r = t
      · subst e2
        simp
      · simp [e2]
    · simp [e]
theorem shaped_list {α : Type} {xs : List α} {f : α → PyData} (h1 : ∀ a ∈ xs, (f a).canLay0 = true) (h2 : ∀ a ∈ xs, (f a).depth ≤ 60) : SeqAt.shaped (.list (xs.map f)) = true := by
  unfold SeqAt.shaped
  have e1 : (PyData.list (xs.map f)).canLay0 = true := by rw [PyData.canLay0]; exact layAll_of h1
  have e2 : (PyData.list (xs.map f)).depth ≤ 64 := by
    rw [PyData.depth]
    have := depAll_of (n := 60) h2
    omega
  rw [e1, decide_eq_true e2]
  rfl
theorem shaped_tup {α : Type} {xs : List α} {f : α → PyData} (h1 : ∀ a ∈ xs, (f a).canLay0 = true) (h2 : ∀ a ∈ xs, (f a).depth ≤ 60) : SeqAt.shaped (.tuple (xs.map f)) = true := by
  unfold SeqAt.shaped
  have e1 : (PyData.tuple (xs.map f)).canLay0 = true := by rw [PyData.canLay0]; exact layAll_of h1
  have e2 : (PyData.tuple (xs.map f)).depth ≤ 64 := by
    rw [PyData.depth]
    have := depAll_of (n := 60) h2
    omega
  rw [e1, decide_eq_true e2]
  rfl
/-- a text of plain signs -/
def Sm (l : L) : Prop := ∀ c ∈ l, c < 1000
theorem Sg.sm {l : L} (h : Fo.Sg l) : Sm l := fun c hc => by have := h c hc; omega
abbrev dS (l : L) : PyData := .str (S l)
abbrev dI (n : Nat) : PyData := .int (n : Int)
theorem dS_lay {l : L} (h : Sm l) : (dS l).canLay0 = true := by
  show (S l).cps.all (· < 0x110000) = true
  rw [Array.all_eq_true']
  intro c hc
  have := h c (by simpa [SX.S] using hc)
  simp
  omega
theorem dS_dep (l : L) : (dS l).depth ≤ 60 := by simp [PyData.depth]
theorem dI_dep (l : Nat) : (dI l).depth ≤ 60 := by simp [PyData.depth]
theorem dI_lay (l : Nat) : (dI l).canLay0 = true := by simp [PyData.canLay0]
theorem dS_eqv (a b : L) : PyData.eqv (dS a) (dS b) = decide (a = b) := by
  show (S a == S b) = decide (a = b)
  exact SX.S_beq_eq
theorem dI_eqv (a b : Nat) : PyData.eqv (dI a) (dI b) = decide (a = b) := by
  show ((a : Int) == (b : Int)) = decide (a = b)
  by_cases e : a = b
  · subst e; simp
  · have : ¬ (a : Int) = (b : Int) := by omega
    simp [e, this]
section
variable {X : Cx}
def rEqLS (K : PySem.W.Frag) (neg : Bool) : R2 := fun x y H Q => ∃ (a b : Addr) (xs ys : List L), x = .ref a ∧ y = .ref b ∧ SqL K H a (xs.map vS) ∧ SqL K H b (ys.map vS) ∧ (∀ l ∈ xs, Sm l) ∧ (∀ l ∈ ys, Sm l) ∧ Q (.bl (if neg then !decide (xs = ys) else decide (xs = ys))) H
def rEqLI (K : PySem.W.Frag) (neg : Bool) : R2 := fun x y H Q => ∃ (a b : Addr) (xs ys : List Nat), x = .ref a ∧ y = .ref b ∧ SqL K H a (xs.map vI) ∧ SqL K H b (ys.map vI) ∧ Q (.bl (if neg then !decide (xs = ys) else decide (xs = ys))) H
theorem dps {K : PySem.W.Frag} {H : Hp} {a : Addr} {xs : List L} (h : SqL K H a (xs.map vS)) : Dp K H (.ref a) (.list (xs.map dS)) := .lst h (dpAll_of fun l _ => .str (S l))
theorem dpi {K : PySem.W.Frag} {H : Hp} {a : Addr} {xs : List Nat} (h : SqL K H a (xs.map vI)) : Dp K H (.ref a) (.list (xs.map dI)) := .lst h (dpAll_of fun l _ => .int l)
theorem op_eqLS (hu : X.A.units + 64 < cLine) : OpR X (compareOp .Eq) (rEqLS X.K false) := by
  intro pins s σ H x y v u Q I rx ry ⟨a, b, xs, ys, e1, e2, h1, h2, m1, m2, q⟩
  refine op_eqD hu pins s σ H x y v u Q I rx ry ⟨_, _, by rw [e1]; exact dps h1, by rw [e2]; exact dps h2, shaped_list (fun l hl => dS_lay (m1 l hl)) (fun l _ => dS_dep l), shaped_list (fun l hl => dS_lay (m2 l hl)) (fun l _ => dS_dep l), ?_⟩
  have e : PyData.eqv (.list (xs.map dS)) (.list (ys.map dS)) = decide (xs = ys) := by
    rw [PyData.eqv]
    exact eqvAll_of fun a _ b _ => dS_eqv a b
  rw [e]
  exact q
theorem op_neLS (hu : X.A.units + 64 < cLine) : OpR X (compareOp .NotEq) (rEqLS X.K true) := by
  intro pins s σ H x y v u Q I rx ry ⟨a, b, xs, ys, e1, e2, h1, h2, m1, m2, q⟩
  refine op_neD hu pins s σ H x y v u Q I rx ry ⟨_, _, by rw [e1]; exact dps h1, by rw [e2]; exact dps h2, shaped_list (fun l hl => dS_lay (m1 l hl)) (fun l _ => dS_dep l), shaped_list (fun l hl => dS_lay (m2 l hl)) (fun l _ => dS_dep l), ?_⟩
  have e : PyData.eqv (.list (xs.map dS)) (.list (ys.map dS)) = decide (xs = ys) := by
    rw [PyData.eqv]
    exact eqvAll_of fun a _ b _ => dS_eqv a b
  rw [e]
  exact q
theorem op_eqLI (hu : X.A.units + 64 < cLine) : OpR X (compareOp .Eq) (rEqLI X.K false) := by
  intro pins s σ H x y v u Q I rx ry ⟨a, b, xs, ys, e1, e2, h1, h2, q⟩
  refine op_eqD hu pins s σ H x y v u Q I rx ry ⟨_, _, by rw [e1]; exact dpi h1, by rw [e2]; exact dpi h2, shaped_list (fun l _ => dI_lay l) (fun l _ => dI_dep l), shaped_list (fun l _ => dI_lay l) (fun l _ => dI_dep l), ?_⟩
  have e : PyData.eqv (.list (xs.map dI)) (.list (ys.map dI)) = decide (xs = ys) := by
    rw [PyData.eqv]
    exact eqvAll_of fun a _ b _ => dI_eqv a b
  rw [e]
  exact q
theorem op_neLI (hu : X.A.units + 64 < cLine) : OpR X (compareOp .NotEq) (rEqLI X.K true) := by
  intro pins s σ H x y v u Q I rx ry ⟨a, b, xs, ys, e1, e2, h1, h2, q⟩
  refine op_neD hu pins s σ H x y v u Q I rx ry ⟨_, _, by rw [e1]; exact dpi h1, by rw [e2]; exact dpi h2, shaped_list (fun l _ => dI_lay l) (fun l _ => dI_dep l), shaped_list (fun l _ => dI_lay l) (fun l _ => dI_dep l), ?_⟩
  have e : PyData.eqv (.list (xs.map dI)) (.list (ys.map dI)) = decide (xs = ys) := by
    rw [PyData.eqv]
    exact eqvAll_of fun a _ b _ => dI_eqv a b
  rw [e]
  exact q
/-- x in (s, t), texts; and not in -/
def rInTS (K : PySem.W.Frag) (neg : Bool) : R2 := fun x y H Q => ∃ (p : Addr) (l : L) (xs : List L), x = vS l ∧ y = .ref p ∧ SqT K H p (xs.map vS) ∧ Q (.bl (if neg then !decide (l ∈ xs) else decide (l ∈ xs))) H
def rInLS (K : PySem.W.Frag) (neg : Bool) : R2 := fun x y H Q => ∃ (p : Addr) (l : L) (xs : List L), x = vS l ∧ y = .ref p ∧ SqL K H p (xs.map vS) ∧ Q (.bl (if neg then !decide (l ∈ xs) else decide (l ∈ xs))) H
def rInLI (K : PySem.W.Frag) (neg : Bool) : R2 := fun x y H Q => ∃ (p : Addr) (l : Int) (xs : List Nat), x = .int l ∧ y = .ref p ∧ SqL K H p (xs.map vI) ∧ Q (.bl (if neg then !decide (∃ n ∈ xs, (n : Int) = l) else decide (∃ n ∈ xs, (n : Int) = l))) H
theorem inV_S (l : L) (xs : List L) : inV (vS l) (xs.map vS) = decide (l ∈ xs) := by
  unfold inV
  rw [List.any_map]
  by_cases h : l ∈ xs
  · rw [decide_eq_true h, List.any_eq_true]
    exact ⟨l, h, by show eqV (vS l) (vS l) = true; simp [eqV]⟩
  · rw [decide_eq_false h, List.any_eq_false]
    intro y hy
    show ¬ eqV (vS y) (vS l) = true
    have : ¬ y = l := fun e => h (e ▸ hy)
    simp [eqV, this]
theorem inV_I (l : Int) (xs : List Nat) : inV (.int l) (xs.map vI) = decide (∃ n ∈ xs, (n : Int) = l) := by
  unfold inV
  rw [List.any_map]
  by_cases h : ∃ n ∈ xs, (n : Int) = l
  · rw [decide_eq_true h, List.any_eq_true]
    obtain ⟨n, h1, h2⟩ := h
    exact ⟨n, h1, by show eqV (.int (n : Int)) (.int l) = true; simp [eqV, h2]⟩
  · rw [decide_eq_false h, List.any_eq_false]
    intro y hy
    show ¬ eqV (.int (y : Int)) (.int l) = true
    have : ¬ (y : Int) = l := fun e => h ⟨y, hy, e⟩
    simp [eqV, this]
theorem flat_S (xs : List L) : (xs.map vS).all flatV = true := by
  rw [List.all_map, List.all_eq_true]
  intro x _
  rfl
theorem flat_I (xs : List Nat) : (xs.map vI).all flatV = true := by
  rw [List.all_map, List.all_eq_true]
  intro x _
  rfl
theorem op_inTS : OpR X (compareOp .In) (rInTS X.K false) := by
  intro pins s σ H x y v u Q I rx ry ⟨p, l, xs, e1, e2, h1, q⟩
  refine op_in_seq pins s σ H x y v u Q I rx ry ⟨p, xs.map vS, e2, .inr h1, by rw [e1]; rfl, flat_S xs, ?_⟩
  rw [e1, inV_S]
  exact q
theorem op_notinTS : OpR X (compareOp .NotIn) (rInTS X.K true) := by
  intro pins s σ H x y v u Q I rx ry ⟨p, l, xs, e1, e2, h1, q⟩
  refine op_notIn_seq pins s σ H x y v u Q I rx ry ⟨p, xs.map vS, e2, .inr h1, by rw [e1]; rfl, flat_S xs, ?_⟩
  rw [e1, inV_S]
  exact q
theorem op_inLS : OpR X (compareOp .In) (rInLS X.K false) := by
  intro pins s σ H x y v u Q I rx ry ⟨p, l, xs, e1, e2, h1, q⟩
  refine op_in_seq pins s σ H x y v u Q I rx ry ⟨p, xs.map vS, e2, .inl h1, by rw [e1]; rfl, flat_S xs, ?_⟩
  rw [e1, inV_S]
  exact q
theorem op_notinLS : OpR X (compareOp .NotIn) (rInLS X.K true) := by
  intro pins s σ H x y v u Q I rx ry ⟨p, l, xs, e1, e2, h1, q⟩
  refine op_notIn_seq pins s σ H x y v u Q I rx ry ⟨p, xs.map vS, e2, .inl h1, by rw [e1]; rfl, flat_S xs, ?_⟩
  rw [e1, inV_S]
  exact q
theorem op_notinLI : OpR X (compareOp .NotIn) (rInLI X.K true) := by
  intro pins s σ H x y v u Q I rx ry ⟨p, l, xs, e1, e2, h1, q⟩
  refine op_notIn_seq pins s σ H x y v u Q I rx ry ⟨p, xs.map vI, e2, .inl h1, by rw [e1]; rfl, flat_I xs, ?_⟩
  rw [e1, inV_I]
  exact q
end
section
variable {X : Cx}
theorem vi_dec (i j : Int) : decide (V.int i = V.int j) = decide (i = j) := by
  by_cases h : i = j
  · subst h
    simp
  · have : ¬ V.int i = V.int j := fun e => h (V.int.inj e)
    simp [h, this]
def rII (f : Int → Int → Bool) : R2 := fun x y H Q => ∃ i j : Int, x = .int i ∧ y = .int j ∧ Q (.bl (f i j)) H
theorem op_eqI : OpR X (compareOp .Eq) (rII fun i j => decide (i = j)) := by
  intro pins s σ H x y v u Q I rx ry ⟨i, j, e1, e2, q⟩
  subst e1 e2
  refine op_eq pins s σ H _ _ v u Q I rx ry ⟨rfl, ?_⟩
  rw [vi_dec]
  exact q
theorem op_neI : OpR X (compareOp .NotEq) (rII fun i j => !decide (i = j)) := by
  intro pins s σ H x y v u Q I rx ry ⟨i, j, e1, e2, q⟩
  subst e1 e2
  refine op_ne pins s σ H _ _ v u Q I rx ry ⟨rfl, ?_⟩
  rw [vi_dec]
  exact q
def rSS (f : L → L → Bool) : R2 := fun x y H Q => ∃ i j : L, x = vS i ∧ y = vS j ∧ Q (.bl (f i j)) H
theorem op_eqS : OpR X (compareOp .Eq) (rSS fun i j => decide (i = j)) := by
  intro pins s σ H x y v u Q I rx ry ⟨i, j, e1, e2, q⟩
  subst e1 e2
  refine op_eq pins s σ H _ _ v u Q I rx ry ⟨rfl, ?_⟩
  rw [vS_dec]
  exact q
theorem op_neS : OpR X (compareOp .NotEq) (rSS fun i j => !decide (i = j)) := by
  intro pins s σ H x y v u Q I rx ry ⟨i, j, e1, e2, q⟩
  subst e1 e2
  refine op_ne pins s σ H _ _ v u Q I rx ry ⟨rfl, ?_⟩
  rw [vS_dec]
  exact q
end
section
variable {X : Cx}
theorem vb_dec (i j : Bool) : decide (V.bl i = V.bl j) = decide (i = j) := by
  by_cases h : i = j
  · subst h
    simp
  · have : ¬ V.bl i = V.bl j := fun e => h (V.bl.inj e)
    simp [h, this]
def rBB (f : Bool → Bool → Bool) : R2 := fun x y H Q => ∃ i j : Bool, x = .bl i ∧ y = .bl j ∧ Q (.bl (f i j)) H
theorem op_eqB : OpR X (compareOp .Eq) (rBB fun i j => decide (i = j)) := by
  intro pins s σ H x y v u Q I rx ry ⟨i, j, e1, e2, q⟩
  subst e1 e2
  refine op_eq pins s σ H _ _ v u Q I rx ry ⟨rfl, ?_⟩
  rw [vb_dec]
  exact q
theorem op_neB : OpR X (compareOp .NotEq) (rBB fun i j => !decide (i = j)) := by
  intro pins s σ H x y v u Q I rx ry ⟨i, j, e1, e2, q⟩
  subst e1 e2
  refine op_ne pins s σ H _ _ v u Q I rx ry ⟨rfl, ?_⟩
  rw [vb_dec]
  exact q
end
/-! ### walks of a text -/
theorem lc_str {l : L} {g : TG} {tt : TT} {te : TE} {vs : List Nat} {σ : L2.St} {H1 : Hp} {D : Addr} {Qd : Hp → Prop} (Pv : Nat → Hp → Prop) (h0 : Pv 0 (upd H1 D (.lst [])))
    (hs : ∀ i c H, l[i]? = some c → Pv i H → g (vS [c]) (wipe σ vs) H fun σ2 H2 => wipe σ2 vs = wipe σ vs ∧ tt σ2 H2 fun b H3 =>
      if b = true then te σ2 H3 fun y H4 => ∃ acc, H4 D = some (.lst acc) ∧ acc.length < sizeLine ∧ Pv (i + 1) (upd H4 D (.lst (acc ++ [y]))) else Pv (i + 1) H3) (hd : ∀ H, Pv l.length H → Qd H) :
    ∃ W : Nat → Nat → Hp → Prop, (∃ m, W 0 m (upd H1 D (.lst []))) ∧ ∀ i m H, W i m H →
      ((Its (S l)).stop i H ∧ Qd H) ∨ ((Its (S l)).go i H ∧ ∃ Nx : Hp → Prop, (∀ H', Nx H' → ∃ m', m' < m ∧ W (i + 1) m' H') ∧ ∀ x H', (Its (S l)).yld i H x H' → g x (wipe σ vs) H' fun σ2 H2 => wipe σ2 vs = wipe σ vs ∧ tt σ2 H2 fun b H3 =>
        if b = true then te σ2 H3 fun y H4 => ∃ acc, H4 D = some (.lst acc) ∧ acc.length < sizeLine ∧ Nx (upd H4 D (.lst (acc ++ [y]))) else Nx H3) := by
  have hsz : (S l).cps.size = l.length := by simp [SX.S]
  refine ⟨fun i m H => m = l.length - i ∧ i ≤ l.length ∧ Pv i H, ⟨l.length, by simp, Nat.zero_le _, h0⟩, ?_⟩
  rintro i m H ⟨rfl, hi, p⟩
  by_cases hlt : i < l.length
  · refine .inr ⟨by show i < (S l).cps.size; omega, Pv (i + 1), fun H' p' => ⟨l.length - (i + 1), by omega, rfl, hlt, p'⟩, fun x H' y => ?_⟩
    obtain ⟨e, c, hc, rfl⟩ := y
    subst e
    have hc' : l[i]? = some c := by simpa [SX.S] using hc
    exact hs i c _ hc' p
  · have e : i = l.length := by omega
    subst e
    exact .inl ⟨by show (S l).cps.size ≤ l.length; omega, hd H p⟩
end Lk

namespace Lk
open PySem PySem.Spec PyProof.Rows L2
/-! ### comprehensions: a dict kept under a name, over a list -/

section
variable {X : Cx}
/-- name = {k: v for ..}, the name a local of the def -/
theorem ps_setDc {i : Nat} {y : Str} {py : Pos} {kx vx tg iter : Expr} {ifs : List Expr} {scope : Scope} {own : List (Str × Nat)} {pos spos : Pos} {wi : TI} {g : TG} {tt : TT} {tk tv : TE} (hc : X.calm = true) (hN : X.N.Nodup)
    (hy : X.N[i]? = some y) (hyl : X.env.scope.names.lookup y = some .local) (hsw : swapsWith (.DictComp kx vx [⟨tg, iter, ifs, 0⟩] scope pos) (some (.Name y py)) spos.line X.env = pure true)
    (hi : PI X tg iter wi) (ok : BlkOk X.N X.env.scope scope own)
    (dg : ∀ (s : Shared) (H : Hp) (C : Addr) (cl : List (Str × Addr)) (fp : List Addr), PG (X.blk s H scope (compEnvC scope cl C X.env) fp) tg g)
    (dt : ∀ (s : Shared) (H : Hp) (C : Addr) (cl : List (Str × Addr)) (fp : List Addr), PTs (X.blk s H scope (compEnvC scope cl C X.env) fp) ifs tt)
    (dk : ∀ (s : Shared) (H : Hp) (C : Addr) (cl : List (Str × Addr)) (fp : List Addr), PE (X.blk s H scope (compEnvC scope cl C X.env) fp) kx tk)
    (dv : ∀ (s : Shared) (H : Hp) (C : Addr) (cl : List (Str × Addr)) (fp : List Addr), PE (X.blk s H scope (compEnvC scope cl C X.env) fp) vx tv) (hs : ∀ x, foldedSetIterable iter X.env x = pure x := by intro _; rfl) :
    PS X (.Assign [.Name y py] (.DictComp kx vx [⟨tg, iter, ifs, 0⟩] scope pos) spos) (tAsg (tDc wi g tt tk tv (own.map (·.2))) (gName i)) := by
  refine ⟨fun pins s σ H D I q0 => ?_⟩
  rw [exec_Assign_Name_used _ _ _ _ hsw]
  refine wpAny_bind (wpAny_standAt (wpAny_bind ?_))
  show wpAny _ X.A (do let _ ← comprehension (.DictComp kx vx [⟨tg, iter, ifs, 0⟩] scope pos) scope X.env (firstIterPos [⟨tg, iter, ifs, 0⟩] pos) newDict false (eval iter X.env) (some (assign (.Name y py) X.env))) _ _ s
  have q1 : tDc wi g tt tk tv (own.map (·.2)) σ H (fun x H1 => gName i x σ H1 D.nx) := q0
  refine wpAny_bind (thn (dc_core (Qf := fun _ t => SP X pins D .next t) hc hN I hi ok dg dt dk dv hs q1 fun E C t m H2 I2 q hn f => ?_) fun _ t hq => wpAny_pure (wpAny_pure hq))
  show wpAny _ _ (assign (.Name y py) X.env (.ref E)) _ _ _
  refine wpAny_assign_Name (store_ok2 (v := V.ref E) I2 hN hy (.inl hyl) rfl (fun s3 I3 ⟨a, sb, ha⟩ => ?_) (.inr hyl))
  obtain ⟨f0, f1, f2, f3, f4, f5⟩ := f
  have nCa : C ≠ a := by
    rcases ha with z | z
    · rw [z]; exact f1
    · exact fun e => f4 y a z e.symm
  refine ⟨m, hn.sameBut sb nCa, fun h4 sb4 => ?_⟩
  exact ⟨_, H2, I3.turned (t' := s3.toks) (fun b o hb e => (sb4.2 b hb).trans e) f0 f1 f3 f4 f5, q⟩
theorem sw_trueD {kx vx : Expr} {gs : List Comprehension} {scope : Scope} {pos py : Pos} {y : Str} {l : Nat} {env : Env} (hk : env.scope.kind = .function) (hy : env.scope.names.lookup y = some .local) (hl : (py.line == pos.line) = true)
    (ha : (scope.names.any fun (n, k) => n == y && (k == .local || k == .cell)) = false) : swapsWith (.DictComp kx vx gs scope pos) (some (.Name y py)) l env = pure true := by
  have e1 : env.kindOf y = some .local := hy
  have e2 : env.blockKind = .function := by unfold Env.blockKind; rw [hk]; rfl
  unfold swapsWith
  simp only [e2, e1, ha, Expr.pos, hl]
  rfl
/-- a dict of a list that stays -/
theorem dc_list {K : PySem.W.Frag} {a : Addr} {xs : List V} {g : TG} {tt : TT} {tk tv : TE} {vs : List Nat} {σ : L2.St} {H1 : Hp} {D : Addr} {Qd : Hp → Prop} (Pv : Nat → Hp → Prop)
    (h0 : Pv 0 (upd H1 D (.dK []))) (hl : ∀ i H, i ≤ xs.length → Pv i H → SqL K H a xs)
    (hs : ∀ i x H, xs[i]? = some x → Pv i H → g x (wipe σ vs) H fun σ2 H2 => wipe σ2 vs = wipe σ vs ∧ tt σ2 H2 fun b H3 =>
      if b = true then tk σ2 H3 fun y H4 => tv σ2 H4 fun z H5 => ∃ kvs k, y = kV k ∧ H5 D = some (.dK kvs) ∧ kvs.length < sizeLine ∧ Pv (i + 1) (upd H5 D (.dK (putK kvs k z))) else Pv (i + 1) H3)
    (hd : ∀ H, Pv xs.length H → Qd H) :
    ∃ W : Nat → Nat → Hp → Prop, (∃ m, W 0 m (upd H1 D (.dK []))) ∧ ∀ i m H, W i m H →
      ((Itl K a).stop i H ∧ Qd H) ∨ ((Itl K a).go i H ∧ ∃ Nx : Hp → Prop, (∀ H', Nx H' → ∃ m', m' < m ∧ W (i + 1) m' H') ∧ ∀ x H', (Itl K a).yld i H x H' → g x (wipe σ vs) H' fun σ2 H2 => wipe σ2 vs = wipe σ vs ∧ tt σ2 H2 fun b H3 =>
        if b = true then tk σ2 H3 fun y H4 => tv σ2 H4 fun z H5 => ∃ kvs k, y = kV k ∧ H5 D = some (.dK kvs) ∧ kvs.length < sizeLine ∧ Nx (upd H5 D (.dK (putK kvs k z))) else Nx H3) := by
  refine ⟨fun i m H => m = xs.length - i ∧ i ≤ xs.length ∧ Pv i H, ⟨xs.length, by simp, Nat.zero_le _, h0⟩, ?_⟩
  rintro i m H ⟨rfl, hi, p⟩
  have q := hl i H hi p
  by_cases lt : i < xs.length
  · exact .inr ⟨⟨xs, xs[i], q, by simp [lt]⟩, Pv (i + 1), fun H' r => ⟨xs.length - (i + 1), by omega, rfl, lt, r⟩, fun x H' ⟨e, y⟩ => by
      subst e
      exact hs i x _ (y xs q) p⟩
  · have e : i = xs.length := by omega
    subst e
    exact .inl ⟨⟨xs, q, Nat.le_refl _⟩, hd H p⟩
end
/-! ### a fresh dict, walked: it is locked from then on -/
section
variable {X : Cx}
def tFrz (t : TE) : TE := fun σ H Q => t σ H fun x H1 => ∃ d u, H1 d = some u ∧ Mut (some u) ∧ ∀ od, Q x (upd H1 d (.frz od u))
theorem pe_frz {e : Expr} {t : TE} (h : PE X e t) : PE X e (tFrz t) := by
  refine ⟨fun pins s σ H Q I hw => thn (h.run pins s σ H _ I hw) fun v s1 ⟨x, H1, I1, r, d, u, hd, mu, q⟩ => ?_⟩
  obtain ⟨od, I2⟩ := I1.lock hd mu
  exact ⟨x, _, I2, r, q od⟩
theorem lc_keys {d : Addr} {o : Obj} {fs : List (List Nat)} {kvs : List (Key × V)} (hk : kvs.map (fun kv => kV kv.1) = fs.map vS) {g : TG} {tt : TT} {te : TE} {vs : List Nat} {σ : L2.St} {H1 : Hp} {D : Addr} {Qd : Hp → Prop} (Pv : Nat → Hp → Prop)
    (h0 : Pv 0 (upd H1 D (.lst []))) (hl : ∀ i H, i ≤ fs.length → Pv i H → H d = some (.frz o (.dK kvs)))
    (hs : ∀ i u H, fs[i]? = some u → Pv i H → g (vS u) (wipe σ vs) H fun σ2 H2 => wipe σ2 vs = wipe σ vs ∧ tt σ2 H2 fun b H3 =>
      if b = true then te σ2 H3 fun y H4 => ∃ acc, H4 D = some (.lst acc) ∧ acc.length < sizeLine ∧ Pv (i + 1) (upd H4 D (.lst (acc ++ [y]))) else Pv (i + 1) H3)
    (hd : ∀ H, Pv fs.length H → Qd H) :
    ∃ W : Nat → Nat → Hp → Prop, (∃ m, W 0 m (upd H1 D (.lst []))) ∧ ∀ i m H, W i m H →
      ((Itk d o kvs).stop i H ∧ Qd H) ∨ ((Itk d o kvs).go i H ∧ ∃ Nx : Hp → Prop, (∀ H', Nx H' → ∃ m', m' < m ∧ W (i + 1) m' H') ∧ ∀ x H', (Itk d o kvs).yld i H x H' → g x (wipe σ vs) H' fun σ2 H2 => wipe σ2 vs = wipe σ vs ∧ tt σ2 H2 fun b H3 =>
        if b = true then te σ2 H3 fun y H4 => ∃ acc, H4 D = some (.lst acc) ∧ acc.length < sizeLine ∧ Nx (upd H4 D (.lst (acc ++ [y]))) else Nx H3) := by
  have el : kvs.length = fs.length := by
    have := congrArg List.length hk
    rw [List.length_map, List.length_map] at this
    exact this
  refine ⟨fun i m H => m = fs.length - i ∧ i ≤ fs.length ∧ Pv i H, ⟨fs.length, by simp, Nat.zero_le _, h0⟩, ?_⟩
  rintro i m H ⟨rfl, hi, p⟩
  by_cases lt : i < fs.length
  · refine .inr ⟨⟨hl i H hi p, by omega⟩, Pv (i + 1), fun H' r => ⟨fs.length - (i + 1), by omega, rfl, lt, r⟩, ?_⟩
    rintro x H' ⟨rfl, k, v, e1, rfl⟩
    have e2 : (fs.map vS)[i]? = some (kV k) := by rw [← hk, List.getElem?_map, e1]; rfl
    rw [List.getElem?_map] at e2
    cases e3 : fs[i]? with
    | none => rw [e3] at e2; cases e2
    | some u =>
      rw [e3] at e2
      have e4 : vS u = kV k := Option.some.inj e2
      rw [← e4]
      exact hs i u _ e3 p
  · have e : i = fs.length := by omega
    subst e
    exact .inl ⟨⟨hl _ H hi p, by omega⟩, hd H p⟩
end
/-! ### walks, whatever is done in a turn -/
section
theorem it_gen {J : It} {n : Nat} {G : Hp → Prop} {Y : Nat → Hp → V → Hp → Prop} (w : Walk J n G Y) {Body : (Hp → Prop) → V → Hp → Prop} {H0 : Hp} {Qd : Hp → Prop} (Pv : Nat → Hp → Prop) (h0 : Pv 0 H0) (hG : ∀ i H, i ≤ n → Pv i H → G H)
    (hs : ∀ i x H H', i < n → Pv i H → Y i H x H' → Body (Pv (i + 1)) x H') (hd : ∀ H, Pv n H → Qd H) :
    ∃ W : Nat → Nat → Hp → Prop, (∃ m, W 0 m H0) ∧ ∀ i m H, W i m H → (J.stop i H ∧ Qd H) ∨ (J.go i H ∧ ∃ Nx : Hp → Prop, (∀ H', Nx H' → ∃ m', m' < m ∧ W (i + 1) m' H') ∧ ∀ x H', J.yld i H x H' → Body Nx x H') := by
  refine ⟨fun i m H => m = n - i ∧ i ≤ n ∧ Pv i H, ⟨n, by simp, Nat.zero_le _, h0⟩, ?_⟩
  rintro i m H ⟨rfl, hi, p⟩
  have gH := hG i H hi p
  by_cases lt : i < n
  · exact .inr ⟨w.goes i H lt gH, Pv (i + 1), fun H' r => ⟨n - (i + 1), by omega, rfl, lt, r⟩, fun x H' y => hs i x H H' lt p (w.yields i H x H' lt gH y)⟩
  · have e : i = n := by omega
    subst e
    exact .inl ⟨w.stops H gH, hd H p⟩
/-- the i-th of xs, told by f -/
def YM {α : Type} (f : α → V) (xs : List α) : Nat → Hp → V → Hp → Prop := fun i H v H' => H' = H ∧ ∃ u, xs[i]? = some u ∧ v = f u
theorem ym_of {α : Type} {f : α → V} {xs : List α} {i : Nat} {x : V} (h : (xs.map f)[i]? = some x) : ∃ u, xs[i]? = some u ∧ x = f u := by
  rw [List.getElem?_map] at h
  cases e : xs[i]? with
  | none => rw [e] at h; cases h
  | some c => rw [e] at h; exact ⟨c, rfl, (Option.some.inj h).symm⟩
theorem wk_list {K : PySem.W.Frag} {a : Addr} {α : Type} (f : α → V) (xs : List α) : Walk (Itl K a) xs.length (fun H => SqL K H a (xs.map f)) (YM f xs) :=
  ⟨fun i H hi h => (walk_list (xs := xs.map f)).goes i H (by rw [List.length_map]; exact hi) h,
   fun H h => by have := (walk_list (xs := xs.map f)).stops H h; rw [List.length_map] at this; exact this,
   fun i H x H' hi h y => by
    obtain ⟨e, q⟩ := (walk_list (xs := xs.map f)).yields i H x H' (by rw [List.length_map]; exact hi) h y
    exact ⟨e, ym_of q⟩⟩
theorem wk_tup {K : PySem.W.Frag} {a : Addr} {α : Type} (f : α → V) (xs : List α) : Walk (Itt K a) xs.length (fun H => SqT K H a (xs.map f)) (YM f xs) :=
  ⟨fun i H hi h => (walk_tup (xs := xs.map f)).goes i H (by rw [List.length_map]; exact hi) h,
   fun H h => by have := (walk_tup (xs := xs.map f)).stops H h; rw [List.length_map] at this; exact this,
   fun i H x H' hi h y => by
    obtain ⟨e, q⟩ := (walk_tup (xs := xs.map f)).yields i H x H' (by rw [List.length_map]; exact hi) h y
    exact ⟨e, ym_of q⟩⟩
theorem wk_str (l : List Nat) : Walk (Its (S l)) l.length (fun _ => True) (YM (fun c => vS [c]) l) :=
  ⟨fun i H hi h => (walk_str (z := S l)).goes i H (by simpa [SX.S] using hi) h,
   fun H h => by have := (walk_str (z := S l)).stops H h; simpa [SX.S] using this,
   fun i H x H' hi h y => by
    obtain ⟨e, c, q1, q2⟩ := (walk_str (z := S l)).yields i H x H' (by simpa [SX.S] using hi) h y
    exact ⟨e, c, by simpa [SX.S] using q1, q2⟩⟩
end
section
variable {X : Cx}
def tTru (K : PySem.W.Frag) (te : TE) : TT := fun σ H Q => te σ H fun x H' => ∃ k, TruV K x H' k ∧ Q k H'
theorem pt_tru (K : PySem.W.Frag) {a : Expr} {ta : TE} (hk : X.K = K) (h : PE X a ta) (he : ∀ whole, isTrue a X.env whole = (do let v ← whole; standAt a.pos; holding [v] (truthy v))) : PT X a (tTru K ta) := by
  subst hk
  exact pt_truth h he
end
/-! ### rules with the fragment told (within comprehensions) -/
section
variable {X : Cx}
theorem sl_listK (K : PySem.W.Frag) (hk : X.K = K) : SlR X (rSlL K) := by subst hk; exact sl_list
theorem ix_listK (K : PySem.W.Frag) (hk : X.K = K) : IxR X (rIxL K) := by subst hk; exact ix_list
theorem ix_tupK (K : PySem.W.Frag) (hk : X.K = K) : IxR X (rIxT K) := by subst hk; exact ix_tup
theorem call_lenK (K : PySem.W.Frag) (hk : X.K = K) : CallR X (.builtin "len") (fun xs H Q => ∃ p ys, xs = [.ref p] ∧ (SqL K H p ys ∨ SqT K H p ys) ∧ Q (.int ys.length) H) := by subst hk; exact call_len_seq
theorem pi_listK (K : PySem.W.Frag) (hk : X.K = K) {tg l : Expr} {tl : TE} (h : PE X l tl) : PI X tg l (iList K tl) := by subst hk; exact pi_list h
theorem pi_tupK (K : PySem.W.Frag) (hk : X.K = K) {tg l : Expr} {tl : TE} (h : PE X l tl) : PI X tg l (iTup K tl) := by subst hk; exact pi_tup h
end
end Lk

namespace Lk
open PySem PySem.Spec PyProof.Rows L2
/-! ### order: lists of numbers, (number, list) -/
open Fo PySem.W
abbrev dL (l : List Nat) : PyData := .list (l.map dI)
theorem alike_ints : ∀ a b : List Nat, alikeAll (a.map dI) (b.map dI) = true
  | [], _ => by simp [alikeAll]
  | _ :: _, [] => by simp [alikeAll]
  | x :: r, y :: t => by
    rw [List.map_cons, List.map_cons, alikeAll, alike_ints r t]
    simp [alike]
theorem alike_dL (a b : List Nat) : alike (dL a) (dL b) = true := by
  rw [alike]
  exact alike_ints a b
theorem toks_lt : ∀ a b : List Nat, PyProof.Rows.lexLt itemOrd (keyToksAll (a.map dI)) (keyToksAll (b.map dI)) = decide (a < b)
  | [], [] => by rw [decide_eq_false (List.lt_irrefl [])]; decide
  | [], y :: t => by
    rw [decide_eq_true (show ([] : List Nat) < y :: t from List.nil_lt_cons y t)]
    show PyProof.Rows.lexLt itemOrd (keyToksAll []) (keyToksAll (dI y :: t.map dI)) = true
    rw [toks_all_cons]
    simp only [keyToksAll]
    rw [lex_diff (O := itemOrd) (by simp)]
    decide
  | x :: r, [] => by
    rw [decide_eq_false (List.not_lt_nil _)]
    show PyProof.Rows.lexLt itemOrd (keyToksAll (dI x :: r.map dI)) (keyToksAll []) = false
    rw [toks_all_cons]
    simp only [keyToksAll]
    rw [lex_diff (O := itemOrd) (by simp)]
    decide
  | x :: r, y :: t => by
    rw [List.map_cons, List.map_cons]
    have ha : alike (dI x) (dI y) = true := by simp [alike]
    by_cases e : x = y
    · subst e
      rw [dataLt_all_yes ha (by rw [dI_eqv]; exact decide_eq_true rfl), toks_lt r t]
      apply decide_eq_decide.mpr
      rw [List.cons_lt_cons_iff]
      constructor
      · exact fun h => .inr ⟨rfl, h⟩
      · rintro (h | ⟨_, h⟩)
        · omega
        · exact h
    · rw [dataLt_all_no ha (by rw [dI_eqv]; exact decide_eq_false e), dataLt_int]
      apply decide_eq_decide.mpr
      rw [List.cons_lt_cons_iff]
      constructor
      · exact fun h => .inl (by omega)
      · rintro (h | ⟨h, _⟩)
        · omega
        · exact absurd h e
theorem dataLt_dL (a b : List Nat) : dataLt (dL a) (dL b) = decide (a < b) := by rw [dataLt_list, toks_lt]
theorem dL_inj {a b : List Nat} (h : dL a = dL b) : a = b := by
  injection h with h
  have : ∀ a b : List Nat, a.map dI = b.map dI → a = b := by
    intro a
    induction a with
    | nil =>
      intro b h
      cases b with
      | nil => rfl
      | cons y t => simp at h
    | cons x r ih =>
      intro b h
      cases b with
      | nil => simp at h
      | cons y t =>
        rw [List.map_cons, List.map_cons] at h
        injection h with h1 h2
        injection h1 with h1
        rw [ih t h2]
        congr 1
        omega
  exact this a b h
def minR (x : List Nat) (xs : List (List Nat)) : List Nat := xs.foldl (fun a y => if y < a then y else a) x
theorem minD_dL : ∀ (xs : List (List Nat)) (x : List Nat), minD (dL x) (xs.map dL) = dL (minR x xs) := by
  intro xs
  induction xs with
  | nil => intro x; rfl
  | cons y r ih =>
    intro x
    show (r.map dL).foldl (fun a y => if dataLt y a then y else a) (if dataLt (dL y) (dL x) then dL y else dL x) = dL (r.foldl (fun a y => if y < a then y else a) (if y < x then y else x))
    rw [dataLt_dL]
    by_cases h : y < x
    · rw [if_pos (decide_eq_true h), if_pos h]
      exact ih y
    · rw [if_neg (by simpa using h), if_neg h]
      exact ih x
theorem minR_ok : ∀ (xs : List (List Nat)) (x : List Nat), minR x xs ∈ x :: xs ∧ ∀ y ∈ x :: xs, ¬ y < minR x xs := by
  intro xs
  induction xs with
  | nil =>
    intro x
    refine ⟨List.mem_singleton.mpr rfl, fun y hy => ?_⟩
    rw [List.mem_singleton.mp hy]
    exact List.lt_irrefl _
  | cons z r ih =>
    intro x
    have e : minR x (z :: r) = minR (if z < x then z else x) r := rfl
    obtain ⟨h1, h2⟩ := ih (if z < x then z else x)
    rw [← e] at h1 h2
    constructor
    · rcases List.mem_cons.mp h1 with h | h
      · rw [h]
        split
        · exact List.mem_cons_of_mem _ (List.mem_cons_self ..)
        · exact List.mem_cons_self ..
      · exact List.mem_cons_of_mem _ (List.mem_cons_of_mem _ h)
    · intro y hy
      have hm := h2 _ (List.mem_cons_self ..)
      rcases List.mem_cons.mp hy with rfl | hy
      · by_cases hz : z < y
        · rw [if_pos hz] at hm
          exact List.not_lt.mpr (List.le_trans (List.not_lt.mp hm) (List.le_of_lt hz))
        · rw [if_neg hz] at hm
          exact hm
      · rcases List.mem_cons.mp hy with rfl | hy
        · by_cases hz : y < x
          · rw [if_pos hz] at hm
            exact hm
          · rw [if_neg hz] at hm
            exact List.not_lt.mpr (List.le_trans (List.not_lt.mp hm) (List.not_lt.mp hz))
        · exact h2 y (List.mem_cons_of_mem _ hy)
theorem depthAll_ints (l : List Nat) : PyData.depthAll (l.map dI) ≤ 1 := depAll_of fun a _ => by simp [PyData.depth]
theorem dL_dep (l : List Nat) : (dL l).depth ≤ 2 := by
  rw [PyData.depth]
  have := depthAll_ints l
  omega
/-- rows stand at the addresses bs -/
def RowsAt (K : PySem.W.Frag) (H : Hp) (bs : List Addr) (rs : List (List Nat)) : Prop := bs.length = rs.length ∧ ∀ (i : Nat) (b : Addr) (r : List Nat), bs[i]? = some b → rs[i]? = some r → SqL K H b (r.map vI)
theorem RowsAt.dps {K : PySem.W.Frag} {H : Hp} : ∀ {bs : List Addr} {rs : List (List Nat)}, RowsAt K H bs rs → DpAll K H (bs.map V.ref) (rs.map dL)
  | [], [], _ => .nil
  | [], _ :: _, h => by simp [RowsAt] at h
  | _ :: _, [], h => by simp [RowsAt] at h
  | b :: bs, r :: rs, h => .cons (dpi (h.2 0 b r rfl rfl)) (RowsAt.dps (bs := bs) (rs := rs) ⟨by have := h.1; simp at this; exact this, fun i c s hc hs => h.2 (i + 1) c s hc hs⟩)
section
variable {X : Cx}
def rMinLL (K : PySem.W.Frag) : List V → Hp → VK → Prop := fun vs H Q => ∃ (a : Addr) (bs : List Addr) (rs : List (List Nat)), vs = [.ref a] ∧ SqL K H a (bs.map V.ref) ∧ RowsAt K H bs rs ∧ rs ≠ [] ∧
  ∀ (i : Nat) (b : Addr) (r : List Nat), bs[i]? = some b → rs[i]? = some r → (∀ x ∈ rs, ¬ x < r) → Q (.ref b) H
theorem cr_minLL (hc : X.calm = true) (hu : X.A.units + 64 < cLine) : CallR X (.builtin "min") (rMinLL X.K) := by
  intro pins s σ H vs us Q I r h
  obtain ⟨a, bs, rs, rfl, hs, hr, hne, q⟩ := h
  obtain ⟨its, rv, hl, hz⟩ := I.list hs
  rw [Vals.ref1 r]
  obtain ⟨as, ra⟩ := Dp.readsAll I _ _ _ hr.dps rv
  cases rs with
  | nil => exact absurd rfl hne
  | cons x xs =>
    have hal : AlikeAll (dL x :: xs.map dL) := by
      refine ⟨fun y hy z hz => ?_, fun y hy => ?_⟩
      · obtain ⟨y', _, rfl⟩ : ∃ y', y' ∈ x :: xs ∧ dL y' = y := by rw [← List.map_cons (f := dL)] at hy; exact List.mem_map.mp hy
        obtain ⟨z', _, rfl⟩ : ∃ z', z' ∈ x :: xs ∧ dL z' = z := by rw [← List.map_cons (f := dL)] at hz; exact List.mem_map.mp hz
        exact alike_dL _ _
      · obtain ⟨y', _, rfl⟩ : ∃ y', y' ∈ x :: xs ∧ dL y' = y := by rw [← List.map_cons (f := dL)] at hy; exact List.mem_map.mp hy
        intro z
        cases z
    have hdep : PyData.depthAll (dL x :: xs.map dL) ≤ 2 := by
      rw [← List.map_cons (f := dL)]
      exact depAll_of fun a _ => dL_dep a
    have ra' : ReadsAll s.heap its.toArray.toList (dL x :: xs.map dL) as := ra
    refine min_list_data (I.ok.hd hc) hl.isList ra' hal (by omega) fun i v h' tk cs hv hrd hk => ?_
    have hit : its[i]? = some v := by simpa using hv
    have hin : i < its.length := (List.getElem?_eq_some_iff.mp hit).1
    have hlen : its.length = bs.length := by have := rv.length; rw [List.length_map] at this; omega
    obtain ⟨cs2, rd2, hi2, _, _⟩ := readsAll_atA ra' i v hv
    rw [← List.map_cons (f := dL)] at rd2
    have hir : i < (x :: xs).length := by rw [← hr.1]; omega
    obtain ⟨y, hy⟩ : ∃ y, (x :: xs)[i]? = some y := ⟨_, List.getElem?_eq_getElem hir⟩
    have egd : ((x :: xs).map dL).getD i .none = dL y := by rw [List.getD_eq_getElem?_getD, List.getElem?_map, hy]; rfl
    rw [egd] at rd2
    rw [minD_dL] at hrd
    have e1 : dL y = dL (minR x xs) := alike_unique _ _ _ _ _ (alike_dL _ _) (reads_keeps hk rd2) hrd
    have e2 := dL_inj e1
    have hib : i < bs.length := by omega
    obtain ⟨b, hb⟩ : ∃ b, bs[i]? = some b := ⟨_, List.getElem?_eq_getElem hib⟩
    have ev : v = .ref b := by
      have hh : RelV (V.ref b) v := by
        have : (bs.map V.ref)[i]? = some (V.ref b) := by rw [List.getElem?_map, hb]; rfl
        obtain ⟨u, hu1, hu2⟩ := Vals.get rv this
        rw [hit] at hu1
        rw [Option.some.inj hu1]
        exact hu2
      exact hh
    subst ev
    exact ⟨.ref b, H, I.kept hk, rfl, q i b y hb hy (by rw [e2]; exact (minR_ok xs x).2)⟩
def rLtIL (K : PySem.W.Frag) : R2 := fun x y H Q => ∃ (a b p q : Addr) (n m : Int) (l k : List Nat), x = .ref a ∧ y = .ref b ∧ SqT K H a [.int n, .ref p] ∧ SqT K H b [.int m, .ref q] ∧ SqL K H p (l.map vI) ∧ SqL K H q (k.map vI) ∧ Q (.bl (decide (n < m ∨ n = m ∧ l < k))) H
theorem dataLt_IL (n m : Int) (l k : List Nat) : dataLt (.tuple [.int n, dL l]) (.tuple [.int m, dL k]) = decide (n < m ∨ n = m ∧ l < k) := by
  rw [dataLt_tuple]
  have ha : alike (.int n) (.int m) = true := by simp [alike]
  have eqv : PyData.eqv (.int n) (.int m) = (n == m) := rfl
  by_cases e : n = m
  · subst e
    rw [dataLt_all_yes ha (by rw [eqv]; simp)]
    by_cases e2 : l = k
    · subst e2
      rw [decide_eq_false (by rintro (h | ⟨_, h⟩); exact absurd h (Int.lt_irrefl _); exact List.lt_irrefl _ h)]
      rw [dataLt_all_yes (alike_dL l l) (eqv_refl_alike _ (alike_dL l l))]
      decide
    · have hne : PyData.eqv (dL l) (dL k) = false := by
        show PyData.eqv (.list (l.map dI)) (.list (k.map dI)) = false
        rw [PyData.eqv, eqvAll_of fun a _ b _ => dI_eqv a b]
        exact decide_eq_false e2
      rw [dataLt_all_no (alike_dL l k) hne, dataLt_dL]
      apply decide_eq_decide.mpr
      exact ⟨fun h => .inr ⟨rfl, h⟩, fun h => h.elim (fun z => absurd z (Int.lt_irrefl _)) fun z => z.2⟩
  · rw [dataLt_all_no ha (by rw [eqv]; simpa using e), dataLt_int]
    apply decide_eq_decide.mpr
    exact ⟨fun h => .inl h, fun h => h.elim id fun z => absurd z.1 e⟩
theorem op_ltIL (hu : X.A.units + 64 < cLine) : OpR X (compareOp .Lt) (rLtIL X.K) := by
  intro pins s σ H x y v u Q I rx ry ⟨a, b, p, q, n, m, l, k, e1, e2, h1, h2, h3, h4, hq⟩
  subst e1 e2
  have d1 : Dp X.K H (.ref a) (.tuple [.int n, dL l]) := .tup h1 (.cons (.int n) (.cons (dpi h3) .nil))
  have d2 : Dp X.K H (.ref b) (.tuple [.int m, dL k]) := .tup h2 (.cons (.int m) (.cons (dpi h4) .nil))
  obtain ⟨as, r1⟩ := Dp.reads I _ _ v d1 rx
  obtain ⟨bs, r2⟩ := Dp.reads I _ _ u d2 ry
  have hal : alike (.tuple [.int n, dL l]) (.tuple [.int m, dL k]) = true := by
    rw [alike, alikeAll, alikeAll, alikeAll, alike_dL]
    simp [alike]
  have hdep : (PyData.tuple [.int n, dL l]).depth ≤ 4 := by
    rw [PyData.depth, PyData.depthAll, PyData.depthAll, PyData.depthAll]
    have := dL_dep l
    have e : (PyData.int n).depth ≤ 1 := by simp [PyData.depth]
    omega
  have hx := rcLt_alike _ _ X.A s v u as bs r1 r2 hal (fun z => by cases z) (by have := Nat.min_le_left (PyData.tuple [.int n, dL l]).depth (PyData.tuple [.int m, dL k]).depth; omega)
  rw [dataLt_IL] at hx
  exact hx X.prog X.w _ _ ⟨.bl _, H, I, rfl, hq⟩
end
end Lk

namespace Lk
open PySem PySem.Spec PyProof.Rows L2
/-! ### text * number -/
section
variable {X : Cx}
theorem rep_fold (l : List Nat) : ∀ (m : Nat) (acc : List Nat), (List.replicate m l.toArray).foldl (· ++ ·) acc.toArray = (acc ++ (List.replicate m l).flatten).toArray
  | 0, acc => by simp
  | m + 1, acc => by
    rw [List.replicate_succ, List.foldl_cons, List.replicate_succ, List.flatten_cons, ← List.append_assoc]
    have := rep_fold l m (acc ++ l)
    rw [← this]
    congr 1
    simp
theorem op_repS : OpR X (binaryOp .Mult) (fun x y H Q => ∃ (l : List Nat) (n : Nat), x = vS l ∧ y = .int n ∧ 1 ≤ n ∧ n ≤ 1000 ∧ l.length ≤ 1000 ∧ Q (vS (List.replicate n l).flatten) H) := by
  intro pins s σ H x y v u Q I rx ry ⟨l, n, e1, e2, n1, n2, hl, q⟩
  subst e1 e2
  obtain ⟨t, rfl⟩ := rx
  obtain ⟨t', rfl⟩ := ry
  have hle : (S l).length * ((n : Int)).toNat ≤ 1000000 := by
    rw [S_len, Int.toNat_natCast]
    exact Nat.le_trans (Nat.mul_le_mul hl n2) (by decide)
  refine P.mul_str ?_ (fun _ _ => ?_) (fun _ _ => ?_) ?_
  · rw [decide_eq_false (by omega), decide_eq_false (by omega)]
    rfl
  · have h1 : ((S l).length : Int) ≤ 1000 := by rw [S_len]; omega
    have h2 : (1000 : Int) ≤ (2 ^ 63 - 1) / (n : Int) := by
      rw [Int.le_ediv_iff_mul_le (by omega)]
      omega
    omega
  · show decide ((S l).length * ((n : Int)).toNat > sizeLine) = false
    exact decide_eq_false (Nat.not_lt.mpr (big hle))
  · rw [if_neg (by omega)]
    by_cases h1 : (((n : Int) == 1) || (S l).length == 0) = true
    · rw [if_pos h1]
      have e : (List.replicate n l).flatten = l := by
        rw [Bool.or_eq_true] at h1
        rcases h1 with h1 | h1
        · have : n = 1 := by have := eq_of_beq h1; omega
          rw [this]
          simp
        · have : l = [] := by
            have := eq_of_beq h1
            rw [S_len] at this
            exact List.length_eq_zero_iff.mp this
          rw [this]
          simp
      rw [e] at q
      exact ⟨vS l, H, I, ⟨t, rfl⟩, q⟩
    · rw [if_neg h1]
      have e : (⟨(List.replicate ((n : Int)).toNat (S l).cps).foldl (· ++ ·) #[]⟩ : Str) = S (List.replicate n l).flatten := by
        have := rep_fold l n []
        rw [List.nil_append] at this
        show (⟨(List.replicate ((n : Int)).toNat l.toArray).foldl (· ++ ·) [].toArray⟩ : Str) = ⟨_⟩
        rw [Int.toNat_natCast, this]
      rw [e]
      refine ⟨?_, ⟨vS _, H, I.tok _, ⟨_, rfl⟩, q⟩⟩
      clear e
      have hfl : (List.replicate n l).flatten.length = n * l.length := by simp
      rw [S_len, hfl]
      exact big (Nat.le_trans (Nat.mul_le_mul n2 hl) (by decide))
end
end Lk

namespace Lk
open PySem PySem.Spec PyProof.Rows L2
/-! ### own exception classes: what the written part says of them -/
/-- the class x -/
structure ExF (K : PySem.W.Frag) (mg : Str → Option Value) (x : Str) : Prop where
  ex : ∃ C, mg x = some (.ref C) ∧ PySem.W.keepIn K (.ref C) = true ∧ PySem.W.subIn K (.ref C) (.type "BaseException") = some true ∧ PySem.W.typeIn K (.ref C) = some (.type "type") ∧ PySem.W.isClsIn K C = true ∧ PySem.W.subIn K (.ref C) (.ref C) = some true ∧ ExcC K C
/-- isinstance of an x and the class y -/
def ExK (K : PySem.W.Frag) (mg : Str → Option Value) (x y : Str) (b : Bool) : Prop := ∃ C D, mg x = some (.ref C) ∧ mg y = some (.ref D) ∧ PySem.W.kitOne K (.ref C) (.ref D) = some b
theorem kit_own {K : PySem.W.Frag} {C D : Addr} {b : Bool} (i : PySem.W.isClsIn K D = true) (t : PySem.W.typeIn K (.ref D) = some (.type "type")) (s : PySem.W.subIn K (.ref D) (.ref D) = some true) (x : PySem.W.subIn K (.ref C) (.ref D) = some b) : PySem.W.kitOne K (.ref C) (.ref D) = some b := by
  unfold PySem.W.kitOne
  by_cases e : C = D
  · subst e
    rw [s] at x
    rw [if_pos (by simp)]
    exact x
  · rw [if_neg (by simpa using e)]
    unfold PySem.W.kitCls
    have i' : (PySem.W.clsIn K D).isSome = true := i
    dsimp only
    rw [i', t]
    simpa using x
/-- the method m of the class x -/
structure DefM (K : PySem.W.Frag) (mg : Str → Option Value) (x m q : Str) (st : Stmt) (ps : List Str) : Prop where
  ex : ∃ C f fd, mg x = some (.ref C) ∧ PySem.W.findIn K (.ref C) m = some (some (.ref f)) ∧ PySem.W.typeIn K (.ref f) = some (.type "function") ∧ PySem.W.keepIn K (.ref f) = true ∧ Fun K m q st f fd ∧ Binds K fd ps []
theorem defM_mk {K : PySem.W.Frag} {h : Heap} {mg : Str → Option Value} {x m q : Str} {st : Stmt} {ps : List Str} {C f : Addr} {oc : Value} {od an : Option Addr} {osl : Array (Option Value)} {kV doc pm cdv ct : Value} (X : K.In h) (G : h.Ns mainGlobals mg)
    (hb : ∀ (kV doc pm : Value) (an : Option Addr) (cdv ct : Value) (us : List Value), us.length = ps.length → bindArgs (PySem.W.fnOf m q (defArgs st) (defBody st) (defScope st) .none kV doc pm an cdv ct) ⟨us, []⟩ = pure (ps.zip us))
    (a : PySem.W.nsIn K mainGlobals x = some (some (.ref C))) (i : PySem.W.findIn K (.ref C) m = some (some (.ref f))) (t : PySem.W.typeIn K (.ref f) = some (.type "function"))
    (l : K.lookup f = some ⟨oc, od, .func (PySem.W.fnOf m q (defArgs st) (defBody st) (defScope st) .none kV doc pm an cdv ct), osl⟩) (c : PySem.W.codeIn K cdv q = true) (k : PySem.W.keepIn K (.ref f) = true) : DefM K mg x m q st ps := by
  have F := fun_mk (st := st) l c k
  exact ⟨C, f, _, PySem.W.mg_of X G a, i, t, k, F, F.binds hb⟩
/-- an own exception class x with an __init__ that keeps f and calls y's -/
def OexF (K : PySem.W.Frag) (mg : Str → Option Value) (x y f : Str) : Prop := ∃ C D, mg x = some (.ref C) ∧ mg y = some (.ref D) ∧ OexC K C ∧ PySem.W.findIn K (.ref C) f = some none ∧
  PySem.W.findCls K (.ref D) (.type "type") "__init__" = some (.val (.builtin "ValueError.__init__")) ∧ ClX.CRead K D (.type "type")
section
variable {X : Cx} {x : Str} {D : Addr} {e : Expr} {es : List Expr} {ta : TA} {p1 p2 pos : Pos}
/-- Base.__init__(self, ..), Base an own exception class without an __init__ of its own -/
theorem pe_oinit {pl : Sem Bool} (hg : Gl X x) (hm : X.mg x = some (.ref D)) (r : ClX.CRead X.K D (.type "type")) (v : PySem.W.findCls X.K (.ref D) (.type "type") "__init__" = some (.val (.builtin "ValueError.__init__"))) (ha : PA X (e :: es) ta)
    (hc : eval (.Call (.Attribute (.Name x p1) "__init__" p2) (e :: es) [] pos) X.env = (do
      let ov ← eval (.Name x p1) X.env
      standAt p2.atName
      let (f, first) ← holding [ov] (getMethod ov "__init__" pl)
      callWith pos f first (backTo pos (starEach (e :: es) X.env)) (backToKw pos (keywordEach [] X.env))) := by rfl)
    (hdb : (x == ("__debug__" : Str)) = false := by decide) (he : starEach (e :: es) X.env = (false, eval e X.env) :: starEach es X.env := by rfl) (hpl : (backTo pos (starEach es X.env)).any (·.1) = false := by rfl) :
    PE X (.Call (.Attribute (.Name x p1) "__init__" p2) (e :: es) [] pos) (tVeI X.K ta) := by
  refine ⟨fun pins s σ H Q I h => ?_⟩
  refine PySem.W.methodCall_KW (ld_glob I hg hm ?_ hdb) hc
  refine PySem.W.method_cls I.kIn r.ga (PySem.W.cls_value I.kIn r.rd v (by decide +kernel) ?_)
  show wpAny _ _ (callWith pos (Value.builtin "ValueError.__init__") [] (backTo pos (starEach (e :: es) X.env)) []) _ _ _
  refine PyProof.Rows.callWith_method1 (thn (ha.run pos pins _ σ H _ (I.tok _) h) fun us s1 ⟨vs, H1, I1, r1, a, C, ws, ev, hl, T, ea, q⟩ => ?_) he hpl
  subst ev
  cases r1 with
  | @cons _ u0 _ ur ra rw' =>
    obtain rfl : u0 = Value.ref a := ra
    have hlen : ur.length ≤ sizeLine := by
      rw [← Paired.length rw', sizeLine_eq]
      omega
    exact oinit_ok T I1 ea hlen fun s' J => ⟨.non, H1, J, rfl, q⟩
end
/-- an own exception class without an __init__ of its own or above -/
def ExE (K : PySem.W.Frag) (mg : Str → Option Value) (x : Str) : Prop := ∃ C, mg x = some (.ref C) ∧ PySem.W.excIn K C [.type "ValueError", .type "Exception", .type "BaseException", .type "object"] "ValueError.__new__" = true
section
variable {X : Cx} {x : Str} {ps : List Str} {k j : Nat} {sp : Sp} {e : Expr} {es : List Expr} {t : TA} {p pos : Pos} {E : L2.St → XK}
/-- x(e, ..), x may raise -/
theorem pe_fnS (F : Fn X.prog X.w X.K X.mg X.base (L2.CX X.prog X.w) k x ps sp) (hr : Room j X.A) (hx : ∀ σ, PassesAt (L2.CX X.prog X.w) X σ (E σ)) (ha : PA X (e :: es) t) (hj : k ≤ j := by decide) (hg : Gl X x := by rfl)
    (hdb : (x == ("__debug__" : Str)) = false := by decide) (he : starEach (e :: es) X.env = (false, eval e X.env) :: starEach es X.env := by rfl) (hpl : (backTo pos (starEach es X.env)).any (·.1) = false := by rfl) :
    PE X (.Call (.Name x p) (e :: es) [] pos) (tCallS sp E t) := by
  obtain ⟨f, fd, a, b, c, d⟩ := F
  exact pe_callS d (hr.mono hj) hg a b c hx ha hdb he hpl
/-- isinstance(e, c), e the exception in hand: of the class at D -/
def rIsEX (K : PySem.W.Frag) (D a : Addr) (cls : Value) (d : Option Addr) : List V → Hp → VK → Prop := fun xs H Q => cls = .ref D ∧ d = none ∧ rIsE K D a xs H Q
theorem call_isEX {a D : Addr} {oe : Obj} {cls : Value} {d : Option Addr} {pn : List (Addr × Obj)} (C : ExcC X.K D) (hz : Zc cls d oe) (hf : ∃ vs, oe.data = .fields vs) : CallR (X.suite a ((a, oe) :: pn)) (.builtin "isinstance") (rIsEX X.K D a cls d) := by
  intro pins s σ H xs us Q I r ⟨e1, e2, h⟩
  subst e1 e2
  exact call_isE C hz hf pins s σ H xs us Q I r h
end
section
variable {K : PySem.W.Frag} {X : Cx} {pins : List (Addr × Obj)} {a D : Addr} {oe : Obj} {cls : Value} {d : Option Addr} {pn : List (Addr × Obj)} {f : Str} {e : Expr} {te : TE} {pos : Pos}
/-- the exception that the suite holds, its dict at dd -/
theorem instD {s : Shared} {σ : L2.St} {H : Hp} {dd : Addr} {fs : List (Str × V)} (I : Inv (X.suite a ((a, oe) :: pn)) pins σ H s) (hz : Zc cls d oe) (hf : ∃ vs, oe.data = .fields vs) (ec : cls = .ref D) (ed : d = some dd) (ea : H dd = some (.xd fs)) :
    ∃ (od : Obj) (mA : Str → Option Value), PySem.W.InstAt s.heap a oe D (some od) ∧ (∀ name, PySem.W.lookIn name od = some (mA name)) ∧ ∀ g, RelO (fs.lookup g) (mA g) := by
  subst ec
  subst ed
  obtain ⟨ha, _⟩ := I.pin (a, oe) (List.mem_append_left _ List.mem_cons_self)
  obtain ⟨vs, hd⟩ := hf
  have hx : ObjOk X.prog X.w H s.heap dd (.xd fs) := I.hok dd _ ea
  obtain ⟨mA, hns, hr⟩ := hx
  obtain ⟨od, ho, hl⟩ := lookIn_ns hns
  exact ⟨od, mA, ⟨ha, hz.1, by unfold PySem.W.notCls; rw [hd] <;> rfl, by rw [hz.2]; exact ho⟩, hl, hr⟩
/-- isinstance(e, c), e the exception in hand: of the class at D, with a dict -/
def rIsED (K : PySem.W.Frag) (D a : Addr) (cls : Value) (d : Option Addr) : List V → Hp → VK → Prop := fun xs H Q => cls = .ref D ∧ ∃ (dd : Addr) (fs : List (Str × V)), d = some dd ∧ H dd = some (.xd fs) ∧ rIsE K D a xs H Q
theorem call_isED (C : ExcC X.K D) (hz : Zc cls d oe) (hf : ∃ vs, oe.data = .fields vs) : CallR (X.suite a ((a, oe) :: pn)) (.builtin "isinstance") (rIsED X.K D a cls d) := by
  intro pins s σ H xs us Q I r ⟨e1, dd, fs, e2, ea, c, cv, b, ex, hcv, e, q⟩
  subst ex
  cases r with
  | cons rx rr =>
    cases rr with
    | cons rt rr =>
      cases rr
      cases rx
      have ec := hcv _ rt
      subst ec
      obtain ⟨od, mA, J, hl, hr⟩ := instD I hz hf e1 e2 ea
      obtain ⟨cdD, hcD, _⟩ := PySem.W.any_some C.hd
      exact PySem.W.kia_one (PySem.W.kitx_exc (by rw [hcD]; rfl) C.hg C.hk C.hs C.ha C.hn C.ht C.hm) I.kIn J e (fun z => nomatch z) fun tk => ⟨.bl b, H, I.kept (t' := tk) fun _ _ z => z, rfl, q⟩
/-- e.f, e the exception that the suite holds -/
def tXf (D a : Addr) (cls : Value) (d : Option Addr) (f : Str) (te : TE) : TE := fun σ H Q => te σ H fun x H1 => x = .ref a ∧ cls = .ref D ∧ ∃ (dd : Addr) (fs : List (Str × V)) (v : V), d = some dd ∧ H1 dd = some (.xd fs) ∧ fs.lookup f = some v ∧ Q v H1
theorem pe_xf (C : ExcC X.K D) (hno : PySem.W.findIn X.K (.ref D) f = some none) (hz : Zc cls d oe) (hf : ∃ vs, oe.data = .fields vs) (he : PE (X.suite a ((a, oe) :: pn)) e te)
    (hb : attributeBase e f X.env (eval e X.env) = eval e X.env := by rfl) : PE (X.suite a ((a, oe) :: pn)) (.Attribute e f pos) (tXf D a cls d f te) := by
  refine ⟨fun pins s σ H Q I h => ?_⟩
  refine attr_of hb (thn (he.run pins s σ H _ I h) fun u s1 hh => ?_)
  obtain ⟨x, H1, I1, rx, ex, e1, dd, fs, v, e2, ea, lk, q⟩ := hh
  subst ex
  obtain rfl : u = Value.ref a := rx
  obtain ⟨od, mA, J, hl, hr⟩ := instD I1 hz hf e1 e2 ea
  obtain ⟨u, hu, ru⟩ := RelO.some_of (v := v) (o := mA f) (by rw [← lk]; exact hr f)
  exact HandSPX.exc_get I1.kIn J C.hg C.hk C.hs (PySem.W.findObj_own C.hd hno rfl (by rw [hl, hu])) (handed_of ru) ⟨v, H1, I1.tok _, ru, q⟩
end
end Lk

namespace Lk
open PySem PySem.Spec PyProof.Rows L2
/-! ### the end of iteration while an exception is handled: a list's and a tuple's iterator, zip of two lists, unpacking -/
open HotX
section
variable {prog : Program} {w : World} {A : Around} {E : Value → Shared → Prop} {s : Shared}
theorem setF_hot {M : Model} {a : Addr} {o : Obj} {vs : Array Value} {i : Nat} {x : Value} {Q : Unit → Shared → Prop} (ho : s.heap.get? a = some o)
    (hd : o.data = .fields vs) (hi : i < vs.size) (h : ∀ h', Heap.SameBut a s.heap h' → Q () { s with heap := h' }) : wpAny M A (setField (.ref a) i x) Q E s :=
  wpAny_setField ho hd hi (h _ (Heap.SameBut.update ..))
theorem hot_eb {x1 it : Addr} {h h' : Heap} (x : HotAt A x1 h) (eb : Heap.ExtBut it h h') (ne : x1 ≠ it) : HotAt A x1 h' := by
  obtain ⟨hh, o, vs, e, d, c⟩ := x
  exact ⟨hh, o, vs, eb _ _ ne e, d, c⟩
theorem nextOf_list_end_hot {it l x1 : Addr} {i : Nat} {items} {Q : Value → Shared → Prop} (hot : HotAt A x1 s.heap) (hne : x1 ≠ it)
    (hit : s.heap.IsListIter it l i) (hl : s.heap.IsList l items) (hx : items[i]? = none)
    (hE : ∀ h' e, Heap.ExtBut it s.heap h' → (∃ o, h'.get? e = some o ∧ o.cls = .type "StopIteration") → E (.ref e) { s with heap := h' }) :
    wpAny (model prog w) A (Builtin.SmallTypes.nextOf (.ref it)) Q E s := by
  obtain ⟨o, ho, hc, hd⟩ := id hit
  obtain ⟨ol, hol, _, nl, hdl⟩ := hl
  obtain ⟨hh, o1, vs1, h1, d1, c1⟩ := hot
  unfold Builtin.SmallTypes.nextOf
  refine wpAny_bind (wpAny_callSpecial?_slot (name := Str.ofString "__next__") hit.typeIs slot_listiter_next
    (wpAny_call_entry slot_listiter_next hit.typeIs entry_listiter_next ?_ (args_listiter_next _)))
  show wpAny _ _ (field (.ref it) 0 >>= _) _ _ s
  refine wpAny_bind (wpAny_field ho hd (x := .ref l) rfl ?_)
  show wpAny _ _ (if (Value.ref l == Value.none) = true then _ else _) _ _ s
  rw [if_neg (show ¬ ((Value.ref l == Value.none) = true) from Bool.false_ne_true)]
  show wpAny _ _ (field (.ref it) 1 >>= _) _ _ s
  refine wpAny_bind (wpAny_field ho hd (x := .int i 0) rfl ?_)
  show wpAny _ _ (seqItems? (.ref l) >>= _) _ _ s
  refine wpAny_bind (wpAny_seqItems hol hdl ?_)
  simp only [Int.toNat_natCast, hx]
  refine wpAny_bind (wpAny_rule (wpAny_bind (setF_hot ho hd (by simp) fun h2 sb2 => ?_)))
  have h12 : h2.get? x1 = some o1 := (sb2.2 _ hne).trans h1
  show wpAny _ _ (newExc (.type "StopIteration") [] >>= _) _ _ _
  refine wpAny_bind ?_
  simp only [newExc, newTuple]
  refine wpAny_bind (wpAny_newObj_type ?_ (by size_fits))
  refine wpAny_bind (m := firstArgMember _ _) (wpAny_of_eq (a := Value.none) (by first | rfl | (simp only [firstArgMember]; rfl)) ?_)
  refine wpAny_newObj_type ?_ (by size_fits)
  refine raiseNew_hot ⟨hh, o1, vs1, Heap.get?_push_of_some _ (Heap.get?_push_of_some _ h12), d1, c1⟩ (Nat.ne_of_lt (Heap.lt_size (Heap.get?_push_of_some _ h12))) (Heap.get?_push_size _ rfl) rfl (by first | (simp; done) | (simp; omega) | (simp only [Array.size_append]; simp; omega)) ?_
  refine hE _ _ (fun b ob hb e => ?_) ⟨_, Heap.get?_update_self _ (Heap.get?_push_size _ rfl) rfl, rfl⟩
  have e2 : h2.get? b = some ob := (sb2.2 _ hb).trans e
  rw [Heap.get?_update_other _ _ (Nat.ne_of_gt (Heap.lt_size (Heap.get?_push_of_some _ e2)))]
  exact Heap.get?_push_of_some _ (Heap.get?_push_of_some _ e2)
theorem pyNext_tuple_end_hot {it t x1 : Addr} {i : Nat} {items} {Q : Option Value → Shared → Prop} (hot : HotAt A x1 s.heap) (hne : x1 ≠ it)
    (hit : s.heap.IsTupleIter it t i) (ht : s.heap.IsTuple t items) (hx : items[i]? = none)
    (hQ : ∀ h', Heap.ExtBut it s.heap h' → Q none { s with heap := h' }) : wpAny (model prog w) A (pyNext (.ref it)) Q E s := by
  obtain ⟨o, ho, hc, hd⟩ := id hit
  obtain ⟨ol, hol, _, nl, hdl⟩ := ht
  obtain ⟨hh, o1, vs1, h1, d1, c1⟩ := hot
  unfold pyNext
  refine wpAny_bind (wpAny_attempt (wpAny_callSpecial?_slot (name := Str.ofString "__next__") hit.typeIs F.slot_tuple_iterator_next
    (wpAny_call_entry F.slot_tuple_iterator_next hit.typeIs F.entry_tuple_iterator_next ?_ (F.args_tuple_iterator_next_1 _))))
  show wpAny _ _ (field (.ref it) 0 >>= _) _ _ s
  refine wpAny_bind (wpAny_field ho hd (x := .ref t) rfl ?_)
  show wpAny _ _ (if (Value.ref t == Value.none) = true then _ else _) _ _ s
  rw [if_neg (show ¬ ((Value.ref t == Value.none) = true) from Bool.false_ne_true)]
  show wpAny _ _ (field (.ref it) 1 >>= _) _ _ s
  refine wpAny_bind (wpAny_field ho hd (x := .int i 0) rfl ?_)
  show wpAny _ _ (seqItems? (.ref t) >>= _) _ _ s
  refine wpAny_bind (wpAny_seqItems hol hdl ?_)
  simp only [Int.toNat_natCast, hx]
  refine wpAny_bind (wpAny_rule (wpAny_bind (setF_hot ho hd (by simp) fun h2 sb2 => ?_)))
  have h12 : h2.get? x1 = some o1 := (sb2.2 _ hne).trans h1
  show wpAny _ _ (newExc (.type "StopIteration") [] >>= _) _ _ _
  refine wpAny_bind ?_
  simp only [newExc, newTuple]
  refine wpAny_bind (wpAny_newObj_type ?_ (by size_fits))
  refine wpAny_bind (m := firstArgMember _ _) (wpAny_of_eq (a := Value.none) (by first | rfl | (simp only [firstArgMember]; rfl)) ?_)
  refine wpAny_newObj_type ?_ (by size_fits)
  refine raiseNew_hot ⟨hh, o1, vs1, Heap.get?_push_of_some _ (Heap.get?_push_of_some _ h12), d1, c1⟩ (Nat.ne_of_lt (Heap.lt_size (Heap.get?_push_of_some _ h12))) (Heap.get?_push_size _ rfl) rfl (by first | (simp; done) | (simp; omega) | (simp only [Array.size_append]; simp; omega)) ?_
  refine wpAny_bind (wpAny_isInstance (T := "StopIteration") (b := true) ⟨_, Heap.get?_update_self _ (Heap.get?_push_size _ rfl) rfl, rfl⟩ isSubtype_stop ?_)
  refine wpAny_pure (hQ _ fun b ob hb e => ?_)
  have e2 : h2.get? b = some ob := (sb2.2 _ hb).trans e
  rw [Heap.get?_update_other _ _ (Nat.ne_of_gt (Heap.lt_size (Heap.get?_push_of_some _ e2)))]
  exact Heap.get?_push_of_some _ (Heap.get?_push_of_some _ e2)
theorem zip_next_end_hot {z TI TO i1 i2 l1 l2 x1 : Addr} {k1 : Nat} {xs : Array Value} {a b : Value} {Q : Fin → Shared → Prop} (hot : HotAt A x1 s.heap) (nz : x1 ≠ z) (ni : x1 ≠ i1) (D : ZipApart z TI TO i1 i2 l1 l2)
    (hz : IsZip s.heap z TI TO .none) (hTI : IsPair s.heap TI (.ref i1) (.ref i2)) (hTO : IsPair s.heap TO a b)
    (h1 : s.heap.IsListIter i1 l1 k1) (hl1 : s.heap.IsList l1 xs) (hx : xs[k1]? = none)
    (hE : ∀ h' e, (∀ c o, c ≠ z → c ≠ TO → c ≠ i1 → c ≠ i2 → s.heap.get? c = some o → h'.get? c = some o) → (∃ o, h'.get? e = some o ∧ o.cls = .type "StopIteration") → E (.ref e) { s with heap := h' }) :
    wpAny (model prog w) A (Builtin.«zip.__next__» ⟨[.ref z], []⟩) Q E s := by
  show wpAny _ _ (field (.ref z) 2 >>= _) _ _ _
  refine wpAny_bind (wpAny_field hz rfl (x := .bool false) rfl ?_)
  show wpAny _ _ (field (.ref z) 3 >>= _) _ _ _
  refine wpAny_bind (wpAny_field hz rfl (x := .ref TI) rfl ?_)
  refine wpAny_bind (wpAny_seqItems hTI rfl ?_)
  show wpAny _ _ (Builtin.SmallTypes.ownedTupleIsFree (.ref z) >>= _) _ _ _
  refine wpAny_bind ?_
  unfold Builtin.SmallTypes.ownedTupleIsFree
  refine wpAny_bind (wpAny_field hz rfl (x := .none) rfl (wpAny_pure ?_))
  simp only [if_true]
  refine wpAny_bind (wpAny_rule ?_)
  refine wpAny_bind (wpAny_field hz rfl (x := .ref TO) rfl ?_)
  refine wpAny_bind (wpAny_setField_rec hz (by simp) fun h₁ hz₁ hs₁ => ?_)
  replace hz₁ : IsZip h₁ z TI TO .ellipsis := hz₁
  refine wpAny_bind ?_
  simp only [List.zipIdx_cons, List.zipIdx_nil, List.forIn_cons, List.forIn_nil]
  refine wpAny_bind (wpAny_bind (wpAny_onRaise ?_))
  show wpAny _ _ (Builtin.SmallTypes.nextOf (.ref i1) >>= _) _ _ _
  refine wpAny_bind (nextOf_list_end_hot (s := { s with heap := h₁ }) (hot_eb hot hs₁.extBut nz) ni (h1.extBut hs₁.extBut D.i1z) (hl1.extBut hs₁.extBut D.l1z) hx fun h₂ e hs₂ he => ?_)
  obtain ⟨oe, hoe, hce⟩ := he
  have hz₂ : IsZip h₂ z TI TO .ellipsis := hs₂ _ _ D.i1z.symm hz₁
  have hez : e ≠ z := fun x => by subst x; rw [hz₂] at hoe; cases hoe; simp at hce
  refine wpAny_setField_rec hz₂ (by simp) fun h₃ _ hs₃ => hE h₃ e (fun c o c1 _ c3 _ x => hs₃.extBut _ _ c1 (hs₂ _ _ c3 (hs₁.extBut _ _ c1 x))) ⟨oe, hs₃.extBut _ _ hez hoe, hce⟩
theorem pyNext_zip_end_hot {z TI TO i1 i2 l1 l2 x1 : Addr} {k1 : Nat} {xs : Array Value} {a b : Value} {Q : Option Value → Shared → Prop} (hot : HotAt A x1 s.heap) (nz : x1 ≠ z) (ni : x1 ≠ i1) (D : ZipApart z TI TO i1 i2 l1 l2)
    (hz : IsZip s.heap z TI TO .none) (hTI : IsPair s.heap TI (.ref i1) (.ref i2)) (hTO : IsPair s.heap TO a b)
    (h1 : s.heap.IsListIter i1 l1 k1) (hl1 : s.heap.IsList l1 xs) (hx : xs[k1]? = none)
    (hQ : ∀ h', (∀ c o, c ≠ z → c ≠ TO → c ≠ i1 → c ≠ i2 → s.heap.get? c = some o → h'.get? c = some o) → Q none { s with heap := h' }) : wpAny (model prog w) A (pyNext (.ref z)) Q E s := by
  have hT : s.TypeIs (.ref z) "zip" := ⟨_, hz, rfl⟩
  unfold pyNext
  refine wpAny_bind (wpAny_attempt (wpAny_callSpecial?_slot (name := Str.ofString "__next__") hT F.slot_zip_next
    (wpAny_call_entry F.slot_zip_next hT F.entry_zip_next (zip_next_end_hot (l2 := l2) hot nz ni D hz hTI hTO h1 hl1 hx fun h' e hk he => ?_) (F.args_zip_next_1 _))))
  obtain ⟨o, ho, hc⟩ := he
  refine wpAny_bind (wpAny_isInstance (T := "StopIteration") (b := true) ⟨o, ho, hc⟩ isSubtype_stop ?_)
  exact wpAny_pure (hQ _ hk)
theorem unpackItems_hot {t x1 : Addr} {items : Array Value} {Q : List Value → Shared → Prop} (hot : HotAt A x1 s.heap) (ht : s.heap.IsTuple t items)
    (hQ : ∀ h', Heap.ExtBut s.heap.objs.size s.heap h' → Q items.toList { s with heap := h' }) : wpAny (model prog w) A (unpackItems (.ref t) items.size none) Q E s := by
  have hlt : t ≠ s.heap.objs.size := by obtain ⟨o, ho, _⟩ := ht; exact Nat.ne_of_lt (Heap.lt_size ho)
  have hx1 : x1 ≠ s.heap.objs.size := by obtain ⟨_, o, _, ho, _⟩ := hot; exact Nat.ne_of_lt (Heap.lt_size ho)
  unfold unpackItems
  refine wpAny_bind ?_
  · unfold notIterableAtAll
    refine wpAny_bind (wpAny_specialOf ht.typeIs F.slot_tuple_iter.lookup ?_)
    refine wpAny_pure ?_
    simp only [Bool.false_eq_true, if_false]
    refine wpAny_bind (wpAny_holding (wpAny_pyIter_tuple ht ?_))
    refine wpAny_bind (wpAny_holding (wpAny_draw_tuple hlt items.size 0 _ _ ⟨_, Heap.get?_push_size _ rfl, rfl, rfl⟩ (ht.push _) (by omega) fun h₁ hit₁ hs₁ => ?_))
    have hall : List.take items.size (List.drop 0 items.toList) = items.toList := by
      rw [List.drop_zero]; exact List.take_of_length_le (by simp)
    rw [hall]
    rw [if_neg (by simp)]
    have ht₁ : h₁.IsTuple t items := (ht.push _).extBut hs₁.extBut hlt
    have hot₁ : HotAt A x1 h₁ := by
      obtain ⟨hh, o, vs, e, d, c⟩ := hot
      exact ⟨hh, o, vs, hs₁.extBut _ _ hx1 (Heap.get?_push_of_some _ e), d, c⟩
    refine wpAny_bind (wpAny_holding (pyNext_tuple_end_hot (s := { s with heap := h₁ }) hot₁ hx1 hit₁ ht₁ (by simp) fun h₂ he₂ => ?_))
    simp only [Option.isSome_none, Bool.false_eq_true, if_false]
    refine wpAny_pure (hQ h₂ fun b o hb e => he₂ b o hb (hs₁.extBut b o hb (Heap.get?_push_of_some _ e)))
theorem assign_Tuple_hot {env : Env} {elts : List Expr} {kk : Nat} {pos : Pos} {t x1 : Addr} {items : Array Value} {Q : Unit → Shared → Prop} (hot : HotAt A x1 s.heap) (ht : s.heap.IsTuple t items)
    (hn : (assignEach elts env).length = items.size) (hstar : (assignEach elts env).findIdx? (·.1) = none)
    (h : ∀ h', Heap.ExtBut s.heap.objs.size s.heap h' → wpAny (model prog w) A (assignInOrder ((assignEach elts env).map (·.2)) items.toList) Q E { s with heap := h' }) :
    wpAny (model prog w) A (assign (.Tuple elts kk pos) env (.ref t)) Q E s := by
  rw [PyProof.Rows.assign_Tuple]
  refine wpAny_bind (wpAny_standAt ?_)
  unfold unpack
  rw [hn, hstar]
  exact wpAny_bind (wpAny_holding (unpackItems_hot hot ht h))
end
end Lk

namespace Lk
open PySem PySem.Spec PyProof.Rows L2
/-! ### zip of two lists, unpacking, list comprehensions while an exception is handled -/
open HotX L2H
theorem turn_zipH {P : Program} {w : World} {K : PySem.W.Frag} {elts : List Expr} {kk : Nat} {tpos : Pos} {a b z TI TO i1 i2 : Addr} (D : ZipApart z TI TO i1 i2 a b) :
    TurnH P w K (.Tuple elts kk tpos) ⟨(Itz K a b).go, (Itz K a b).yld, fun i H => ∃ xs, SqL K H a xs ∧ xs.length ≤ i⟩ [z, TI, TO, i1, i2] z (fun i h => IsZip h z TI TO .none ∧ IsPair h TI (.ref i1) (.ref i2) ∧ (∃ x y, IsPair h TO x y) ∧ h.IsListIter i1 a i ∧ h.IsListIter i2 b i) where
  mem := by simp
  obj := fun i h st c hc => by
    obtain ⟨hz, hTI, ⟨x, y, hTO⟩, ⟨o1, e1, _, d1⟩, ⟨o2, e2, _, d2⟩⟩ := st
    have e' : c = z ∨ c = TI ∨ c = TO ∨ c = i1 ∨ c = i2 := by simpa using hc
    rcases e' with q | q | q | q | q
    · rw [q]; exact ⟨_, hz, fun v q => nomatch q⟩
    · rw [q]; exact ⟨_, hTI, fun v q => nomatch q⟩
    · rw [q]; exact ⟨_, hTO, fun v q => nomatch q⟩
    · rw [q]; exact ⟨o1, e1, fun v q => by rw [d1] at q; cases q⟩
    · rw [q]; exact ⟨o2, e2, fun v q => by rw [d2] at q; cases q⟩
  keep := fun i h h' st k => by
    obtain ⟨hz, hTI, ⟨x, y, hTO⟩, h1, h2⟩ := st
    exact ⟨k z (by simp) _ hz, k TI (by simp) _ hTI, ⟨x, y, k TO (by simp) _ hTO⟩, h1.at fun o q => k i1 (by simp) o q, h2.at fun o q => k i2 (by simp) o q⟩
  item := by
    intro X hP hw hK hc i pins s σ H E I hf st hg
    subst hP hw hK
    obtain ⟨hz, hTI, ⟨x0, y0, hTO⟩, h1, h2⟩ := st
    obtain ⟨xs, ys, x, y, hqx, hqy, hx, hy⟩ := hg
    obtain ⟨its, rv, p, _⟩ := I.list hqx
    obtain ⟨its2, rv2, p2, _⟩ := I.list hqy
    obtain ⟨u, hu, ru⟩ := rv.get hx
    obtain ⟨u2, hu2, ru2⟩ := rv2.get hy
    have hzl : z < s.heap.objs.size := Heap.lt_size hz
    refine wpAny_pyNext_zip_item D hz hTI hTO h1 h2 p.isList p2.isList (x := u) (y := u2) (by simpa using hu) (by simpa using hu2) fun h' z' TO' h1' h2' hT hsz hk => ?_
    refine ⟨_, rfl, wpAny_letOwnedTupleGo_zip (s := { s with heap := h' }) z' fun h'' z'' sb => ?_⟩
    have hT2 : h''.get? s.heap.objs.size = some { cls := .type "tuple", data := .seq #[u, u2] } := (sb.2 _ (Nat.ne_of_gt hzl)).trans hT
    have new : ObjOk X.prog X.w (upd H s.heap.objs.size (.tup [x, y])) h'' s.heap.objs.size (.tup [x, y]) :=
      ⟨by show 2 ≤ sizeLine; decide, [u, u2], .cons ru (.cons ru2 .nil), ⟨_, hT2, rfl, _, rfl⟩⟩
    have I1 : Inv X pins σ (upd H s.heap.objs.size (.tup [x, y])) { s with heap := h'' } :=
      I.turnedNew (t' := s.toks) (ch := [z, TI, TO, i1, i2]) (fun c o hb q => (sb.2 c (fun q' => hb (by simp [q']))).trans (hk c o (fun q' => hb (by simp [q'])) (fun q' => hb (by simp [q'])) (fun q' => hb (by simp [q'])) (fun q' => hb (by simp [q'])) q)) hf (Nat.le_refl _) new
    refine ⟨.ref s.heap.objs.size, _, I1, rfl, ⟨_, x, y, rfl, I.hok.fresh (Nat.le_refl _), rfl, fun l hl => by rw [I.list_inj hl hqx]; exact hx, fun l hl => by rw [I.list_inj hl hqy]; exact hy⟩, ⟨z'', ?_, ⟨u, u2, ?_⟩, ?_, ?_⟩, fun c hcm => ?_⟩
    · exact (sb.2 _ D.TIz).trans (hk _ _ D.TIz D.TITO D.TIi1 D.TIi2 hTI)
    · exact (sb.2 _ D.TOz).trans TO'
    · exact h1'.at fun o q => (sb.2 _ D.i1z).trans q
    · exact h2'.at fun o q => (sb.2 _ D.i2z).trans q
    · have hlt : c < s.heap.objs.size := by
        have e' : c = z ∨ c = TI ∨ c = TO ∨ c = i1 ∨ c = i2 := by simpa using hcm
        rcases e' with q | q | q | q | q
        · rw [q]; exact hzl
        · rw [q]; exact Heap.lt_size hTI
        · rw [q]; exact Heap.lt_size hTO
        · rw [q]; obtain ⟨_, e1, _⟩ := h1; exact Heap.lt_size e1
        · rw [q]; obtain ⟨_, e2, _⟩ := h2; exact Heap.lt_size e2
      rw [upd_ne (Nat.ne_of_lt hlt)]
      exact (hf c hcm).1
  done := by
    intro X hP hw hK hc i pins s σ H E I hf st hg
    subst hP hw hK
    obtain ⟨hz, hTI, ⟨x0, y0, hTO⟩, h1, h2⟩ := st
    obtain ⟨xs, hqx, hend⟩ := hg
    obtain ⟨its, rv, p, _⟩ := I.list hqx
    have l1 := rv.length
    have he : its.toArray[i]? = none := by
      rw [List.getElem?_toArray, List.getElem?_eq_none_iff]
      omega
    obtain ⟨q, ⟨hh, v1, e1, c1⟩, hp⟩ := hc
    have hot : HotAt X.A q.1 s.heap := ⟨hh, q.2, v1, (I.pin q (List.mem_append_left _ hp)).1, e1, c1⟩
    exact pyNext_zip_end_hot hot ((hf z (by simp)).2.2.2.2.2 q (List.mem_append_left _ hp)) ((hf i1 (by simp)).2.2.2.2.2 q (List.mem_append_left _ hp)) D hz hTI hTO h1 p.isList he fun h' hk => ⟨rfl, I.turnedL (t' := s.toks) (ch := [z, TI, TO, i1, i2]) (fun c o hb q =>
      hk c o (fun q' => hb (by simp [q'])) (fun q' => hb (by simp [q'])) (fun q' => hb (by simp [q'])) (fun q' => hb (by simp [q'])) q) hf⟩
  self := fun A i s Q E st h => wpAny_pyIter_zip st.1 h
def iZipH (K : PySem.W.Frag) (ta : TA) : TI := fun σ H R => ta σ H fun vs H1 => ∃ a b xs ys, vs = [.ref a, .ref b] ∧ SqL K H1 a xs ∧ SqL K H1 b ys ∧ R ⟨(Itz K a b).go, (Itz K a b).yld, fun i H => ∃ xs, SqL K H a xs ∧ xs.length ≤ i⟩ H1
theorem pi_zipH {X : Cx} {e e2 : Expr} {ta : TA} {p pos tpos : Pos} {elts : List Expr} {kk : Nat} (hg : Gl X "zip") (hm : X.mg "zip" = none) (ha : PA X [e, e2] ta)
    (hs : starEach [e, e2] X.env = (false, eval e X.env) :: starEach [e2] X.env := by rfl) (hpl : (backTo pos (starEach [e2] X.env)).any (·.1) = false := by rfl) :
    PIH X (.Tuple elts kk tpos) (.Call (.Name "zip" p) [e, e2] [] pos) (iZipH X.K ta) := by
  refine ⟨fun pins s σ H R I h => ?_⟩
  refine Call_ (ld_blt I hg hm PyProof.Rows.boot_zip (PyProof.Rows.callWith_type1 (thn (ha.run pos pins s σ H _ I h) fun us s1 ⟨vs, H1, I1, r1, q1⟩ => ?_) hs hpl))
  obtain ⟨a, b, xs, ys, ex, hqx, hqy, q⟩ := q1
  subst ex
  cases r1 with
  | cons r rr =>
    cases rr with
    | cons r' rr =>
      cases rr
      cases r
      cases r'
      obtain ⟨its, rv, p1, _⟩ := I1.list hqx
      obtain ⟨its2, rv2, p2, _⟩ := I1.list hqy
      have la : a < s1.heap.objs.size := p1.lt
      have lb : b < s1.heap.objs.size := p2.lt
      refine call_zip_2 p1.isList p2.isList fun h' hz hTI hTO h1 h2 hsz hk => wpAny_pyIter_zip hz ?_
      have I2 : Inv X pins σ H1 { s1 with heap := h' } := I1.kept (t' := s1.toks) hk
      refine ⟨s1.heap.objs.size + 4, [s1.heap.objs.size + 4, s1.heap.objs.size + 2, s1.heap.objs.size + 3, s1.heap.objs.size, s1.heap.objs.size + 1], _, _, H1, rfl, I2, turn_zipH (PySem.W.ktu_apart s1.heap.objs.size a b la lb), ⟨hz, hTI, ⟨_, _, hTO⟩, h1, h2⟩, fun c hcm => ?_, q⟩
      have e' : c = s1.heap.objs.size + 4 ∨ c = s1.heap.objs.size + 2 ∨ c = s1.heap.objs.size + 3 ∨ c = s1.heap.objs.size ∨ c = s1.heap.objs.size + 1 := by simpa using hcm
      have hle : s1.heap.objs.size ≤ c := by
        rcases e' with z | z | z | z | z
        · rw [z]; exact Nat.le_add_right _ _
        · rw [z]; exact Nat.le_add_right _ _
        · rw [z]; exact Nat.le_add_right _ _
        · rw [z]; exact Nat.le_refl _
        · rw [z]; exact Nat.le_add_right _ _
      exact I1.fpOk hle (I1.hok.fresh hle)
theorem pg_tupH {X : Cx} {es : List Expr} {k : Nat} {t : TGs} {n : Nat} {pos : Pos} (hc : HotC X) (h : PGs X es t)
    (hn : (assignEach es X.env).length = n := by rfl) (hst : (assignEach es X.env).findIdx? (·.1) = none := by rfl) : PG X (.Tuple es k pos) (gTup X.K n t) := by
  refine ⟨fun pins s σ H v u Q I r hw => ?_⟩
  obtain ⟨a, xs, e1, hq, hl, hw⟩ := hw
  subst e1
  cases r
  obtain ⟨its, rv, ht, hz⟩ := I.tuple hq
  obtain ⟨x1, hot⟩ := hc.at I
  refine assign_Tuple_hot hot ht (by simp [hn, ← hl, rv.length]) hst fun h' hx => ?_
  have I1 : Inv X pins σ H { s with heap := h' } := I.kept (t' := s.toks) fun b o e => hx b o (Nat.ne_of_lt (Heap.lt_size e)) e
  exact h.run pins _ σ H xs _ Q I1 (by simpa using rv) hw
/-- the context of a comprehension's block there -/
abbrev blkH (X : Cx) (p : Addr × Obj) (s : Shared) (H : Hp) (scope : Scope) (cenv : Env) (fp : List Addr) : Cx := (X.blk s H scope cenv fp).tr [p] (fun _ _ => False)
theorem lc_coreH {X : Cx} {p : Addr × Obj} {pins : List (Addr × Obj)} {s : Shared} {σ : L2.St} {H : Hp} {Q : VK} {elt tg iter : Expr} {ifs : List Expr} {scope : Scope} {own : List (Str × Nat)} {pos pos' : Pos} {wi : TI} {g : TG} {tt : TT} {te : TE} {use : Option (Value → Sem Unit)} {Qf : Value → Shared → Prop}
    (hot : Hot1 X.A p) (hp : p ∈ X.pn) (hN : X.N.Nodup) (I : Inv X pins σ H s) (hi : PIH X tg iter wi) (ok : BlkOk X.N X.env.scope scope own)
    (hg : ∀ (s : Shared) (H : Hp) (C : Addr) (cl : List (Str × Addr)) (fp : List Addr), PG (blkH X p s H scope (compEnvC scope cl C X.env) fp) tg g) (ht : ∀ (s : Shared) (H : Hp) (C : Addr) (cl : List (Str × Addr)) (fp : List Addr), PTs (blkH X p s H scope (compEnvC scope cl C X.env) fp) ifs tt)
    (he : ∀ (s : Shared) (H : Hp) (C : Addr) (cl : List (Str × Addr)) (fp : List Addr), PE (blkH X p s H scope (compEnvC scope cl C X.env) fp) elt te) (hs : ∀ x, foldedSetIterable iter X.env x = pure x)
    (h : tLc wi g tt te (own.map (·.2)) σ H Q)
    (hRR : ∀ D C s' m H', Inv X pins σ H' s' → Q (.ref D) H' → s'.heap.Ns C m → FpOk X pins H' C → compPost (model X.prog X.w) X.A X.xe use Qf (.ref D) C (.ok .next) s') :
    wpAny (model X.prog X.w) X.A (comprehension (.ListComp elt [⟨tg, iter, ifs, 0⟩] scope pos) scope X.env pos' (newList []) false (eval iter X.env) use) Qf X.xe s := by
  have hfree : ∀ y ∈ scope.names, y.2 = .free → ∃ c, X.env.cells.lookup y.1 = some c := fun y hy e => by
    rcases ok.free y hy e with k | k
    · exact I.ok.has _ (.inl k)
    · exact I.ok.has _ (.inr k)
  refine wpAny_comprehension_free (use := use) rfl hs (closure_ok hfree) ok.kind (fun y hy e => by rw [ok.uniq y hy, e])
    (thn (hi.run pins s σ H _ I h) fun xv s1 hx => thn hx fun itv s2 h2 => ?_)
  obtain ⟨it, fp, tn, J, H2, e, I2, T, st2, f2, q⟩ := h2
  subst e
  refine wpAny_newObj_type (newEnv_comp ?_) (by show 0 ≤ sizeLine; decide)
  generalize hD : s2.heap.objs.size = D
  have hDn : H2 D = none := I2.hok.fresh (Nat.le_of_eq hD)
  obtain ⟨W, ⟨m0, w0⟩, turn⟩ := q D hDn
  generalize hs3 : ({ s2 with heap := s2.heap.push { cls := .type "list", data := .seq ([] : List Value).toArray } } : Shared) = s3
  have I3 : Inv X pins σ (upd H2 D (.lst [])) s3 := by
    rw [← hs3]
    refine I2.laid (t' := s2.toks) (fun b o e => Heap.get?_push_of_some _ e) (Nat.le_of_eq hD) ⟨Nat.zero_le _, [], 0, .nil, ?_⟩
    rw [← hD]
    exact Heap.get?_push_size _ rfl
  have h3 : s3.heap = s2.heap.push { cls := .type "list", data := .seq ([] : List Value).toArray } := by rw [← hs3]
  have sz : ∀ b ∈ fp, b < s2.heap.objs.size := fun b hb => by
    obtain ⟨o, e, _⟩ := T.obj _ _ st2 b hb
    exact Heap.lt_size e
  have f3 : ∀ b ∈ fp, FpOk X pins (upd H2 D (.lst [])) b ∧ b < s3.heap.objs.size := fun b hb => by
    have hlt := sz b hb
    refine ⟨⟨?_, (f2 b hb).2⟩, by rw [h3, Heap.size_push]; exact Nat.lt_succ_of_lt hlt⟩
    rw [upd_ne (by rw [← hD]; exact Nat.ne_of_lt hlt)]
    exact (f2 b hb).1
  have st3 : tn 0 s3.heap := T.keep _ _ _ st2 fun b _ o e => by rw [h3]; exact Heap.get?_push_of_some _ e
  have I4 := block_start I3 ok hN f3
  have pp := I3.pin p (List.mem_append_left _ hp)
  have pst : p.1 ∉ frs X.stack := fun hm => (List.mem_cons.mp (I3.stkSub p.1 hm)).elim pp.2.2.1 pp.2.2.2.1
  have pfp : ∀ b ∈ fp, p.1 ≠ b := fun b hb => (f2 b hb).2.2.2.2.2 p (List.mem_append_left _ hp)
  have plt : p.1 < s3.heap.objs.size := Heap.lt_size pp.1
  have pg := hg s3 (upd H2 D (.lst [])) s3.heap.objs.size (cellsFrom (s3.heap.objs.size + 1) scope.names (cloFrom X.env.cells scope.names [])) fp
  have pt := ht s3 (upd H2 D (.lst [])) s3.heap.objs.size (cellsFrom (s3.heap.objs.size + 1) scope.names (cloFrom X.env.cells scope.names [])) fp
  have pe := he s3 (upd H2 D (.lst [])) s3.heap.objs.size (cellsFrom (s3.heap.objs.size + 1) scope.names (cloFrom X.env.cells scope.names [])) fp
  show codeAny _ _ (.compStart (.ListComp elt [⟨tg, iter, ifs, 0⟩] scope pos) 0 (.ref it) (.ref D) (compEnvC scope (cellsFrom (s3.heap.objs.size + 1) scope.names (cloFrom X.env.cells scope.names [])) s3.heap.objs.size X.env)) (compPost (model X.prog X.w) X.A X.xe use Qf (.ref D) s3.heap.objs.size) { s3 with heap := pushCells (s3.heap.push { cls := .type "dict", data := .dict #[] }) scope.names }
  have nfp : ∀ b ∈ fp, (upd H2 D (.lst [])) b = none := fun b hb => (f3 b hb).1.1
  generalize hce : compEnvC scope (cellsFrom (s3.heap.objs.size + 1) scope.names (cloFrom X.env.cells scope.names [])) s3.heap.objs.size X.env = ce at I4 pg pt pe ⊢
  have cL : ce.locals = s3.heap.objs.size := by subst hce; rfl
  generalize hH3 : upd H2 D (.lst []) = H3 at I3 I4 pg pt pe w0 nfp f3 pp
  generalize hs4 : ({ s3 with heap := pushCells (s3.heap.push { cls := .type "dict", data := .dict #[] }) scope.names } : Shared) = s4 at I4 ⊢
  have st4 : tn 0 s4.heap := T.keep _ _ _ st3 fun b _ o e => by rw [← hs4]; exact pushCells_keeps _ _ _ _ (Heap.get?_push_of_some _ e)
  have I4' : Inv (blkH X p s3 H3 scope ce fp) [] (wipe σ (own.map (·.2))) H3 s4 := by
    refine ⟨I4.ok.toTry _ _, I4.os, I4.bare, I4.base, I4.loc, I4.cell, I4.free, I4.freeC, fun q hq => ?_, I4.hok, I4.len⟩
    have eq : q = p := by simpa using (show q ∈ [p] ++ ([] : List (Addr × Obj)) from hq)
    rw [eq]
    refine ⟨I4.base.keep _ _ pp.1 pp.2.1 pst (fun hb => pfp _ hb rfl), pp.2.1, ?_, pst, pp.2.2.2.2⟩
    show p.1 ≠ ce.locals
    rw [cL]
    exact Nat.ne_of_lt plt
  have hcB : HotC (blkH X p s3 H3 scope ce fp) := ⟨p, hot, List.mem_singleton.mpr rfl⟩
  have stat : ∀ {σ' : L2.St} {H' : Hp} {s' : Shared}, Inv (blkH X p s3 H3 scope ce fp) [] σ' H' s' → (∀ b ∈ fp, H' b = none) → ∀ b ∈ fp, FpOk (blkH X p s3 H3 scope ce fp) [] H' b := fun {σ' H' s'} I' hn b hb =>
    ⟨hn b hb, (I'.ok.exf b hb).1, I'.ok.exfs b hb, .inl hb, fun x c e => (I'.ok.exf b hb).2 x c e, fun q hq => by
      have eq : q = p := by simpa using (show q ∈ [p] ++ ([] : List (Addr × Obj)) from hq)
      rw [eq]
      exact pfp b hb⟩
  have loop : codeAny (model X.prog X.w) X.A (.compLoop (.ListComp elt [⟨tg, iter, ifs, 0⟩] scope pos) 0 (.ref it) (.ref D) ce) (compPost (model X.prog X.w) X.A X.xe use Qf (.ref D) s3.heap.objs.size) s4 := by
    refine compLoop_any (fun n s' => ∃ i H', Inv (blkH X p s3 H3 scope ce fp) [] (wipe σ (own.map (·.2))) H' s' ∧ tn i s'.heap ∧ (∀ b ∈ fp, H' b = none) ∧ W i n H') ?_ m0 ⟨0, H3, I4', st4, nfp, w0⟩
    rintro n s5 ⟨i, H5, I5, st5, n5, w5⟩
    rcases turn i n H5 w5 with ⟨stop, qq⟩ | ⟨go, Nx, hNx, step⟩
    · have td := T.done (blkH X p s3 H3 scope ce fp) rfl rfl rfl hcB i [] s5 _ H5 (fun _ _ => False) I5 (stat I5 n5) st5 stop
      refine thnF td fun r s6 ⟨hr, I6⟩ => ?_
      subst hr
      have I7 : Inv X pins σ H5 s6 := I3.call' (ch := fp) I6.os I6.base I6.hok I6.bare fun b hb => ⟨(f3 b hb).1.2.2.2.1, (f3 b hb).1.2.1, (f3 b hb).1.2.2.2.2.1, (f3 b hb).1.2.2.2.2.2⟩
      have nC : H5 s3.heap.objs.size = none := by
        have z : H5 ce.locals = none := I6.free
        rw [cL] at z
        exact z
      obtain ⟨m, hn, _⟩ := I6.loc
      have hn : s6.heap.Ns ce.locals m := hn
      rw [cL] at hn
      exact hRR D s3.heap.objs.size s6 m H5 I7 qq hn (I3.fpOk (Nat.le_refl _) nC)
    · have ti := T.item (blkH X p s3 H3 scope ce fp) rfl rfl rfl hcB i [] s5 _ H5 (fun _ _ => False) I5 (stat I5 n5) st5 go
      refine thnF ti fun r s6 ⟨u, hr, h6⟩ => ?_
      subst hr
      refine thnF h6 fun _ s7 ⟨x, H7, I7, r7, y7, st7, n7⟩ => ?_
      have I7' := I7.pinned (stat I7 n7) (T.obj _ _ st7)
      refine thnF (pg.run _ s7 _ H7 x u _ I7' r7 (step x H7 y7)) fun _ s8 ⟨σ8, H8, I8, hw8, q8⟩ => ?_
      refine thnF (pt.run _ s8 σ8 H8 _ I8 q8) fun b s9 ⟨H9, I9, q9⟩ => ?_
      have fin : ∀ {s' : Shared} {H' : Hp}, Inv (blkH X p s3 H3 scope ce fp) ([] ++ pinsAt fp s7.heap) σ8 H' s' → Nx H' → ∃ m, m < n ∧ ∃ i H', Inv (blkH X p s3 H3 scope ce fp) [] (wipe σ (own.map (·.2))) H' s' ∧ tn i s'.heap ∧ (∀ b ∈ fp, H' b = none) ∧ W i m H' := fun {s' H'} I' nx => by
        obtain ⟨m', hm, w'⟩ := hNx H' nx
        have pin' : ∀ b ∈ fp, ∀ o, s7.heap.get? b = some o → s'.heap.get? b = some o ∧ H' b = none := fun b hb o e =>
          let z := I'.pin (b, o) (List.mem_append_right _ (List.mem_append_right _ (mem_pinsAt hb e)))
          ⟨z.1, z.2.1⟩
        have hl : (wipe σ (own.map (·.2))).length = σ8.length := by rw [← hw8, wipe_length]
        refine ⟨m', hm, i + 1, H', (I'.unpinned (pins := [])).weak hl (fun j v e => ?_), T.keep _ _ _ st7 fun b hb o e => (pin' b hb o e).1, fun b hb => ?_, w'⟩
        · rw [← hw8] at e
          exact (wipe_some e).1
        · obtain ⟨o, e, _⟩ := T.obj _ _ st7 b hb
          exact (pin' b hb o e).2
      cases b with
      | false =>
        simp only [Bool.false_eq_true, if_false] at q9 ⊢
        exact fin I9 q9
      | true =>
        simp only [if_true] at q9 ⊢
        refine thnF (pe.run _ s9 σ8 H9 _ I9 q9) fun z s10 ⟨yv, H10, I10, r10, acc, hD10, hz10, nx⟩ => ?_
        exact app_ok (X := blkH X p s3 H3 scope ce fp) I10 hD10 hz10 r10 fun s11 I11 => fin I11 nx
  exact codeAny_compStart_list loop (T.self X.A 0 _ _ _ st4 loop)
theorem pe_lcH {X : Cx} {p : Addr × Obj} {elt tg iter : Expr} {ifs : List Expr} {scope : Scope} {own : List (Str × Nat)} {pos : Pos} {wi : TI} {g : TG} {tt : TT} {te : TE} (hot : Hot1 X.A p) (hp : p ∈ X.pn) (hN : X.N.Nodup) (hi : PIH X tg iter wi) (ok : BlkOk X.N X.env.scope scope own)
    (hg : ∀ (s : Shared) (H : Hp) (C : Addr) (cl : List (Str × Addr)) (fp : List Addr), PG (blkH X p s H scope (compEnvC scope cl C X.env) fp) tg g) (ht : ∀ (s : Shared) (H : Hp) (C : Addr) (cl : List (Str × Addr)) (fp : List Addr), PTs (blkH X p s H scope (compEnvC scope cl C X.env) fp) ifs tt)
    (he : ∀ (s : Shared) (H : Hp) (C : Addr) (cl : List (Str × Addr)) (fp : List Addr), PE (blkH X p s H scope (compEnvC scope cl C X.env) fp) elt te) (hs : ∀ x, foldedSetIterable iter X.env x = pure x := by intro _; rfl) :
    PE X (.ListComp elt [⟨tg, iter, ifs, 0⟩] scope pos) (tLc wi g tt te (own.map (·.2))) := by
  refine ⟨fun pins s σ H Q I h => ?_⟩
  rw [eval_ListComp]
  refine lc_coreH hot hp hN I hi ok hg ht he hs h fun D C s' m H' I' q hn f => ⟨m, hn, fun h'' sb => ?_⟩
  obtain ⟨f0, f1, f2, f3, f4, f5⟩ := f
  exact ⟨.ref D, H', I'.turned (t' := s'.toks) (fun b o hb e => (sb.2 b hb).trans e) f0 f1 f3 f4 f5, rfl, q⟩
end Lk

namespace Lk
open PySem PySem.Spec PyProof.Rows L2
/-! ### a def to which the exception in hand is given -/
open HotX L2H
/-- what such a def promises: p is the exception that is handled -/
structure FnP (P : Program) (w : World) (K : PySem.W.Frag) (mg : Str → Option Value) (base : Heap) (CX : CXT) (k : Nat) (f : Addr) (fd : FuncData) (ps : List Str) (sp : Addr × Obj → Sp) : Prop where
  len : ∀ p vs H Q E, sp p vs H Q E → vs.length = ps.length
  run : ∀ (A : Around) (outer : List Env) (s : Shared) (H : Hp) (args : Args) (us : List Value) (vs : List V) (Q : VK) (E : XK) (p : Addr × Obj), RoomH k A → Hot1 A p → PinOk outer H s p → Env0 P w K mg base A outer s H → BindsTo s fd args (ps.zip us) → Vals vs us → sp p vs H Q E →
    codeAny (model P w) A (.call (.ref f) args) (CR CX outer P w H s Q E) s
theorem fn_ofP {CX : CXT} {P : Program} {w : World} {K : PySem.W.Frag} {mg : Str → Option Value} {base : Heap} {k : Nat} {f : Addr} {name qual : Str} {params : Arguments} {body : List Stmt} {scope : Scope} {dV kV doc pm cdv ct oc : Value} {an od : Option Addr}
    {osl : Array (Option Value)} {N ps : List Str} {sp : Addr × Obj → Sp} (lk : K.lookup f = some ⟨oc, od, .func (PySem.W.fnOf name qual params body scope dV kV doc pm an cdv ct), osl⟩) (hcd : PySem.W.codeIn K cdv qual = true) (S : FnScope N ps scope)
    (len : ∀ p vs H Q E, sp p vs H Q E → vs.length = ps.length)
    (hbody : ∀ (A : Around) (outer : List Env) (s : Shared) (H : Hp) (vs : List V) (Q : VK) (E : XK) (p : Addr × Obj), Hot1 A p → RoomH k (A.deeper (envOfC qual scope s.heap.objs.size f cdv)) → sp p vs H Q E →
      ∃ t, PSs (cxH CX P w K mg base N qual scope f cdv A outer s H E p) body t ∧ t { nx := fun _ H' => Q .non H', rt := Q } (L2.start N vs) H) :
    FnP P w K mg base CX (k + 1) f (PySem.W.fnOf name qual params body scope dV kV doc pm an cdv ct) ps sp := by
  refine ⟨len, fun A outer s H args us vs Q E p hr hot hpin e0 hb r hsp => ?_⟩
  have hl := len _ _ _ _ _ hsp
  have KX : K.In s.heap := e0.mod.kin.keeps fun b o e => (e0.bs b o e).1
  have lim : s.heap.NoLimit := e0.mod.nolimit.keeps fun b o e => (e0.bs b o e).1
  have hkind : ∀ y ∈ ps.zip us, scope.names.lookup y.1 = some .local ∨ (scope.names.lookup y.1 = some .cell ∧ ((cellsFrom (s.heap.objs.size + 1) scope.names []).lookup y.1).isSome = true) := fun ⟨n, v⟩ hy => by
    rcases S.par n (List.of_mem_zip hy).1 with q | q
    · exact .inl q
    · exact .inr ⟨q, PySem.W.cellsFrom_some _ _ _ (.inl q)⟩
  refine codeAny_call_function hr.depth (KX _ _ lk) rfl S.co S.gen rfl (PySem.W.codeRec_of KX hcd) (hb _ _ _ _ ?_)
  refine wpAny_newFunctionEnv_cells S.kind hkind fun env he s1 x => ?_
  subst he
  refine ⟨lim.keeps x.toInCall.keep, codeAny_func ?_⟩
  obtain ⟨t, ht, hq⟩ := hbody A outer s H vs Q E p hot (hr.deeper _) hsp
  have I : Inv (cxH CX P w K mg base N qual scope f cdv A outer s H E p) [] (L2.start N vs) H s1 := inv_startH S hpin e0 hl r x
  refine wpAny_mono (ht.run [] s1 (L2.start N vs) H _ I hq) (fun fl s' hs => ?_) fun e s' hs => hs
  have fin : ∀ {σ' : L2.St} {H' : Hp} {v : V} {u : Value}, Inv (cxH CX P w K mg base N qual scope f cdv A outer s H E p) [] σ' H' s' → RelV v u → Q v H' → CE outer P w H s Q u s' :=
    fun {σ' H' v u} J rv q => ⟨v, H', J.os, J.bare, J.base, J.hok, rv, q⟩
  cases fl with
  | ret u =>
    obtain ⟨v, σ', H', J, rv, q⟩ := hs
    exact fin J rv q
  | next =>
    obtain ⟨σ', H', J, q⟩ := hs
    exact fin (v := V.non) (u := Value.none) J rfl q
  | brk =>
    obtain ⟨_, _, _, q⟩ := hs
    exact False.elim q
  | cont =>
    obtain ⟨_, _, _, q⟩ := hs
    exact False.elim q
/-- by the name -/
def FnPx (P : Program) (w : World) (K : PySem.W.Frag) (mg : Str → Option Value) (base : Heap) (CX : CXT) (k : Nat) (x : Str) (ps : List Str) (sp : Addr × Obj → Sp) : Prop :=
  ∃ f fd, mg x = some (.ref f) ∧ PySem.W.keepIn K (.ref f) = true ∧ Binds K fd ps [] ∧ FnP P w K mg base CX k f fd ps sp
theorem Def.fnP {P : Program} {w : World} {K : PySem.W.Frag} {mg : Str → Option Value} {base : Heap} {CX : CXT} {x : Str} {st : Stmt} {ps : List Str} {k : Nat} {sp : Addr × Obj → Sp} (D : Def K mg x st ps) (h : ∀ f fd, Fun K x x st f fd → FnP P w K mg base CX k f fd ps sp) : FnPx P w K mg base CX k x ps sp := by
  obtain ⟨f, fd, a, F, b, _⟩ := D.ex
  exact ⟨f, fd, a, F.kp, b, h f fd F⟩
section
variable {X : Cx} {CX : CXT} {k j : Nat} {ps : List Str} {sp : Addr × Obj → Sp} {x : Str} {q pos : Pos} {e : Expr} {es : List Expr} {t : TA} {p : Addr × Obj}
/-- x(e, ..), nothing raised -/
theorem pe_fnP (F : FnPx X.prog X.w X.K X.mg X.base CX0 k x ps sp) (hr : RoomH j X.A) (hot : Hot1 X.A p) (hp : p ∈ X.pn)
    (ha : PA X (e :: es) t) (hj : k ≤ j := by decide) (hg : Gl X x := by rfl) (hdb : (x == ("__debug__" : Str)) = false := by decide) (he : starEach (e :: es) X.env = (false, eval e X.env) :: starEach es X.env := by rfl) (hpl : (backTo pos (starEach es X.env)).any (·.1) = false := by rfl) :
    PE X (.Call (.Name x q) (e :: es) [] pos) (tFn (sp p) t) := by
  obtain ⟨f, fd, hm, hk, hb, F⟩ := F
  refine ⟨fun pins s σ H Q I h => ?_⟩
  refine wpAny_Call_Name_kw (ld_glob I hg hm ?_ hdb)
  refine PySem.W.callWith_K (h₀ := X.base) I.ok.mod.kin hk (thn (ha.run pos pins s σ H _ I h) fun us s1 ⟨vs, H1, I1, r, q⟩ => ⟨I1.kIn, ?_⟩) he hpl
  have hl : us.length = ps.length := by rw [← r.length]; exact F.len _ _ _ _ _ q
  have b := hb s1 us I1.kIn (by rw [List.append_nil]; exact hl)
  rw [List.append_nil] at b
  have P1 := I1.pin p (List.mem_append_left _ hp)
  have hpin : PinOk X.stack H1 s1 p := ⟨P1.1, P1.2.1, fun hm => (List.mem_cons.mp (I1.stkSub p.1 hm)).elim P1.2.2.1 P1.2.2.2.1, P1.2.2.2.2⟩
  refine wpAny_call (codeAny_mono (F.run X.A X.stack s1 H1 ⟨us, []⟩ us vs Q E0 p (hr.mono hj) hot hpin I1.env0 b r q) fun r s' hq => ?_)
  cases r with
  | error e => exact pass0 pins σ H1 s1 e s' I1 hq
  | ok fl =>
    cases fl with
    | ret u => exact I1.after hq
    | next => exact False.elim hq
    | brk => exact False.elim hq
    | cont => exact False.elim hq
/-- isinstance(e, c), e the exception that the state bears: of the class at D, without a dict -/
theorem call_isEP {D : Addr} (C : ExcC X.K D) (hp : p ∈ X.pn) (hz : Zc (.ref D) none p.2) (hf : ∃ vs, p.2.data = .fields vs) : CallR X (.builtin "isinstance") (rIsE X.K D p.1) := by
  intro pins s σ H xs us Q I r h
  obtain ⟨c, cv, b, rfl, hcv, e, q⟩ := h
  cases r with
  | cons rx rr =>
    cases rr with
    | cons rt rr =>
      cases rr
      cases rx
      have ec := hcv _ rt
      subst ec
      obtain ⟨hget, _⟩ := I.pin p (List.mem_append.mpr (.inl hp))
      obtain ⟨vs, hv⟩ := hf
      have J : PySem.W.InstAt s.heap p.1 p.2 D none := by
        obtain ⟨pa, oe⟩ := p
        obtain ⟨oc, od, oda, osl⟩ := oe
        obtain ⟨h1, h2⟩ := hz
        dsimp only at h1 h2 hv hget ⊢
        subst h1 h2 hv
        exact ⟨hget, rfl, rfl, trivial⟩
      exact PySem.W.kia_one (PySem.W.handS_kitx_exc C.hg C.hk C.hs C.hd C.ha C.hn C.ht C.hm) I.kIn J e (fun z => nomatch z) fun tk => ⟨.bl b, H, I.kept (t' := tk) fun _ _ z => z, rfl, q⟩
/-- x(e, ..), x may raise, the exception's context is None -/
theorem pe_fnSN {sp : Sp} {E : L2.St → XK} (F : Fn X.prog X.w X.K X.mg X.base (L2N.CX X.prog X.w) k x ps sp) (hr : Room j X.A) (hx : ∀ σ, PassesAt (L2N.CX X.prog X.w) X σ (E σ)) (ha : PA X (e :: es) t) (hj : k ≤ j := by decide) (hg : Gl X x := by rfl)
    (hdb : (x == ("__debug__" : Str)) = false := by decide) (he : starEach (e :: es) X.env = (false, eval e X.env) :: starEach es X.env := by rfl) (hpl : (backTo pos (starEach es X.env)).any (·.1) = false := by rfl) :
    PE X (.Call (.Name x q) (e :: es) [] pos) (tCallS sp E t) := by
  obtain ⟨f, fd, a, b, c, d⟩ := F
  exact pe_callS d (hr.mono hj) hg a b c hx ha hdb he hpl
end
end Lk

namespace Lk
open PySem PySem.Spec PyProof.Rows L2
/-! ### methods and instances of a class of the text; its own len, str, == -/
/-- what the method m of the class at C is worth -/
def FnM (P : Program) (w : World) (K : PySem.W.Frag) (mg : Str → Option Value) (base : Heap) (CX : CXT) (k : Nat) (C : Addr) (m : Str) (ps : List Str) (sp : Sp) : Prop :=
  ∃ f fd, PySem.W.findIn K (.ref C) m = some (some (.ref f)) ∧ PySem.W.isFn K (.ref f) = true ∧ PySem.W.keepIn K (.ref f) = true ∧ Binds K fd ps [] ∧ FnOk P w K mg base CX k f fd ps sp
section
variable {P : Program} {w : World} {K : PySem.W.Frag} {mg : Str → Option Value} {base : Heap}
theorem FnM.mono {CX : CXT} {C : Addr} {m : Str} {ps : List Str} {j k : Nat} {sp : Sp} (F : FnM P w K mg base CX j C m ps sp) (h : j ≤ k) : FnM P w K mg base CX k C m ps sp := by
  obtain ⟨f, fd, a, b, c, d, e⟩ := F
  exact ⟨f, fd, a, b, c, d, e.mono h⟩
theorem FnM.imp {CX : CXT} {C : Addr} {m : Str} {ps : List Str} {k : Nat} {sp sp' : Sp} (F : FnM P w K mg base CX k C m ps sp) (h : ∀ vs H Q E, sp' vs H Q E → sp vs H Q E) : FnM P w K mg base CX k C m ps sp' := by
  obtain ⟨f, fd, a, b, c, d, e⟩ := F
  exact ⟨f, fd, a, b, c, d, e.imp h⟩
theorem DefM.fnM {CX : CXT} {x m q : Str} {st : Stmt} {ps : List Str} {k : Nat} {sp : Sp} {C : Addr} (D : DefM K mg x m q st ps) (gC : mg x = some (.ref C)) (h : ∀ f fd, Fun K m q st f fd → FnOk P w K mg base CX k f fd ps sp) : FnM P w K mg base CX k C m ps sp := by
  obtain ⟨C', f, fd, a, i, t, kp, F, b⟩ := D.ex
  rw [gC] at a
  injection a with a
  injection a with a
  subst a
  exact ⟨f, fd, i, by unfold PySem.W.isFn; rw [t]; rfl, kp, b, h f fd F⟩
/-- a class of the text whose instances have a dict -/
structure CoF (K : PySem.W.Frag) (mg : Str → Option Value) (x : Str) (fields : List Str) (C : Addr) : Prop where
  g : mg x = some (.ref C)
  cls : Cls K C
  na : ∀ f ∈ fields, NoAttr K C f
  mks : PySem.W.makesIn K C = true
  kp : PySem.W.keepIn K (.ref C) = true
  nf : PySem.W.notFirst K C (.type "str") = true
  is1 : PySem.W.kitOne K (.ref C) (.ref C) = some true
  is0 : PySem.W.kitOne K (.type "str") (.ref C) = some false
  ca : PySem.W.findIn K (.ref C) "__class__" = some (some (.builtin "object.__class__"))
  cn : PySem.W.specialIn K (.builtin "object.__class__") "__get__" = some (some (.builtin "getset_descriptor.__get__"))
  ct : PySem.W.takesIn K (.builtin "object.__class__") = some true
  cm : PySem.W.mroIn K C (.type "object") = some true
end
theorem passA0 {X : Cx} : ∀ σ, PassesAt CX0 X σ ((fun _ => E0) σ) := fun _ _ _ _ _ _ _ h => h.elim
theorem passAF {X : Cx} : ∀ σ, PassesAt (L2N.CX X.prog X.w) X σ ((fun _ => E0) σ) := fun _ _ _ _ _ _ _ h => by
  obtain ⟨_, _, _, _, _, _, _, _, _, _, _, _, z⟩ := h
  exact z.elim
section
variable {X : Cx} {CX : CXT} {k j : Nat} {C : Addr} {ps : List Str} {sp : Sp} {E : L2.St → XK} {x m : Str} {fl : List Str} {p pos apos : Pos} {e o : Expr} {es : List Expr} {ta : TE} {t : TA}
/-- o.m(e, ..) -/
theorem pe_mS {pl : Sem Bool} (he : PE X o ta) (c : Cls X.K C) (F : FnM X.prog X.w X.K X.mg X.base CX k C m ps sp) (hr : Room j X.A) (hx : ∀ σ, PassesAt CX X σ (E σ)) (ha : PA X (e :: es) t) (hj : k ≤ j := by decide)
    (hst : starEach (e :: es) X.env = (false, eval e X.env) :: starEach es X.env := by rfl) (hpl : (backTo pos (starEach es X.env)).any (·.1) = false := by rfl)
    (ht : eval (.Call (.Attribute o m apos) (e :: es) [] pos) X.env = (do
      let ov ← eval o X.env
      standAt apos.atName
      let (f, first) ← holding [ov] (getMethod ov m pl)
      callWith pos f first (backTo pos (starEach (e :: es) X.env)) (backToKw pos (keywordEach [] X.env))) := by rfl) :
    PE X (.Call (.Attribute o m apos) (e :: es) [] pos) (L2H.tMethH C m sp E ta t) := by
  obtain ⟨f, fd, a, b, kp, bd, F⟩ := F
  have hm : Meth X.K C m f := ⟨a, b, kp⟩
  refine ⟨fun pins s σ H Q I h => ?_⟩
  refine PySem.W.methodCall_KW (pl := pl) (thn (he.run pins s σ H _ I h) fun u s1 ⟨x, H1, I1, rx, a, dx, fs, ex, ea, l, q⟩ => ?_) ht
  subst ex
  obtain rfl : u = Value.ref a := rx
  refine getmeth_ok I1 ea c hm l ?_
  refine PySem.W.callWith_K (first := [.ref a]) (h₀ := X.base) I.ok.mod.kin hm.kp (thn (ha.run pos pins s1 σ H1 _ I1 q) fun us s2 ⟨vs, H2, I2, r, q2⟩ => ⟨I2.kIn, ?_⟩) hst hpl
  exact run_fnS (us := .ref a :: us) (vs := .ref a :: vs) F (hr.mono hj) bd (hx σ) I2 (.cons rfl r) q2
/-- o.m() -/
theorem pe_mS0 {pl : Sem Bool} (he : PE X o ta) (c : Cls X.K C) (F : FnM X.prog X.w X.K X.mg X.base CX k C m ps sp) (hr : Room j X.A) (hx : ∀ σ, PassesAt CX X σ (E σ)) (hj : k ≤ j := by decide)
    (ht : eval (.Call (.Attribute o m apos) [] [] pos) X.env = (do
      let ov ← eval o X.env
      standAt apos.atName
      let (f, first) ← holding [ov] (getMethod ov m pl)
      callWith pos f first (backTo pos (starEach [] X.env)) (backToKw pos (keywordEach [] X.env))) := by rfl) :
    PE X (.Call (.Attribute o m apos) [] [] pos) (L2H.tMethH C m sp E ta tNil) := by
  obtain ⟨f, fd, a, b, kp, bd, F⟩ := F
  have hm : Meth X.K C m f := ⟨a, b, kp⟩
  refine ⟨fun pins s σ H Q I h => ?_⟩
  refine PySem.W.methodCall_KW (pl := pl) (thn (he.run pins s σ H _ I h) fun u s1 ⟨x, H1, I1, rx, a, dx, fs, ex, ea, l, q⟩ => ?_) ht
  subst ex
  obtain rfl : u = Value.ref a := rx
  refine getmeth_ok I1 ea c hm l ?_
  exact PySem.W.callWith_K0 (first := [.ref a]) I1.kIn hm.kp (run_fnS (us := [.ref a]) (vs := [.ref a]) F (hr.mono hj) bd (hx σ) I1 (.cons rfl .nil) q)
/-- C(e, ..): a new instance, then __init__, which may raise -/
def tMakeS (C : Addr) (sp : Sp) (E : L2.St → XK) (t : TA) : TE := fun σ H Q => t σ H fun vs H1 => ∀ x dx, H1 x = none → H1 dx = none → dx ≠ x →
  sp (.ref x :: vs) (upd (upd H1 dx (.own x)) x (.ins C dx [])) (fun v H2 => v = .non ∧ Q (.ref x) H2) (E σ)
theorem pe_makeS (hmk : PySem.W.makesIn X.K C = true) (hkp : PySem.W.keepIn X.K (.ref C) = true) (F : FnM X.prog X.w X.K X.mg X.base CX k C "__init__" ps sp) (hr : Room j X.A) (hm : X.mg x = some (.ref C)) (hx : ∀ σ, PassesAt CX X σ (E σ))
    (ha : PA X (e :: es) t) (hj : k + 1 ≤ j := by decide) (hg : Gl X x := by rfl) (hdb : (x == ("__debug__" : Str)) = false := by decide) (he : starEach (e :: es) X.env = (false, eval e X.env) :: starEach es X.env := by rfl) (hpl : (backTo pos (starEach es X.env)).any (·.1) = false := by rfl) :
    PE X (.Call (.Name x p) (e :: es) [] pos) (tMakeS C sp E t) := by
  obtain ⟨f, fd, fa, fb, kp, bd, F⟩ := F
  refine ⟨fun pins s σ H Q I h => ?_⟩
  refine wpAny_Call_Name_kw (ld_glob I hg hm ?_ hdb)
  refine PySem.W.callWith_K (h₀ := X.base) I.ok.mod.kin hkp (thn (ha.run pos pins s σ H _ I h) fun us s1 ⟨vs, H1, I1, r, q⟩ => ⟨I1.kIn, ?_⟩) he hpl
  have hq := q (s1.heap.objs.size + 1) s1.heap.objs.size (I1.hok.fresh (Nat.le_succ _)) (I1.hok.fresh (Nat.le_refl _)) (Nat.ne_of_lt (Nat.lt_succ_self _))
  have I2 := Inv.made (C := C) I1
  have r2 : Vals (V.ref (s1.heap.objs.size + 1) :: vs) (Value.ref (s1.heap.objs.size + 1) :: us) := .cons rfl r
  have hl : (Value.ref (s1.heap.objs.size + 1) :: us).length = ps.length := by
    have e := r2.length
    rw [F.len _ _ _ _ hq] at e
    exact e.symm
  have bb := bd _ (Value.ref (s1.heap.objs.size + 1) :: us) I2.kIn (by rw [List.append_nil]; exact hl)
  rw [List.append_nil] at bb
  refine wpAny_call (make_map (f := f) I1.kIn hmk fa (beq_iff_eq.mp fb) (codeAny_mono (F.run _ X.stack _ _ ⟨Value.ref (s1.heap.objs.size + 1) :: us, []⟩ (Value.ref (s1.heap.objs.size + 1) :: us) _ _ (E σ) ((hr.mono hj).make C us [])
    (I2.env0.make C us []) bb r2 hq) fun r s' hq' => ?_))
  cases r with
  | error e => exact hx σ pins _ _ e s' I2 hq'
  | ok fl =>
    cases fl with
    | ret u =>
      obtain ⟨v, H', I3, rv, ev, q3⟩ := I2.after hq'
      subst ev
      exact ⟨rv, ⟨V.ref (s1.heap.objs.size + 1), H', I3, rfl, q3⟩⟩
    | next => exact False.elim hq'
    | brk => exact False.elim hq'
    | cont => exact False.elim hq'
/-- a def of a class's own, called by a built-in: at A -/
theorem run_own {A : Around} {pins : List (Addr × Obj)} {σ : L2.St} {H : Hp} {s : Shared} {Q : VK} {us : List Value} {vs : List V} {f : Addr} {fd : FuncData} (F : FnOk X.prog X.w X.K X.mg X.base CX0 k f fd ps sp) (hr : Room k A) (hfr : A.frames = X.A.frames) (hb : Binds X.K fd ps [])
    (I : Inv X pins σ H s) (r : Vals vs us) (h : sp vs H Q E0) : wpAny (model X.prog X.w) A (call (.ref f) us) (EP X pins σ Q) X.xe s := by
  have hl : us.length = ps.length := by rw [← r.length]; exact F.len _ _ _ _ h
  have b := hb s us I.kIn (by rw [List.append_nil]; exact hl)
  rw [List.append_nil] at b
  have e := I.env0
  have e0 : Env0 X.prog X.w X.K X.mg X.base A X.stack s H := ⟨by rw [hfr]; exact e.frames, e.mod, e.bs, e.bsz, e.funs, e.frf, e.hok, e.bare⟩
  refine wpAny_call (codeAny_mono (F.run A X.stack s H ⟨us, []⟩ us vs Q E0 hr e0 b r h) fun r s' hq => ?_)
  cases r with
  | error e => exact hq.elim
  | ok fl =>
    cases fl with
    | ret u => exact I.after hq
    | next => exact False.elim hq
    | brk => exact False.elim hq
    | cont => exact False.elim hq
/-- len(x) by the own __len__ -/
def rLenO (C : Addr) (sp : Sp) : List V → Hp → VK → Prop := fun xs H Q => ∃ (a dx : Addr) (fs : List (Str × V)), xs = [.ref a] ∧ H a = some (.ins C dx fs) ∧ sp [.ref a] H (fun v H' => ∃ n : Nat, v = .int n ∧ n < 2 ^ 62 ∧ Q (.int n) H') E0
theorem call_lenO (F : FnM X.prog X.w X.K X.mg X.base CX0 k C "__len__" ps sp) (hr : Room j X.A) (hj : k + 1 ≤ j := by decide) : CallR X (.builtin "len") (rLenO C sp) := by
  intro pins s σ H xs us Q I r h
  obtain ⟨a, dx, fs, rfl, ha, q⟩ := h
  obtain ⟨u, rfl, ru⟩ := vals1 r
  obtain rfl : u = Value.ref a := ru
  obtain ⟨f, fd, fa, fb, kp, bd, F⟩ := F
  obtain ⟨mA, J, _⟩ := ins_get I.hok ha
  obtain ⟨od, J, _⟩ := J.look
  obtain ⟨m, hF⟩ := I.fr
  refine PySem.W.len_K hF I.ok.mod.kin J fa fb ?_
  refine wpAny_mono (run_own (us := [.ref a]) (vs := [.ref a]) F (hr.mono hj).in1 rfl bd I (.cons rfl .nil) q) (fun u s' hu => ?_) fun _ _ x => x
  obtain ⟨v, H', I', rv, n, ev, hn, q'⟩ := hu
  subst ev
  obtain ⟨t, rfl⟩ := rv
  exact ⟨⟨by omega, by omega⟩, ⟨.int n, H', I'.tok _, ⟨_, rfl⟩, q'⟩⟩
/-- str(x) by the own __str__ -/
def rStrO (C : Addr) (sp : Sp) : List V → Hp → VK → Prop := fun xs H Q => ∃ (a dx : Addr) (fs : List (Str × V)), xs = [.ref a] ∧ H a = some (.ins C dx fs) ∧ sp [.ref a] H (fun v H' => ∃ z : Str, v = .str z ∧ Q (.str z) H') E0
theorem call_strO (F : FnM X.prog X.w X.K X.mg X.base CX0 k C "__str__" ps sp) (hr : Room j X.A) (hj : k + 2 ≤ j := by decide) : CallR X (.type "str") (rStrO C sp) := by
  intro pins s σ H xs us Q I r h
  obtain ⟨a, dx, fs, rfl, ha, q⟩ := h
  obtain ⟨u, rfl, ru⟩ := vals1 r
  obtain rfl : u = Value.ref a := ru
  obtain ⟨f, fd, fa, fb, kp, bd, F⟩ := F
  obtain ⟨mA, J, _⟩ := ins_get I.hok ha
  obtain ⟨od, J, _⟩ := J.look
  have r2 : Room k X.A.in1.in1 := ((hr.mono hj).in1).in1
  refine PySem.W.kso_call r2.units0 I.kIn J fa fb ?_
  refine wpAny_mono (run_own (us := [.ref a]) (vs := [.ref a]) F r2 rfl bd I (.cons rfl .nil) q) (fun u s' hu => ?_) fun _ _ x => x
  obtain ⟨v, H', I', rv, z, ev, q'⟩ := hu
  subst ev
  obtain ⟨t, rfl⟩ := rv
  exact ⟨.str z, H', I', ⟨_, rfl⟩, q'⟩
/-- x == y by x's own __eq__, y another instance or a text -/
def rEqO (C : Addr) (sp : Sp) : R2 := fun x y H Q => ∃ (a dx : Addr) (fs : List (Str × V)), x = .ref a ∧ H a = some (.ins C dx fs) ∧ ((∃ z, y = .str z) ∨ ∃ b dy gs, y = .ref b ∧ H b = some (.ins C dy gs)) ∧ sp [x, y] H (fun v H' => ∃ b : Bool, v = .bl b ∧ Q (.bl b) H') E0
theorem op_eqO (F : FnM X.prog X.w X.K X.mg X.base CX0 k C "__eq__" ps sp) (hn : PySem.W.notFirst X.K C (.type "str") = true) (hr : Room j X.A) (hj : k ≤ j := by decide) : OpR X (compareOp .Eq) (rEqO C sp) := by
  intro pins s σ H x y v u Q I rx ry hq
  obtain ⟨a, dx, fs, rfl, ha, hy, q⟩ := hq
  obtain rfl : v = Value.ref a := rx
  obtain ⟨f, fd, fa, fb, kp, bd, F⟩ := F
  obtain ⟨mA, J, _⟩ := ins_get I.hok ha
  obtain ⟨od, J, _⟩ := J.look
  obtain ⟨m, hF⟩ := I.fr
  show wpAny (model X.prog X.w) X.A (richCompare .Eq (.ref a) u) (EP X pins σ Q) X.xe s
  have fin : wpAny (model X.prog X.w) X.A (call (.ref f) [.ref a, u]) (PySem.W.CmpBack (EP X pins σ Q)) X.xe s := by
    refine wpAny_mono (run_own (us := [.ref a, u]) (vs := [.ref a, y]) F (hr.mono hj) rfl bd I (.cons rfl (.cons ry .nil)) q) (fun w s' hu => ?_) fun _ _ x => x
    obtain ⟨v, H', I', rv, b, ev, q'⟩ := hu
    subst ev
    obtain rfl : w = Value.bool b := rv
    exact ⟨.bl b, H', I', rfl, q'⟩
  rcases hy with ⟨z, rfl⟩ | ⟨b, dy, gs, rfl, hb⟩
  · obtain ⟨t, rfl⟩ := (show ∃ t, u = Value.str z t from ry)
    exact PySem.W.cmp_K (op := .Eq) (tb := .type "str") (hr.mono hj).units0 hF I.ok.mod.kin J (PySem.W.Looks.of_pure (by rfl)) hn fa fb fin
  · obtain rfl : u = Value.ref b := ry
    obtain ⟨mB, J', _⟩ := ins_get I.hok hb
    obtain ⟨od', J', _⟩ := J'.look
    exact PySem.W.cmp_K (op := .Eq) (tb := .ref C) (hr.mono hj).units0 hF I.ok.mod.kin J J'.type (by simp [PySem.W.notFirst]) fa fb fin
/-- isinstance(x, C): an instance of it, or a text -/
def rIsO (C : Addr) : List V → Hp → VK → Prop := fun xs H Q => ∃ x, xs = [x, .ref C] ∧ ((∃ z, x = .str z ∧ Q (.bl false) H) ∨ ∃ b dy gs, x = .ref b ∧ H b = some (.ins C dy gs) ∧ Q (.bl true) H)
theorem call_isO (c : CoF X.K X.mg x fl C) : CallR X (.builtin "isinstance") (rIsO C) := by
  intro pins s σ H xs us Q I r h
  obtain ⟨x, rfl, h⟩ := h
  obtain ⟨u, t, rfl, rx, rt⟩ := vals2 r
  obtain rfl : t = Value.ref C := rt
  rcases h with ⟨z, rfl, q⟩ | ⟨b, dy, gs, rfl, hb, q⟩
  · exact isinst_ok I rx (.str z) c.is0 fun tk => ⟨.bl false, H, I.kept (t' := tk) fun _ _ z => z, rfl, q⟩
  · exact isinst_ok I rx (.ins hb c.cls c.ca c.cn c.ct c.cm) c.is1 fun tk => ⟨.bl true, H, I.kept (t' := tk) fun _ _ z => z, rfl, q⟩
end
theorem kit_strC {K : PySem.W.Frag} {D : Addr} (i : PySem.W.isClsIn K D = true) (t : PySem.W.typeIn K (.ref D) = some (.type "type")) (x : PySem.W.subIn K (.type "str") (.ref D) = some false) : PySem.W.kitOne K (.type "str") (.ref D) = some false := by
  unfold PySem.W.kitOne
  rw [if_neg (by simp)]
  unfold PySem.W.kitCls
  have i' : (PySem.W.clsIn K D).isSome = true := i
  dsimp only
  rw [i', t]
  simpa using x
end Lk

namespace Lk
open PySem PySem.Spec PyProof.Rows L2
/-! ### the text by places -/
def topS (i : Nat) : Stmt := PySem.Challenge.pw_likefolds_k10_whole_a_strip_kept_fold_by.main.body.getD i (.Pass ⟨0, 0, 0, 0⟩)
abbrev s_is_from : Stmt := topS 11
theorem sc_is_from : FnScope ["thing", "low", "high"] ["thing", "low", "high"] (defScope s_is_from) := ⟨rfl, rfl, rfl, by decide +kernel, rfl, by decide +kernel, by decide +kernel⟩
abbrev s_is_strip : Stmt := topS 12
theorem sc_is_strip : FnScope ["thing", "sign"] ["thing"] (defScope s_is_strip) := ⟨rfl, rfl, rfl, by decide +kernel, rfl, by decide +kernel, by decide +kernel⟩
abbrev s_lies_well : Stmt := topS 13
theorem sc_lies_well : FnScope ["strip", "crease", "reach"] ["strip", "crease"] (defScope s_lies_well) := ⟨rfl, rfl, rfl, by decide +kernel, rfl, by decide +kernel, by decide +kernel⟩
abbrev s_creases : Stmt := topS 14
theorem sc_creases : FnScope ["strip", "crease"] ["strip"] (defScope s_creases) := ⟨rfl, rfl, rfl, by decide +kernel, rfl, by decide +kernel, by decide +kernel⟩
abbrev s_is_crease : Stmt := topS 15
theorem sc_is_crease : FnScope ["strip", "thing"] ["strip", "thing"] (defScope s_is_crease) := ⟨rfl, rfl, rfl, by decide +kernel, rfl, by decide +kernel, by decide +kernel⟩
abbrev s_left_of : Stmt := topS 16
theorem sc_left_of : FnScope ["strip", "crease"] ["strip", "crease"] (defScope s_left_of) := ⟨rfl, rfl, rfl, by decide +kernel, rfl, by decide +kernel, by decide +kernel⟩
abbrev s_least : Stmt := topS 18
theorem sc_least : FnScope ["strip", "some"] ["strip"] (defScope s_least) := ⟨rfl, rfl, rfl, by decide +kernel, rfl, by decide +kernel, by decide +kernel⟩
abbrev s_are_kin : Stmt := topS 20
theorem sc_are_kin : FnScope ["one", "other"] ["one", "other"] (defScope s_are_kin) := ⟨rfl, rfl, rfl, by decide +kernel, rfl, by decide +kernel, by decide +kernel⟩
abbrev s_unfolded : Stmt := topS 22
theorem sc_unfolded : FnScope ["strip", "end", "many"] ["strip", "end", "many"] (defScope s_unfolded) := ⟨rfl, rfl, rfl, by decide +kernel, rfl, by decide +kernel, by decide +kernel⟩
abbrev s__law_bag : Stmt := topS 26
theorem sc__law_bag : FnScope ["script", "k", "cell", "seed"] ["script", "k"] (defScope s__law_bag) := ⟨rfl, rfl, rfl, by decide +kernel, rfl, by decide +kernel, by decide +kernel⟩
abbrev s__law_take : Stmt := topS 27
theorem sc__law_take : FnScope ["bag", "count", "found"] ["bag", "count"] (defScope s__law_take) := ⟨rfl, rfl, rfl, by decide +kernel, rfl, by decide +kernel, by decide +kernel⟩
abbrev s__law_of : Stmt := topS 28
theorem sc__law_of : FnScope ["bag", "some"] ["bag", "some"] (defScope s__law_of) := ⟨rfl, rfl, rfl, by decide +kernel, rfl, by decide +kernel, by decide +kernel⟩
abbrev s__law_any_text : Stmt := topS 29
theorem sc__law_any_text : FnScope ["bag", "most", "signs", "turn"] ["bag", "most", "signs"] (defScope s__law_any_text) := ⟨rfl, rfl, rfl, by decide +kernel, rfl, by decide +kernel, by decide +kernel⟩
abbrev s__law_grown : Stmt := topS 30
theorem sc__law_grown : FnScope ["bag", "text", "most", "turn", "many"] ["bag", "text", "most"] (defScope s__law_grown) := ⟨rfl, rfl, rfl, by decide +kernel, rfl, by decide +kernel, by decide +kernel⟩
abbrev s__law_strip : Stmt := topS 31
theorem sc__law_strip : FnScope ["bag", "most", "way"] ["bag", "most"] (defScope s__law_strip) := ⟨rfl, rfl, rfl, by decide +kernel, rfl, by decide +kernel, by decide +kernel⟩
abbrev s__law_lies : Stmt := topS 32
theorem sc__law_lies : FnScope ["text", "crease", "step", "near", "far"] ["text", "crease"] (defScope s__law_lies) := ⟨rfl, rfl, rfl, by decide +kernel, rfl, by decide +kernel, by decide +kernel⟩
abbrev s__law_creases : Stmt := topS 33
theorem sc__law_creases : FnScope ["text", "crease"] ["text"] (defScope s__law_creases) := ⟨rfl, rfl, rfl, by decide +kernel, rfl, by decide +kernel, by decide +kernel⟩
abbrev s__law_left : Stmt := topS 34
theorem sc__law_left : FnScope ["text", "crease"] ["text", "crease"] (defScope s__law_left) := ⟨rfl, rfl, rfl, by decide +kernel, rfl, by decide +kernel, by decide +kernel⟩
abbrev s__law_kind : Stmt := topS 35
theorem sc__law_kind : FnScope ["e", "some", "words", "word", "is_it"] ["e"] (defScope s__law_kind) := ⟨rfl, rfl, rfl, by decide +kernel, rfl, by decide +kernel, by decide +kernel⟩
abbrev s__law_did : Stmt := topS 36
theorem sc__law_did : FnScope ["kept", "deed", "e"] ["kept", "deed"] (defScope s__law_did) := ⟨rfl, rfl, rfl, by decide +kernel, rfl, by decide +kernel, by decide +kernel⟩
abbrev s__law_is_number : Stmt := topS 37
theorem sc__law_is_number : FnScope ["thing", "least_so", "most"] ["thing", "least_so", "most"] (defScope s__law_is_number) := ⟨rfl, rfl, rfl, by decide +kernel, rfl, by decide +kernel, by decide +kernel⟩
abbrev s__law_due : Stmt := topS 38
theorem sc__law_due : FnScope ["rows", "deed", "text"] ["rows", "deed"] (defScope s__law_due) := ⟨rfl, rfl, rfl, by decide +kernel, rfl, by decide +kernel, by decide +kernel⟩
abbrev s__law_a_deed : Stmt := topS 39
theorem sc__law_a_deed : FnScope ["bag", "text", "kind_so", "odd", "some", "end"] ["bag", "text"] (defScope s__law_a_deed) := ⟨rfl, rfl, rfl, by decide +kernel, rfl, by decide +kernel, by decide +kernel⟩
abbrev s__law_stands_so : Stmt := topS 40
theorem sc__law_stands_so : FnScope ["kept", "rows", "row"] ["kept", "rows"] (defScope s__law_stands_so) := ⟨rfl, rfl, rfl, by decide +kernel, rfl, by decide +kernel, by decide +kernel⟩
abbrev s_law : Stmt := topS 41
theorem sc_law : FnScope ["script", "text", "kept", "other", "rows", "k", "bag", "turn", "deed", "due", "strip_so", "row", "kinds", "thing", "e"] ["script"] (defScope s_law) := ⟨rfl, rfl, rfl, by decide +kernel, rfl, by decide +kernel, by decide +kernel⟩
abbrev m_Kept___init__ : Stmt := inClass (topS 24) 0
theorem mc_Kept___init__ : FnScope ["self", "strip"] ["self", "strip"] (defScope m_Kept___init__) := ⟨rfl, rfl, rfl, by decide +kernel, rfl, by decide +kernel, by decide +kernel⟩
abbrev m_Kept___len__ : Stmt := inClass (topS 24) 1
theorem mc_Kept___len__ : FnScope ["self"] ["self"] (defScope m_Kept___len__) := ⟨rfl, rfl, rfl, by decide +kernel, rfl, by decide +kernel, by decide +kernel⟩
abbrev m_Kept___eq__ : Stmt := inClass (topS 24) 2
theorem mc_Kept___eq__ : FnScope ["self", "other"] ["self", "other"] (defScope m_Kept___eq__) := ⟨rfl, rfl, rfl, by decide +kernel, rfl, by decide +kernel, by decide +kernel⟩
abbrev m_Kept___str__ : Stmt := inClass (topS 24) 3
theorem mc_Kept___str__ : FnScope ["self"] ["self"] (defScope m_Kept___str__) := ⟨rfl, rfl, rfl, by decide +kernel, rfl, by decide +kernel, by decide +kernel⟩
abbrev m_Kept_keep : Stmt := inClass (topS 24) 4
theorem mc_Kept_keep : FnScope ["self", "deed", "strip"] ["self", "deed", "strip"] (defScope m_Kept_keep) := ⟨rfl, rfl, rfl, by decide +kernel, rfl, by decide +kernel, by decide +kernel⟩
abbrev m_Kept_fold : Stmt := inClass (topS 24) 5
theorem mc_Kept_fold : FnScope ["self", "crease"] ["self", "crease"] (defScope m_Kept_fold) := ⟨rfl, rfl, rfl, by decide +kernel, rfl, by decide +kernel, by decide +kernel⟩
abbrev m_Kept_unfold : Stmt := inClass (topS 24) 6
theorem mc_Kept_unfold : FnScope ["self", "end", "many", "strip"] ["self", "end", "many"] (defScope m_Kept_unfold) := ⟨rfl, rfl, rfl, by decide +kernel, rfl, by decide +kernel, by decide +kernel⟩
abbrev m_Kept_turn : Stmt := inClass (topS 24) 7
theorem mc_Kept_turn : FnScope ["self"] ["self"] (defScope m_Kept_turn) := ⟨rfl, rfl, rfl, by decide +kernel, rfl, by decide +kernel, by decide +kernel⟩
abbrev m_Kept_back : Stmt := inClass (topS 24) 8
theorem mc_Kept_back : FnScope ["self"] ["self"] (defScope m_Kept_back) := ⟨rfl, rfl, rfl, by decide +kernel, rfl, by decide +kernel, by decide +kernel⟩
abbrev m_Kept_strip : Stmt := inClass (topS 24) 9
theorem mc_Kept_strip : FnScope ["self"] ["self"] (defScope m_Kept_strip) := ⟨rfl, rfl, rfl, by decide +kernel, rfl, by decide +kernel, by decide +kernel⟩
abbrev m_Kept_deeds : Stmt := inClass (topS 24) 10
theorem mc_Kept_deeds : FnScope ["self"] ["self"] (defScope m_Kept_deeds) := ⟨rfl, rfl, rfl, by decide +kernel, rfl, by decide +kernel, by decide +kernel⟩
abbrev m_Kept_is_kin : Stmt := inClass (topS 24) 11
theorem mc_Kept_is_kin : FnScope ["self"] ["self"] (defScope m_Kept_is_kin) := ⟨rfl, rfl, rfl, by decide +kernel, rfl, by decide +kernel, by decide +kernel⟩
/-- what the top has written -/
structure Txt (K : PySem.W.Frag) (mg : Str → Option Value) : Prop where
  b_all : mg "all" = none
  b_bool : mg "bool" = none
  b_int : mg "int" = none
  b_isinstance : mg "isinstance" = none
  b_len : mg "len" = none
  b_list : mg "list" = none
  b_max : mg "max" = none
  b_min : mg "min" = none
  b_range : mg "range" = none
  b_str : mg "str" = none
  b_zip : mg "zip" = none
  g_MOST : ∃ t, mg "MOST" = some (.int 24 t)
  g_SIGNS : ∃ t, mg "SIGNS" = some (.str "abcd" t)
  d_is_from : Def K mg "is_from" s_is_from ["thing", "low", "high"]
  d_is_strip : Def K mg "is_strip" s_is_strip ["thing"]
  d_lies_well : Def K mg "lies_well" s_lies_well ["strip", "crease"]
  d_creases : Def K mg "creases" s_creases ["strip"]
  d_is_crease : Def K mg "is_crease" s_is_crease ["strip", "thing"]
  d_left_of : Def K mg "left_of" s_left_of ["strip", "crease"]
  d_least : Def K mg "least" s_least ["strip"]
  d_are_kin : Def K mg "are_kin" s_are_kin ["one", "other"]
  d_unfolded : Def K mg "unfolded" s_unfolded ["strip", "end", "many"]
  d__law_bag : Def K mg "_law_bag" s__law_bag ["script", "k"]
  d__law_take : Def K mg "_law_take" s__law_take ["bag", "count"]
  d__law_of : Def K mg "_law_of" s__law_of ["bag", "some"]
  d__law_any_text : Def K mg "_law_any_text" s__law_any_text ["bag", "most", "signs"]
  d__law_grown : Def K mg "_law_grown" s__law_grown ["bag", "text", "most"]
  d__law_strip : Def K mg "_law_strip" s__law_strip ["bag", "most"]
  d__law_lies : Def K mg "_law_lies" s__law_lies ["text", "crease"]
  d__law_creases : Def K mg "_law_creases" s__law_creases ["text"]
  d__law_left : Def K mg "_law_left" s__law_left ["text", "crease"]
  d__law_kind : Def K mg "_law_kind" s__law_kind ["e"]
  d__law_did : Def K mg "_law_did" s__law_did ["kept", "deed"]
  d__law_is_number : Def K mg "_law_is_number" s__law_is_number ["thing", "least_so", "most"]
  d__law_due : Def K mg "_law_due" s__law_due ["rows", "deed"]
  d__law_a_deed : Def K mg "_law_a_deed" s__law_a_deed ["bag", "text"]
  d__law_stands_so : Def K mg "_law_stands_so" s__law_stands_so ["kept", "rows"]
  d_law : Def K mg "law" s_law ["script"]
  me_Kept___init__ : DefM K mg "Kept" "__init__" "Kept.__init__" m_Kept___init__ ["self", "strip"]
  me_Kept___len__ : DefM K mg "Kept" "__len__" "Kept.__len__" m_Kept___len__ ["self"]
  me_Kept___eq__ : DefM K mg "Kept" "__eq__" "Kept.__eq__" m_Kept___eq__ ["self", "other"]
  me_Kept___str__ : DefM K mg "Kept" "__str__" "Kept.__str__" m_Kept___str__ ["self"]
  me_Kept_keep : DefM K mg "Kept" "keep" "Kept.keep" m_Kept_keep ["self", "deed", "strip"]
  me_Kept_fold : DefM K mg "Kept" "fold" "Kept.fold" m_Kept_fold ["self", "crease"]
  me_Kept_unfold : DefM K mg "Kept" "unfold" "Kept.unfold" m_Kept_unfold ["self", "end", "many"]
  me_Kept_turn : DefM K mg "Kept" "turn" "Kept.turn" m_Kept_turn ["self"]
  me_Kept_back : DefM K mg "Kept" "back" "Kept.back" m_Kept_back ["self"]
  me_Kept_strip : DefM K mg "Kept" "strip" "Kept.strip" m_Kept_strip ["self"]
  me_Kept_deeds : DefM K mg "Kept" "deeds" "Kept.deeds" m_Kept_deeds ["self"]
  me_Kept_is_kin : DefM K mg "Kept" "is_kin" "Kept.is_kin" m_Kept_is_kin ["self"]
  e_FoldError : ExE K mg "FoldError"
  e_NoStrip : ExE K mg "NoStrip"
  e_NoCrease : ExE K mg "NoCrease"
  e_NoEnd : ExE K mg "NoEnd"
  e_NoMany : ExE K mg "NoMany"
  e_Long : ExE K mg "Long"
  e_NothingLeft : ExE K mg "NothingLeft"
  x_FoldError : ExF K mg "FoldError"
  x_NoStrip : ExF K mg "NoStrip"
  x_NoCrease : ExF K mg "NoCrease"
  x_NoEnd : ExF K mg "NoEnd"
  x_NoMany : ExF K mg "NoMany"
  x_Long : ExF K mg "Long"
  x_NothingLeft : ExF K mg "NothingLeft"
  k_FoldError_FoldError : ExK K mg "FoldError" "FoldError" true
  k_FoldError_NoStrip : ExK K mg "FoldError" "NoStrip" false
  k_FoldError_NoCrease : ExK K mg "FoldError" "NoCrease" false
  k_FoldError_NoEnd : ExK K mg "FoldError" "NoEnd" false
  k_FoldError_NoMany : ExK K mg "FoldError" "NoMany" false
  k_FoldError_Long : ExK K mg "FoldError" "Long" false
  k_FoldError_NothingLeft : ExK K mg "FoldError" "NothingLeft" false
  k_NoStrip_FoldError : ExK K mg "NoStrip" "FoldError" true
  k_NoStrip_NoStrip : ExK K mg "NoStrip" "NoStrip" true
  k_NoStrip_NoCrease : ExK K mg "NoStrip" "NoCrease" false
  k_NoStrip_NoEnd : ExK K mg "NoStrip" "NoEnd" false
  k_NoStrip_NoMany : ExK K mg "NoStrip" "NoMany" false
  k_NoStrip_Long : ExK K mg "NoStrip" "Long" false
  k_NoStrip_NothingLeft : ExK K mg "NoStrip" "NothingLeft" false
  k_NoCrease_FoldError : ExK K mg "NoCrease" "FoldError" true
  k_NoCrease_NoStrip : ExK K mg "NoCrease" "NoStrip" false
  k_NoCrease_NoCrease : ExK K mg "NoCrease" "NoCrease" true
  k_NoCrease_NoEnd : ExK K mg "NoCrease" "NoEnd" false
  k_NoCrease_NoMany : ExK K mg "NoCrease" "NoMany" false
  k_NoCrease_Long : ExK K mg "NoCrease" "Long" false
  k_NoCrease_NothingLeft : ExK K mg "NoCrease" "NothingLeft" false
  k_NoEnd_FoldError : ExK K mg "NoEnd" "FoldError" true
  k_NoEnd_NoStrip : ExK K mg "NoEnd" "NoStrip" false
  k_NoEnd_NoCrease : ExK K mg "NoEnd" "NoCrease" false
  k_NoEnd_NoEnd : ExK K mg "NoEnd" "NoEnd" true
  k_NoEnd_NoMany : ExK K mg "NoEnd" "NoMany" false
  k_NoEnd_Long : ExK K mg "NoEnd" "Long" false
  k_NoEnd_NothingLeft : ExK K mg "NoEnd" "NothingLeft" false
  k_NoMany_FoldError : ExK K mg "NoMany" "FoldError" true
  k_NoMany_NoStrip : ExK K mg "NoMany" "NoStrip" false
  k_NoMany_NoCrease : ExK K mg "NoMany" "NoCrease" false
  k_NoMany_NoEnd : ExK K mg "NoMany" "NoEnd" false
  k_NoMany_NoMany : ExK K mg "NoMany" "NoMany" true
  k_NoMany_Long : ExK K mg "NoMany" "Long" false
  k_NoMany_NothingLeft : ExK K mg "NoMany" "NothingLeft" false
  k_Long_FoldError : ExK K mg "Long" "FoldError" true
  k_Long_NoStrip : ExK K mg "Long" "NoStrip" false
  k_Long_NoCrease : ExK K mg "Long" "NoCrease" false
  k_Long_NoEnd : ExK K mg "Long" "NoEnd" false
  k_Long_NoMany : ExK K mg "Long" "NoMany" false
  k_Long_Long : ExK K mg "Long" "Long" true
  k_Long_NothingLeft : ExK K mg "Long" "NothingLeft" false
  k_NothingLeft_FoldError : ExK K mg "NothingLeft" "FoldError" true
  k_NothingLeft_NoStrip : ExK K mg "NothingLeft" "NoStrip" false
  k_NothingLeft_NoCrease : ExK K mg "NothingLeft" "NoCrease" false
  k_NothingLeft_NoEnd : ExK K mg "NothingLeft" "NoEnd" false
  k_NothingLeft_NoMany : ExK K mg "NothingLeft" "NoMany" false
  k_NothingLeft_Long : ExK K mg "NothingLeft" "Long" false
  k_NothingLeft_NothingLeft : ExK K mg "NothingLeft" "NothingLeft" true
  co_Kept : ∃ C, CoF K mg "Kept" ["strips", "rows"] C
end Lk

namespace Lk
open PySem PySem.Spec PyProof.Rows L2
/-! ### the law's draws -/
/-- a bag stands at b -/
def Bag (H : Hp) (b : Addr) : Prop := ∃ x y : Int, H b = some (.lst [.int x, .int y]) ∧ 0 ≤ x ∧ 0 ≤ y ∧ y ≤ 2147483646
theorem Bag.same {H H' : Hp} {b : Addr} (h : Bag H b) (s : Same H H') : Bag H' b := by
  obtain ⟨x, y, h1, h2⟩ := h
  exact ⟨x, y, s _ _ h1, h2⟩
theorem Bag.but {H H' : Hp} {a b : Addr} (h : Bag H b) (n : b ≠ a) (s : But a H H') : Bag H' b := by
  obtain ⟨x, y, h1, h2⟩ := h
  exact ⟨x, y, s _ _ n h1, h2⟩
theorem Bag.upd {H : Hp} {b p : Addr} {o : HO} (h : Bag H b) (n : b ≠ p) : Bag (L2.upd H p o) b := by
  obtain ⟨x, y, h1, h2⟩ := h
  exact ⟨x, y, by rw [upd_ne n]; exact h1, h2⟩
theorem Bag.ne {H : Hp} {b p : Addr} (h : Bag H b) (n : H p = none) : b ≠ p := by
  obtain ⟨x, y, h1, _⟩ := h
  exact ne_of_none h1 n
def sp_bag (K : PySem.W.Frag) : Sp := fun vs H Q _ => ∃ (a : Addr) (ns : List Int) (k : Int), vs = [.ref a, .int k] ∧ SqL K H a (ns.map V.int) ∧ 0 ≤ k ∧ k ≤ 100 ∧ ∀ p H', H p = none → Same H H' → Bag H' p → Q (.ref p) H'
section
variable {P : Program} {w : World} {K : PySem.W.Frag} {mg : Str → Option Value} {base : Heap}
theorem pA : (0 : Int) < 2147483629 := by decide
theorem pB : (0 : Int) < 2147483645 := by decide
theorem pC : (0 : Int) < 2147483647 := by decide
theorem pD : (0 : Int) < 32749 := by decide
theorem pow60 : (0 : Int) < 10 ^ (60 : Int).toNat := by decide +kernel
theorem ok__law_bag (T : Txt K mg) : Fn P w K mg base CX0 1 "_law_bag" ["script", "k"] (sp_bag K) := by
  refine T.d__law_bag.fn fun f fd F => F.ok sc__law_bag (fun vs H Q E h => ?_) (fun cdv A outer s H vs Q E hr h => ?_)
  · obtain ⟨a, ns, k, rfl, _⟩ := h
    rfl
  · obtain ⟨a, ns, k, rfl, hS, k0, k1, q⟩ := h
    refine ⟨_, pss_cons (ps_set (i := 2) sc__law_bag.nd rfl (.inl rfl) pe_int)
      (C8.pss_cut (ps_if (pt_cmpR op_lt (pv 1) (pe_callB call_len_seq (by rfl) T.b_len PySem.boot_len (pa_cons (pv 0) pa_nil)) (nomark _))
          (pss_one (ps_set (i := 2) sc__law_bag.nd rfl (.inl rfl) (pe_op op_mod (pe_ix ix_list (pv 0) (pv 1) (fun _ _ => rfl)) (pe_op op_pow pe_int pe_int)))) pss_nil)
      (pss_cons (ps_set (i := 3) sc__law_bag.nd rfl (.inl rfl) (pe_op op_add pe_int (pe_op op_mod (pe_op op_add (pe_op op_add (pe_op op_add (pe_op op_mul (pe_op op_mod (pv 2) pe_int) pe_int) (pe_op op_mul (pe_op op_mul pe_int (pv 1)) (pv 1))) (pe_op op_mul pe_int (pv 1))) pe_int) pe_int)))
      (pss_cons (ps_if (pt_cmpR op_lt (pv 2) (pe_op op_pow pe_int pe_int) (nomark _)) (pss_one (ps_ret (pe_lst (pa_cons pe_int (pa_cons (pv 3) pa_nil))))) pss_nil)
      (pss_one (ps_ret (pe_lst (pa_cons (pv 2) (pa_cons (pv 3) pa_nil)))))))), ?_⟩
    refine ⟨fun σ' H' => H' = H ∧ ∃ z : Int, 0 ≤ z ∧ σ' = [some (.ref a), some (.int k), some (.int z), none], ?_, ?_⟩
    · refine ⟨_, rfl, .ref a, rfl, a, ns.map V.int, rfl, .inl hS, _, _, rfl, rfl, _, rfl, ite2 (fun c => ?_) (fun _ => ?_)⟩
      · have c' : k < ((ns.map V.int).length : Int) := of_decide_eq_true c
        rw [List.length_map] at c'
        have hk : k.toNat < ns.length := by omega
        refine ⟨.ref a, rfl, _, rfl, a, ns.map V.int, k, .int ns[k.toNat], rfl, rfl, hS, ?_, _, _, rfl, rfl, ⟨by decide, by decide, by decide⟩, _, _, rfl, rfl, pow60, rfl, _, Int.emod_nonneg _ (Int.ne_of_gt pow60), rfl⟩
        refine at_of (j := k.toNat) (by omega) ?_
        rw [List.getElem?_map, List.getElem?_eq_getElem hk]
        rfl
      · exact ⟨rfl, 0, Int.le_refl 0, rfl⟩
    · rintro σ' H' ⟨rfl, z, hz, rfl⟩
      have e1 := Int.emod_nonneg z (show (2147483629 : Int) ≠ 0 by decide)
      have e2 := Int.emod_lt_of_pos z (show (0 : Int) < 2147483629 by decide)
      have e3 : ∀ y : Int, 0 ≤ y % 2147483645 ∧ y % 2147483645 < 2147483645 := fun y => ⟨Int.emod_nonneg y (by decide), Int.emod_lt_of_pos y (by decide)⟩
      refine ⟨_, rfl, _, _, rfl, rfl, pA, _, _, rfl, rfl, .inl ⟨by omega, by omega⟩, _, rfl, _, _, rfl, rfl, .inl ⟨by decide, by decide⟩, _, rfl, _, _, rfl, rfl, .inl ⟨by omega, by omega⟩, _, _, rfl, rfl, _, rfl, _, _, rfl, rfl, .inl ⟨by decide, by decide⟩, _, _, rfl, rfl, _, _, rfl, rfl, _, _, rfl, rfl, pB, _, _, rfl, rfl, ?_⟩
      dsimp only
      generalize hy : z % 2147483629 * 16807 + 40009 * k * k + 7919 * k + 1009 = y
      obtain ⟨y0, y1⟩ := e3 y
      refine ⟨_, rfl, _, _, rfl, rfl, ⟨by decide, by decide, by decide⟩, _, _, rfl, rfl, _, rfl, ite2 (fun c => ?_) (fun _ => ?_)⟩
      · refine ⟨_, rfl, (by show 2 ≤ sizeLine; decide), fun p hp => ?_⟩
        exact q p _ hp (Same.upd hp) ⟨0, 1 + y % 2147483645, upd_same, by omega, by omega, by omega⟩
      · refine ⟨_, rfl, _, rfl, (by show 2 ≤ sizeLine; decide), fun p hp => ?_⟩
        exact q p _ hp (Same.upd hp) ⟨z, 1 + y % 2147483645, upd_same, hz, by omega, by omega⟩
/-- a draw below c -/
def sp_take : Sp := fun vs H Q _ => ∃ (b : Addr) (c : Int), vs = [.ref b, .int c] ∧ Bag H b ∧ 1 ≤ c ∧ c ≤ 100000 ∧ ∀ r H', But b H H' → Bag H' b → 0 ≤ r → r < c → Q (.int r) H'
theorem ok__law_take (T : Txt K mg) : Fn P w K mg base CX0 1 "_law_take" ["bag", "count"] sp_take := by
  refine T.d__law_take.fn fun f fd F => F.ok sc__law_take (fun vs H Q E h => ?_) (fun cdv A outer s H vs Q E hr h => ?_)
  · obtain ⟨b, c, rfl, _⟩ := h
    rfl
  · obtain ⟨b, c, rfl, ⟨x, y, hb, x0, y0, y1⟩, c0, c1, q⟩ := h
    have hS : SqL K H b [.int x, .int y] := SqL.of hb
    have a0 : atI [V.int x, .int y] 0 = some (.int x) := rfl
    have a1 : atI [V.int x, .int y] 1 = some (.int y) := rfl
    refine ⟨_, pss_cons (ps_if (pt_cmpR op_gt (pe_ix ix_list (pv 0) pe_int (fun _ _ => rfl)) pe_int (nomark _))
        (pss_cons (ps_set (i := 2) sc__law_take.nd rfl (.inl rfl) (pe_op op_mod (pe_ix ix_list (pv 0) pe_int (fun _ _ => rfl)) (pv 1)))
        (pss_cons (ps_asg (pe_op op_fdiv (pe_ix ix_list (pv 0) pe_int (fun _ _ => rfl)) (pv 1)) (pg_sub (pv 0) pe_int set_list))
        (pss_one (ps_ret (pv 2))))) pss_nil)
      (pss_cons (ps_asg (pe_op op_mod (pe_op op_mul (pe_ix ix_list (pv 0) pe_int (fun _ _ => rfl)) pe_int) pe_int) (pg_sub (pv 0) pe_int set_list))
      (pss_one (ps_ret (pe_op op_mod (pe_op op_fdiv (pe_op op_mod (pe_op op_mul (pe_op op_fdiv (pe_ix ix_list (pv 0) pe_int (fun _ _ => rfl)) pe_int)
        (pe_op op_add (pe_op op_mod (pe_ix ix_list (pv 0) pe_int (fun _ _ => rfl)) pe_int) pe_int)) pe_int) pe_int) (pv 1))))), ?_⟩
    refine ⟨.ref b, rfl, b, _, 0, _, rfl, rfl, hS, a0, _, _, rfl, rfl, _, rfl, ite2 (fun _ => ?_) (fun _ => ?_)⟩
    · refine ⟨.ref b, rfl, b, _, 0, _, rfl, rfl, hS, a0, _, rfl, _, _, rfl, rfl, (by show 0 < c; omega), ?_⟩
      refine ⟨.ref b, rfl, b, _, 0, _, rfl, rfl, hS, a0, _, rfl, _, _, rfl, rfl, ⟨by omega, by omega⟩, ?_⟩
      refine ⟨.ref b, rfl, b, _, 0, 0, rfl, rfl, hb, rfl, _, rfl, ?_⟩
      refine q _ _ (fun a o n e => ?_) ⟨x / c, y, upd_same, Int.ediv_nonneg x0 (by omega), y0, y1⟩ (Int.emod_nonneg _ (by omega)) (Int.emod_lt_of_pos _ (by omega))
      rw [upd_ne n]
      exact e
    · refine ⟨.ref b, rfl, b, _, 1, _, rfl, rfl, hS, a1, _, _, rfl, rfl, .inr ⟨by decide, by decide⟩, _, _, rfl, rfl, pC, ?_⟩
      refine ⟨.ref b, rfl, b, _, 1, 1, rfl, rfl, hb, rfl, ?_⟩
      dsimp only
      have z0 := Int.emod_nonneg (y * 48271) (show (2147483647 : Int) ≠ 0 by decide)
      have z1 := Int.emod_lt_of_pos (y * 48271) (show (0 : Int) < 2147483647 by decide)
      generalize y * 48271 % 2147483647 = z at z0 z1 ⊢
      have hb' : (upd H b (.lst [.int x, .int z])) b = some (.lst [.int x, .int z]) := upd_same
      have hS' : SqL K (upd H b (.lst [.int x, .int z])) b [.int x, .int z] := SqL.of hb'
      have a1' : atI [V.int x, .int z] 1 = some (.int z) := rfl
      have d0 : 0 ≤ z / 13 := Int.ediv_nonneg z0 (by decide)
      have d1 : z / 13 ≤ z := Int.ediv_le_self _ z0
      refine ⟨.ref b, rfl, b, _, 1, _, rfl, rfl, hS', a1', _, _, rfl, rfl, ⟨by decide, by decide⟩, .ref b, rfl, b, _, 1, _, rfl, rfl, hS', a1', _, _, rfl, rfl, pD, _, _, rfl, rfl, _, _, rfl, rfl, .inl ⟨by omega, by omega⟩, _, _, rfl, rfl, pA, _, _, rfl, rfl, ⟨by decide, by decide⟩, _, rfl, _, _, rfl, rfl, (by show 0 < c; omega), ?_⟩
      refine q _ _ (fun a o n e => ?_) ⟨x, z, hb', x0, z0, by omega⟩ (Int.emod_nonneg _ (by omega)) (Int.emod_lt_of_pos _ (by omega))
      rw [upd_ne n]
      exact e
/-- a sign of a text; an item of a list -/
def sp_of (K : PySem.W.Frag) : Sp := fun vs H Q _ => (∃ (b : Addr) (l : List Nat), vs = [.ref b, vS l] ∧ Bag H b ∧ l ≠ [] ∧ l.length ≤ 1000 ∧ ∀ c H', But b H H' → Bag H' b → c ∈ l → Q (vS [c]) H') ∨
  ∃ (b a : Addr) (xs : List V), vs = [.ref b, .ref a] ∧ Bag H b ∧ SqL K H a xs ∧ a ≠ b ∧ xs ≠ [] ∧ xs.length ≤ 1000 ∧ ∀ x H', But b H H' → Bag H' b → x ∈ xs → Q x H'
theorem ok__law_of (T : Txt K mg) : Fn P w K mg base CX0 2 "_law_of" ["bag", "some"] (sp_of K) := by
  have GT := ok__law_take (P := P) (w := w) (base := base) T
  refine T.d__law_of.fn fun f fd F => F.ok sc__law_of (fun vs H Q E h => ?_) (fun cdv A outer s H vs Q E hr h => ?_)
  · rcases h with ⟨b, l, rfl, _⟩ | ⟨b, a, xs, rfl, _⟩ <;> rfl
  · refine ⟨_, pss_one (ps_ret (pe_ix ix_seq (pv 1) (pe_fn GT hr (pa_cons (pv 0) (pa_cons (pe_callB call_len (by rfl) T.b_len PySem.boot_len (pa_cons (pv 1) pa_nil)) pa_nil))) (fun _ _ => rfl))), ?_⟩
    rcases h with ⟨b, l, rfl, hb, hn, hl, q⟩ | ⟨b, a, xs, rfl, hb, hS, na, hn, hl, q⟩
    · have hp := List.length_pos_iff.mpr hn
      have hz : (S l).length ≤ sizeLine := by rw [S_len]; exact Nat.le_trans hl (by decide)
      refine ⟨_, rfl, .ref b, rfl, _, rfl, vS l, l.length, rfl, ⟨hz, (S_len l).symm⟩, b, _, rfl, hb, by omega, by omega, fun r H' bt hb' r0 r1 => ?_⟩
      have hr' : r.toNat < l.length := by omega
      refine .inr (.inr ⟨S l, r, l[r.toNat], rfl, rfl, hz, ?_, ?_⟩)
      · have e : ((r.toNat : Nat) : Int) = r := by omega
        exact (congrArg (atI l) e.symm).trans (atI_nat (List.getElem?_eq_getElem hr'))
      · exact q _ _ bt hb' (List.getElem_mem hr')
    · have hp := List.length_pos_iff.mpr hn
      refine ⟨_, rfl, .ref b, rfl, _, rfl, .ref a, xs.length, rfl, .inl ⟨xs, hS, rfl⟩, b, _, rfl, hb, by omega, by omega, fun r H' bt hb' r0 r1 => ?_⟩
      have hr' : r.toNat < xs.length := by omega
      refine .inl ⟨a, xs, r, xs[r.toNat], rfl, rfl, bt.seq na hS, at_of (j := r.toNat) (by omega) (List.getElem?_eq_getElem hr'), ?_⟩
      exact q _ _ bt hb' (List.getElem_mem hr')
end
end Lk

namespace Lk
open PySem PySem.Spec PyProof.Rows L2
/-! ### texts drawn -/
open Fo
section
variable {P : Program} {w : World} {K : PySem.W.Frag} {mg : Str → Option Value} {base : Heap}
theorem Sg.one {c : Nat} (h : 97 ≤ c ∧ c ≤ 100) : Sg [c] := fun x hx => by
  rw [List.mem_singleton.mp hx]
  exact h
def sp_any : Sp := fun vs H Q _ => ∃ (b : Addr) (m k : Int), vs = [.ref b, .int m, .int k] ∧ Bag H b ∧ 1 ≤ m ∧ m ≤ 100 ∧ 1 ≤ k ∧ k ≤ 4 ∧ ∀ (l : List Nat) H', But b H H' → Bag H' b → 1 ≤ l.length → (l.length : Int) ≤ m → Sg l → Q (vS l) H'
theorem abcd_take {k : Int} (h1 : 1 ≤ k) (h2 : k ≤ 4) : cutL [97, 98, 99, 100] none (some k) ≠ [] ∧ (cutL [97, 98, 99, 100] none (some k)).length ≤ 4 ∧ Sg (cutL [97, 98, 99, 100] none (some k)) := by
  rw [cut_to _ (by omega)]
  have : k.toNat = 1 ∨ k.toNat = 2 ∨ k.toNat = 3 ∨ k.toNat = 4 := by omega
  rcases this with e | e | e | e <;> rw [e] <;> refine ⟨by decide, by decide, fun c hc => ?_⟩ <;> simp at hc <;> omega
theorem ok__law_any_text (T : Txt K mg) : Fn P w K mg base CX0 3 "_law_any_text" ["bag", "most", "signs"] sp_any := by
  have GT := ok__law_take (P := P) (w := w) (base := base) T
  have GO := ok__law_of (P := P) (w := w) (base := base) T
  refine T.d__law_any_text.fn fun f fd F => F.ok sc__law_any_text (fun vs H Q E h => ?_) (fun cdv A outer s H vs Q E hr h => ?_)
  · obtain ⟨b, m, k, rfl, _⟩ := h
    rfl
  · obtain ⟨b, m, k, rfl, hb, m1, m2, k1, k2, q⟩ := h
    refine ⟨_, pss_one (ps_ret (pe_joinS pe_str (pe_lc (own := [("turn", 3)]) (g := gName 3) (tt := tYes) rfl sc__law_any_text.nd (pi_range1 rfl T.b_range (pa_cons (pe_op op_add pe_int (pe_fn GT hr (pa_cons (pv 0) (pa_cons (pv 1) pa_nil)))) pa_nil))
      (blkOk_by (own := [("turn", 3)]) (N := ["bag", "most", "signs", "turn"]) (sc := defScope s__law_any_text) (by decide +kernel)) (fun _ _ _ _ _ => pg_name (i := 3) sc__law_any_text.nd rfl (Or.inl rfl)) (fun _ _ _ _ _ => pts_nil)
      (fun _ _ _ _ _ => pe_fn GO hr (pa_cons (pv 0) (pa_cons (pe_slice sl_S pe_str po_none (po_some (pv 2))) pa_nil)))))), ?_⟩
    obtain ⟨n1, n2, n3⟩ := abcd_take k1 k2
    refine ⟨⟨S [], rfl⟩, _, rfl, _, rfl, b, m, rfl, hb, m1, by omega, fun r H' bt hb' r0 r1 => ?_⟩
    refine ⟨1, r, rfl, rfl, 1 + r, rfl, by omega, by omega, fun D hD => ?_⟩
    have nDb : b ≠ D := hb'.ne hD
    have fD : H D = none := bt.free nDb.symm hD
    refine lc_range (lo := 0) (n := (1 + r).toNat) (fun i H2 => But b H (H2) ∧ Bag H2 b ∧ ∃ ys : List (List Nat), H2 D = some (.lst (ys.map vS)) ∧ ys.length = i ∧ (∀ y ∈ ys, y.length = 1) ∧ Sg ys.flatten)
      ⟨?_, ?_, [], upd_same, rfl, (fun y hy => nomatch hy), (fun c hc => nomatch hc)⟩ ?_ ?_
    · exact bt.same (Same.upd hD)
    · exact hb'.same (Same.upd hD)
    · rintro i H2 hi ⟨bt2, hb2, ys, hys, el, e1, e2⟩
      refine ⟨rfl, .ref b, rfl, .int k, rfl, k, rfl, [97, 98, 99, 100], rfl, by decide, ?_⟩
      refine .inl ⟨b, _, rfl, hb2, n1, by omega, fun c H3 bt3 hb3 hc => ?_⟩
      refine ⟨ys.map vS, bt3 _ _ nDb.symm hys, ?_, ?_⟩
      · rw [List.length_map, el]
        exact small1000 (by omega)
      · refine ⟨(bt2.trans bt3).upd2 fD, hb3.upd nDb, ys ++ [[c]], ?_, ?_, ?_, ?_⟩
        · rw [upd_same, List.map_append]
          rfl
        · rw [List.length_append, el]
          rfl
        · intro y hy
          rcases List.mem_append.mp hy with hy | hy
          · exact e1 y hy
          · rw [List.mem_singleton.mp hy]
            rfl
        · rw [List.flatten_append]
          exact e2.app (by simpa using Sg.one (n3 c hc))
    · rintro H2 ⟨bt2, hb2, ys, hys, el, e1, e2⟩
      have efl : ys.flatten.length = ys.length := by
        rw [List.length_flatten]
        clear e2 hys el
        induction ys with
        | nil => rfl
        | cons y r ih =>
          rw [List.map_cons, List.sum_cons, ih fun z hz => e1 z (List.mem_cons_of_mem _ hz), e1 y (List.mem_cons_self ..), List.length_cons]
          omega
      have esum : (ys.map (·.length)).sum = ys.length := by rw [← List.length_flatten, efl]
      refine ⟨[], D, ys, rfl, rfl, .inl (SqL.of hys), by rw [esum, el]; simp only [List.length_nil, Nat.mul_zero]; omega, ?_⟩
      rw [joinL_flat]
      exact q ys.flatten H2 bt2 hb2 (by omega) (by omega) e2
/-- text, or what is unfolded of it at its ends -/
def sp_grown : Sp := fun vs H Q _ => ∃ (b : Addr) (l : List Nat) (m : Int), vs = [.ref b, vS l, .int m] ∧ Bag H b ∧ 1 ≤ l.length ∧ l.length ≤ 100 ∧ Sg l ∧ m ≤ 100 ∧
  ∀ (r : List Nat) H', But b H H' → Bag H' b → Up r l → Sg r → ((r.length : Int) ≤ m ∨ r = l) → Q (vS r) H'
theorem ok__law_grown (T : Txt K mg) : Fn P w K mg base CX0 3 "_law_grown" ["bag", "text", "most"] sp_grown := by
  have GT := ok__law_take (P := P) (w := w) (base := base) T
  have GO := ok__law_of (P := P) (w := w) (base := base) T
  refine T.d__law_grown.fn fun f fd F => F.ok sc__law_grown (fun vs H Q E h => ?_) (fun cdv A outer s H vs Q E hr h => ?_)
  · obtain ⟨b, l, m, rfl, _⟩ := h
    rfl
  · obtain ⟨b, l, m, rfl, hb, l1, l2, sg, hm, q⟩ := h
    refine ⟨_, pss_cons (ps_for PassesOwn.never rfl (pi_range1 rfl T.b_range (pa_cons (pe_fn GT hr (pa_cons (pv 0) (pa_cons pe_int pa_nil))) pa_nil)) (pg_name (i := 3) sc__law_grown.nd rfl (.inl rfl))
        (pss_cons (ps_set (i := 4) sc__law_grown.nd rfl (.inl rfl) (pe_op op_add pe_int (pe_fn GT hr (pa_cons (pv 0) (pa_cons (pe_callB call_lenS (by rfl) T.b_len PySem.boot_len (pa_cons (pv 1) pa_nil)) pa_nil)))))
        (pss_one (ps_if (pt_cmpR op_le (pe_op op_add (pe_callB call_lenS (by rfl) T.b_len PySem.boot_len (pa_cons (pv 1) pa_nil)) (pv 4)) (pv 2) (nomark _))
          (pss_one (ps_set (i := 1) sc__law_grown.nd rfl (.inl rfl) (pe_fn GO hr (pa_cons (pv 0) (pa_cons (pe_lst (pa_cons (pe_op op_catS (pe_revS (pe_slice sl_S (pv 1) po_none (po_some (pv 4)))) (pv 1))
            (pa_cons (pe_op op_catS (pv 1) (pe_revS (pe_slice sl_S (pv 1) (po_some (pe_un un_neg (pv 4))) po_none))) pa_nil))) pa_nil))))) pss_nil))))
      (pss_one (ps_ret (pv 1))), ?_⟩
    refine ⟨.ref b, rfl, b, 9, rfl, hb, by decide, by decide, fun r H1 bt1 hb1 r0 r1 => ⟨r, rfl, by omega, by omega, ?_⟩⟩
    refine for_range (lo := 0) (n := r.toNat) (fun i σ H2 => But b H H2 ∧ Bag H2 b ∧ ∃ (t : List Nat) (v3 v4 : Option V), σ = [some (.ref b), some (vS t), some (.int m), v3, v4] ∧ Up t l ∧ Sg t ∧ ((t.length : Int) ≤ m ∨ t = l) ∧ 1 ≤ t.length ∧ t.length ≤ 100)
      ⟨bt1, hb1, l, none, none, rfl, .refl l, sg, .inr rfl, l1, l2⟩ ?_ ?_
    · rintro i σ H2 hi ⟨bt2, hb2, t, v3, v4, rfl, up, st, ht, t1, t2⟩
      refine ⟨.ref b, rfl, vS t, rfl, t, rfl, by omega, b, _, rfl, hb2, by omega, by omega, fun z H3 bt3 hb3 z0 z1 => ?_⟩
      refine ⟨_, _, rfl, rfl, ?_⟩
      have hz : 1 ≤ (1 + z).toNat ∧ (1 + z).toNat ≤ t.length := by omega
      refine ⟨_, rfl, t, rfl, by omega, _, rfl, _, _, rfl, rfl, _, rfl, _, _, rfl, rfl, _, rfl, ite2 (fun c => ?_) (fun _ => ?_)⟩
      · have c' : (t.length : Int) + (1 + z) ≤ m := of_decide_eq_true c
        have ln1 : (cutL t none (some (1 + z))).length ≤ 1000000 := Nat.le_trans (cut_len _ _ _) (by omega)
        have ln2 : (cutL t (some (-(1 + z))) none).length ≤ 1000000 := Nat.le_trans (cut_len _ _ _) (by omega)
        refine ⟨.ref b, rfl, vS t, rfl, _, rfl, _, rfl, t, rfl, by omega, _, rfl, big ln1, vS t, rfl, _, _, rfl, rfl, ?_, vS t, rfl, vS t, rfl, _, rfl, _, rfl, _, rfl, t, rfl, by omega, _, rfl, big ln2, _, _, rfl, rfl, ?_, ?_, fun p hp => ?_⟩
        · have := cut_len t none (some (1 + z))
          rw [List.length_reverse]
          omega
        · have := cut_len t (some (-(1 + z))) none
          rw [List.length_reverse]
          omega
        · show 2 ≤ sizeLine
          decide
        · have npb : b ≠ p := hb3.ne hp
          have fp : H p = none := (bt2.trans bt3).free npb.symm hp
          refine .inr ⟨b, p, _, rfl, hb3.upd npb, SqL.of upd_same, npb.symm, by simp, by show 2 ≤ 1000; decide, fun x H4 bt4 hb4 hx => ?_⟩
          have fin : ∀ u : List Nat, Up u t → Sg u → u.length = t.length + (1 + z).toNat → (But b H H4 ∧ Bag H4 b ∧ ∃ (t' : List Nat) (v3' v4' : Option V), ([some (V.ref b), some (vS u), some (.int m), some (.int (0 + (i : Int))), some (.int (1 + z))] : L2.St) = [some (.ref b), some (vS t'), some (.int m), v3', v4'] ∧ Up t' l ∧ Sg t' ∧ ((t'.length : Int) ≤ m ∨ t' = l) ∧ 1 ≤ t'.length ∧ t'.length ≤ 100) := fun u hu su hl => by
            refine ⟨?_, hb4, u, _, _, rfl, hu.trans up, su, .inl (by omega), by omega, by omega⟩
            exact ((bt2.trans bt3).upd2 fp).trans bt4
          rcases List.mem_cons.mp hx with e | hx
          · subst e
            rw [cut_to _ (by omega)]
            exact fin _ (up_left hz.1 hz.2) ((st.take _).rev.app st) (by rw [List.length_append, List.length_reverse, List.length_take]; omega)
          · have e := List.mem_singleton.mp hx
            subst e
            rw [cut_neg _ (by omega) (by omega)]
            have e2 : ((t.length : Int) + -(1 + z)).toNat = t.length - (1 + z).toNat := by omega
            rw [e2]
            exact fin _ (up_right hz.1 hz.2) (st.app (st.drop _).rev) (by rw [List.length_append, List.length_reverse, List.length_drop]; omega)
      · exact ⟨bt2.trans bt3, hb3, t, _, _, rfl, up, st, ht, t1, t2⟩
    · rintro σ H2 ⟨bt2, hb2, t, v3, v4, rfl, up, st, ht, t1, t2⟩
      exact ⟨_, rfl, q t H2 bt2 hb2 up st ht⟩
/-- any strip of at most so many cells -/
def sp_strip : Sp := fun vs H Q _ => ∃ (b : Addr) (m : Int), vs = [.ref b, .int m] ∧ Bag H b ∧ 5 ≤ m ∧ m ≤ 100 ∧ ∀ (r : List Nat) H', But b H H' → Bag H' b → 1 ≤ r.length → (r.length : Int) ≤ m → Sg r → Q (vS r) H'
theorem ok__law_strip (T : Txt K mg) : Fn P w K mg base CX0 4 "_law_strip" ["bag", "most"] sp_strip := by
  have GT := ok__law_take (P := P) (w := w) (base := base) T
  have GA := ok__law_any_text (P := P) (w := w) (base := base) T
  have GG := ok__law_grown (P := P) (w := w) (base := base) T
  refine T.d__law_strip.fn fun f fd F => F.ok sc__law_strip (fun vs H Q E h => ?_) (fun cdv A outer s H vs Q E hr h => ?_)
  · obtain ⟨b, m, rfl, _⟩ := h
    rfl
  · obtain ⟨b, m, rfl, hb, m1, m2, q⟩ := h
    refine ⟨_, pss_cons (ps_set (i := 2) sc__law_strip.nd rfl (.inl rfl) (pe_fn GT hr (pa_cons (pv 0) (pa_cons pe_int pa_nil))))
      (pss_cons (ps_if (pt_cmpR op_eq (pv 2) pe_int (nomark _)) (pss_one (ps_ret (pe_fn GA hr (pa_cons (pv 0) (pa_cons (pv 1) (pa_cons (pe_op op_add pe_int (pe_fn GT hr (pa_cons (pv 0) (pa_cons pe_int pa_nil)))) pa_nil)))))) pss_nil)
      (pss_one (ps_ret (pe_fn GG hr (pa_cons (pv 0) (pa_cons (pe_fn GA hr (pa_cons (pv 0) (pa_cons (pe_ix ix_list (pe_lst (pa_cons pe_int (pa_cons pe_int (pa_cons pe_int (pa_cons pe_int pa_nil))))) (pv 2) (fun _ _ => rfl))
        (pa_cons (pe_ix ix_list (pe_lst (pa_cons pe_int (pa_cons pe_int (pa_cons pe_int (pa_cons pe_int pa_nil))))) (pv 2) (fun _ _ => rfl)) pa_nil)))) (pa_cons (pv 1) pa_nil))))))), ?_⟩
    refine ⟨.ref b, rfl, b, 4, rfl, hb, by decide, by decide, fun r H1 bt1 hb1 r0 r1 => ?_⟩
    refine ⟨_, rfl, rfl, _, rfl, ite2 (fun c => ?_) (fun _ => ?_)⟩
    · refine ⟨.ref b, rfl, .int m, rfl, _, rfl, b, 3, rfl, hb1, by decide, by decide, fun z H2 bt2 hb2 z0 z1 => ?_⟩
      refine ⟨_, _, rfl, rfl, b, m, _, rfl, hb2, by omega, by omega, by omega, by omega, fun l H3 bt3 hb3 l1 l2 sg => ?_⟩
      exact q l H3 ((bt1.trans bt2).trans bt3) hb3 l1 l2 sg
    · refine ⟨.ref b, rfl, .ref b, rfl, (by show 4 ≤ sizeLine; decide), fun p hp => ?_⟩
      have npb : b ≠ p := hb1.ne hp
      have hr4 : r = 0 ∨ r = 1 ∨ r = 2 ∨ r = 3 := by omega
      obtain ⟨u, eu, u1, u2⟩ : ∃ u : Int, atI [V.int 1, .int 3, .int 5, .int 4] r = some (.int u) ∧ 1 ≤ u ∧ u ≤ 5 := by
        rcases hr4 with e | e | e | e <;> subst e
        · exact ⟨1, rfl, by decide, by decide⟩
        · exact ⟨3, rfl, by decide, by decide⟩
        · exact ⟨5, rfl, by decide, by decide⟩
        · exact ⟨4, rfl, by decide, by decide⟩
      obtain ⟨u', eu', u1', u2'⟩ : ∃ u : Int, atI [V.int 2, .int 2, .int 3, .int 4] r = some (.int u) ∧ 1 ≤ u ∧ u ≤ 4 := by
        rcases hr4 with e | e | e | e <;> subst e
        · exact ⟨2, rfl, by decide, by decide⟩
        · exact ⟨2, rfl, by decide, by decide⟩
        · exact ⟨3, rfl, by decide, by decide⟩
        · exact ⟨4, rfl, by decide, by decide⟩
      refine ⟨_, rfl, p, _, r, _, rfl, rfl, SqL.of upd_same, eu, (by show 4 ≤ sizeLine; decide), fun p2 hp2 => ?_⟩
      have npb2 : b ≠ p2 := (hb1.upd npb).ne hp2
      refine ⟨_, rfl, p2, _, r, _, rfl, rfl, SqL.of upd_same, eu', b, _, _, rfl, (hb1.upd npb).upd npb2, u1, by omega, u1', u2', fun l H2 bt2 hb2 l1 l2 sg => ?_⟩
      refine ⟨.int m, rfl, b, l, m, rfl, hb2, l1, by omega, sg, m2, fun t H3 bt3 hb3 up st ht => ?_⟩
      have fp : H p = none := bt1.free npb.symm hp
      have fp2 : H p2 = none := (bt1.upd2 fp).free npb2.symm hp2
      refine q t H3 ((((bt1.upd2 fp).upd2 fp2).trans bt2).trans bt3) hb3 ?_ ?_ st
      · obtain ⟨x, c1, c2⟩ := up
        have := c1.len
        have := c2.len
        omega
      · rcases ht with ht | ht
        · exact ht
        · subst ht
          omega
end
end Lk

namespace Lk
open PySem PySem.Spec PyProof.Rows L2
/-! ### creases -/
open Fo
section
variable {P : Program} {w : World} {K : PySem.W.Frag} {mg : Str → Option Value} {base : Heap}
def sp_lies : Sp := fun vs H Q _ => ∃ (l : List Nat) (c : Nat), vs = [vS l, vI c] ∧ l.length ≤ 1000 ∧ 1 ≤ c ∧ c < l.length ∧ Q (.bl (decide (Lies l c))) H
theorem ok__law_lies (T : Txt K mg) : Fn P w K mg base CX0 1 "_law_lies" ["text", "crease"] sp_lies := by
  refine T.d__law_lies.fn fun f fd F => F.ok sc__law_lies (fun vs H Q E h => ?_) (fun cdv A outer s H vs Q E hr h => ?_)
  · obtain ⟨l, c, rfl, _⟩ := h
    rfl
  · obtain ⟨l, c, rfl, hl, c1, c2, q⟩ := h
    refine ⟨_, pss_cons (ps_for PassesOwn.never rfl (pi_range1 rfl T.b_range (pa_cons (pe_callB call_lenS (by rfl) T.b_len PySem.boot_len (pa_cons (pv 0) pa_nil)) pa_nil)) (pg_name (i := 2) sc__law_lies.nd rfl (.inl rfl))
        (pss_cons (ps_par (i := 3) (j := 4) (by rfl) sc__law_lies.nd rfl rfl (by decide) rfl rfl (pa_cons (pe_op op_sub (pe_op op_sub (pv 1) pe_int) (pv 2)) (pa_cons (pe_op op_add (pv 1) (pv 2)) pa_nil)) (by rfl))
        (pss_one (ps_if (PW.pt (pw_and (pt_cmpR op_ge (pv 3) pe_int (nomark _)) (pw_and (pt_cmpR op_lt (pv 4) (pe_callB call_lenS (by rfl) T.b_len PySem.boot_len (pa_cons (pv 0) pa_nil)) (nomark _))
          (pw_and1 (pt_cmpR op_ne (pe_ix ix_S (pv 0) (pv 3) (fun _ _ => rfl)) (pe_ix ix_S (pv 0) (pv 4) (fun _ _ => rfl)) (nomark _)))))) (pss_one (ps_ret pe_bl)) pss_nil))))
      (pss_one (ps_ret pe_bl)), ?_⟩
    refine ⟨_, rfl, l, rfl, by omega, _, rfl, by omega, by omega, ?_⟩
    refine for_range (lo := 0) (n := ((l.length : Nat) : Int).toNat) (fun i σ H2 => H2 = H ∧ (∀ j, j < i → j < c → c + j < l.length → l[c - 1 - j]? = l[c + j]?) ∧ ∃ v2 v3 v4 : Option V, σ = [some (vS l), some (vI c), v2, v3, v4])
      ⟨rfl, (fun j hj => absurd hj (Nat.not_lt_zero _)), none, none, none, rfl⟩ ?_ ?_
    · rintro i σ H2 hi ⟨rfl, hj, v2, v3, v4, rfl⟩
      refine ⟨_, rfl, _, _, rfl, rfl, _, rfl, _, _, rfl, rfl, _, rfl, _, rfl, _, _, rfl, rfl, _, _, rfl, ?_⟩
      have next : (i < c → c + i < l.length → l[c - 1 - i]? = l[c + i]?) → ∀ j, j < i + 1 → j < c → c + j < l.length → l[c - 1 - j]? = l[c + j]? := fun h j h1 h2 h3 => by
        by_cases e : j = i
        · subst e
          exact h h2 h3
        · exact hj j (by omega) h2 h3
      refine ⟨_, rfl, _, _, rfl, rfl, _, rfl, ite2 (fun c3 => ?_) (fun c3 => ?_)⟩
      · have c3' : (0 : Int) ≤ (c : Int) - 1 - (0 + (i : Int)) := of_decide_eq_true c3
        refine ⟨_, rfl, _, rfl, l, rfl, by omega, _, _, rfl, rfl, _, rfl, ite2 (fun c4 => ?_) (fun c4 => ?_)⟩
        · have c4' : (c : Int) + (0 + (i : Int)) < (l.length : Int) := of_decide_eq_true c4
          have g1 : c - 1 - i < l.length := by omega
          have g2 : c + i < l.length := by omega
          have i1 : (c : Int) - 1 - (0 + (i : Int)) = ((c - 1 - i : Nat) : Int) := by omega
          have i2 : (c : Int) + (0 + (i : Int)) = ((c + i : Nat) : Int) := by omega
          refine ⟨_, rfl, _, rfl, l, _, l[c - 1 - i], rfl, rfl, by omega, (congrArg (atI l) i1).trans (atI_nat (List.getElem?_eq_getElem g1)), _, rfl, _, rfl, l, _, l[c + i], rfl, rfl, by omega, (congrArg (atI l) i2).trans (atI_nat (List.getElem?_eq_getElem g2)), rfl, _, rfl, ?_⟩
          by_cases e : l[c - 1 - i] = l[c + i]
          · rw [e]
            refine iteNS rfl ?_
            exact ⟨rfl, next fun _ _ => by rw [List.getElem?_eq_getElem g1, List.getElem?_eq_getElem g2, e], _, _, _, rfl⟩
          · have hne : ¬ (vS [l[c - 1 - i]] = vS [l[c + i]]) := fun z => e (List.cons.inj (vS_inj.mp z)).1
            rw [decide_eq_false hne]
            refine iteT ?_
            have hf : decide (Lies l c) = false := decide_eq_false fun z => e (by
              have := z i (by omega) g2
              rw [List.getElem?_eq_getElem g1, List.getElem?_eq_getElem g2] at this
              exact Option.some.inj this)
            rw [hf] at q
            exact q
        · have c4' : ¬ (c : Int) + (0 + (i : Int)) < (l.length : Int) := fun z => c4 (decide_eq_true z)
          refine iteF ?_
          exact ⟨rfl, next fun _ h => absurd h (by omega), _, _, _, rfl⟩
      · have c3' : ¬ (0 : Int) ≤ (c : Int) - 1 - (0 + (i : Int)) := fun z => c3 (decide_eq_true z)
        refine iteF ?_
        exact ⟨rfl, next fun h _ => absurd h (by omega), _, _, _, rfl⟩
    · rintro σ H2 ⟨rfl, hj, v2, v3, v4, rfl⟩
      have ht : decide (Lies l c) = true := decide_eq_true fun i h1 h2 => hj i (by omega) h1 h2
      rw [ht] at q
      exact q
def sp_creases : Sp := fun vs H Q _ => ∃ (l : List Nat), vs = [vS l] ∧ l.length ≤ 1000 ∧ ∀ p, H p = none → Q (.ref p) (upd H p (.lst ((creases l).map vI)))
theorem ok__law_creases (T : Txt K mg) : Fn P w K mg base CX0 2 "_law_creases" ["text"] sp_creases := by
  have GL := ok__law_lies (P := P) (w := w) (base := base) T
  refine T.d__law_creases.fn fun f fd F => F.ok sc__law_creases (fun vs H Q E h => ?_) (fun cdv A outer s H vs Q E hr h => ?_)
  · obtain ⟨l, rfl, _⟩ := h
    rfl
  · obtain ⟨l, rfl, hl, q⟩ := h
    refine ⟨_, pss_one (ps_ret (pe_lc (own := [("crease", 1)]) (g := gName 1) rfl sc__law_creases.nd (pi_range2 rfl T.b_range (pa_cons pe_int (pa_cons (pe_callB call_lenS (by rfl) T.b_len PySem.boot_len (pa_cons (pv 0) pa_nil)) pa_nil)))
      (blkOk_by (own := [("crease", 1)]) (N := ["text", "crease"]) (sc := defScope s__law_creases) (by decide +kernel)) (fun _ _ _ _ _ => pg_name (i := 1) sc__law_creases.nd rfl (Or.inl rfl))
      (fun _ _ _ _ _ => pts_one (pt_val (pe_fn GL hr (pa_cons (pv 0) (pa_cons (pv 1) pa_nil))))) (fun _ _ _ _ _ => pv 1))), ?_⟩
    refine ⟨_, rfl, l, rfl, by omega, _, _, rfl, ⟨by decide, by decide, by omega, by omega⟩, fun D hD => ?_⟩
    refine lc_range (lo := 1) (n := ((l.length : Int) - 1).toNat) (fun i H2 => H2 = upd H D (.lst ((crTo l i).map vI))) rfl ?_ ?_
    · rintro i H2 hi rfl
      refine ⟨rfl, vS l, rfl, .int (1 + (i : Int)), rfl, l, 1 + i, congrArg (fun z => [vS l, V.int z]) (by omega), hl, by omega, by omega, ?_⟩
      by_cases e : Lies l (1 + i)
      · rw [decide_eq_true e]
        refine ⟨_, rfl, iteT ?_⟩
        refine ⟨_, rfl, _, upd_same, ?_, ?_⟩
        · rw [List.length_map]
          have := crTo_len l i
          exact small1000 (by omega)
        · rw [upd_upd, crTo_yes e, List.map_append]
          rfl
      · rw [decide_eq_false e]
        refine ⟨_, rfl, iteF ?_⟩
        rw [crTo_no e]
    · rintro H2 rfl
      have e : ((l.length : Int) - 1).toNat = l.length - 1 := by omega
      rw [e, crTo_all]
      exact q D hD
def sp_left : Sp := fun vs H Q _ => ∃ (l : List Nat) (c : Nat), vs = [vS l, vI c] ∧ l.length ≤ 1000 ∧ c ≤ l.length ∧ Q (vS (left l c)) H
theorem ok__law_left (T : Txt K mg) : Fn P w K mg base CX0 1 "_law_left" ["text", "crease"] sp_left := by
  refine T.d__law_left.fn fun f fd F => F.ok sc__law_left (fun vs H Q E h => ?_) (fun cdv A outer s H vs Q E hr h => ?_)
  · obtain ⟨l, c, rfl, _⟩ := h
    rfl
  · obtain ⟨l, c, rfl, hl, hc, q⟩ := h
    refine ⟨_, pss_one (ps_ret (pe_ifExp (pt_cmpR op_gt (pv 1) (pe_op op_sub (pe_callB call_lenS (by rfl) T.b_len PySem.boot_len (pa_cons (pv 0) pa_nil)) (pv 1)) (nomark _))
      (pe_slice sl_S (pv 0) po_none (po_some (pv 1))) (pe_slice sl_S (pv 0) (po_some (pv 1)) po_none))), ?_⟩
    refine ⟨_, rfl, _, rfl, l, rfl, by omega, _, rfl, _, _, rfl, rfl, _, _, rfl, rfl, _, rfl, ite2 (fun k => ?_) (fun k => ?_)⟩
    · have c' : (l.length : Int) - (c : Int) < (c : Int) := of_decide_eq_true k
      refine ⟨_, rfl, _, rfl, _, rfl, l, rfl, by omega, ?_⟩
      rw [cut_to _ (by omega), Int.toNat_natCast]
      unfold left at q
      rw [if_neg (by omega)] at q
      exact q
    · have c' : ¬ (l.length : Int) - (c : Int) < (c : Int) := fun z => k (decide_eq_true z)
      refine ⟨_, rfl, _, rfl, _, rfl, l, rfl, by omega, ?_⟩
      rw [cut_from _ (by omega), Int.toNat_natCast]
      unfold left at q
      rw [if_pos (by omega)] at q
      exact q
/-! ### the program's -/
theorem ok_lies_well (T : Txt K mg) : Fn P w K mg base CX0 1 "lies_well" ["strip", "crease"] sp_lies := by
  refine T.d_lies_well.fn fun f fd F => F.ok sc_lies_well (fun vs H Q E h => ?_) (fun cdv A outer s H vs Q E hr h => ?_)
  · obtain ⟨l, c, rfl, _⟩ := h
    rfl
  · obtain ⟨l, c, rfl, hl, c1, c2, q⟩ := h
    refine ⟨_, pss_cons (ps_set (i := 2) sc_lies_well.nd rfl (.inl rfl) (pe_callB (call_min2 rfl) (by rfl) T.b_min (by decide +kernel) (pa_cons (pv 1) (pa_cons (pe_op op_sub (pe_callB call_lenS (by rfl) T.b_len PySem.boot_len (pa_cons (pv 0) pa_nil)) (pv 1)) pa_nil))))
      (pss_one (ps_ret (pe_cmpR op_eq (pe_slice sl_S (pv 0) (po_some (pe_op op_sub (pv 1) (pv 2))) (po_some (pv 1))) (pe_revS (pe_slice sl_S (pv 0) (po_some (pv 1)) (po_some (pe_op op_add (pv 1) (pv 2))))) (nomark _)))), ?_⟩
    refine ⟨_, rfl, _, rfl, l, rfl, by omega, _, rfl, _, _, rfl, rfl, _, _, rfl, ?_⟩
    have em : (if (l.length : Int) - (c : Int) < (c : Int) then (l.length : Int) - (c : Int) else (c : Int)) = ((min c (l.length - c) : Nat) : Int) := by split <;> omega
    rw [em]
    have hr1 : min c (l.length - c) ≤ c := Nat.min_le_left _ _
    have hr2 : min c (l.length - c) ≤ l.length - c := Nat.min_le_right _ _
    have main := lies_rev_iff c1 c2
    generalize min c (l.length - c) = r at hr1 hr2 main ⊢
    refine ⟨vS l, rfl, _, rfl, _, rfl, _, _, rfl, rfl, _, rfl, _, rfl, _, rfl, l, rfl, by omega, vS l, rfl, _, rfl, _, rfl, _, rfl, _, rfl, _, _, rfl, rfl, _, rfl, l, rfl, by omega, _, rfl, big (Nat.le_trans (cut_len _ _ _) (by omega)), rfl, ?_⟩
    rw [vS_dec]
    have e1 : cutL l (some ((c : Int) - (r : Int))) (some (c : Int)) = (l.drop (c - r)).take (c - (c - r)) := by
      rw [cut_mid _ (by omega) (by omega) (by omega)]
      congr 1
      · omega
      · congr 1
        omega
    have e2 : cutL l (some (c : Int)) (some ((c : Int) + (r : Int))) = (l.drop c).take (c + r - c) := by
      rw [cut_mid _ (by omega) (by omega) (by omega)]
      congr 1
    rw [e1, e2, decide_eq_decide.mpr main]
    exact q
theorem ok_creases (T : Txt K mg) : Fn P w K mg base CX0 2 "creases" ["strip"] sp_creases := by
  have GL := ok_lies_well (P := P) (w := w) (base := base) T
  refine T.d_creases.fn fun f fd F => F.ok sc_creases (fun vs H Q E h => ?_) (fun cdv A outer s H vs Q E hr h => ?_)
  · obtain ⟨l, rfl, _⟩ := h
    rfl
  · obtain ⟨l, rfl, hl, q⟩ := h
    refine ⟨_, pss_one (ps_ret (pe_lc (own := [("crease", 1)]) (g := gName 1) rfl sc_creases.nd (pi_range2 rfl T.b_range (pa_cons pe_int (pa_cons (pe_callB call_lenS (by rfl) T.b_len PySem.boot_len (pa_cons (pv 0) pa_nil)) pa_nil)))
      (blkOk_by (own := [("crease", 1)]) (N := ["strip", "crease"]) (sc := defScope s_creases) (by decide +kernel)) (fun _ _ _ _ _ => pg_name (i := 1) sc_creases.nd rfl (Or.inl rfl))
      (fun _ _ _ _ _ => pts_one (pt_val (pe_fn GL hr (pa_cons (pv 0) (pa_cons (pv 1) pa_nil))))) (fun _ _ _ _ _ => pv 1))), ?_⟩
    refine ⟨_, rfl, l, rfl, by omega, _, _, rfl, ⟨by decide, by decide, by omega, by omega⟩, fun D hD => ?_⟩
    refine lc_range (lo := 1) (n := ((l.length : Int) - 1).toNat) (fun i H2 => H2 = upd H D (.lst ((crTo l i).map vI))) rfl ?_ ?_
    · rintro i H2 hi rfl
      refine ⟨rfl, vS l, rfl, .int (1 + (i : Int)), rfl, l, 1 + i, congrArg (fun z => [vS l, V.int z]) (by omega), hl, by omega, by omega, ?_⟩
      by_cases e : Lies l (1 + i)
      · rw [decide_eq_true e]
        refine ⟨_, rfl, iteT ?_⟩
        refine ⟨_, rfl, _, upd_same, ?_, ?_⟩
        · rw [List.length_map]
          have := crTo_len l i
          exact small1000 (by omega)
        · rw [upd_upd, crTo_yes e, List.map_append]
          rfl
      · rw [decide_eq_false e]
        refine ⟨_, rfl, iteF ?_⟩
        rw [crTo_no e]
    · rintro H2 rfl
      have e : ((l.length : Int) - 1).toNat = l.length - 1 := by omega
      rw [e, crTo_all]
      exact q D hD
theorem ok_left_of (T : Txt K mg) : Fn P w K mg base CX0 1 "left_of" ["strip", "crease"] sp_left := by
  refine T.d_left_of.fn fun f fd F => F.ok sc_left_of (fun vs H Q E h => ?_) (fun cdv A outer s H vs Q E hr h => ?_)
  · obtain ⟨l, c, rfl, _⟩ := h
    rfl
  · obtain ⟨l, c, rfl, hl, hc, q⟩ := h
    refine ⟨_, pss_one (ps_ret (pe_ifExp (pt_cmpR op_le (pe_op op_mul pe_int (pv 1)) (pe_callB call_lenS (by rfl) T.b_len PySem.boot_len (pa_cons (pv 0) pa_nil)) (nomark _))
      (pe_slice sl_S (pv 0) (po_some (pv 1)) po_none) (pe_slice sl_S (pv 0) po_none (po_some (pv 1))))), ?_⟩
    refine ⟨_, rfl, _, _, rfl, rfl, .inl ⟨by decide, by decide⟩, _, rfl, l, rfl, by omega, _, _, rfl, rfl, _, rfl, ite2 (fun k => ?_) (fun k => ?_)⟩
    · have c' : 2 * (c : Int) ≤ (l.length : Int) := of_decide_eq_true k
      refine ⟨_, rfl, _, rfl, _, rfl, l, rfl, by omega, ?_⟩
      rw [cut_from _ (by omega), Int.toNat_natCast]
      unfold left at q
      rw [if_pos (by omega)] at q
      exact q
    · have c' : ¬ 2 * (c : Int) ≤ (l.length : Int) := fun z => k (decide_eq_true z)
      refine ⟨_, rfl, _, rfl, _, rfl, l, rfl, by omega, ?_⟩
      rw [cut_to _ (by omega), Int.toNat_natCast]
      unfold left at q
      rw [if_neg (by omega)] at q
      exact q
end
end Lk

namespace Lk
open PySem PySem.Spec PyProof.Rows L2
/-! ### least strips, all that come -/
open Fo
section
variable {P : Program} {w : World} {K : PySem.W.Frag} {mg : Str → Option Value} {base : Heap}
def sp_least : Sp := fun vs H Q _ => ∃ (l : List Nat), vs = [vS l] ∧ l.length ≤ 1000 ∧ ∀ H', Same H H' → Q (vS (least l)) H'
theorem ok_least (T : Txt K mg) : Fn P w K mg base CX0 3 "least" ["strip"] sp_least := by
  have GC := ok_creases (P := P) (w := w) (base := base) T
  have GL := ok_left_of (P := P) (w := w) (base := base) T
  refine T.d_least.fn fun f fd F => F.ok sc_least (fun vs H Q E h => ?_) (fun cdv A outer s H vs Q E hr h => ?_)
  · obtain ⟨l, rfl, _⟩ := h
    rfl
  · obtain ⟨l, rfl, hl, q⟩ := h
    refine ⟨_, pss_cons (ps_set (i := 1) sc_least.nd rfl (.inl rfl) (pe_fn GC hr (pa_cons (pv 0) pa_nil)))
      (pss_cons (ps_while PassesOwn.never (pt_truth (pv 1) (by intro _; rfl))
        (pss_cons (ps_set (i := 0) sc_least.nd rfl (.inl rfl) (pe_fn GL hr (pa_cons (pv 0) (pa_cons (pe_ix ix_list (pv 1) pe_int (fun _ _ => rfl)) pa_nil))))
        (pss_one (ps_set (i := 1) sc_least.nd rfl (.inl rfl) (pe_fn GC hr (pa_cons (pv 0) pa_nil))))))
      (pss_one (ps_ret (pe_callB (call_minS rfl) (by rfl) T.b_min (by decide +kernel) (pa_cons (pv 0) (pa_cons (pe_revS (pv 0)) pa_nil)))))), ?_⟩
    refine ⟨_, rfl, l, rfl, hl, fun p hp => ?_⟩
    refine ⟨fun m σ H' => ∃ (t : L) (p : Addr), σ = [some (vS t), some (.ref p)] ∧ H' p = some (.lst ((creases t).map vI)) ∧ Same H H' ∧ Comes l t ∧ m = t.length,
      ⟨l.length, l, p, rfl, upd_same, Same.upd hp, .refl l, rfl⟩, ?_⟩
    rintro m σ H' ⟨t, p', rfl, hp', sm, ct, rfl⟩
    have lt := ct.len
    refine ⟨_, rfl, _, .inl ⟨_, SqL.of hp', rfl⟩, ?_⟩
    cases ec : creases t with
    | nil =>
      refine iteF ?_
      have nt : NF t := nf_iff.mpr ec
      refine ⟨_, rfl, _, rfl, t, rfl, big (by omega), _, _, rfl, ?_⟩
      have e : (if t.reverse < t then t.reverse else t) = least l := (least_of ct nt).symm
      rw [e]
      exact q H' sm
    | cons c r =>
      refine iteT ?_
      have hc : Cr t c := mem_creases.mp (by rw [ec]; exact List.mem_cons_self ..)
      rw [ec] at hp'
      refine ⟨fun σ' H2 => ∃ m', m' < t.length ∧ ∃ (t : L) (p : Addr), σ' = [some (vS t), some (.ref p)] ∧ H2 p = some (.lst ((creases t).map vI)) ∧ Same H H2 ∧ Comes l t ∧ m' = t.length, fun _ _ z => z, ?_⟩
      refine ⟨_, rfl, _, rfl, p', _, 0, vI c, rfl, rfl, SqL.of hp', atI_nat (j := 0) rfl, t, c, rfl, by omega, Nat.le_of_lt hc.2.1, ?_⟩
      have ll := left_len hc
      refine ⟨_, rfl, left t c, rfl, by omega, fun p2 hp2 => ?_⟩
      exact ⟨_, ll.1, left t c, p2, rfl, upd_same, Same.upd' sm hp2, ct.trans (.one hc), rfl⟩
/-- all strips that come of one, longer ones behind -/
def sp_all_of : Sp := fun vs H Q _ => ∃ (l : List Nat), vs = [vS l] ∧ l.length ≤ 100 ∧ ∀ H' p (xs : List L), H p = none → Same H H' → H' p = some (.lst (xs.map vS)) → xs.Nodup → (∀ t, t ∈ xs ↔ Comes l t) → xs.Pairwise (fun a b => a.length ≤ b.length) → Q (.ref p) H'
theorem n_bound {l : L} {fs : List L} (hl : l.length ≤ 100) (nd : fs.Nodup) (rc : ∀ t ∈ fs, Rch nxtF [l] t) : fs.length ≤ 10201 := by
  have h := found_le nd fun t ht => rch_comes.mp (rc t ht)
  have : (l.length + 1) * (l.length + 1) ≤ 101 * 101 := Nat.mul_le_mul (by omega) (by omega)
  omega
end
end Lk

namespace Lk
open PySem PySem.Spec PyProof.Rows L2
/-! ### is_strip -/
open Fo
/-- a strip: 1 to 24 signs, each a, b, c or d -/
def isStrip (l : L) : Bool := decide (1 ≤ l.length ∧ l.length ≤ 24) && l.all fun c => decide (c ∈ [97, 98, 99, 100])
theorem isStrip_of {l : L} (h1 : 1 ≤ l.length) (h2 : l.length ≤ 24) (h3 : Sg l) : isStrip l = true := by
  unfold isStrip
  rw [decide_eq_true ⟨h1, h2⟩, Bool.true_and, List.all_eq_true]
  intro c hc
  have := h3 c hc
  have h4 : c = 97 ∨ c = 98 ∨ c = 99 ∨ c = 100 := by omega
  rcases h4 with e | e | e | e <;> subst e <;> decide
section
variable {P : Program} {w : World} {K : PySem.W.Frag} {mg : Str → Option Value} {base : Heap}
def sp_is_strip (K : PySem.W.Frag) : Sp := fun vs H Q _ => (∃ (l : List Nat), vs = [vS l] ∧ l.length ≤ 1000 ∧ ∀ H', Same H H' → Q (.bl (isStrip l)) H') ∨
  ∃ (x : V) (t : Value), vs = [x] ∧ TyX K H x t ∧ PySem.W.kitOne K t (.type "str") = some false ∧ ∀ H', Same H H' → Q (.bl false) H'
theorem ok_is_strip (T : Txt K mg) : Fn P w K mg base CX0 1 "is_strip" ["thing"] (sp_is_strip K) := by
  obtain ⟨tM, gM⟩ := T.g_MOST
  obtain ⟨tS, gS⟩ := T.g_SIGNS
  refine T.d_is_strip.fn fun f fd F => F.ok sc_is_strip (fun vs H Q E h => ?_) (fun cdv A outer s H vs Q E hr h => ?_)
  · rcases h with ⟨l, rfl, _⟩ | ⟨x, t, rfl, _⟩ <;> rfl
  · refine ⟨_, pss_one (ps_ret (pe_and (pe_callB call_isi (by rfl) T.b_isinstance (by decide +kernel) (pa_cons (pv 0) (pa_cons (pe_bltn (v := .ty "str") (by rfl) T.b_str (by decide +kernel) rfl) pa_nil)))
      (pe_and (pe_chain op_le op_le pe_int (pe_callB call_lenS (by rfl) T.b_len PySem.boot_len (pa_cons (pv 0) pa_nil)) (pe_glob (v := .int 24) rfl gM ⟨_, rfl⟩))
      (pe_one (pe_callB (cr_all rfl) (by rfl) T.b_all (by decide +kernel) (pa_cons (pe_lc (own := [("sign", 1)]) (g := gName 1) (tt := tYes) rfl sc_is_strip.nd (pi_str (pv 0))
        (blkOk_by (own := [("sign", 1)]) (N := ["thing", "sign"]) (sc := defScope s_is_strip) (by decide +kernel)) (fun _ _ _ _ _ => pg_name (i := 1) sc_is_strip.nd rfl (Or.inl rfl))
        (fun _ _ _ _ _ => pts_nil) (fun _ _ _ _ _ => pe_cmpR op_in_sign (pv 1) (pe_glob (v := .str "abcd") rfl gS ⟨_, rfl⟩) (by rfl))) pa_nil)))))), ?_⟩
    rcases h with ⟨l, rfl, hl, q⟩ | ⟨x, t, rfl, ht, hk, q⟩
    · refine ⟨_, rfl, vS l, .ty "str", .type "str", .type "str", true, rfl, .ty _, .base (.str _), kit_ty (by decide +kernel), true, rfl, iteT ?_⟩
      refine ⟨_, rfl, l, rfl, by omega, _, _, rfl, rfl, _, rfl, ite2 (fun c => ?_) (fun c => ?_)⟩
      · have c' : (1 : Int) ≤ (l.length : Int) := of_decide_eq_true c
        refine ⟨_, _, rfl, rfl, _, rfl, ite2 (fun c2 => ?_) (fun c2 => ?_)⟩
        · have c2' : (l.length : Int) ≤ 24 := of_decide_eq_true c2
          refine ⟨_, rfl, S l, rfl, fun D hD => ?_⟩
          refine lc_str (l := l) (fun i H2 => H2 = upd H D (.lst ((l.take i).map fun c => V.bl (decide (c ∈ [97, 98, 99, 100]))))) rfl ?_ ?_
          · rintro i c H2 hc rfl
            refine ⟨rfl, _, rfl, c, "abcd", rfl, rfl, _, upd_same, ?_, ?_⟩
            · rw [List.length_map, List.length_take]
              exact small1000 (by omega)
            · rw [upd_upd, List.take_add_one, hc, List.map_append]
              rfl
          · rintro H2 rfl
            rw [List.take_length]
            refine ⟨D, l.map fun c => decide (c ∈ [97, 98, 99, 100]), rfl, SqL.of (by rw [upd_same, List.map_map]; rfl), ?_⟩
            have e : isStrip l = (l.map fun c => decide (c ∈ [97, 98, 99, 100])).all id := by
              unfold isStrip
              rw [decide_eq_true ⟨by omega, by omega⟩, List.all_map]
              rfl
            rw [← e]
            exact q _ (Same.upd hD)
        · have c2' : ¬ (l.length : Int) ≤ 24 := fun z => c2 (decide_eq_true z)
          have e : isStrip l = false := by
            unfold isStrip
            rw [decide_eq_false (by omega)]
            rfl
          rw [e] at q
          exact q _ (Same.refl H)
      · have c' : ¬ (1 : Int) ≤ (l.length : Int) := fun z => c (decide_eq_true z)
        have e : isStrip l = false := by
          unfold isStrip
          rw [decide_eq_false (by omega)]
          rfl
        rw [e] at q
        exact ⟨_, rfl, q _ (Same.refl H)⟩
    · refine ⟨_, rfl, x, .ty "str", t, .type "str", false, rfl, .ty _, ht, hk, false, rfl, ?_⟩
      exact q _ (Same.refl H)
end
end Lk

namespace Lk
open PySem PySem.Spec PyProof.Rows L2
/-! ### unfolding, all that comes -/
open Fo
section
variable {P : Program} {w : World} {K : PySem.W.Frag} {mg : Str → Option Value} {base : Heap}
def sp_unfolded : Sp := fun vs H Q _ => ∃ (l : List Nat) (e m : Nat), vs = [vS l, vI e, vI m] ∧ l.length ≤ 1000 ∧ (e, m) ∈ waysL l.length ∧ Q (vS (unfL l (e, m))) H
theorem ok_unfolded (T : Txt K mg) : Fn P w K mg base CX0 1 "unfolded" ["strip", "end", "many"] sp_unfolded := by
  refine T.d_unfolded.fn fun f fd F => F.ok sc_unfolded (fun vs H Q E h => ?_) (fun cdv A outer s H vs Q E hr h => ?_)
  · obtain ⟨l, e, m, rfl, _⟩ := h
    rfl
  · obtain ⟨l, e, m, rfl, hl, hw, q⟩ := h
    refine ⟨_, pss_cons (ps_if (pt_cmpR op_eqI (pv 1) pe_int (nomark _)) (pss_one (ps_ret (pe_op op_catS (pe_revS (pe_slice sl_S (pv 0) po_none (po_some (pv 2)))) (pv 0)))) pss_nil)
      (pss_one (ps_ret (pe_op op_catS (pv 0) (pe_revS (pe_slice sl_S (pv 0) (po_some (pe_op op_sub (pe_callB call_lenS (by rfl) T.b_len PySem.boot_len (pa_cons (pv 0) pa_nil)) (pv 2))) po_none))))), ?_⟩
    have hm : m ≤ l.length := by
      rcases mem_ways.mp hw with ⟨_, _, h⟩ | ⟨_, _, h⟩
      · exact h
      · exact Nat.le_of_lt h
    refine ⟨_, rfl, _, _, rfl, rfl, _, rfl, ite2 (fun c => ?_) (fun c => ?_)⟩
    · have c' : (e : Int) = 0 := of_decide_eq_true c
      have e0 : e = 0 := by omega
      refine ⟨_, rfl, _, rfl, _, rfl, l, rfl, by omega, _, rfl, big (Nat.le_trans (cut_len _ _ _) (by omega)), ?_⟩
      rw [cut_to _ (by omega), Int.toNat_natCast]
      refine ⟨_, rfl, _, _, rfl, rfl, by rw [List.length_reverse, List.length_take]; omega, ?_⟩
      have : unfL l (e, m) = (l.take m).reverse ++ l := by unfold unfL; rw [if_pos e0]
      rw [this] at q
      exact q
    · have c' : ¬ (e : Int) = 0 := fun z => c (decide_eq_true z)
      refine ⟨_, rfl, _, rfl, _, rfl, l, rfl, by omega, _, rfl, _, _, rfl, rfl, _, rfl, l, rfl, by omega, _, rfl, big (Nat.le_trans (cut_len _ _ _) (by omega)), ?_⟩
      rw [cut_from _ (by omega), show ((l.length : Int) - (m : Int)).toNat = l.length - m by omega]
      refine ⟨_, _, rfl, rfl, by rw [List.length_reverse, List.length_drop]; omega, ?_⟩
      have : unfL l (e, m) = l ++ (l.drop (l.length - m)).reverse := by unfold unfL; rw [if_neg (by show ¬ e = 0; omega)]
      rw [this] at q
      exact q
/-- a list of ways stands at p -/
def WaysAt (H : Hp) (p : Addr) (ws : List (Nat × Nat)) : Prop := ∃ as : List Addr, H p = some (.lst (as.map V.ref)) ∧ as.length = ws.length ∧ ∀ (i : Nat) (a : Addr) (w : Nat × Nat), as[i]? = some a → ws[i]? = some w → H a = some (.tup [vI w.1, vI w.2])
theorem WaysAt.same {H H' : Hp} {p : Addr} {ws : List (Nat × Nat)} (h : WaysAt H p ws) (s : Same H H') : WaysAt H' p ws := by
  obtain ⟨as, h1, h2, h3⟩ := h
  exact ⟨as, s _ _ h1, h2, fun i a (w : Nat × Nat) ha hw => s _ _ (h3 i a w ha hw)⟩
theorem WaysAt.snoc {H H' : Hp} {p a : Addr} {ws : List (Nat × Nat)} {w : Nat × Nat} (h : WaysAt H p ws) (hb : ∀ x o, x ≠ p → H x = some o → H' x = some o) (ha : H' a = some (.tup [vI w.1, vI w.2]))
    {xs : List V} (hx : H p = some (.lst xs)) (hp : H' p = some (.lst (xs ++ [.ref a]))) : WaysAt H' p (ws ++ [w]) := by
  obtain ⟨as, h1, h2, h3⟩ := h
  rw [h1] at hx
  injection hx with hx
  injection hx with hx
  subst hx
  refine ⟨as ++ [a], by rw [hp, List.map_append]; rfl, by rw [List.length_append, List.length_append, h2]; rfl, fun i b v hb' hv => ?_⟩
  by_cases hi : i < as.length
  · rw [List.getElem?_append_left hi] at hb'
    rw [List.getElem?_append_left (by omega)] at hv
    refine hb b _ (fun e => ?_) (h3 i b v hb' hv)
    have := h3 i b v hb' hv
    rw [e, h1] at this
    cases this
  · rw [List.getElem?_append_right (by omega)] at hb' hv
    have e0 : i - as.length = 0 := by
      cases e : i - as.length with
      | zero => rfl
      | succ n => rw [e] at hb'; simp at hb'
    rw [e0] at hb'
    rw [show i - ws.length = 0 by omega] at hv
    have e1 : a = b := by simpa using hb'
    have e2 : w = v := by simpa using hv
    subst e1 e2
    exact ha
def sp_ways : Sp := fun vs H Q _ => ∃ (l : List Nat), vs = [vS l] ∧ l.length ≤ 1000 ∧ ∀ H' p, H p = none → Same H H' → WaysAt H' p (waysL l.length) → Q (.ref p) H'
end
end Lk

namespace Lk
open PySem PySem.Spec PyProof.Rows L2
/-! ### is_from, is_crease, folded -/
open Fo
section
variable {P : Program} {w : World} {K : PySem.W.Frag} {mg : Str → Option Value} {base : Heap}
/-- not an int -/
def NoInt (K : PySem.W.Frag) (H : Hp) (x : V) : Prop := (∃ b, x = .bl b) ∨ ∃ t, TyX K H x t ∧ PySem.W.kitOne K t (.type "int") = some false
def sp_is_from (K : PySem.W.Frag) : Sp := fun vs H Q _ => (∃ x lo hi : Int, vs = [.int x, .int lo, .int hi] ∧ Q (.bl (decide (lo ≤ x ∧ x ≤ hi))) H) ∨
  ∃ (x : V) (lo hi : Int), vs = [x, .int lo, .int hi] ∧ NoInt K H x ∧ Q (.bl false) H
theorem ok_is_from (T : Txt K mg) : Fn P w K mg base CX0 1 "is_from" ["thing", "low", "high"] (sp_is_from K) := by
  refine T.d_is_from.fn fun f fd F => F.ok sc_is_from (fun vs H Q E h => ?_) (fun cdv A outer s H vs Q E hr h => ?_)
  · rcases h with ⟨x, lo, hi, rfl, _⟩ | ⟨x, lo, hi, rfl, _⟩ <;> rfl
  · 
    refine ⟨_, pss_one (ps_ret (pe_and (pe_callB call_isi (by rfl) T.b_isinstance (by decide +kernel) (pa_cons (pv 0) (pa_cons (pe_bltn (v := .ty "int") (by rfl) T.b_int (by decide +kernel) rfl) pa_nil))) (pe_and (pe_not (pe_callB call_isi (by rfl) T.b_isinstance (by decide +kernel) (pa_cons (pv 0) (pa_cons (pe_bltn (v := .ty "bool") (by rfl) T.b_bool (by decide +kernel) rfl) pa_nil)))) (pe_one (pe_chain op_le op_le (pv 1) (pv 0) (pv 2)))))), ?_⟩
    rcases h with ⟨x, lo, hi, rfl, q⟩ | ⟨x, lo, hi, rfl, ⟨b, rfl⟩ | ⟨t, ht, hk⟩, q⟩
    · refine ⟨_, rfl, .int x, .ty "int", .type "int", .type "int", true, rfl, .ty _, .base (.int _), kit_ty (by decide +kernel), true, rfl, iteT ?_⟩
      refine ⟨_, rfl, .int x, .ty "bool", .type "int", .type "bool", false, rfl, .ty _, .base (.int _), kit_ty (by decide +kernel), false, rfl, true, rfl, iteT ?_⟩
      refine ⟨_, rfl, _, rfl, _, _, rfl, rfl, _, rfl, ite2 (fun c => ?_) (fun c => ?_)⟩
      · have c' : lo ≤ x := of_decide_eq_true c
        refine ⟨_, rfl, _, _, rfl, rfl, ?_⟩
        rw [decide_eq_decide.mpr (show (lo ≤ x ∧ x ≤ hi) ↔ x ≤ hi from ⟨fun z => z.2, fun z => ⟨c', z⟩⟩)] at q
        exact q
      · have c' : ¬ lo ≤ x := fun z => c (decide_eq_true z)
        rw [decide_eq_false (fun z => c' z.1)] at q
        exact q
    · refine ⟨_, rfl, .bl b, .ty "int", .type "bool", .type "int", true, rfl, .ty _, .base (.bl _), kit_ty (by decide +kernel), true, rfl, iteT ?_⟩
      exact ⟨_, rfl, .bl b, .ty "bool", .type "bool", .type "bool", true, rfl, .ty _, .base (.bl _), kit_ty (by decide +kernel), true, rfl, false, rfl, q⟩
    · exact ⟨_, rfl, x, .ty "int", t, .type "int", false, rfl, .ty _, ht, hk, false, rfl, q⟩
def sp_is_crease (K : PySem.W.Frag) : Sp := fun vs H Q _ => (∃ (l : L) (x : Int), vs = [vS l, .int x] ∧ l.length ≤ 1000 ∧ Q (.bl (decide (0 ≤ x ∧ Cr l x.toNat))) H) ∨
  ∃ (l : L) (x : V), vs = [vS l, x] ∧ l.length ≤ 1000 ∧ NoInt K H x ∧ Q (.bl false) H
theorem ok_is_crease (T : Txt K mg) : Fn P w K mg base CX0 2 "is_crease" ["strip", "thing"] (sp_is_crease K) := by
  have G_is_from := ok_is_from (P := P) (w := w) (base := base) T
  have G_lies_well := ok_lies_well (P := P) (w := w) (base := base) T
  refine T.d_is_crease.fn fun f fd F => F.ok sc_is_crease (fun vs H Q E h => ?_) (fun cdv A outer s H vs Q E hr h => ?_)
  · rcases h with ⟨l, x, rfl, _⟩ | ⟨l, x, rfl, _⟩ <;> rfl
  · 
    refine ⟨_, pss_one (ps_ret (pe_and (pe_fn G_is_from hr (pa_cons (pv 1) (pa_cons pe_int (pa_cons (pe_op op_sub (pe_callB call_lenS (by rfl) T.b_len PySem.boot_len (pa_cons (pv 0) pa_nil)) pe_int) pa_nil)))) (pe_one (pe_fn G_lies_well hr (pa_cons (pv 0) (pa_cons (pv 1) pa_nil)))))), ?_⟩
    rcases h with ⟨l, x, rfl, hl, q⟩ | ⟨l, x, rfl, hl, hx, q⟩
    · refine ⟨_, rfl, _, rfl, l, rfl, by omega, _, _, rfl, rfl, .inl ⟨x, 1, _, rfl, ?_⟩⟩
      refine ⟨_, rfl, ite2 (fun c => ?_) (fun c => ?_)⟩
      · have c' : 1 ≤ x ∧ x ≤ (l.length : Int) - 1 := of_decide_eq_true c
        refine ⟨_, rfl, _, rfl, l, x.toNat, by show [vS l, V.int x] = [vS l, V.int ((x.toNat : Nat) : Int)]; rw [Int.toNat_of_nonneg (by omega)], hl, by omega, by omega, ?_⟩
        rw [decide_eq_decide.mpr (show (0 ≤ x ∧ Cr l x.toNat) ↔ Lies l x.toNat from ⟨fun z => z.2.2.2, fun z => ⟨by omega, by omega, by omega, z⟩⟩)] at q
        exact q
      · have c' : ¬ (1 ≤ x ∧ x ≤ (l.length : Int) - 1) := fun z => c (decide_eq_true z)
        rw [decide_eq_false (fun z => c' ⟨by have := z.2.1; omega, by have := z.2.2.1; omega⟩)] at q
        exact q
    · exact ⟨_, rfl, _, rfl, l, rfl, by omega, _, _, rfl, rfl, .inr ⟨x, 1, _, rfl, hx, false, rfl, q⟩⟩
end
end Lk

namespace Lk
open PySem PySem.Spec PyProof.Rows L2
/-! ### of every law -/
open Fo
theorem same_but {b : Addr} {H H1 H2 : Hp} (s : Same H H1) (n : H b = none) (e : But b H1 H2) : Same H H2 := fun a o q => e a o (ne_of_none q n) (s a o q)
def sp_law (K : PySem.W.Frag) : Sp := fun vs H Q _ => ∃ (a : Addr) (ns : List Int), vs = [.ref a] ∧ SqL K H a (ns.map V.int) ∧ ns.length ≤ 63 ∧ ∀ H', Q (.bl true) H'
theorem map_get {α : Type} {f : α → V} {xs : List α} {i : Nat} {x : V} (h : (xs.map f)[i]? = some x) : ∃ u, xs[i]? = some u ∧ x = f u := ym_of h
theorem cutV_to {α : Type} (f : α → V) (xs : List α) (n : Nat) : cutV (xs.map f) none (some (n : Int)) = (xs.take n).map f := by
  unfold cutV
  rw [HT.sIx_none, HT.sIx_nat, List.drop_zero, Nat.sub_zero, List.length_map, List.map_take]
  by_cases h : n ≤ xs.length
  · rw [Nat.min_eq_left h]
  · rw [Nat.min_eq_right (by omega), List.take_of_length_le (by rw [List.length_map]; exact Nat.le_refl _), List.take_of_length_le (by rw [List.length_map]; omega)]
/-- x if c else y, both constants -/
theorem ite_tC {c : Bool} {σ : L2.St} {H : Hp} {Q : VK} {x y : V} (h : ∀ v, v = x ∨ v = y → Q v H) : if c = true then tC x σ H Q else tC y σ H Q := by
  cases c
  · exact h y (.inr rfl)
  · exact h x (.inl rfl)
theorem ite_pick {c : Bool} {σ : L2.St} {H : Hp} {Q : VK} {x y v : V} (hv : v = if c = true then x else y) (h : Q v H) : if c = true then tC x σ H Q else tC y σ H Q := by
  subst hv
  cases c
  · exact h
  · exact h
section
variable {X : Cx} {x : Str} {ps : List Str} {k j : Nat} {sp : Sp} {p pos : Pos}
/-- x(), nothing raised -/
theorem pe_fn0 (F : Fn X.prog X.w X.K X.mg X.base CX0 k x ps sp) (hr : Room j X.A) (hj : k ≤ j := by decide) (hg : Gl X x := by rfl) (hdb : (x == ("__debug__" : Str)) = false := by decide) :
    PE X (.Call (.Name x p) [] [] pos) (fun _ H Q => sp [] H Q E0) := by
  obtain ⟨f, fd, a, b, c, d⟩ := F
  have z := pe_call0 (E := E0) (p := p) (pos := pos) d (hr.mono hj) hg a b c .nil pass0 hdb
  exact ⟨fun pins s σ H Q I h => z.run pins s σ H Q I h⟩
end
end Lk

namespace Lk
open PySem PySem.Spec PyProof.Rows L2
/-! ### kin, verdicts -/
open Fo
/-- the kind of a value -/
inductive Tg (H : Hp) : V → String → Prop where
  | bl (b : Bool) : Tg H (.bl b) "bool"
  | int (i : Int) : Tg H (.int i) "int"
  | str (l : L) : Tg H (vS l) "str"
  | non : Tg H .non "NoneType"
  | lst {a : Addr} {xs : List V} (e : H a = some (.lst xs)) : Tg H (.ref a) "list"
  | tup {a : Addr} {xs : List V} (e : H a = some (.tup xs)) : Tg H (.ref a) "tuple"
theorem Tg.same {H H' : Hp} {x : V} {n : String} (t : Tg H x n) (s : Same H H') : Tg H' x n := by
  cases t with
  | bl b => exact .bl b
  | int i => exact .int i
  | str l => exact .str l
  | non => exact .non
  | lst e => exact .lst (s _ _ e)
  | tup e => exact .tup (s _ _ e)
theorem Tg.ty {K : PySem.W.Frag} {H : Hp} {x : V} {n : String} (t : Tg H x n) : TyX K H x (.type n) := by
  cases t with
  | bl b => exact .base (.bl _)
  | int i => exact .base (.int _)
  | str l => exact .base (.str _)
  | non => exact .base .non
  | lst e => exact .base (.lst e)
  | tup e => exact .base (.tup e)
theorem Tg.kit {K : PySem.W.Frag} {H : Hp} {x : V} {n : String} (t : Tg H x n) {m : String} (hm : m = "int" ∨ m = "bool" ∨ m = "str" ∨ m = "list" ∨ m = "tuple") :
    PySem.W.kitOne K (.type n) (.type m) = some (decide (n = m ∨ (n = "bool" ∧ m = "int"))) := by
  rcases hm with rfl | rfl | rfl | rfl | rfl <;> cases t <;> exact kit_ty (by decide +kernel)
theorem Tg.lists {H : Hp} {x : V} {n : String} (t : Tg H x n) : (∃ a xs, x = .ref a ∧ H a = some (.lst xs) ∧ n = "list") ∨ ((∀ a xs, x = .ref a → H a ≠ some (.lst xs)) ∧ n ≠ "list") := by
  cases t with
  | bl b => exact .inr ⟨fun a xs e => (by cases e), by decide⟩
  | int i => exact .inr ⟨fun a xs e => (by cases e), by decide⟩
  | str l => exact .inr ⟨fun a xs e => (by cases e), by decide⟩
  | non => exact .inr ⟨fun a xs e => (by cases e), by decide⟩
  | lst e => exact .inl ⟨_, _, rfl, e, rfl⟩
  | tup e => exact .inr ⟨fun a xs e1 e2 => (by rw [← V.ref.inj e1, e] at e2; cases e2), by decide⟩
theorem Tg.tups {H : Hp} {x : V} {n : String} (t : Tg H x n) : (∃ a xs, x = .ref a ∧ H a = some (.tup xs) ∧ n = "tuple") ∨ ((∀ a xs, x = .ref a → H a ≠ some (.tup xs)) ∧ n ≠ "tuple") := by
  cases t with
  | bl b => exact .inr ⟨fun a xs e => (by cases e), by decide⟩
  | int i => exact .inr ⟨fun a xs e => (by cases e), by decide⟩
  | str l => exact .inr ⟨fun a xs e => (by cases e), by decide⟩
  | non => exact .inr ⟨fun a xs e => (by cases e), by decide⟩
  | tup e => exact .inl ⟨_, _, rfl, e, rfl⟩
  | lst e => exact .inr ⟨fun a xs e1 e2 => (by rw [← V.ref.inj e1, e] at e2; cases e2), by decide⟩
theorem Tg.strs {H : Hp} {x : V} {n : String} (t : Tg H x n) : (∃ l, x = vS l ∧ n = "str") ∨ ((∀ l, x ≠ vS l) ∧ n ≠ "str") := by
  cases t with
  | bl b => exact .inr ⟨fun a e => (by cases e), by decide⟩
  | int i => exact .inr ⟨fun a e => (by cases e), by decide⟩
  | str l => exact .inl ⟨_, rfl, rfl⟩
  | non => exact .inr ⟨fun a e => (by cases e), by decide⟩
  | tup e => exact .inr ⟨fun a e => (by cases e), by decide⟩
  | lst e => exact .inr ⟨fun a e => (by cases e), by decide⟩
theorem Tg.noInt {K : PySem.W.Frag} {H : Hp} {x : V} {n : String} (t : Tg H x n) (hn : ∀ i, x ≠ .int i) : NoInt K H x := by
  have hk := t.kit (K := K) (m := "int") (.inl rfl)
  have ht := t.ty (K := K)
  cases t with
  | bl b => exact .inl ⟨b, rfl⟩
  | int i => exact absurd rfl (hn i)
  | str l => exact .inr ⟨_, ht, hk⟩
  | non => exact .inr ⟨_, ht, hk⟩
  | lst e => exact .inr ⟨_, ht, hk⟩
  | tup e => exact .inr ⟨_, ht, hk⟩
theorem Tg.ints {H : Hp} {x : V} {n : String} (t : Tg H x n) : (∃ j, x = .int j ∧ n = "int") ∨ (∃ b, x = .bl b ∧ n = "bool") ∨ ((∀ j, x ≠ .int j) ∧ n ≠ "int" ∧ n ≠ "bool") := by
  cases t with
  | bl b => exact .inr (.inl ⟨b, rfl, rfl⟩)
  | int i => exact .inl ⟨i, rfl, rfl⟩
  | str l => exact .inr (.inr ⟨fun j z => (by cases z), by decide, by decide⟩)
  | non => exact .inr (.inr ⟨fun j z => (by cases z), by decide, by decide⟩)
  | lst e => exact .inr (.inr ⟨fun j z => (by cases z), by decide, by decide⟩)
  | tup e => exact .inr (.inr ⟨fun j z => (by cases z), by decide, by decide⟩)
/-- an int, or none -/
theorem Tg.intOr {K : PySem.W.Frag} {H : Hp} {x : V} {n : String} (t : Tg H x n) : (∃ i : Int, x = .int i) ∨ NoInt K H x := by
  by_cases h : ∃ i : Int, x = .int i
  · exact .inl h
  · exact .inr (t.noInt fun i e => h ⟨i, e⟩)
/-- a crease, by what is told -/
def isCr (l : L) : V → Option Nat
  | .int i => if 0 ≤ i ∧ Cr l i.toNat then some i.toNat else none
  | _ => none
theorem isCr_some {l : L} {x : V} {c : Nat} (h : isCr l x = some c) : x = vI c ∧ Cr l c := by
  unfold isCr at h
  split at h
  · rename_i i
    by_cases hc : 0 ≤ i ∧ Cr l i.toNat
    · rw [if_pos hc] at h
      have := Option.some.inj h
      subst this
      exact ⟨by show V.int i = V.int ((i.toNat : Nat) : Int); rw [Int.toNat_of_nonneg hc.1], hc.2⟩
    · rw [if_neg hc] at h
      cases h
  · cases h
theorem isCr_vI {l : L} {c : Nat} (h : Cr l c) : isCr l (vI c) = some c := by
  show (if 0 ≤ (c : Int) ∧ Cr l (c : Int).toNat then some (c : Int).toNat else none) = some c
  rw [Int.toNat_natCast, if_pos ⟨by omega, h⟩]
theorem isCr_none {l : L} {x : V} (h : isCr l x = none) : ∀ c : Nat, x = vI c → ¬ Cr l c := fun c e hc => by
  subst e
  rw [isCr_vI hc] at h
  cases h
/-- the strip behind a row, or the place where it stops -/
def rowX (l : L) : List V → Nat → Nat ⊕ L
  | [], _ => .inr l
  | x :: xs, k => match isCr l x with
    | some c => rowX (left l c) xs (k + 1)
    | none => .inl k
def rowV : Nat ⊕ L → V
  | .inl k => vI k
  | .inr l => vS l
end Lk

namespace Lk
open PySem PySem.Spec PyProof.Rows L2
/-! ### what a comprehension has laid -/
open Fo
/-- what a comprehension over xs has laid at D before turn i -/
def PF {α : Type} (H0 : Hp) (D : Addr) (xs : List α) (p : α → Bool) (h : α → V) (i : Nat) (H : Hp) : Prop := Same H0 H ∧ H D = some (.lst (((xs.take i).filter p).map h))
theorem PF.init {α : Type} {H0 : Hp} {D : Addr} {xs : List α} {p : α → Bool} {h : α → V} (hD : H0 D = none) : PF H0 D xs p h 0 (upd H0 D (.lst [])) := ⟨Same.upd hD, upd_same⟩
theorem PF.acc {α : Type} {H0 H H4 : Hp} {D : Addr} {xs : List α} {p : α → Bool} {h : α → V} {i : Nat} {u : α} (f : PF H0 D xs p h i H) (hu : xs[i]? = some u) (hp : p u = true) (s : Same H H4) (hD : H0 D = none) (hl : xs.length ≤ 5000) :
    ∃ acc, H4 D = some (.lst acc) ∧ acc.length < sizeLine ∧ PF H0 D xs p h (i + 1) (upd H4 D (.lst (acc ++ [h u]))) := by
  refine ⟨_, s _ _ f.2, ?_, ?_, ?_⟩
  · rw [List.length_map]
    have h1 := List.length_filter_le p (xs.take i)
    rw [List.length_take] at h1
    rw [sizeLine_eq]
    omega
  · intro c o e
    rw [upd_ne (ne_of_none e hD)]
    exact s _ _ (f.1 _ _ e)
  · rw [upd_same, List.take_add_one, hu, List.filter_append, List.map_append]
    have e : (Option.toList (some u)).filter p = [u] := List.filter_cons_of_pos (p := p) hp
    rw [e]
    rfl
theorem PF.rej {α : Type} {H0 H H4 : Hp} {D : Addr} {xs : List α} {p : α → Bool} {h : α → V} {i : Nat} {u : α} (f : PF H0 D xs p h i H) (hu : xs[i]? = some u) (hp : p u = false) (s : Same H H4) : PF H0 D xs p h (i + 1) H4 := by
  refine ⟨f.1.trans s, ?_⟩
  rw [s _ _ f.2, List.take_add_one, hu, List.filter_append]
  have e : (Option.toList (some u)).filter p = [] := List.filter_cons_of_neg (p := p) (by rw [hp]; decide)
  rw [e, List.append_nil]
theorem PF.done {α : Type} {H0 H : Hp} {D : Addr} {xs : List α} {p : α → Bool} {h : α → V} (f : PF H0 D xs p h xs.length H) : H D = some (.lst ((xs.filter p).map h)) := by
  have := f.2
  rw [List.take_length] at this
  exact this
/-- list(x), what it asks told -/
def rListOf (K : PySem.W.Frag) : List V → Hp → VK → Prop := fun xs H Q => ∃ (p : Addr) (ys : List V), xs = [.ref p] ∧ (SqL K H p ys ∨ SqT K H p ys) ∧ ∀ l, H l = none → Q (.ref l) (upd H l (.lst ys))
theorem call_list_ofK {X : Cx} (K : PySem.W.Frag) (hk : X.K = K) : CallR X (.type "list") (rListOf K) := by subst hk; exact call_list_of
end Lk

namespace Lk
open PySem PySem.Spec PyProof.Rows L2
/-! ### k10: the kept strip -/
open Fo
/-- deeds -/
inductive De where
  | fold (c : Nat)
  | unf (e m : Nat)
  | turn
  deriving DecidableEq
def De.vs : De → List V
  | .fold c => [.str "fold", vI c]
  | .unf e m => [.str "unfold", vI e, vI m]
  | .turn => [.str "turn"]
/-- all but the objects at S stand as they were -/
def Bts (S : List Addr) (H H' : Hp) : Prop := ∀ x o, x ∉ S → H x = some o → H' x = some o
theorem Bts.refl {S : List Addr} {H : Hp} : Bts S H H := fun _ _ _ h => h
theorem Bts.trans {S : List Addr} {H H1 H2 : Hp} (a : Bts S H H1) (b : Bts S H1 H2) : Bts S H H2 := fun x o n h => b x o n (a x o n h)
theorem Bts.of {S : List Addr} {H H1 : Hp} (a : Same H H1) : Bts S H H1 := fun x o _ h => a x o h
theorem Bts.mono {S S' : List Addr} {H H1 : Hp} (a : Bts S H H1) (h : ∀ x ∈ S, x ∈ S') : Bts S' H H1 := fun x o n e => a x o (fun z => n (h x z)) e
theorem Bts.upd {S : List Addr} {H H1 : Hp} {p : Addr} {o : HO} (a : Bts S H H1) (h : p ∈ S) : Bts S H (L2.upd H1 p o) := fun x u n e => by
  rw [upd_ne (fun z => n (by rw [z]; exact h))]
  exact a x u n e
theorem Bts.new {S : List Addr} {H H1 : Hp} {p : Addr} {o : HO} (a : Bts S H H1) (h : H p = none) : Bts S H (L2.upd H1 p o) := fun x u n e => by
  rw [upd_ne (ne_of_none e h)]
  exact a x u n e
theorem Bts.nil {H H1 : Hp} (a : Bts [] H H1) : Same H H1 := fun x o h => a x o (by simp) h
/-- the deeds ds stand as tuples -/
def DsAt (H : Hp) (vs : List V) (ds : List De) : Prop := ∃ ps : List (Addr × De), vs = ps.map (fun p => V.ref p.1) ∧ ds = ps.map (·.2) ∧ ∀ q ∈ ps, H q.1 = some (.tup q.2.vs)
/-- tuples stay -/
def Tups (H H' : Hp) : Prop := ∀ x xs, H x = some (.tup xs) → H' x = some (.tup xs)
theorem DsAt.mono {H H' : Hp} {vs : List V} {ds : List De} (h : DsAt H vs ds) (t : Tups H H') : DsAt H' vs ds := by
  obtain ⟨ps, a, b, c⟩ := h
  exact ⟨ps, a, b, fun q hq => t _ _ (c q hq)⟩
theorem DsAt.nil {H : Hp} : DsAt H [] [] := ⟨[], rfl, rfl, fun _ h => by cases h⟩
theorem DsAt.snoc {H : Hp} {vs : List V} {ds : List De} {p : Addr} {d : De} (h : DsAt H vs ds) (hp : H p = some (.tup d.vs)) : DsAt H (vs ++ [.ref p]) (ds ++ [d]) := by
  obtain ⟨ps, a, b, c⟩ := h
  refine ⟨ps ++ [(p, d)], by rw [a]; simp, by rw [b]; simp, fun q hq => ?_⟩
  rcases List.mem_append.mp hq with hq | hq
  · exact c q hq
  · rw [List.mem_singleton.mp hq]
    exact hp
theorem DsAt.len {H : Hp} {vs : List V} {ds : List De} (h : DsAt H vs ds) : vs.length = ds.length := by
  obtain ⟨ps, rfl, rfl, _⟩ := h
  simp
theorem DsAt.drop {H : Hp} {vs : List V} {ds : List De} (h : DsAt H vs ds) : DsAt H vs.dropLast ds.dropLast := by
  obtain ⟨ps, a, b, c⟩ := h
  refine ⟨ps.dropLast, by rw [a, List.map_dropLast], by rw [b, List.map_dropLast], fun q hq => c q (List.dropLast_subset _ hq)⟩
theorem tups_upd {H : Hp} {p : Addr} {o : HO} (h : ∀ xs, H p ≠ some (.tup xs)) : Tups H (L2.upd H p o) := fun x xs e => by
  rw [upd_ne (fun z => h xs (by rw [← z]; exact e))]
  exact e
theorem Tups.trans {H H1 H2 : Hp} (a : Tups H H1) (b : Tups H1 H2) : Tups H H2 := fun x xs e => b x xs (a x xs e)
theorem Tups.same {H H1 : Hp} (a : Same H H1) : Tups H H1 := fun x xs e => a x _ e
/-- the kept strip at a: its strips, its deeds -/
def KA (C : Addr) (H : Hp) (a dx ls lr : Addr) (ts : List L) (ds : List De) : Prop :=
  H a = some (.ins C dx [("strips", .ref ls), ("rows", .ref lr)]) ∧ H ls = some (.lst (ts.map vS)) ∧ (∃ vs, H lr = some (.lst vs) ∧ DsAt H vs ds) ∧ ls ≠ lr
theorem KA.keep {C : Addr} {H H' : Hp} {a dx ls lr : Addr} {ts : List L} {ds : List De} {S : List Addr} (k : KA C H a dx ls lr ts ds) (b : Bts S H H') (t : Tups H H') (h1 : a ∉ S) (h2 : ls ∉ S) (h3 : lr ∉ S) : KA C H' a dx ls lr ts ds := by
  obtain ⟨k1, k2, ⟨vs, k3, k4⟩, k5⟩ := k
  exact ⟨b _ _ h1 k1, b _ _ h2 k2, ⟨vs, b _ _ h3 k3, k4.mono t⟩, k5⟩
theorem KA.same {C : Addr} {H H' : Hp} {a dx ls lr : Addr} {ts : List L} {ds : List De} (k : KA C H a dx ls lr ts ds) (b : Same H H') : KA C H' a dx ls lr ts ds :=
  k.keep (S := []) (Bts.of b) (Tups.same b) (by simp) (by simp) (by simp)
section
variable {P : Program} {w : World} {K : PySem.W.Frag} {mg : Str → Option Value} {base : Heap}
/-- as Fun.okX, the exceptions' context None -/
theorem okN {x qual : Str} {st : Stmt} {f : Addr} {fd : FuncData} {N ps : List Str} {k : Nat} {sp : Sp} (F : Fun K x qual st f fd) (S : FnScope N ps (defScope st)) (len : ∀ vs H Q E, sp vs H Q E → vs.length = ps.length)
    (hbody : ∀ (cdv : Value) (A : Around) (outer : List Env) (s : Shared) (H : Hp) (vs : List V) (Q : VK) (E : XK), Room k (A.deeper (envOfC qual (defScope st) s.heap.objs.size f cdv)) → sp vs H Q E →
      ∃ t, PSs (cxOf (L2N.CX P w) P w K mg base N qual (defScope st) f cdv A outer s H E) (defBody st) t ∧ t { nx := fun _ H' => Q .non H', rt := Q } (start N vs) H) : FnOk P w K mg base (L2N.CX P w) (k + 1) f fd ps sp := by
  obtain ⟨oc, od, kV, doc, pm, an, cdv, ct, osl, rfl, lk, hcd⟩ := F.ex
  exact fn_of lk hcd S len fun A outer s H vs Q E hr hsp => hbody cdv A outer s H vs Q E hr hsp
/-- as Fun.ok, for a def to which the exception in hand is given -/
theorem okP {x qual : Str} {st : Stmt} {f : Addr} {fd : FuncData} {N ps : List Str} {k : Nat} {sp : Addr × Obj → Sp} (F : Fun K x qual st f fd) (S : FnScope N ps (defScope st)) (len : ∀ p vs H Q E, sp p vs H Q E → vs.length = ps.length)
    (hbody : ∀ (cdv : Value) (A : Around) (outer : List Env) (s : Shared) (H : Hp) (vs : List V) (Q : VK) (E : XK) (p : Addr × Obj), L2H.Hot1 (A.deeper (envOfC qual (defScope st) s.heap.objs.size f cdv)) p → L2H.RoomH k (A.deeper (envOfC qual (defScope st) s.heap.objs.size f cdv)) → sp p vs H Q E →
      ∃ t, PSs (L2H.cxH CX0 P w K mg base N qual (defScope st) f cdv A outer s H E p).nox (defBody st) t ∧ t { nx := fun _ H' => Q .non H', rt := Q } (start N vs) H) : FnP P w K mg base CX0 (k + 1) f fd ps sp := by
  obtain ⟨oc, od, kV, doc, pm, an, cdv, ct, osl, rfl, lk, hcd⟩ := F.ex
  refine fn_ofP lk hcd S len fun A outer s H vs Q E p hot hr hsp => ?_
  obtain ⟨t, h, q⟩ := hbody cdv A outer s H vs Q E p hot hr hsp
  exact ⟨t, h.nox, q⟩
/-- an exception class of the text without an __init__, all that raising it asks -/
theorem exc_all {x : Str} (a : ExF K mg x) (b : ExE K mg x) : ∃ C, mg x = some (.ref C) ∧ PySem.W.keepIn K (.ref C) = true ∧ PySem.W.subIn K (.ref C) (.type "BaseException") = some true ∧ PySem.W.typeIn K (.ref C) = some (.type "type") ∧ PySem.W.subIn K (.ref C) (.ref C) = some true ∧ ExcC K C ∧
    PySem.W.excIn K C [.type "ValueError", .type "Exception", .type "BaseException", .type "object"] "ValueError.__new__" = true := by
  obtain ⟨C, g, k, b1, t, i, s, e⟩ := a
  obtain ⟨C', g', q⟩ := b
  rw [g] at g'
  injection g' with g'
  injection g' with g'
  subst g'
  exact ⟨C, g, k, b1, t, s, e, q⟩
end
end Lk

namespace Lk
open PySem PySem.Spec PyProof.Rows L2
/-! ### k10: the kept strip's methods that raise nothing -/
open Fo
theorem atI_end {α : Type} (xs : List α) (x : α) : atI (xs ++ [x]) (-1) = some x := by
  unfold atI
  have e1 : ixN (xs ++ [x]).length (-1) = some xs.length := by
    unfold ixN
    rw [List.length_append]
    simp
    omega
  rw [e1]
  simp
theorem atI_end' (ts : List L) (l : L) : atI ((ts ++ [l]).map vS) (-1) = some (vS l) := by
  rw [List.map_append]
  exact atI_end _ _
theorem atI_head (t : L) (ts : List L) : atI ((t :: ts).map vS) 0 = some (vS t) := by
  unfold atI
  have e1 : ixN ((t :: ts).map vS).length 0 = some 0 := by
    unfold ixN
    simp
  rw [e1]
  simp
section
variable {P : Program} {w : World} {K : PySem.W.Frag} {mg : Str → Option Value} {base : Heap} {C : Addr}
abbrev KF (K : PySem.W.Frag) (mg : Str → Option Value) (C : Addr) : Prop := CoF K mg "Kept" ["strips", "rows"] C
theorem KF.s (c : KF K mg C) : NoAttr K C "strips" := c.na _ (by simp)
theorem KF.r (c : KF K mg C) : NoAttr K C "rows" := c.na _ (by simp)
def sp_keep (C : Addr) : Sp := fun vs H Q _ => ∃ (a dx ls lr : Addr) (ts : List L) (ds : List De) (p : Addr) (d : De) (l : L), vs = [.ref a, .ref p, vS l] ∧ KA C H a dx ls lr ts ds ∧ H p = some (.tup d.vs) ∧ ts.length ≤ 1000 ∧ ds.length ≤ 1000 ∧
  ∀ H', KA C H' a dx ls lr (ts ++ [l]) (ds ++ [d]) → Bts [ls, lr] H H' → Tups H H' → Q (vS l) H'
theorem okm_keep (T : Txt K mg) (c : KF K mg C) : FnM P w K mg base CX0 1 C "keep" ["self", "deed", "strip"] (sp_keep C) := by
  refine T.me_Kept_keep.fnM c.g fun f fd F => F.ok mc_Kept_keep (fun vs H Q E h => ?_) (fun cdv A outer s H vs Q E hr h => ?_)
  · obtain ⟨a, dx, ls, lr, ts, ds, p, d, l, rfl, _⟩ := h
    rfl
  · obtain ⟨a, dx, ls, lr, ts, ds, p, d, l, rfl, ⟨k1, k2, ⟨us, k3, k4⟩, k5⟩, hp, hl1, hl2, q⟩ := h
    refine ⟨_, pss_cons (ps_expr (pe_bm PySem.F.plainAttrs_list PySem.F.slot_list_append PySem.F.type_list_append mt_append (pe_fld (pv 0) (by rfl)) (pa_cons (pv 1) pa_nil)))
      (pss_cons (ps_expr (pe_bm PySem.F.plainAttrs_list PySem.F.slot_list_append PySem.F.type_list_append mt_append (pe_fld (pv 0) (by rfl)) (pa_cons (pv 2) pa_nil)))
      (pss_one (ps_ret (pv 2)))), ?_⟩
    have el := k4.len
    refine ⟨_, rfl, a, C, dx, _, .ref lr, rfl, k1, c.cls, c.r, rfl, .inl ⟨rfl, _, SqL.of k3⟩, _, rfl, lr, us, _, rfl, rfl, k3, small1000 (by omega), ?_⟩
    have nal : a ≠ lr := ne_of k1 k3 (fun z => by cases z)
    have nas : a ≠ ls := ne_of k1 k2 (fun z => by cases z)
    have npl : p ≠ lr := ne_of hp k3 (fun z => by cases z)
    have nps : p ≠ ls := ne_of hp k2 (fun z => by cases z)
    refine ⟨_, rfl, a, C, dx, _, .ref ls, rfl, by rw [upd_ne nal]; exact k1, c.cls, c.s, rfl, .inl ⟨rfl, _, SqL.of (by rw [upd_ne k5]; exact k2)⟩, _, rfl, ls, ts.map vS, _, rfl, rfl, by rw [upd_ne k5]; exact k2, small1000 (by rw [List.length_map]; omega), ?_⟩
    have t1 : Tups H (upd (upd H lr (.lst (us ++ [.ref p]))) ls (.lst (ts.map vS ++ [vS l]))) :=
      (tups_upd fun xs z => by rw [k3] at z; cases z).trans (tups_upd fun xs z => by rw [upd_ne k5, k2] at z; cases z)
    refine ⟨_, rfl, q _ ⟨by rw [upd_ne nas, upd_ne nal]; exact k1, by rw [upd_same, List.map_append]; rfl, ⟨_, by rw [upd_ne k5.symm, upd_same], (k4.mono t1).snoc (t1 _ _ hp)⟩, k5⟩ ((Bts.refl.upd (by simp)).upd (by simp)) t1⟩
def sp_last (C : Addr) (f : L → V) : Sp := fun vs H Q _ => ∃ (a dx ls lr : Addr) (ts : List L) (ds : List De) (l : L), vs = [.ref a] ∧ KA C H a dx ls lr (ts ++ [l]) ds ∧ l.length ≤ 1000 ∧ Q (f l) H
theorem okm_len (T : Txt K mg) (c : KF K mg C) : FnM P w K mg base CX0 1 C "__len__" ["self"] (sp_last C fun l => vI l.length) := by
  refine T.me_Kept___len__.fnM c.g fun f fd F => F.ok mc_Kept___len__ (fun vs H Q E h => ?_) (fun cdv A outer s H vs Q E hr h => ?_)
  · obtain ⟨a, dx, ls, lr, ts, ds, l, rfl, _⟩ := h
    rfl
  · obtain ⟨a, dx, ls, lr, ts, ds, l, rfl, ⟨k1, k2, ⟨us, k3, k4⟩, k5⟩, hl, q⟩ := h
    refine ⟨_, pss_one (ps_ret (pe_callB call_lenS (by rfl) T.b_len PySem.boot_len (pa_cons (pe_ix ix_list (pe_fld (pv 0) (by rfl)) (pe_un un_neg pe_int) (fun _ _ => rfl)) pa_nil))), ?_⟩
    refine ⟨_, rfl, a, C, dx, _, .ref ls, rfl, k1, c.cls, c.s, rfl, 1, rfl, ls, _, -1, vS l, rfl, rfl, SqL.of k2, atI_end' _ _, l, rfl, by omega, q⟩
theorem okm_str (T : Txt K mg) (c : KF K mg C) : FnM P w K mg base CX0 1 C "__str__" ["self"] (sp_last C fun l => vS l) := by
  refine T.me_Kept___str__.fnM c.g fun f fd F => F.ok mc_Kept___str__ (fun vs H Q E h => ?_) (fun cdv A outer s H vs Q E hr h => ?_)
  · obtain ⟨a, dx, ls, lr, ts, ds, l, rfl, _⟩ := h
    rfl
  · obtain ⟨a, dx, ls, lr, ts, ds, l, rfl, ⟨k1, k2, ⟨us, k3, k4⟩, k5⟩, hl, q⟩ := h
    refine ⟨_, pss_one (ps_ret (pe_callTy SkE.call_str_str (by rfl) T.b_str (by decide +kernel) (pa_cons (pe_ix ix_list (pe_fld (pv 0) (by rfl)) (pe_un un_neg pe_int) (fun _ _ => rfl)) pa_nil))), ?_⟩
    refine ⟨_, rfl, a, C, dx, _, .ref ls, rfl, k1, c.cls, c.s, rfl, 1, rfl, ls, _, -1, vS l, rfl, rfl, SqL.of k2, atI_end' _ _, _, rfl, q⟩
theorem okm_strip (T : Txt K mg) (c : KF K mg C) : FnM P w K mg base CX0 1 C "strip" ["self"] (sp_last C fun l => vS l) := by
  refine T.me_Kept_strip.fnM c.g fun f fd F => F.ok mc_Kept_strip (fun vs H Q E h => ?_) (fun cdv A outer s H vs Q E hr h => ?_)
  · obtain ⟨a, dx, ls, lr, ts, ds, l, rfl, _⟩ := h
    rfl
  · obtain ⟨a, dx, ls, lr, ts, ds, l, rfl, ⟨k1, k2, ⟨us, k3, k4⟩, k5⟩, hl, q⟩ := h
    refine ⟨_, pss_one (ps_ret (pe_ix ix_list (pe_fld (pv 0) (by rfl)) (pe_un un_neg pe_int) (fun _ _ => rfl))), ?_⟩
    refine ⟨_, rfl, a, C, dx, _, .ref ls, rfl, k1, c.cls, c.s, rfl, 1, rfl, ls, _, -1, vS l, rfl, rfl, SqL.of k2, atI_end' _ _, q⟩
def sp_deeds (C : Addr) : Sp := fun vs H Q _ => ∃ (a dx ls lr : Addr) (ts : List L) (ds : List De), vs = [.ref a] ∧ KA C H a dx ls lr ts ds ∧ ds.length ≤ 1000 ∧ ∀ p us, H p = none → DsAt H us ds → Q (.ref p) (upd H p (.lst us))
theorem okm_deeds (T : Txt K mg) (c : KF K mg C) : FnM P w K mg base CX0 1 C "deeds" ["self"] (sp_deeds C) := by
  refine T.me_Kept_deeds.fnM c.g fun f fd F => F.ok mc_Kept_deeds (fun vs H Q E h => ?_) (fun cdv A outer s H vs Q E hr h => ?_)
  · obtain ⟨a, dx, ls, lr, ts, ds, rfl, _⟩ := h
    rfl
  · obtain ⟨a, dx, ls, lr, ts, ds, rfl, ⟨k1, k2, ⟨us, k3, k4⟩, k5⟩, hl, q⟩ := h
    refine ⟨_, pss_one (ps_ret (pe_callTy call_list_of (by rfl) T.b_list (by decide +kernel) (pa_cons (pe_fld (pv 0) (by rfl)) pa_nil))), ?_⟩
    refine ⟨_, rfl, a, C, dx, _, .ref lr, rfl, k1, c.cls, c.r, rfl, ?_⟩
    exact ⟨lr, us, rfl, .inl (SqL.of k3), fun p hp => q p us hp k4⟩
def sp_turn (C : Addr) : Sp := fun vs H Q _ => ∃ (a dx ls lr : Addr) (ts : List L) (ds : List De) (l : L), vs = [.ref a] ∧ KA C H a dx ls lr (ts ++ [l]) ds ∧ l.length ≤ 1000 ∧ ts.length ≤ 900 ∧ ds.length ≤ 900 ∧
  ∀ H', KA C H' a dx ls lr (ts ++ [l] ++ [l.reverse]) (ds ++ [.turn]) → Bts [ls, lr] H H' → Tups H H' → Q (vS l.reverse) H'
theorem okm_turn (T : Txt K mg) (c : KF K mg C) : FnM P w K mg base CX0 2 C "turn" ["self"] (sp_turn C) := by
  have G_keep := okm_keep (P := P) (w := w) (base := base) T c
  refine T.me_Kept_turn.fnM c.g fun f fd F => F.ok mc_Kept_turn (fun vs H Q E h => ?_) (fun cdv A outer s H vs Q E hr h => ?_)
  · obtain ⟨a, dx, ls, lr, ts, ds, l, rfl, _⟩ := h
    rfl
  · obtain ⟨a, dx, ls, lr, ts, ds, l, rfl, k, hl, hl1, hl2, q⟩ := h
    have k0 := k
    obtain ⟨k1, k2, ⟨us, k3, k4⟩, k5⟩ := k
    refine ⟨_, pss_one (ps_ret (pe_mS (pv 0) c.cls G_keep hr passA0 (pa_cons (pe_tup (pa_cons pe_str pa_nil)) (pa_cons (pe_revS (pe_ix ix_list (pe_fld (pv 0) (by rfl)) (pe_un un_neg pe_int) (fun _ _ => rfl))) pa_nil)))), ?_⟩
    refine ⟨_, rfl, a, dx, _, rfl, k1, rfl, by decide, fun p hp => ?_⟩
    have sm := Same.upd (o := .tup [.str "turn"]) hp
    refine ⟨_, rfl, a, C, dx, _, .ref ls, rfl, sm _ _ k1, c.cls, c.s, rfl, 1, rfl, ls, _, -1, vS l, rfl, rfl, SqL.of (sm _ _ k2), atI_end' _ _, l, rfl, Nat.le_of_lt (small1000 hl), ?_⟩
    exact ⟨a, dx, ls, lr, ts ++ [l], ds, p, .turn, l.reverse, rfl, k0.same sm, upd_same, by rw [List.length_append]; simp; omega, by omega, fun H' k' b' t' => q H' k' ((Bts.of sm).trans b') ((Tups.same sm).trans t')⟩
end
end Lk

namespace Lk
open PySem PySem.Spec PyProof.Rows L2
/-! ### k10: the kept strip's methods that may refuse; == -/
open Fo
/-- a value that is an int, or none -/
def KdOk (K : PySem.W.Frag) (H : Hp) (x : V) : Prop := (∃ i : Int, x = .int i) ∨ NoInt K H x
/-- an int from lo to hi -/
def inR (x : V) (lo hi : Int) : Option Nat := match x with
  | .int i => if lo ≤ i ∧ i ≤ hi then some i.toNat else none
  | _ => none
theorem inR_some {x : V} {lo hi : Int} {n : Nat} (h0 : 0 ≤ lo) (h : inR x lo hi = some n) : x = vI n ∧ lo ≤ (n : Int) ∧ (n : Int) ≤ hi := by
  unfold inR at h
  split at h
  · rename_i i
    by_cases hc : lo ≤ i ∧ i ≤ hi
    · rw [if_pos hc] at h
      have := Option.some.inj h
      subst this
      have e : ((i.toNat : Nat) : Int) = i := Int.toNat_of_nonneg (by omega)
      exact ⟨by show V.int i = V.int ((i.toNat : Nat) : Int); rw [e], by omega, by omega⟩
    · rw [if_neg hc] at h
      cases h
  · cases h
theorem noInt_ne {K : PySem.W.Frag} {H : Hp} {x : V} (h : NoInt K H x) : ∀ i, x ≠ .int i := fun i e => by
  subst e
  rcases h with ⟨b, hb⟩ | ⟨t, ht, hk⟩
  · cases hb
  · cases ht with
    | base h1 =>
      cases h1
      rw [show PySem.W.kitOne K (.type "int") (.type "int") = some true from kit_ty (by decide +kernel)] at hk
      cases hk
theorem inR_no {K : PySem.W.Frag} {H : Hp} {x : V} (h : NoInt K H x) (lo hi : Int) : inR x lo hi = none := by
  have n := noInt_ne h
  unfold inR
  split
  · rename_i i
    exact absurd rfl (n i)
  · rfl
theorem isCr_no {K : PySem.W.Frag} {H : Hp} {l : L} {x : V} (h : NoInt K H x) : isCr l x = none := by
  have n := noInt_ne h
  unfold isCr
  split
  · rename_i i
    exact absurd rfl (n i)
  · rfl
/-- what unfolding does: a refusal's name, or the end and the number -/
def unfAct (l : L) (x y : V) : Str ⊕ (Nat × Nat) := match inR x 0 1 with
  | none => .inl "NoEnd"
  | some e => match inR y 1 ((l.length : Int) - (e : Int)) with
    | none => .inl "NoMany"
    | some m => if l.length + m > 24 then .inl "Long" else .inr (e, m)
theorem unfAct_inr {l : L} {x y : V} {e m : Nat} (h : unfAct l x y = .inr (e, m)) : inR x 0 1 = some e ∧ inR y 1 ((l.length : Int) - (e : Int)) = some m ∧ l.length + m ≤ 24 ∧ (e, m) ∈ waysL l.length := by
  unfold unfAct at h
  split at h
  · cases h
  · rename_i e' he
    split at h
    · cases h
    · rename_i m' hm
      split at h
      · cases h
      · rename_i hn
        injection h with h
        injection h with h1 h2
        subst h1 h2
        obtain ⟨_, a1, a2⟩ := inR_some (by decide) he
        obtain ⟨_, b1, b2⟩ := inR_some (by decide) hm
        refine ⟨he, hm, by omega, mem_ways.mpr ?_⟩
        by_cases e0 : e' = 0
        · subst e0
          exact .inl ⟨rfl, by dsimp only; omega, by dsimp only; omega⟩
        · exact .inr ⟨by dsimp only; omega, by dsimp only; omega, by dsimp only; omega⟩
/-- a deed as data -/
def dD : De → PyData
  | .fold c => .tuple [.str "fold", .int c]
  | .unf e m => .tuple [.str "unfold", .int e, .int m]
  | .turn => .tuple [.str "turn"]
theorem dD_lay (d : De) : (dD d).canLay0 = true := by
  cases d <;> simp only [dD, PyData.canLay0, PyData.canLayAll0, Bool.and_true] <;> decide +kernel
theorem dD_dep (d : De) : (dD d).depth ≤ 50 := by
  cases d <;> simp [dD, PyData.depth, PyData.depthAll]
theorem int_beq (a b : Nat) : ((a : Int) == (b : Int)) = decide (a = b) := by
  by_cases e : a = b
  · subst e; simp
  · rw [decide_eq_false e]
    exact beq_eq_false_iff_ne.mpr (by omega)
theorem dD_eqv (a b : De) : PyData.eqv (dD a) (dD b) = decide (a = b) := by
  have f1 : ((("fold" : Str) == ("fold" : Str))) = true := by decide +kernel
  have f2 : ((("fold" : Str) == ("unfold" : Str))) = false := by decide +kernel
  have f3 : ((("unfold" : Str) == ("fold" : Str))) = false := by decide +kernel
  have f4 : ((("unfold" : Str) == ("unfold" : Str))) = true := by decide +kernel
  have f5 : ((("turn" : Str) == ("turn" : Str))) = true := by decide +kernel
  cases a with
  | fold c =>
    cases b with
    | fold c' =>
      rw [decide_eq_decide.mpr (show (De.fold c = De.fold c') ↔ c = c' from ⟨fun h => by injection h, fun h => by rw [h]⟩), ← int_beq c c']
      simp [dD, PyData.eqv, PyData.eqvAll]
    | unf e m =>
      rw [decide_eq_false (by intro h; cases h)]
      simp [dD, PyData.eqv, PyData.eqvAll]
    | turn =>
      rw [decide_eq_false (by intro h; cases h)]
      simp [dD, PyData.eqv, PyData.eqvAll]
  | unf e m =>
    cases b with
    | fold c' =>
      rw [decide_eq_false (by intro h; cases h)]
      simp [dD, PyData.eqv, PyData.eqvAll]
    | unf e' m' =>
      rw [decide_eq_decide.mpr (show (De.unf e m = De.unf e' m') ↔ (e = e' ∧ m = m') from ⟨fun h => by injection h with a b; exact ⟨a, b⟩, fun h => by rw [h.1, h.2]⟩), Bool.decide_and, ← int_beq e e', ← int_beq m m']
      simp [dD, PyData.eqv, PyData.eqvAll]
    | turn =>
      rw [decide_eq_false (by intro h; cases h)]
      simp [dD, PyData.eqv, PyData.eqvAll]
  | turn =>
    cases b with
    | fold c' =>
      rw [decide_eq_false (by intro h; cases h)]
      simp [dD, PyData.eqv, PyData.eqvAll]
    | unf e' m' =>
      rw [decide_eq_false (by intro h; cases h)]
      simp [dD, PyData.eqv, PyData.eqvAll]
    | turn =>
      rw [decide_eq_true rfl]
      simp [dD, PyData.eqv, PyData.eqvAll]
theorem DsAt.dp {K : PySem.W.Frag} {H : Hp} {a : Addr} {vs : List V} {ds : List De} (h : DsAt H vs ds) (ha : H a = some (.lst vs)) : Dp K H (.ref a) (.list (ds.map dD)) := by
  obtain ⟨ps, rfl, rfl, c⟩ := h
  rw [List.map_map]
  refine .lst (SqL.of ha) (dpAll_of fun p hp => ?_)
  have e := c p hp
  show Dp K H (.ref p.1) (dD p.2)
  cases hd : p.2 with
  | fold n =>
    rw [hd] at e
    exact .tup (SqT.of e) (.cons (.str _) (.cons (.int _) .nil))
  | unf n m =>
    rw [hd] at e
    exact .tup (SqT.of e) (.cons (.str _) (.cons (.int _) (.cons (.int _) .nil)))
  | turn =>
    rw [hd] at e
    exact .tup (SqT.of e) (.cons (.str _) .nil)
/-- strip and deeds -/
def dK2 (t : L) (ds : List De) : PyData := .tuple [dS t, .list (ds.map dD)]
theorem dK2_eqv (t u : L) (ds es : List De) : PyData.eqv (dK2 t ds) (dK2 u es) = decide (t = u ∧ ds = es) := by
  show PyData.eqv (.tuple [dS t, .list (ds.map dD)]) (.tuple [dS u, .list (es.map dD)]) = _
  have e1 : PyData.eqv (.list (ds.map dD)) (.list (es.map dD)) = decide (ds = es) := by
    rw [PyData.eqv]
    exact eqvAll_of fun a _ b _ => dD_eqv a b
  have e2 := dS_eqv t u
  rw [PyData.eqv, PyData.eqvAll, PyData.eqvAll, PyData.eqvAll, e1, e2, Bool.and_true, Bool.decide_and]
theorem dK2_shaped {t : L} (ds : List De) (h : Sm t) : SeqAt.shaped (dK2 t ds) = true := by
  have a1 := layAll_of (f := dD) (xs := ds) fun d _ => dD_lay d
  have a2 := depAll_of (f := dD) (n := 50) (xs := ds) fun d _ => dD_dep d
  unfold SeqAt.shaped
  have e1 : (dK2 t ds).canLay0 = true := by
    unfold dK2
    rw [PyData.canLay0, PyData.canLayAll0, PyData.canLayAll0, PyData.canLayAll0, dS_lay h, PyData.canLay0, a1]
    rfl
  have e2 : (dK2 t ds).depth ≤ 60 := by
    unfold dK2
    rw [PyData.depth, PyData.depthAll, PyData.depthAll, PyData.depthAll, PyData.depth, PyData.depth]
    omega
  rw [e1, decide_eq_true (show (dK2 t ds).depth ≤ 64 by omega)]
  rfl
end Lk

namespace Lk
open PySem PySem.Spec PyProof.Rows L2
/-! ### k10: the kept strip's methods that may refuse; == -/
open Fo
section
variable {P : Program} {w : World} {K : PySem.W.Frag} {mg : Str → Option Value} {base : Heap} {C : Addr}
theorem ok_are_kin (T : Txt K mg) : Fn P w K mg base CX0 4 "are_kin" ["one", "other"] (fun vs H Q _ => ∃ l k : L, vs = [vS l, vS k] ∧ l.length ≤ 1000 ∧ k.length ≤ 1000 ∧ ∀ H', Same H H' → Q (.bl (decide (least l = least k))) H') := by
  have G_least := ok_least (P := P) (w := w) (base := base) T
  refine T.d_are_kin.fn fun f fd F => F.ok sc_are_kin (fun vs H Q E h => ?_) (fun cdv A outer s H vs Q E hr h => ?_)
  · obtain ⟨l, k, rfl, _⟩ := h
    rfl
  · obtain ⟨l, k, rfl, hl, hk, q⟩ := h
    refine ⟨_, pss_one (ps_ret (pe_cmpR op_eqS (pe_fn G_least hr (pa_cons (pv 0) pa_nil)) (pe_fn G_least hr (pa_cons (pv 1) pa_nil)) (by rfl))), ?_⟩
    exact ⟨_, rfl, l, rfl, hl, fun H1 sm1 => ⟨_, rfl, k, rfl, hk, fun H2 sm2 => ⟨_, _, rfl, rfl, q H2 (sm1.trans sm2)⟩⟩⟩
/-- is_from by what is told -/
theorem is_from_of {H : Hp} {Q : VK} {E : XK} {x : V} {lo hi : Int} (h : KdOk K H x) (q : Q (.bl (inR x lo hi).isSome) H) : sp_is_from K [x, .int lo, .int hi] H Q E := by
  rcases h with ⟨i, rfl⟩ | h
  · refine .inl ⟨i, lo, hi, rfl, ?_⟩
    have e : (inR (.int i) lo hi).isSome = decide (lo ≤ i ∧ i ≤ hi) := by
      unfold inR
      by_cases hc : lo ≤ i ∧ i ≤ hi
      · simp only [hc, and_self, if_true, decide_true]
        rfl
      · simp only [hc, if_false, decide_false]
        rfl
    rw [e] at q
    exact q
  · refine .inr ⟨x, lo, hi, rfl, h, ?_⟩
    rw [inR_no h] at q
    exact q
theorem is_crease_of {H : Hp} {Q : VK} {E : XK} {l : L} {x : V} (hl : l.length ≤ 1000) (h : KdOk K H x) (q : Q (.bl (isCr l x).isSome) H) : sp_is_crease K [vS l, x] H Q E := by
  rcases h with ⟨i, rfl⟩ | h
  · refine .inl ⟨l, i, rfl, hl, ?_⟩
    have e : (isCr l (.int i)).isSome = decide (0 ≤ i ∧ Cr l i.toNat) := by
      unfold isCr
      by_cases hc : 0 ≤ i ∧ Cr l i.toNat
      · simp only [hc, and_self, if_true, decide_true]
        rfl
      · simp only [hc, if_false, decide_false]
        rfl
    rw [e] at q
    exact q
  · refine .inr ⟨l, x, rfl, hl, h, ?_⟩
    rw [isCr_no h] at q
    exact q
def sp_is_kin (C : Addr) : Sp := fun vs H Q _ => ∃ (a dx ls lr : Addr) (t l : L) (ts : List L) (ds : List De), vs = [.ref a] ∧ KA C H a dx ls lr ts ds ∧ ts.head? = some t ∧ ts.getLast? = some l ∧ t.length ≤ 1000 ∧ l.length ≤ 1000 ∧ ∀ H', Same H H' → Q (.bl (decide (least t = least l))) H'
theorem head_split {ts : List L} {t : L} (h : ts.head? = some t) : ∃ r, ts = t :: r := by
  cases ts with
  | nil => cases h
  | cons a r =>
    injection h with h
    subst h
    exact ⟨r, rfl⟩
theorem last_split {ts : List L} {t : L} (h : ts.getLast? = some t) : ∃ r, ts = r ++ [t] := by
  obtain ⟨r, e⟩ := List.getLast?_eq_some_iff.mp h
  exact ⟨r, e⟩
theorem okm_is_kin (T : Txt K mg) (c : KF K mg C) : FnM P w K mg base CX0 5 C "is_kin" ["self"] (sp_is_kin C) := by
  have G_are_kin := ok_are_kin (P := P) (w := w) (base := base) T
  refine T.me_Kept_is_kin.fnM c.g fun f fd F => F.ok mc_Kept_is_kin (fun vs H Q E h => ?_) (fun cdv A outer s H vs Q E hr h => ?_)
  · obtain ⟨a, dx, ls, lr, t, l, ts, ds, rfl, _⟩ := h
    rfl
  · obtain ⟨a, dx, ls, lr, t, l, ts, ds, rfl, ⟨k1, k2, ⟨us, k3, k4⟩, k5⟩, ht, hl, h1, h2, q⟩ := h
    refine ⟨_, pss_one (ps_ret (pe_fn G_are_kin hr (pa_cons (pe_ix ix_list (pe_fld (pv 0) (by rfl)) pe_int (fun _ _ => rfl)) (pa_cons (pe_ix ix_list (pe_fld (pv 0) (by rfl)) (pe_un un_neg pe_int) (fun _ _ => rfl)) pa_nil)))), ?_⟩
    have e0 : atI (ts.map vS) 0 = some (vS t) := by
      obtain ⟨r, rfl⟩ := head_split ht
      exact atI_head _ _
    have e1 : atI (ts.map vS) (-1) = some (vS l) := by
      obtain ⟨r, rfl⟩ := last_split hl
      exact atI_end' _ _
    exact ⟨_, rfl, a, C, dx, _, .ref ls, rfl, k1, c.cls, c.s, rfl, ls, _, 0, vS t, rfl, rfl, SqL.of k2, e0, _, rfl, a, C, dx, _, .ref ls, rfl, k1, c.cls, c.s, rfl, 1, rfl, ls, _, -1, vS l, rfl, rfl, SqL.of k2, e1, t, l, rfl, h1, h2, q⟩
def sp_fold (K : PySem.W.Frag) (mg : Str → Option Value) (C : Addr) : Sp := fun vs H Q E => ∃ (a dx ls lr : Addr) (ts : List L) (ds : List De) (l : L) (x : V), vs = [.ref a, x] ∧ KA C H a dx ls lr (ts ++ [l]) ds ∧ l.length ≤ 1000 ∧ ts.length ≤ 900 ∧ ds.length ≤ 900 ∧ KdOk K H x ∧
  (∀ k, isCr l x = some k → ∀ H', KA C H' a dx ls lr (ts ++ [l] ++ [left l k]) (ds ++ [.fold k]) → Bts [ls, lr] H H' → Tups H H' → Q (vS (left l k)) H') ∧ (isCr l x = none → ∀ D, mg "NoCrease" = some (.ref D) → E (.ref D) none H)
theorem okm_fold (T : Txt K mg) (c : KF K mg C) : FnM P w K mg base (L2N.CX P w) 3 C "fold" ["self", "crease"] (sp_fold K mg C) := by
  have G_keep := okm_keep (P := P) (w := w) (base := base) T c
  have G_is_crease := ok_is_crease (P := P) (w := w) (base := base) T
  have G_left_of := ok_left_of (P := P) (w := w) (base := base) T
  obtain ⟨D, gD, kD, bD, tD, sD, eD, qD⟩ := exc_all T.x_NoCrease T.e_NoCrease
  refine T.me_Kept_fold.fnM c.g fun f fd F => okN F mc_Kept_fold (fun vs H Q E h => ?_) (fun cdv A outer s H vs Q E hr h => ?_)
  · obtain ⟨a, dx, ls, lr, ts, ds, l, x, rfl, _⟩ := h
    rfl
  · obtain ⟨a, dx, ls, lr, ts, ds, l, x, rfl, k0, hl, hl1, hl2, hx, q, qe⟩ := h
    obtain ⟨k1, k2, ⟨us, k3, k4⟩, k5⟩ := id k0
    refine ⟨_, pss_cons (ps_if (pt_not (pt_val (pe_fn G_is_crease hr (pa_cons (pe_ix ix_list (pe_fld (pv 0) (by rfl)) (pe_un un_neg pe_int) (fun _ _ => rfl)) (pa_cons (pv 1) pa_nil)))))
      (pss_one (L2N.ps_raise rfl (L2N.takes_of rfl rfl rfl rfl) (L2N.pmk_own PySem.F.excBase_ValueError qD gD kD (raises_own bD tD) (by exact rfl))))
      pss_nil)
      (pss_one (ps_ret (pe_mS (pv 0) c.cls G_keep hr passA0 (pa_cons (pe_tup (pa_cons pe_str (pa_cons (pv 1) pa_nil))) (pa_cons (pe_fn G_left_of hr (pa_cons (pe_ix ix_list (pe_fld (pv 0) (by rfl)) (pe_un un_neg pe_int) (fun _ _ => rfl)) (pa_cons (pv 1) pa_nil))) pa_nil))))), ?_⟩
    refine ⟨_, rfl, a, C, dx, _, .ref ls, rfl, k1, c.cls, c.s, rfl, 1, rfl, ls, _, -1, vS l, rfl, rfl, SqL.of k2, atI_end' _ _, x, rfl, ?_⟩
    dsimp only [tNil]
    refine is_crease_of hl hx ?_
    cases hc : isCr l x with
    | none =>
      refine ⟨_, rfl, iteT ?_⟩
      exact qe hc D gD
    | some k =>
      refine ⟨_, rfl, iteF ?_⟩
      obtain ⟨ex, hC⟩ := isCr_some hc
      subst ex
      refine ⟨_, rfl, a, dx, _, rfl, k1, rfl, _, rfl, (by show 2 ≤ sizeLine; decide), fun p hp => ?_⟩
      have sm := Same.upd (o := .tup [.str "fold", vI k]) hp
      refine ⟨_, rfl, a, C, dx, _, .ref ls, rfl, sm _ _ k1, c.cls, c.s, rfl, 1, rfl, ls, _, -1, vS l, rfl, rfl, SqL.of (sm _ _ k2), atI_end' _ _, _, rfl, l, k, rfl, hl, Nat.le_of_lt hC.2.1, ?_⟩
      exact ⟨a, dx, ls, lr, ts ++ [l], ds, p, .fold k, left l k, rfl, k0.same sm, upd_same, by rw [List.length_append]; simp; omega, by omega, fun H' k' b' t' => q k hc H' k' ((Bts.of sm).trans b') ((Tups.same sm).trans t')⟩
def sp_unfold (K : PySem.W.Frag) (mg : Str → Option Value) (C : Addr) : Sp := fun vs H Q E => ∃ (a dx ls lr : Addr) (ts : List L) (ds : List De) (l : L) (x y : V), vs = [.ref a, x, y] ∧ KA C H a dx ls lr (ts ++ [l]) ds ∧ l.length ≤ 900 ∧ ts.length ≤ 900 ∧ ds.length ≤ 900 ∧ KdOk K H x ∧ KdOk K H y ∧
  (∀ e m, unfAct l x y = .inr (e, m) → ∀ H', KA C H' a dx ls lr (ts ++ [l] ++ [unfL l (e, m)]) (ds ++ [.unf e m]) → Bts [ls, lr] H H' → Tups H H' → Q (vS (unfL l (e, m))) H') ∧ (∀ w, unfAct l x y = .inl w → ∀ D, mg w = some (.ref D) → E (.ref D) none H)
theorem okm_unfold (T : Txt K mg) (c : KF K mg C) : FnM P w K mg base (L2N.CX P w) 2 C "unfold" ["self", "end", "many"] (sp_unfold K mg C) := by
  have G_keep := okm_keep (P := P) (w := w) (base := base) T c
  have G_is_from := ok_is_from (P := P) (w := w) (base := base) T
  have G_unfolded := ok_unfolded (P := P) (w := w) (base := base) T
  obtain ⟨tM, gM⟩ := T.g_MOST
  obtain ⟨D, gD, kD, bD, tD, sD, eD, qD⟩ := exc_all T.x_NoEnd T.e_NoEnd
  obtain ⟨D2, gD2, kD2, bD2, tD2, sD2, eD2, qD2⟩ := exc_all T.x_NoMany T.e_NoMany
  obtain ⟨D3, gD3, kD3, bD3, tD3, sD3, eD3, qD3⟩ := exc_all T.x_Long T.e_Long
  refine T.me_Kept_unfold.fnM c.g fun f fd F => okN F mc_Kept_unfold (fun vs H Q E h => ?_) (fun cdv A outer s H vs Q E hr h => ?_)
  · obtain ⟨a, dx, ls, lr, ts, ds, l, x, y, rfl, _⟩ := h
    rfl
  · obtain ⟨a, dx, ls, lr, ts, ds, l, x, y, rfl, k0, hl, hl1, hl2, hx, hy, q, qe⟩ := h
    obtain ⟨k1, k2, ⟨us, k3, k4⟩, k5⟩ := id k0
    refine ⟨_, pss_cons (ps_set (i := 3) mc_Kept_unfold.nd rfl (.inl rfl) (pe_ix ix_list (pe_fld (pv 0) (by rfl)) (pe_un un_neg pe_int) (fun _ _ => rfl)))
      (pss_cons (ps_if (pt_not (pt_val (pe_fn G_is_from hr (pa_cons (pv 1) (pa_cons pe_int (pa_cons pe_int pa_nil))))))
        (pss_one (L2N.ps_raise rfl (L2N.takes_of rfl rfl rfl rfl) (L2N.pmk_own PySem.F.excBase_ValueError qD gD kD (raises_own bD tD) (by exact rfl)))) pss_nil)
      (pss_cons (ps_if (pt_not (pt_val (pe_fn G_is_from hr (pa_cons (pv 2) (pa_cons pe_int (pa_cons (pe_op op_sub (pe_callB call_lenS (by rfl) T.b_len PySem.boot_len (pa_cons (pv 3) pa_nil)) (pv 1)) pa_nil))))))
        (pss_one (L2N.ps_raise rfl (L2N.takes_of rfl rfl rfl rfl) (L2N.pmk_own PySem.F.excBase_ValueError qD2 gD2 kD2 (raises_own bD2 tD2) (by exact rfl)))) pss_nil)
      (pss_cons (ps_if (pt_cmpR op_gt (pe_op op_add (pe_callB call_lenS (by rfl) T.b_len PySem.boot_len (pa_cons (pv 3) pa_nil)) (pv 2)) (pe_glob (v := .int 24) rfl gM ⟨_, rfl⟩) (nomark _))
        (pss_one (L2N.ps_raise rfl (L2N.takes_of rfl rfl rfl rfl) (L2N.pmk_own PySem.F.excBase_ValueError qD3 gD3 kD3 (raises_own bD3 tD3) (by exact rfl)))) pss_nil)
      (pss_one (ps_ret (pe_mS (pv 0) c.cls G_keep hr passA0 (pa_cons (pe_tup (pa_cons pe_str (pa_cons (pv 1) (pa_cons (pv 2) pa_nil)))) (pa_cons (pe_fn G_unfolded hr (pa_cons (pv 3) (pa_cons (pv 1) (pa_cons (pv 2) pa_nil)))) pa_nil)))))))), ?_⟩
    refine ⟨_, rfl, a, C, dx, _, .ref ls, rfl, k1, c.cls, c.s, rfl, 1, rfl, ls, _, -1, vS l, rfl, rfl, SqL.of k2, atI_end' _ _, ?_⟩
    refine ⟨_, rfl, ?_⟩
    dsimp only [tNil, tCons, tC]
    refine is_from_of hx ?_
    cases he : inR x 0 1 with
    | none =>
      refine ⟨_, rfl, iteT ?_⟩
      exact qe _ (by unfold unfAct; rw [he]) D gD
    | some e =>
      refine ⟨_, rfl, iteF ?_⟩
      obtain ⟨ex, ex1, ex2⟩ := inR_some (by decide) he
      subst ex
      refine ⟨_, rfl, _, rfl, l, rfl, by omega, _, rfl, _, _, rfl, rfl, ?_⟩
      dsimp only [tNil]
      refine is_from_of hy ?_
      cases hm : inR y 1 ((l.length : Int) - (e : Int)) with
      | none =>
        refine ⟨_, rfl, iteT ?_⟩
        refine qe _ ?_ D2 gD2
        unfold unfAct
        rw [he]
        dsimp only
        rw [hm]
      | some m =>
        refine ⟨_, rfl, iteF ?_⟩
        obtain ⟨ey, ey1, ey2⟩ := inR_some (by decide) hm
        subst ey
        refine ⟨_, rfl, l, rfl, by omega, _, rfl, _, _, rfl, rfl, _, _, rfl, rfl, _, rfl, ?_⟩
        have hu : unfAct l (vI e) (vI m) = if l.length + m > 24 then .inl "Long" else .inr (e, m) := by
          unfold unfAct
          rw [he]
          dsimp only
          rw [hm]
        refine ite2 (fun h24 => ?_) (fun h24 => ?_)
        · have h24 : (24 : Int) < (l.length : Int) + (m : Int) := of_decide_eq_true h24
          exact qe _ (by rw [hu, if_pos (by omega)]) D3 gD3
        · have h24 : ¬ (24 : Int) < (l.length : Int) + (m : Int) := fun z => h24 (decide_eq_true z)
          have hu2 : unfAct l (vI e) (vI m) = .inr (e, m) := by rw [hu, if_neg (by omega)]
          obtain ⟨_, _, _, hw⟩ := unfAct_inr hu2
          refine ⟨_, rfl, a, dx, _, rfl, k1, rfl, _, rfl, _, rfl, (by show 3 ≤ sizeLine; decide), fun p hp => ?_⟩
          have sm := Same.upd (o := .tup [.str "unfold", vI e, vI m]) hp
          refine ⟨_, rfl, _, rfl, _, rfl, l, e, m, rfl, by omega, hw, ?_⟩
          exact ⟨a, dx, ls, lr, ts ++ [l], ds, p, .unf e m, unfL l (e, m), rfl, k0.same sm, upd_same, by rw [List.length_append]; simp; omega, by omega, fun H' k' b' t' => q e m hu2 H' k' ((Bts.of sm).trans b') ((Tups.same sm).trans t')⟩
end
end Lk

namespace Lk
open PySem PySem.Spec PyProof.Rows L2
/-! ### k10: a new kept strip, a step back, == -/
open Fo
section
variable {P : Program} {w : World} {K : PySem.W.Frag} {mg : Str → Option Value} {base : Heap} {C : Addr}
def sp_back (mg : Str → Option Value) (C : Addr) : Sp := fun vs H Q E => ∃ (a dx ls lr : Addr) (ts : List L) (ds : List De), vs = [.ref a] ∧ KA C H a dx ls lr ts ds ∧ ts.length = ds.length + 1 ∧
  (ds ≠ [] → ∀ H', KA C H' a dx ls lr ts.dropLast ds.dropLast → Bts [ls, lr] H H' → Tups H H' → Q .non H') ∧ (ds = [] → ∀ D, mg "NothingLeft" = some (.ref D) → E (.ref D) none H)
theorem last_at {α : Type} {xs : List α} (h : xs ≠ []) : ∃ y, xs[xs.length - 1]? = some y := by
  have : 0 < xs.length := List.length_pos_iff.mpr h
  exact ⟨_, List.getElem?_eq_getElem (by omega)⟩
theorem okm_back (T : Txt K mg) (c : KF K mg C) : FnM P w K mg base (L2N.CX P w) 1 C "back" ["self"] (sp_back mg C) := by
  obtain ⟨D, gD, kD, bD, tD, sD, eD, qD⟩ := exc_all T.x_NothingLeft T.e_NothingLeft
  refine T.me_Kept_back.fnM c.g fun f fd F => okN F mc_Kept_back (fun vs H Q E h => ?_) (fun cdv A outer s H vs Q E hr h => ?_)
  · obtain ⟨a, dx, ls, lr, ts, ds, rfl, _⟩ := h
    rfl
  · obtain ⟨a, dx, ls, lr, ts, ds, rfl, ⟨k1, k2, ⟨us, k3, k4⟩, k5⟩, hl, q, qe⟩ := h
    refine ⟨_, pss_cons (ps_if (pt_not (pt_truth (pe_fld (pv 0) (by rfl)) (by intro _; rfl)))
      (pss_one (L2N.ps_raise rfl (L2N.takes_of rfl rfl rfl rfl) (L2N.pmk_own PySem.F.excBase_ValueError qD gD kD (raises_own bD tD) (by exact rfl)))) pss_nil)
      (pss_cons (ps_expr (pe_bm0 PySem.F.plainAttrs_list PySem.F.slot_list_pop PySem.F.type_list_pop mt_pop (pe_fld (pv 0) (by rfl))))
      (pss_one (ps_expr (pe_bm0 PySem.F.plainAttrs_list PySem.F.slot_list_pop PySem.F.type_list_pop mt_pop (pe_fld (pv 0) (by rfl)))))), ?_⟩
    have el := k4.len
    refine ⟨_, rfl, a, C, dx, _, .ref lr, rfl, k1, c.cls, c.r, rfl, _, .inl ⟨_, SqL.of k3, rfl⟩, ?_⟩
    by_cases hd : ds = []
    · have hu : us = [] := List.length_eq_zero_iff.mp (by rw [el, hd]; rfl)
      rw [hu]
      refine iteT ?_
      exact qe hd D gD
    · have hu : us ≠ [] := fun z => hd (List.length_eq_zero_iff.mp (by rw [← el, z]; rfl))
      have hu2 : us.isEmpty = false := by
        cases us with
        | nil => exact absurd rfl hu
        | cons _ _ => rfl
      rw [hu2]
      refine iteF ?_
      obtain ⟨y, hy⟩ := last_at hu
      have nal : a ≠ lr := ne_of k1 k3 (fun z => by cases z)
      have nas : a ≠ ls := ne_of k1 k2 (fun z => by cases z)
      refine ⟨_, rfl, a, C, dx, _, .ref lr, rfl, k1, c.cls, c.r, rfl, .inl ⟨rfl, _, SqL.of k3⟩, lr, us, y, rfl, rfl, k3, hy, ?_⟩
      have k2' : upd H lr (.lst us.dropLast) ls = some (.lst (ts.map vS)) := by rw [upd_ne k5]; exact k2
      have ht : ts.map vS ≠ [] := fun z => by
        have := List.map_eq_nil_iff.mp z
        rw [this] at hl
        simp at hl
      obtain ⟨y2, hy2⟩ := last_at ht
      refine ⟨_, rfl, a, C, dx, _, .ref ls, rfl, by rw [upd_ne nal]; exact k1, c.cls, c.s, rfl, .inl ⟨rfl, _, SqL.of k2'⟩, ls, _, y2, rfl, rfl, k2', hy2, ?_⟩
      have t1 : Tups H (upd (upd H lr (.lst us.dropLast)) ls (.lst (ts.map vS).dropLast)) :=
        (tups_upd fun xs z => by rw [k3] at z; cases z).trans (tups_upd fun xs z => by rw [upd_ne k5, k2] at z; cases z)
      refine q hd _ ⟨by rw [upd_ne nas, upd_ne nal]; exact k1, by rw [upd_same, List.map_dropLast], ⟨_, by rw [upd_ne k5.symm, upd_same], (k4.mono t1).drop⟩, k5⟩ ((Bts.refl.upd (by simp)).upd (by simp)) t1
def sp_init (K : PySem.W.Frag) (mg : Str → Option Value) (C : Addr) : Sp := fun vs H Q E => ∃ (a dx : Addr) (x : V) (n : String), vs = [.ref a, x] ∧ H a = some (.ins C dx []) ∧ Tg H x n ∧
  (∀ l, x = vS l → l.length ≤ 1000) ∧
  (∀ l, x = vS l → isStrip l = true → ∀ H' ls lr, KA C H' a dx ls lr [l] [] → Bts [a] H H' → Tups H H' → H ls = none → H lr = none → Q .non H') ∧
  ((∀ l, x = vS l → isStrip l = false) → ∀ D H', mg "NoStrip" = some (.ref D) → Same H H' → E (.ref D) none H')
theorem okm_init (T : Txt K mg) (c : KF K mg C) : FnM P w K mg base (L2N.CX P w) 2 C "__init__" ["self", "strip"] (sp_init K mg C) := by
  have G_is_strip := ok_is_strip (P := P) (w := w) (base := base) T
  obtain ⟨D, gD, kD, bD, tD, sD, eD, qD⟩ := exc_all T.x_NoStrip T.e_NoStrip
  refine T.me_Kept___init__.fnM c.g fun f fd F => okN F mc_Kept___init__ (fun vs H Q E h => ?_) (fun cdv A outer s H vs Q E hr h => ?_)
  · obtain ⟨a, dx, x, n, rfl, _⟩ := h
    rfl
  · obtain ⟨a, dx, x, n, rfl, ha, tg, hx, q, qe⟩ := h
    refine ⟨_, pss_cons (ps_if (pt_not (pt_val (pe_fn G_is_strip hr (pa_cons (pv 1) pa_nil))))
      (pss_one (L2N.ps_raise rfl (L2N.takes_of rfl rfl rfl rfl) (L2N.pmk_own PySem.F.excBase_ValueError qD gD kD (raises_own bD tD) (by exact rfl)))) pss_nil)
      (pss_cons (ps_fld (pv 0) (pe_lst (pa_cons (pv 1) pa_nil)) (by rfl))
      (pss_one (ps_fld (pv 0) (pe_lst pa_nil) (by rfl)))), ?_⟩
    refine ⟨_, rfl, ?_⟩
    dsimp only [tNil]
    rcases tg.strs with ⟨l, rfl, _⟩ | ⟨hn, hm⟩
    · refine .inl ⟨l, rfl, hx l rfl, fun H1 sm => ?_⟩
      cases hs : isStrip l with
      | false =>
        refine ⟨_, rfl, iteT ?_⟩
        exact qe (fun l' e => by rw [← vS_inj.mp e]; exact hs) D H1 gD sm
      | true =>
        refine ⟨_, rfl, iteF ?_⟩
        refine ⟨_, rfl, (by show 1 ≤ sizeLine; decide), fun ls hls => ?_⟩
        have a1 := sm _ _ ha
        have nals : a ≠ ls := ne_of_none a1 hls
        refine ⟨_, rfl, a, C, dx, [], rfl, by rw [upd_ne nals]; exact a1, c.cls, c.s, by decide, ?_⟩
        refine ⟨by decide, fun lr hlr => ?_⟩
        have nalr : a ≠ lr := fun z => by rw [← z, upd_same] at hlr; cases hlr
        have hlr2 : upd H1 ls (.lst [vS l]) lr = none := by rw [upd_ne nalr.symm] at hlr; exact hlr
        have nlr : lr ≠ ls := fun z => by rw [z, upd_same] at hlr2; cases hlr2
        have hlr3 : H1 lr = none := by rw [upd_ne nlr] at hlr2; exact hlr2
        refine ⟨_, rfl, a, C, dx, _, rfl, by rw [upd_ne nalr, upd_same], c.cls, c.r, (by show 1 < 1000; decide), ?_⟩
        have f1 : H ls = none := by
          cases z : H ls with
          | none => rfl
          | some o => rw [sm _ _ z] at hls; cases hls
        have f2 : H lr = none := by
          cases z : H lr with
          | none => rfl
          | some o => rw [sm _ _ z] at hlr3; cases hlr3
        refine q l rfl hs _ ls lr ⟨by rw [upd_same]; rfl, by rw [upd_ne nals.symm, upd_ne nlr.symm, upd_ne nals.symm, upd_same]; rfl, ⟨[], by rw [upd_ne nalr.symm, upd_same], DsAt.nil⟩, nlr.symm⟩ ?_ ?_ f1 f2
        · exact ((((Bts.of sm).new f1).upd (by simp)).new f2).upd (by simp)
        · refine fun y ys e => ?_
          have n1 : y ≠ a := ne_of e ha (fun z => by cases z)
          rw [upd_ne n1, upd_ne (ne_of_none e f2), upd_ne n1, upd_ne (ne_of_none e f1)]
          exact sm _ _ e
    · refine .inr ⟨x, _, rfl, tg.ty, ?_, fun H1 sm => ?_⟩
      · rw [tg.kit (m := "str") (by simp)]
        rw [decide_eq_false (by rintro (z | ⟨_, z⟩); exact hm z; exact absurd z (by decide))]
      · refine ⟨_, rfl, iteT ?_⟩
        exact qe (fun l e => absurd e (hn l)) D H1 gD sm
def sp_eqK (C : Addr) : Sp := fun vs H Q _ => ∃ (a : Addr) (x : V), vs = [.ref a, x] ∧ ((∃ z, x = .str z ∧ Q (.bl false) H) ∨ ∃ (b dx ls lr dy ms mr : Addr) (t u : L) (ts us : List L) (ds es : List De), x = .ref b ∧ KA C H a dx ls lr ts ds ∧ KA C H b dy ms mr us es ∧ ts.head? = some t ∧ us.head? = some u ∧ Sm t ∧ Sm u ∧
  ∀ H', Same H H' → Q (.bl (decide (t = u ∧ ds = es))) H')
theorem okm_eq (T : Txt K mg) (c : KF K mg C) : FnM P w K mg base CX0 2 C "__eq__" ["self", "other"] (sp_eqK C) := by
  refine T.me_Kept___eq__.fnM c.g fun f fd F => F.ok mc_Kept___eq__ (fun vs H Q E h => ?_) (fun cdv A outer s H vs Q E hr h => ?_)
  · obtain ⟨a, x, rfl, _⟩ := h
    rfl
  · obtain ⟨a, x, rfl, h⟩ := h
    refine ⟨_, pss_cons (ps_if (pt_not (pt_val (pe_callB (call_isO c) (by rfl) T.b_isinstance (by decide +kernel) (pa_cons (pv 1) (pa_cons (pe_glob (v := .ref C) rfl c.g rfl) pa_nil)))))
      (pss_one (ps_ret pe_bl)) pss_nil)
      (pss_one (ps_ret (pe_cmpR (op_eqD hr.units) (pe_tup (pa_cons (pe_ix ix_list (pe_fld (pv 0) (by rfl)) pe_int (fun _ _ => rfl)) (pa_cons (pe_fld (pv 0) (by rfl)) pa_nil)))
        (pe_tup (pa_cons (pe_ix ix_list (pe_fld (pv 1) (by rfl)) pe_int (fun _ _ => rfl)) (pa_cons (pe_fld (pv 1) (by rfl)) pa_nil))) (by rfl)))), ?_⟩
    rcases h with ⟨z, rfl, q⟩ | ⟨b, dx, ls, lr, dy, ms, mr, t, u, ts, us, ds, es, rfl, ⟨k1, k2, ⟨vs1, k3, k4⟩, k5⟩, ⟨j1, j2, ⟨vs2, j3, j4⟩, j5⟩, ht, hu, st, su, q⟩
    · exact ⟨_, rfl, _, rfl, .inl ⟨z, rfl, _, rfl, iteT q⟩⟩
    · refine ⟨_, rfl, _, rfl, .inr ⟨b, dy, _, rfl, j1, _, rfl, iteF ?_⟩⟩
      have e0 : atI (ts.map vS) 0 = some (vS t) := by
        obtain ⟨r, rfl⟩ := head_split ht
        exact atI_head _ _
      have e1 : atI (us.map vS) 0 = some (vS u) := by
        obtain ⟨r, rfl⟩ := head_split hu
        exact atI_head _ _
      refine ⟨_, rfl, a, C, dx, _, .ref ls, rfl, k1, c.cls, c.s, rfl, ls, _, 0, vS t, rfl, rfl, SqL.of k2, e0, _, rfl, a, C, dx, _, .ref lr, rfl, k1, c.cls, c.r, rfl, (by show 2 ≤ sizeLine; decide), fun p hp => ?_⟩
      have s1 := Same.upd (o := .tup [vS t, .ref lr]) hp
      refine ⟨_, rfl, b, C, dy, _, .ref ms, rfl, s1 _ _ j1, c.cls, c.s, rfl, ms, _, 0, vS u, rfl, rfl, SqL.of (s1 _ _ j2), e1, _, rfl, b, C, dy, _, .ref mr, rfl, s1 _ _ j1, c.cls, c.r, rfl, (by show 2 ≤ sizeLine; decide), fun p2 hp2 => ?_⟩
      have s2 := Same.upd (o := .tup [vS u, .ref mr]) hp2
      have s3 := s1.trans s2
      refine ⟨dK2 t ds, dK2 u es, .tup (SqT.of (s2 _ _ upd_same)) (.cons (.str _) (.cons ((k4.mono (Tups.same s3)).dp (s3 _ _ k3)) .nil)), .tup (SqT.of upd_same) (.cons (.str _) (.cons ((j4.mono (Tups.same s3)).dp (s3 _ _ j3)) .nil)), dK2_shaped _ st, dK2_shaped _ su, ?_⟩
      rw [dK2_eqv]
      exact q _ s3
end
end Lk

namespace Lk
open PySem PySem.Spec PyProof.Rows L2
/-! ### k10: an exception's word -/
open Fo
/-- the refusals and their words -/
def six : List (Str × L) := [("Long", [76, 111, 110, 103]), ("NoCrease", [78, 111, 67, 114, 101, 97, 115, 101]), ("NoEnd", [78, 111, 69, 110, 100]), ("NoMany", [78, 111, 77, 97, 110, 121]), ("NoStrip", [78, 111, 83, 116, 114, 105, 112]), ("NothingLeft", [78, 111, 116, 104, 105, 110, 103, 76, 101, 102, 116])]
section
variable {P : Program} {w : World} {K : PySem.W.Frag} {mg : Str → Option Value} {base : Heap}
theorem exk_at {x y : Str} {b : Bool} {D : Addr} (a : ExK K mg x y b) (g : mg x = some (.ref D)) : ∃ Dj, mg y = some (.ref Dj) ∧ PySem.W.kitOne K (.ref D) (.ref Dj) = some b := by
  obtain ⟨C, Dj, g1, g2, k⟩ := a
  rw [g] at g1
  injection g1 with g1
  injection g1 with g1
  subst g1
  exact ⟨Dj, g2, k⟩
theorem exf_at {x : Str} {D : Addr} (a : ExF K mg x) (g : mg x = some (.ref D)) : ExcC K D := by
  obtain ⟨C, g1, _, _, _, _, _, e⟩ := a.ex
  rw [g] at g1
  injection g1 with g1
  injection g1 with g1
  subst g1
  exact e
theorem six_facts (T : Txt K mg) {i : Nat} {x : Str} {l : L} {D : Addr} (h : six[i]? = some (x, l)) (g : mg x = some (.ref D)) : i < 6 ∧ ExcC K D ∧
    (∃ Dj, mg "Long" = some (.ref Dj) ∧ PySem.W.kitOne K (.ref D) (.ref Dj) = some (decide (i = 0))) ∧
    (∃ Dj, mg "NoCrease" = some (.ref Dj) ∧ PySem.W.kitOne K (.ref D) (.ref Dj) = some (decide (i = 1))) ∧
    (∃ Dj, mg "NoEnd" = some (.ref Dj) ∧ PySem.W.kitOne K (.ref D) (.ref Dj) = some (decide (i = 2))) ∧
    (∃ Dj, mg "NoMany" = some (.ref Dj) ∧ PySem.W.kitOne K (.ref D) (.ref Dj) = some (decide (i = 3))) ∧
    (∃ Dj, mg "NoStrip" = some (.ref Dj) ∧ PySem.W.kitOne K (.ref D) (.ref Dj) = some (decide (i = 4))) ∧
    (∃ Dj, mg "NothingLeft" = some (.ref Dj) ∧ PySem.W.kitOne K (.ref D) (.ref Dj) = some (decide (i = 5))) := by
  match i, h with
  | 0, h =>
    cases h
    exact ⟨by decide, exf_at T.x_Long g, exk_at T.k_Long_Long g, exk_at T.k_Long_NoCrease g, exk_at T.k_Long_NoEnd g, exk_at T.k_Long_NoMany g, exk_at T.k_Long_NoStrip g, exk_at T.k_Long_NothingLeft g⟩
  | 1, h =>
    cases h
    exact ⟨by decide, exf_at T.x_NoCrease g, exk_at T.k_NoCrease_Long g, exk_at T.k_NoCrease_NoCrease g, exk_at T.k_NoCrease_NoEnd g, exk_at T.k_NoCrease_NoMany g, exk_at T.k_NoCrease_NoStrip g, exk_at T.k_NoCrease_NothingLeft g⟩
  | 2, h =>
    cases h
    exact ⟨by decide, exf_at T.x_NoEnd g, exk_at T.k_NoEnd_Long g, exk_at T.k_NoEnd_NoCrease g, exk_at T.k_NoEnd_NoEnd g, exk_at T.k_NoEnd_NoMany g, exk_at T.k_NoEnd_NoStrip g, exk_at T.k_NoEnd_NothingLeft g⟩
  | 3, h =>
    cases h
    exact ⟨by decide, exf_at T.x_NoMany g, exk_at T.k_NoMany_Long g, exk_at T.k_NoMany_NoCrease g, exk_at T.k_NoMany_NoEnd g, exk_at T.k_NoMany_NoMany g, exk_at T.k_NoMany_NoStrip g, exk_at T.k_NoMany_NothingLeft g⟩
  | 4, h =>
    cases h
    exact ⟨by decide, exf_at T.x_NoStrip g, exk_at T.k_NoStrip_Long g, exk_at T.k_NoStrip_NoCrease g, exk_at T.k_NoStrip_NoEnd g, exk_at T.k_NoStrip_NoMany g, exk_at T.k_NoStrip_NoStrip g, exk_at T.k_NoStrip_NothingLeft g⟩
  | 5, h =>
    cases h
    exact ⟨by decide, exf_at T.x_NothingLeft g, exk_at T.k_NothingLeft_Long g, exk_at T.k_NothingLeft_NoCrease g, exk_at T.k_NothingLeft_NoEnd g, exk_at T.k_NothingLeft_NoMany g, exk_at T.k_NothingLeft_NoStrip g, exk_at T.k_NothingLeft_NothingLeft g⟩
  | n + 6, h => exact absurd h (by simp [six])
def sp_kind (mg : Str → Option Value) (p : Addr × Obj) : Sp := fun vs H Q _ => ∃ (i : Nat) (x : Str) (l : L) (D : Addr), six[i]? = some (x, l) ∧ mg x = some (.ref D) ∧ vs = [.ref p.1] ∧ Zc (.ref D) none p.2 ∧ ∀ H', Same H H' → Q (vS l) H'
def wordsL : List L := six.map (·.2)
theorem words_vs : wordsL.map vS = [.str "Long", .str "NoCrease", .str "NoEnd", .str "NoMany", .str "NoStrip", .str "NothingLeft"] := rfl
/-- what is picked -/
def pick (ws : List L) (bs : List Bool) (i : Nat) : List L := ((ws.zip bs).take i).filterMap fun q => if q.2 = true then some q.1 else none
theorem pick_succ {ws : List L} {bs : List Bool} {i : Nat} {x : L} {b : Bool} (h1 : ws[i]? = some x) (h2 : bs[i]? = some b) : pick ws bs (i + 1) = pick ws bs i ++ (if b = true then [x] else []) := by
  unfold pick
  rw [List.take_add_one]
  have e : (ws.zip bs)[i]? = some (x, b) := by
    rw [List.getElem?_zip_eq_some]
    exact ⟨h1, h2⟩
  rw [e, List.filterMap_append]
  cases b <;> rfl
theorem pick_len (ws : List L) (bs : List Bool) (i : Nat) : (pick ws bs i).length ≤ i := by
  unfold pick
  refine Nat.le_trans (List.length_filterMap_le _ _) ?_
  rw [List.length_take]
  omega
theorem ok__law_kind (T : Txt K mg) : FnPx P w K mg base CX0 1 "_law_kind" ["e"] (sp_kind mg) := by
  refine T.d__law_kind.fnP fun f fd F => okP F sc__law_kind (fun p vs H Q E h => ?_) (fun cdv A outer s H vs Q E p hot hr h => ?_)
  · obtain ⟨i, x, l, D, _, _, rfl, _⟩ := h
    rfl
  · obtain ⟨i, x, l, D, hi, g, rfl, hz, q⟩ := h
    obtain ⟨i6, eC, ⟨D0, g0, k0⟩, ⟨D1, g1, k1⟩, ⟨D2, g2, k2⟩, ⟨D3, g3, k3⟩, ⟨D4, g4, k4⟩, ⟨D5, g5, k5⟩⟩ := six_facts T hi g
    have hf : ∃ vs, p.2.data = .fields vs := by
      obtain ⟨_, vs, e, _⟩ := hot
      exact ⟨vs, e⟩
    refine ⟨_, pss_cons (ps_set (i := 1) sc__law_kind.nd rfl (.inl rfl) (pe_lst (pa_cons (pe_callB (call_isEP (p := p) eC (List.mem_singleton.mpr rfl) hz hf) (by rfl) T.b_isinstance (by decide +kernel) (pa_cons (pv 0) (pa_cons (pe_glob (v := .ref D0) rfl g0 rfl) pa_nil))) (pa_cons (pe_callB (call_isEP (p := p) eC (List.mem_singleton.mpr rfl) hz hf) (by rfl) T.b_isinstance (by decide +kernel) (pa_cons (pv 0) (pa_cons (pe_glob (v := .ref D1) rfl g1 rfl) pa_nil))) (pa_cons (pe_callB (call_isEP (p := p) eC (List.mem_singleton.mpr rfl) hz hf) (by rfl) T.b_isinstance (by decide +kernel) (pa_cons (pv 0) (pa_cons (pe_glob (v := .ref D2) rfl g2 rfl) pa_nil))) (pa_cons (pe_callB (call_isEP (p := p) eC (List.mem_singleton.mpr rfl) hz hf) (by rfl) T.b_isinstance (by decide +kernel) (pa_cons (pv 0) (pa_cons (pe_glob (v := .ref D3) rfl g3 rfl) pa_nil))) pa_nil))))))
      (pss_cons (ps_set (i := 1) sc__law_kind.nd rfl (.inl rfl) (pe_op op_cat (pv 1) (pe_lst (pa_cons (pe_callB (call_isEP (p := p) eC (List.mem_singleton.mpr rfl) hz hf) (by rfl) T.b_isinstance (by decide +kernel) (pa_cons (pv 0) (pa_cons (pe_glob (v := .ref D4) rfl g4 rfl) pa_nil))) (pa_cons (pe_callB (call_isEP (p := p) eC (List.mem_singleton.mpr rfl) hz hf) (by rfl) T.b_isinstance (by decide +kernel) (pa_cons (pv 0) (pa_cons (pe_glob (v := .ref D5) rfl g5 rfl) pa_nil))) pa_nil)))))
      (pss_cons (ps_set (i := 2) sc__law_kind.nd rfl (.inl rfl) (pe_lst (pa_cons pe_str (pa_cons pe_str (pa_cons pe_str (pa_cons pe_str (pa_cons pe_str (pa_cons pe_str pa_nil))))))))
      (pss_one (ps_ret (pe_joinS pe_str (pe_lcH (p := p) (own := [("word", 3), ("is_it", 4)]) (g := gTup K 2 (gCons (gName 3) (gCons (gName 4) gNil))) hot (List.mem_singleton.mpr rfl) sc__law_kind.nd (pi_zipH (by rfl) T.b_zip (pa_cons (pv 2) (pa_cons (pv 1) pa_nil)))
        (blkOk_by (own := [("word", 3), ("is_it", 4)]) (N := ["e", "some", "words", "word", "is_it"]) (sc := defScope s__law_kind) (by decide +kernel))
        (fun _ _ _ _ _ => pg_tupH ⟨p, hot, List.mem_singleton.mpr rfl⟩ (pgs_cons (pg_name (i := 3) sc__law_kind.nd rfl (Or.inl rfl)) (pgs_cons (pg_name (i := 4) sc__law_kind.nd rfl (Or.inl rfl)) pgs_nil)))
        (fun _ _ _ _ _ => pts_one (pt_val (pv 4))) (fun _ _ _ _ _ => (pv 3)))))))), ?_⟩
    refine ⟨_, rfl, .ref D0, .ref D0, _, rfl, fun u hu => (by first | exact hu | exact hu.symm), k0, ?_⟩
    refine ⟨_, rfl, .ref D1, .ref D1, _, rfl, fun u hu => (by first | exact hu | exact hu.symm), k1, ?_⟩
    refine ⟨_, rfl, .ref D2, .ref D2, _, rfl, fun u hu => (by first | exact hu | exact hu.symm), k2, ?_⟩
    refine ⟨_, rfl, .ref D3, .ref D3, _, rfl, fun u hu => (by first | exact hu | exact hu.symm), k3, ?_⟩
    refine ⟨(by show 4 ≤ sizeLine; decide), fun p1 hp1 => ?_⟩
    refine ⟨_, rfl, ?_⟩
    refine ⟨_, rfl, .ref D4, .ref D4, _, rfl, fun u hu => (by first | exact hu | exact hu.symm), k4, ?_⟩
    refine ⟨_, rfl, .ref D5, .ref D5, _, rfl, fun u hu => (by first | exact hu | exact hu.symm), k5, ?_⟩
    refine ⟨(by show 2 ≤ sizeLine; decide), fun p2 hp2 => ?_⟩
    have n12 : p1 ≠ p2 := ne_of_none upd_same hp2
    have s1 := Same.upd (o := .lst [.bl (decide (i = 0)), .bl (decide (i = 1)), .bl (decide (i = 2)), .bl (decide (i = 3))]) hp1
    have s2 := Same.upd (o := .lst [.bl (decide (i = 4)), .bl (decide (i = 5))]) hp2
    refine ⟨p1, p2, _, _, rfl, rfl, s2 _ _ upd_same, upd_same, (by show 4 + 2 ≤ sizeLine; decide), fun p3 hp3 => ?_⟩
    have s3 := Same.upd (o := .lst ([.bl (decide (i = 0)), .bl (decide (i = 1)), .bl (decide (i = 2)), .bl (decide (i = 3))] ++ [.bl (decide (i = 4)), .bl (decide (i = 5))])) hp3
    refine ⟨(by show 6 ≤ sizeLine; decide), fun p4 hp4 => ?_⟩
    have s4 := Same.upd (o := .lst [.str "Long", .str "NoCrease", .str "NoEnd", .str "NoMany", .str "NoStrip", .str "NothingLeft"]) hp4
    refine ⟨⟨_, rfl⟩, _, rfl, _, rfl, p4, p3, _, _, rfl, SqL.of upd_same, SqL.of (s4 _ _ upd_same), fun D' hD' => ?_⟩
    generalize hH4 : upd (upd (upd (upd H p1 _) p2 _) p3 _) p4 _ = H4 at hD' s4 ⊢
    have e3 : H4 p3 = some (.lst ([decide (i = 0), decide (i = 1), decide (i = 2), decide (i = 3), decide (i = 4), decide (i = 5)].map V.bl)) := s4 _ _ upd_same
    have e4 : H4 p4 = some (.lst (wordsL.map vS)) := by rw [← hH4]; exact upd_same
    have sm : Same H H4 := (((s1.trans s2).trans s3).trans s4)
    have nD3 : p3 ≠ D' := ne_of_none e3 hD'
    have nD4 : p4 ≠ D' := ne_of_none e4 hD'
    generalize hbs : [decide (i = 0), decide (i = 1), decide (i = 2), decide (i = 3), decide (i = 4), decide (i = 5)] = bs at e3
    have lb : bs.length = 6 := by rw [← hbs]; rfl
    have lw : wordsL.length = 6 := rfl
    refine ⟨fun n m H' => m = 6 - n ∧ n ≤ 6 ∧ H' D' = some (.lst ((pick wordsL bs n).map vS)) ∧ But D' H4 H', ⟨6, rfl, Nat.zero_le _, upd_same, fun y o ny e => by rw [upd_ne ny]; exact e⟩, ?_⟩
    rintro n m H' ⟨rfl, hn, eD, bt⟩
    have e3' := bt _ _ nD3 e3
    have e4' := bt _ _ nD4 e4
    by_cases hlt : n < 6
    · have hw1 : wordsL[n]? = some wordsL[n] := List.getElem?_eq_getElem hlt
      have hb1 : bs[n]? = some (bs[n]'(by omega)) := List.getElem?_eq_getElem (by omega)
      generalize hwv : wordsL[n] = wv at hw1
      generalize hbv : (bs[n]'(by omega)) = bv at hb1
      have hw2 : (wordsL.map vS)[n]? = some (vS wv) := by rw [List.getElem?_map, hw1]; rfl
      have hb2 : (bs.map V.bl)[n]? = some (V.bl bv) := by rw [List.getElem?_map, hb1]; rfl
      refine .inr ⟨⟨_, _, _, _, SqL.of e4', SqL.of e3', hw2, hb2⟩, fun H2 => H2 D' = some (.lst ((pick wordsL bs (n + 1)).map vS)) ∧ But D' H4 H2, fun H2 h2 => ⟨6 - (n + 1), by omega, rfl, by omega, h2.1, h2.2⟩, ?_⟩
      rintro v H2 ⟨T2, v1, v2, rfl, hT, rfl, f1, f2⟩
      have g1 := f1 _ (SqL.of e4')
      have g2 := f2 _ (SqL.of e3')
      rw [hw2] at g1
      rw [hb2] at g2
      obtain rfl := Option.some.inj g1
      obtain rfl := Option.some.inj g2
      have nT : D' ≠ T2 := ne_of_none eD hT
      have bt2 : But D' H4 (upd H' T2 (.tup [vS wv, V.bl bv])) := bt.same (Same.upd hT)
      refine ⟨T2, _, rfl, SqT.of upd_same, rfl, _, _, rfl, _, _, rfl, rfl, rfl, _, rfl, _, rfl, ?_⟩
      rw [pick_succ hw1 hb1]
      cases bv with
      | true =>
        refine iteT ?_
        refine ⟨_, rfl, _, by rw [upd_ne nT]; exact eD, small1000 (by have := pick_len wordsL bs n; rw [List.length_map]; omega), by rw [upd_same, if_pos rfl, List.map_append]; rfl, fun y o ny e => by rw [upd_ne ny]; exact bt2 y o ny e⟩
      | false =>
        refine iteF ?_
        exact ⟨by rw [if_neg (by decide), List.append_nil, upd_ne nT]; exact eD, bt2⟩
    · have e6 : n = 6 := by omega
      subst e6
      refine .inl ⟨⟨_, SqL.of e4', by rw [List.length_map, lw]; exact Nat.le_refl _⟩, ?_⟩
      have smH : Same H H' := fun y o e => bt _ _ (ne_of_none (sm _ _ e) hD') (sm _ _ e)
      have el : pick wordsL bs 6 = [l] := by
        rw [← hbs]
        match i, hi, i6 with
        | 0, hi, _ => cases hi; rfl
        | 1, hi, _ => cases hi; rfl
        | 2, hi, _ => cases hi; rfl
        | 3, hi, _ => cases hi; rfl
        | 4, hi, _ => cases hi; rfl
        | 5, hi, _ => cases hi; rfl
        | n + 6, _, h6 => exact absurd h6 (by omega)
      rw [el] at eD
      have ll : l.length ≤ 20 := by
        match i, hi, i6 with
        | 0, hi, _ => cases hi; decide
        | 1, hi, _ => cases hi; decide
        | 2, hi, _ => cases hi; decide
        | 3, hi, _ => cases hi; decide
        | 4, hi, _ => cases hi; decide
        | 5, hi, _ => cases hi; decide
        | n + 6, _, h6 => exact absurd h6 (by omega)
      refine ⟨[32], D', [l], rfl, rfl, .inl (SqL.of eD), by simp; omega, ?_⟩
      exact q H' smH
end
end Lk

namespace Lk
open PySem PySem.Spec PyProof.Rows L2
/-! ### k10: what is done, refusals as words -/
open Fo
theorem takes0N {X : Cx} : L2N.Takes X (fun _ _ _ _ => False) := fun _ _ x => by
  obtain ⟨_, _, _, _, _, _, _, _, _, _, _, _, _, _, _, _, w⟩ := x
  exact w.elim
theorem PE.imp {X : Cx} {e : Expr} {t t' : TE} (h : PE X e t) (i : ∀ σ H Q, t' σ H Q → t σ H Q) : PE X e t' := ⟨fun pins s σ H Q I q => h.run pins s σ H Q I (i σ H Q q)⟩
theorem six_str {i : Nat} {x : Str} {l : L} (h : six[i]? = some (x, l)) : vS l = V.str x := by
  match i, h with
  | 0, h => cases h; rfl
  | 1, h => cases h; rfl
  | 2, h => cases h; rfl
  | 3, h => cases h; rfl
  | 4, h => cases h; rfl
  | 5, h => cases h; rfl
  | n + 6, h => exact absurd h (by simp [six])
section
variable {P : Program} {w : World} {K : PySem.W.Frag} {mg : Str → Option Value} {base : Heap} {C : Addr}
theorem six_fold (T : Txt K mg) {i : Nat} {x : Str} {l : L} {D F0 : Addr} (h : six[i]? = some (x, l)) (g : mg x = some (.ref D)) (gF : mg "FoldError" = some (.ref F0)) : PySem.W.kitOne K (.ref D) (.ref F0) = some true := by
  have fin : ∀ {y : Str}, ExK K mg y "FoldError" true → mg y = some (.ref D) → PySem.W.kitOne K (.ref D) (.ref F0) = some true := fun a gy => by
    obtain ⟨Dj, g2, k⟩ := exk_at a gy
    rw [gF] at g2
    injection g2 with g2
    injection g2 with g2
    subst g2
    exact k
  match i, h with
  | 0, h => cases h; exact fin T.k_Long_FoldError g
  | 1, h => cases h; exact fin T.k_NoCrease_FoldError g
  | 2, h => cases h; exact fin T.k_NoEnd_FoldError g
  | 3, h => cases h; exact fin T.k_NoMany_FoldError g
  | 4, h => cases h; exact fin T.k_NoStrip_FoldError g
  | 5, h => cases h; exact fin T.k_NothingLeft_FoldError g
  | n + 6, h => exact absurd h (by simp [six])
theorem sub_of_kit {D F0 : Addr} (t : PySem.W.typeIn K (.ref F0) = some (.type "type")) (s : PySem.W.subIn K (.ref F0) (.ref F0) = some true) (i : PySem.W.isClsIn K F0 = true) (k : PySem.W.kitOne K (.ref D) (.ref F0) = some true) : PySem.W.subIn K (.ref D) (.ref F0) = some true := by
  by_cases e : D = F0
  · subst e
    exact s
  · unfold PySem.W.kitOne at k
    rw [if_neg (by simpa using e)] at k
    unfold PySem.W.kitCls at k
    have i' : (PySem.W.clsIn K F0).isSome = true := i
    dsimp only at k
    rw [i', t] at k
    simpa using k
/-- the word of the exception in hand, without a look at its object -/
def tKind (mg : Str → Option Value) (j : Nat) (a : Addr) (cls : Value) (d : Option Addr) : TE := fun σ H Q => σ[j]? = some (some (.ref a)) ∧ ∃ (i : Nat) (x : Str) (l : L) (D : Addr), six[i]? = some (x, l) ∧ mg x = some (.ref D) ∧ cls = .ref D ∧ d = none ∧ ∀ H', Same H H' → Q (.str x) H'
theorem pe_kind {X : Cx} {a : Addr} {oe : Obj} {cls : Value} {d : Option Addr} {pn : List (Addr × Obj)} {j k : Nat} {n : Str} {np q pos : Pos} (F : FnPx X.prog X.w X.K X.mg X.base CX0 k "_law_kind" ["e"] (sp_kind X.mg)) (hr : Room k X.A) (hz : L2N.Zn cls d oe) (hf : ∃ vs, oe.data = .fields vs)
    (hN : X.N[j]? = some n) (hv : Vis X.env.scope n) (hg : Gl X "_law_kind" := by rfl) (hd : (n == ("__debug__" : Str)) = false := by decide) (hcd : (n == ("__classdict__" : Str)) = false := by decide) (hs : starEach [.Name n np] X.env = (false, eval (.Name n np) X.env) :: starEach [] X.env := by rfl) :
    PE (X.suite a ((a, oe) :: pn)) (.Call (.Name "_law_kind" q) [.Name n np] [] pos) (tKind X.mg j a cls d) := by
  have hot : L2H.Hot1 (X.suite a ((a, oe) :: pn)).A (a, oe) := by
    obtain ⟨vs, e⟩ := hf
    exact ⟨rfl, vs, e, hz.2.2 vs e⟩
  have z := pe_fnP (X := X.suite a ((a, oe) :: pn)) (p := (a, oe)) (q := q) (pos := pos) F (⟨hr.dp, hr.un⟩ : L2H.RoomH k (X.A.mark (some (.ref a)))) hot List.mem_cons_self (pa_cons (pe_var (X := X.suite a ((a, oe) :: pn)) (pos := np) hN hv hd hcd) pa_nil hs) (Nat.le_refl _) hg (by decide) hs (by rfl)
  refine PE.imp z fun σ H Q h => ?_
  obtain ⟨hj, i, x, l, D, h6, g, rfl, rfl, qq⟩ := h
  refine ⟨_, hj, i, x, l, D, h6, g, rfl, hz.zc, fun H' sm => ?_⟩
  rw [six_str h6]
  exact qq H' sm
/-- a deed as it is drawn -/
inductive Raw where
  | fold (x : V)
  | unf (x y : V)
  | turn
  | back
def Raw.vs : Raw → List V
  | .fold x => [.str "fold", x]
  | .unf x y => [.str "unfold", x, y]
  | .turn => [.str "turn"]
  | .back => [.str "back"]
def Raw.ok (K : PySem.W.Frag) (H : Hp) : Raw → Prop
  | .fold x => KdOk K H x
  | .unf x y => KdOk K H x ∧ KdOk K H y
  | _ => True
/-- what becomes of a deed -/
inductive Act where
  | go (t : L) (d : De)
  | back
  | no (w : Str)
def act (l : L) (ds : List De) : Raw → Act
  | .fold x => match isCr l x with
    | some k => .go (left l k) (.fold k)
    | none => .no "NoCrease"
  | .unf x y => match unfAct l x y with
    | .inr (e, m) => .go (unfL l (e, m)) (.unf e m)
    | .inl w => .no w
  | .turn => .go l.reverse .turn
  | .back => if ds = [] then .no "NothingLeft" else .back
def foldL : L := [102, 111, 108, 100]
def unfoldL : L := [117, 110, 102, 111, 108, 100]
def turnL : L := [116, 117, 114, 110]
def backL : L := [98, 97, 99, 107]
def Raw.wd : Raw → L
  | .fold _ => foldL
  | .unf _ _ => unfoldL
  | .turn => turnL
  | .back => backL
theorem Raw.at0 (r : Raw) : atI r.vs 0 = some (vS r.wd) := by cases r <;> rfl
theorem unfAct_six {l : L} {x y : V} {w : Str} (h : unfAct l x y = .inl w) : ∃ (i : Nat) (m : L), six[i]? = some (w, m) := by
  unfold unfAct at h
  split at h
  · cases h; exact ⟨2, _, rfl⟩
  · split at h
    · cases h; exact ⟨3, _, rfl⟩
    · split at h
      · cases h; exact ⟨0, _, rfl⟩
      · cases h
/-- what is wanted behind a deed -/
def After (C : Addr) (H : Hp) (a dx ls lr : Addr) (ts : List L) (ds : List De) (l : L) (Q : VK) : Act → Prop
  | .go t d => ∀ H', KA C H' a dx ls lr (ts ++ [l] ++ [t]) (ds ++ [d]) → Bts [ls, lr] H H' → Tups H H' → Q (vS t) H'
  | .back => ∀ H', KA C H' a dx ls lr ts ds.dropLast → Bts [ls, lr] H H' → Tups H H' → Q .non H'
  | .no w => ∀ H', Same H H' → Q (.str w) H'
def sp_did (K : PySem.W.Frag) (C : Addr) : Sp := fun vs H Q _ => ∃ (a dx ls lr b : Addr) (ts : List L) (ds : List De) (l : L) (r : Raw), vs = [.ref a, .ref b] ∧ KA C H a dx ls lr (ts ++ [l]) ds ∧ ts.length = ds.length ∧ l.length ≤ 900 ∧ ts.length ≤ 900 ∧ H b = some (.tup r.vs) ∧ r.ok K H ∧
  After C H a dx ls lr ts ds l Q (act l ds r)
theorem ok__law_did (T : Txt K mg) (c : KF K mg C) : Fn P w K mg base CX0 4 "_law_did" ["kept", "deed"] (sp_did K C) := by
  have G_fold := okm_fold (P := P) (w := w) (base := base) T c
  have G_unfold := okm_unfold (P := P) (w := w) (base := base) T c
  have G_turn := okm_turn (P := P) (w := w) (base := base) T c
  have G_back := okm_back (P := P) (w := w) (base := base) T c
  have G_kind := ok__law_kind (P := P) (w := w) (base := base) T
  have G_kind3 : FnPx P w K mg base CX0 3 "_law_kind" ["e"] (sp_kind mg) := by
    obtain ⟨f, fd, a, b, d, e⟩ := G_kind
    exact ⟨f, fd, a, b, d, ⟨e.len, fun A outer s H args us vs Q E p hr => e.run A outer s H args us vs Q E p (hr.mono (by decide))⟩⟩
  obtain ⟨F0, gF, kF, bF, tF, iF, sF, eF⟩ := T.x_FoldError.ex
  obtain ⟨DC, gDC, _⟩ := T.e_NoCrease
  refine T.d__law_did.fn fun f fd F => F.ok sc__law_did (fun vs H Q E h => ?_) (fun cdv A outer s H vs Q E hr h => ?_)
  · obtain ⟨a, dx, ls, lr, b, ts, ds, l, r, rfl, _⟩ := h
    rfl
  · obtain ⟨a, dx, ls, lr, b, ts, ds, l, r, rfl, k0, hl0, hl, hl1, hb, hok, q⟩ := h
    obtain ⟨k1, k2, ⟨us, k3, k4⟩, k5⟩ := id k0
    refine ⟨_, pss_one (L2N.ps_try_as (i := 2) (tb := fun W => _) (ts := fun a cls d => _) (Wout := fun _ _ _ _ => False) rfl rfl sc__law_did.nd rfl rfl ⟨rfl, by decide, Or.inl gF⟩ takes0N
      (fun W pn xe tk _ => (pss_cons (ps_if (pt_cmpR op_eqS (pe_ix (ix_tupK K rfl) (pv 1) pe_int (fun _ _ => rfl)) pe_str (nomark _))
          (pss_one (ps_ret (pe_mS (pv 0) c.cls G_fold hr (fun σ => L2N.passAt tk σ) (pa_cons (pe_ix (ix_tupK K rfl) (pv 1) pe_int (fun _ _ => rfl)) pa_nil)))) pss_nil)
        (pss_cons (ps_if (pt_cmpR op_eqS (pe_ix (ix_tupK K rfl) (pv 1) pe_int (fun _ _ => rfl)) pe_str (nomark _))
          (pss_one (ps_ret (pe_mS (pv 0) c.cls G_unfold hr (fun σ => L2N.passAt tk σ) (pa_cons (pe_ix (ix_tupK K rfl) (pv 1) pe_int (fun _ _ => rfl)) (pa_cons (pe_ix (ix_tupK K rfl) (pv 1) pe_int (fun _ _ => rfl)) pa_nil))))) pss_nil)
        (pss_one (ps_ret (pe_ifExp (pt_cmpR op_eqS (pe_ix (ix_tupK K rfl) (pv 1) pe_int (fun _ _ => rfl)) pe_str (nomark _)) (pe_mS0 (pv 0) c.cls G_turn hr passA0) (pe_mS0 (pv 0) c.cls G_back hr (fun σ => L2N.passAt tk σ))))))))
      (fun a oe cls d pn hz hf => pss_one (ps_ret (pe_kind (j := 2) G_kind3 hr hz hf rfl (.inl rfl))))), ?_⟩
    have exc : ∀ (i : Nat) (x : Str) (m : L) (D : Addr) (σ : L2.St) (D' : Ends) (H1 : Hp), six[i]? = some (x, m) → mg x = some (.ref D) → σ.length = 3 → D'.rt = Q → (∀ H', Same H1 H' → Q (.str x) H') →
        wAs K (.ref F0) 2 (fun a cls d => tRet (tKind mg 2 a cls d)) (fun _ _ _ _ => False) D' (.ref D) none σ H1 := fun i x m D σ D' H1 h6 g hσ hD hq =>
      ⟨true, PySem.W.exm_ref bF eF.hd tF (sub_of_kit tF sF iF (six_fold T h6 g gF)), fun _ a ha => ⟨List.getElem?_set_self (by omega), i, x, m, D, h6, g, rfl, rfl, fun H' sm => by rw [hD]; exact hq H' sm⟩, fun z => nomatch z⟩
    have tb : SqT K H b r.vs := SqT.of hb
    refine ⟨_, rfl, b, r.vs, 0, vS r.wd, rfl, rfl, tb, r.at0, r.wd, foldL, rfl, rfl, _, rfl, ?_⟩
    cases r with
    | fold x =>
      refine iteT ?_
      refine ⟨_, rfl, a, dx, _, rfl, k1, rfl, _, rfl, b, _, 1, x, rfl, rfl, tb, rfl, ?_⟩
      refine ⟨a, dx, ls, lr, ts, ds, l, x, rfl, k0, by omega, hl1, by omega, hok, fun k hk H' k' b' t' => ?_, fun hn D gD => ?_⟩
      · have q' : After C H a dx ls lr ts ds l Q (.go (left l k) (.fold k)) := by
          have e : act l ds (.fold x) = .go (left l k) (.fold k) := by unfold act; dsimp only; rw [hk]
          rw [e] at q; exact q
        exact q' H' k' b' t'
      · have q' : After C H a dx ls lr ts ds l Q (.no "NoCrease") := by
          have e : act l ds (.fold x) = .no "NoCrease" := by unfold act; dsimp only; rw [hn]
          rw [e] at q; exact q
        exact exc 1 _ _ D _ _ _ rfl gD rfl rfl q'
    | unf x y =>
      refine iteF ?_
      refine ⟨_, rfl, b, _, 0, vS unfoldL, rfl, rfl, tb, rfl, unfoldL, unfoldL, rfl, rfl, _, rfl, ?_⟩
      refine iteT ?_
      refine ⟨_, rfl, a, dx, _, rfl, k1, rfl, _, rfl, b, _, 1, x, rfl, rfl, tb, rfl, _, rfl, b, _, 2, y, rfl, rfl, tb, rfl, ?_⟩
      refine ⟨a, dx, ls, lr, ts, ds, l, x, y, rfl, k0, hl, hl1, by omega, hok.1, hok.2, fun e m hk H' k' b' t' => ?_, fun wd hn D gD => ?_⟩
      · have q' : After C H a dx ls lr ts ds l Q (.go (unfL l (e, m)) (.unf e m)) := by
          have e : act l ds (.unf x y) = .go (unfL l (e, m)) (.unf e m) := by unfold act; dsimp only; rw [hk]
          rw [e] at q; exact q
        exact q' H' k' b' t'
      · have q' : After C H a dx ls lr ts ds l Q (.no wd) := by
          have e : act l ds (.unf x y) = .no wd := by unfold act; dsimp only; rw [hn]
          rw [e] at q; exact q
        obtain ⟨i, m, h6⟩ := unfAct_six hn
        exact exc i _ _ D _ _ _ h6 gD rfl rfl q'
    | turn =>
      refine iteF ?_
      refine ⟨_, rfl, b, _, 0, vS turnL, rfl, rfl, tb, rfl, turnL, unfoldL, rfl, rfl, _, rfl, ?_⟩
      refine iteF ?_
      refine ⟨_, rfl, b, _, 0, vS turnL, rfl, rfl, tb, rfl, turnL, turnL, rfl, rfl, _, rfl, ?_⟩
      refine iteT ?_
      refine ⟨_, rfl, a, dx, _, rfl, k1, rfl, ?_⟩
      exact ⟨a, dx, ls, lr, ts, ds, l, rfl, k0, by omega, hl1, by omega, fun H' k' b' t' => q H' k' b' t'⟩
    | back =>
      refine iteF ?_
      refine ⟨_, rfl, b, _, 0, vS backL, rfl, rfl, tb, rfl, backL, unfoldL, rfl, rfl, _, rfl, ?_⟩
      refine iteF ?_
      refine ⟨_, rfl, b, _, 0, vS backL, rfl, rfl, tb, rfl, backL, turnL, rfl, rfl, _, rfl, ?_⟩
      refine iteF ?_
      refine ⟨_, rfl, a, dx, _, rfl, k1, rfl, ?_⟩
      refine ⟨a, dx, ls, lr, ts ++ [l], ds, rfl, k0, by rw [List.length_append]; simp; omega, fun hd H' k' b' t' => ?_, fun hd D gD => ?_⟩
      · have q' : After C H a dx ls lr ts ds l Q .back := by
          have e : act l ds .back = .back := by unfold act; dsimp only; rw [if_neg hd]
          rw [e] at q; exact q
        exact q' H' (by rw [List.dropLast_concat] at k'; exact k') b' t'
      · have q' : After C H a dx ls lr ts ds l Q (.no "NothingLeft") := by
          have e : act l ds .back = .no "NothingLeft" := by unfold act; dsimp only; rw [if_pos hd]
          rw [e] at q; exact q
        exact exc 5 _ _ D _ _ _ rfl gD rfl rfl q'
end
end Lk

namespace Lk
open PySem PySem.Spec PyProof.Rows L2
/-! ### k10: what is due -/
open Fo
/-- rows of (strip, deed): the strips us, the deeds ds -/
def RA (H : Hp) (r : Addr) (us : List L) (ds : List De) : Prop := ∃ (ps : List (Addr × L × V)) (dv : List V), H r = some (.lst (ps.map fun p => V.ref p.1)) ∧ ps.map (fun p => p.2.1) = us ∧ ps.map (fun p => p.2.2) = .non :: dv ∧ DsAt H dv ds ∧ ∀ p ∈ ps, H p.1 = some (.tup [vS p.2.1, p.2.2])
theorem RA.len {H : Hp} {r : Addr} {us : List L} {ds : List De} (h : RA H r us ds) : us.length = ds.length + 1 := by
  obtain ⟨ps, dv, _, h2, h3, h4, _⟩ := h
  have e1 := congrArg List.length h2
  have e2 := congrArg List.length h3
  have e3 := h4.len
  simp at e1 e2
  omega
theorem RA.keep {H H' : Hp} {r : Addr} {us : List L} {ds : List De} {S : List Addr} (h : RA H r us ds) (b : Bts S H H') (t : Tups H H') (n : r ∉ S) : RA H' r us ds := by
  obtain ⟨ps, dv, h1, h2, h3, h4, h5⟩ := h
  exact ⟨ps, dv, b _ _ n h1, h2, h3, h4.mono t, fun p hp => t _ _ (h5 p hp)⟩
theorem RA.same {H H' : Hp} {r : Addr} {us : List L} {ds : List De} (h : RA H r us ds) (b : Same H H') : RA H' r us ds := h.keep (S := []) (Bts.of b) (Tups.same b) (by simp)
theorem RA.list {H : Hp} {r : Addr} {us : List L} {ds : List De} (h : RA H r us ds) : ∃ xs, H r = some (.lst xs) ∧ xs.length = us.length := by
  obtain ⟨ps, dv, h1, h2, _⟩ := h
  exact ⟨_, h1, by rw [← h2]; simp⟩
theorem RA.snoc {H : Hp} {r p b : Addr} {us : List L} {ds : List De} {t : L} {d : De} (h : RA H r us ds) (hp : H p = some (.tup [vS t, .ref b])) (hb : H b = some (.tup d.vs)) :
    ∃ xs, H r = some (.lst xs) ∧ xs.length = us.length ∧ RA (upd H r (.lst (xs ++ [.ref p]))) r (us ++ [t]) (ds ++ [d]) := by
  obtain ⟨ps, dv, h1, h2, h3, h4, h5⟩ := h
  have tt : Tups H (upd H r (.lst (ps.map (fun p => V.ref p.1) ++ [.ref p]))) := tups_upd fun xs z => by rw [h1] at z; cases z
  refine ⟨_, h1, by rw [← h2]; simp, ps ++ [(p, t, .ref b)], dv ++ [.ref b], by rw [upd_same]; simp, by rw [List.map_append, h2]; rfl, by rw [List.map_append, h3]; rfl, (h4.mono tt).snoc (tt _ _ hb), fun q hq => ?_⟩
  rcases List.mem_append.mp hq with hq | hq
  · exact tt _ _ (h5 q hq)
  · rw [List.mem_singleton.mp hq]
    exact tt _ _ hp
theorem RA.pop {H : Hp} {r : Addr} {us : List L} {ds : List De} (h : RA H r us ds) (hd : ds ≠ []) : ∃ xs y, H r = some (.lst xs) ∧ xs.length = us.length ∧ xs[xs.length - 1]? = some y ∧ RA (upd H r (.lst xs.dropLast)) r us.dropLast ds.dropLast := by
  obtain ⟨ps, dv, h1, h2, h3, h4, h5⟩ := h
  have tt : Tups H (upd H r (.lst (ps.map (fun p => V.ref p.1)).dropLast)) := tups_upd fun xs z => by rw [h1] at z; cases z
  have hn : ps.map (fun p => V.ref p.1) ≠ [] := fun z => by
    have := List.map_eq_nil_iff.mp z
    rw [this] at h3
    cases h3
  obtain ⟨y, hy⟩ := last_at hn
  have hdv : dv ≠ [] := fun z => hd (List.length_eq_zero_iff.mp (by rw [← h4.len, z]; rfl))
  refine ⟨_, y, h1, by rw [← h2]; simp, hy, ps.dropLast, dv.dropLast, by rw [upd_same, List.map_dropLast], by rw [List.map_dropLast, h2], ?_, (h4.mono tt).drop, fun q hq => tt _ _ (h5 q (List.dropLast_subset _ hq))⟩
  rw [List.map_dropLast, h3]
  cases dv with
  | nil => exact absurd rfl hdv
  | cons a b => rfl
theorem RA.last {H : Hp} {r : Addr} {ts : List L} {l : L} {ds : List De} (h : RA H r (ts ++ [l]) ds) : ∃ xs p y, H r = some (.lst xs) ∧ atI xs (-1) = some (.ref p) ∧ H p = some (.tup [vS l, y]) := by
  obtain ⟨ps, dv, h1, h2, _, _, h5⟩ := h
  have hn : ps ≠ [] := fun z => by rw [z] at h2; cases ts <;> cases h2
  obtain ⟨qs, q, rfl⟩ : ∃ qs q, ps = qs ++ [q] := ⟨ps.dropLast, ps.getLast hn, (List.dropLast_concat_getLast hn).symm⟩
  have e : q.2.1 = l := by
    rw [List.map_append] at h2
    have := (List.append_inj' h2 rfl).2
    simpa using this
  refine ⟨_, q.1, q.2.2, h1, by rw [List.map_append]; exact atI_end _ _, ?_⟩
  rw [← e]
  exact h5 q (by simp)
/-- what is wanted behind the due -/
def AfterR (H : Hp) (r : Addr) (ts : List L) (ds : List De) (l : L) (Q : VK) : Act → Prop
  | .go t d => ∀ H', RA H' r (ts ++ [l] ++ [t]) (ds ++ [d]) → Bts [r] H H' → Tups H H' → Q (vS t) H'
  | .back => ∀ H', RA H' r ts ds.dropLast → Bts [r] H H' → Tups H H' → Q .non H'
  | .no w => ∀ H', Same H H' → Q (.str w) H'
theorem isCr_of_none {l : L} {x : V} (h : inR x 1 ((l.length : Int) - 1) = none) : isCr l x = none := by
  cases hc : isCr l x with
  | none => rfl
  | some k =>
    exfalso
    obtain ⟨rfl, hC⟩ := isCr_some hc
    have a1 := hC.1
    have a2 := hC.2.1
    unfold inR at h
    dsimp only at h
    rw [if_pos ⟨by omega, by omega⟩] at h
    cases h
theorem isCr_of_not {l : L} {k : Nat} (h : ¬ Lies l k) : isCr l (vI k) = none := by
  cases hc : isCr l (vI k) with
  | none => rfl
  | some k' =>
    obtain ⟨e, hC⟩ := isCr_some hc
    have e' : (k : Int) = (k' : Int) := V.int.inj e
    have : k = k' := by omega
    subst this
    exact absurd hC.2.2 h
section
variable {P : Program} {w : World} {K : PySem.W.Frag} {mg : Str → Option Value} {base : Heap} {C : Addr}
theorem ok__law_is_number (T : Txt K mg) : Fn P w K mg base CX0 1 "_law_is_number" ["thing", "least_so", "most"] (sp_is_from K) := by
  refine T.d__law_is_number.fn fun f fd F => F.ok sc__law_is_number (fun vs H Q E h => ?_) (fun cdv A outer s H vs Q E hr h => ?_)
  · rcases h with ⟨x, lo, hi, rfl, _⟩ | ⟨x, lo, hi, rfl, _⟩ <;> rfl
  · 
    refine ⟨_, pss_one (ps_ret (pe_and (pe_callB call_isi (by rfl) T.b_isinstance (by decide +kernel) (pa_cons (pv 0) (pa_cons (pe_bltn (v := .ty "int") (by rfl) T.b_int (by decide +kernel) rfl) pa_nil))) (pe_and (pe_not (pe_callB call_isi (by rfl) T.b_isinstance (by decide +kernel) (pa_cons (pv 0) (pa_cons (pe_bltn (v := .ty "bool") (by rfl) T.b_bool (by decide +kernel) rfl) pa_nil)))) (pe_one (pe_chain op_le op_le (pv 1) (pv 0) (pv 2)))))), ?_⟩
    rcases h with ⟨x, lo, hi, rfl, q⟩ | ⟨x, lo, hi, rfl, ⟨b, rfl⟩ | ⟨t, ht, hk⟩, q⟩
    · refine ⟨_, rfl, .int x, .ty "int", .type "int", .type "int", true, rfl, .ty _, .base (.int _), kit_ty (by decide +kernel), true, rfl, iteT ?_⟩
      refine ⟨_, rfl, .int x, .ty "bool", .type "int", .type "bool", false, rfl, .ty _, .base (.int _), kit_ty (by decide +kernel), false, rfl, true, rfl, iteT ?_⟩
      refine ⟨_, rfl, _, rfl, _, _, rfl, rfl, _, rfl, ite2 (fun c => ?_) (fun c => ?_)⟩
      · have c' : lo ≤ x := of_decide_eq_true c
        refine ⟨_, rfl, _, _, rfl, rfl, ?_⟩
        rw [decide_eq_decide.mpr (show (lo ≤ x ∧ x ≤ hi) ↔ x ≤ hi from ⟨fun z => z.2, fun z => ⟨c', z⟩⟩)] at q
        exact q
      · have c' : ¬ lo ≤ x := fun z => c (decide_eq_true z)
        rw [decide_eq_false (fun z => c' z.1)] at q
        exact q
    · refine ⟨_, rfl, .bl b, .ty "int", .type "bool", .type "int", true, rfl, .ty _, .base (.bl _), kit_ty (by decide +kernel), true, rfl, iteT ?_⟩
      exact ⟨_, rfl, .bl b, .ty "bool", .type "bool", .type "bool", true, rfl, .ty _, .base (.bl _), kit_ty (by decide +kernel), true, rfl, false, rfl, q⟩
    · exact ⟨_, rfl, x, .ty "int", t, .type "int", false, rfl, .ty _, ht, hk, false, rfl, q⟩
def sp_due (K : PySem.W.Frag) : Sp := fun vs H Q _ => ∃ (r b : Addr) (ts : List L) (ds : List De) (l : L) (raw : Raw), vs = [.ref r, .ref b] ∧ RA H r (ts ++ [l]) ds ∧ l.length ≤ 900 ∧ ts.length ≤ 900 ∧ H b = some (.tup raw.vs) ∧ raw.ok K H ∧ AfterR H r ts ds l Q (act l ds raw)
theorem ok__law_due (T : Txt K mg) : Fn P w K mg base CX0 3 "_law_due" ["rows", "deed"] (sp_due K) := by
  have G_num := ok__law_is_number (P := P) (w := w) (base := base) T
  have G_lies := ok__law_lies (P := P) (w := w) (base := base) T
  have G_left := ok__law_left (P := P) (w := w) (base := base) T
  refine T.d__law_due.fn fun f fd F => F.ok sc__law_due (fun vs H Q E h => ?_) (fun cdv A outer s H vs Q E hr h => ?_)
  · obtain ⟨r, b, ts, ds, l, raw, rfl, _⟩ := h
    rfl
  · obtain ⟨r, b, ts, ds, l, raw, rfl, ra, hl, hl1, hb, hok, q⟩ := h
    refine ⟨_, pss_cons (ps_set (i := 2) sc__law_due.nd rfl (.inl rfl) (pe_ix ix_tup (pe_ix ix_list (pv 0) (pe_un un_neg pe_int) (fun _ _ => rfl)) pe_int (fun _ _ => rfl)))
      (pss_cons (ps_if (pt_cmpR op_eqS (pe_ix ix_tup (pv 1) pe_int (fun _ _ => rfl)) pe_str (nomark _))
        (pss_cons (ps_if (pt_cmpR op_eqI (pe_callB call_len_seq (by rfl) T.b_len PySem.boot_len (pa_cons (pv 0) pa_nil)) pe_int (nomark _)) (pss_one (ps_ret pe_str)) pss_nil)
        (pss_cons (ps_expr (pe_bm0 PySem.F.plainAttrs_list PySem.F.slot_list_pop PySem.F.type_list_pop mt_pop (pv 0)))
        (pss_one (ps_ret pe_non)))) pss_nil)
      (C8.pss_cut (ps_if (pt_cmpR op_eqS (pe_ix ix_tup (pv 1) pe_int (fun _ _ => rfl)) pe_str (nomark _))
        (pss_cons (ps_if (PW.pt (pw_or (pt_not (pt_val (pe_fn G_num hr (pa_cons (pe_ix ix_tup (pv 1) pe_int (fun _ _ => rfl)) (pa_cons pe_int (pa_cons (pe_op op_sub (pe_callB call_lenS (by rfl) T.b_len PySem.boot_len (pa_cons (pv 2) pa_nil)) pe_int) pa_nil))))))
            (pw_or1 (pt_not (pt_val (pe_fn G_lies hr (pa_cons (pv 2) (pa_cons (pe_ix ix_tup (pv 1) pe_int (fun _ _ => rfl)) pa_nil)))))))) (pss_one (ps_ret pe_str)) pss_nil)
        (pss_one (ps_set (i := 2) sc__law_due.nd rfl (.inl rfl) (pe_fn G_left hr (pa_cons (pv 2) (pa_cons (pe_ix ix_tup (pv 1) pe_int (fun _ _ => rfl)) pa_nil))))))
        (pss_one (ps_if (pt_cmpR op_eqS (pe_ix ix_tup (pv 1) pe_int (fun _ _ => rfl)) pe_str (nomark _))
          (pss_one (ps_set (i := 2) sc__law_due.nd rfl (.inl rfl) (pe_revS (pv 2))))
          (pss_cons (ps_if (pt_not (pt_val (pe_fn G_num hr (pa_cons (pe_ix ix_tup (pv 1) pe_int (fun _ _ => rfl)) (pa_cons pe_int (pa_cons pe_int pa_nil)))))) (pss_one (ps_ret pe_str)) pss_nil)
          (pss_cons (ps_if (pt_not (pt_val (pe_fn G_num hr (pa_cons (pe_ix ix_tup (pv 1) pe_int (fun _ _ => rfl)) (pa_cons pe_int (pa_cons (pe_op op_sub (pe_callB call_lenS (by rfl) T.b_len PySem.boot_len (pa_cons (pv 2) pa_nil)) (pe_ix ix_tup (pv 1) pe_int (fun _ _ => rfl))) pa_nil)))))) (pss_one (ps_ret pe_str)) pss_nil)
          (pss_cons (ps_if (pt_cmpR op_gt (pe_op op_add (pe_callB call_lenS (by rfl) T.b_len PySem.boot_len (pa_cons (pv 2) pa_nil)) (pe_ix ix_tup (pv 1) pe_int (fun _ _ => rfl))) pe_int (nomark _)) (pss_one (ps_ret pe_str)) pss_nil)
          (pss_one (ps_set (i := 2) sc__law_due.nd rfl (.inl rfl) (pe_ifExp (pt_cmpR op_eqI (pe_ix ix_tup (pv 1) pe_int (fun _ _ => rfl)) pe_int (nomark _))
            (pe_op op_catS (pe_revS (pe_slice sl_S (pv 2) po_none (po_some (pe_ix ix_tup (pv 1) pe_int (fun _ _ => rfl))))) (pv 2))
            (pe_op op_catS (pv 2) (pe_revS (pe_slice sl_S (pv 2) (po_some (pe_op op_sub (pe_callB call_lenS (by rfl) T.b_len PySem.boot_len (pa_cons (pv 2) pa_nil)) (pe_ix ix_tup (pv 1) pe_int (fun _ _ => rfl)))) po_none))))))))))))
      (pss_cons (ps_expr (pe_bm PySem.F.plainAttrs_list PySem.F.slot_list_append PySem.F.type_list_append mt_append (pv 0) (pa_cons (pe_tup (pa_cons (pv 2) (pa_cons (pv 1) pa_nil))) pa_nil)))
      (pss_one (ps_ret (pv 2)))))), ?_⟩
    obtain ⟨xs, p, y, hr1, hr2, hp⟩ := ra.last
    have tb : SqT K H b raw.vs := SqT.of hb
    have rl := ra.len
    rw [List.length_append] at rl
    simp only [List.length_singleton] at rl
    refine ⟨_, rfl, 1, rfl, r, xs, -1, .ref p, rfl, rfl, SqL.of hr1, hr2, p, _, 0, vS l, rfl, rfl, SqT.of hp, rfl, ?_⟩
    refine ⟨_, rfl, b, raw.vs, 0, vS raw.wd, rfl, rfl, tb, raw.at0, raw.wd, backL, rfl, rfl, _, rfl, ?_⟩
    obtain ⟨xs', hr1', hx⟩ := ra.list
    have hxx : xs' = xs := by
      rw [hr1] at hr1'
      injection hr1' with hr1'
      injection hr1' with hr1'
      exact hr1'.symm
    subst hxx
    rw [List.length_append] at hx
    simp only [List.length_singleton] at hx
    by_cases hbk : raw = .back
    · subst hbk
      refine iteT ?_
      refine ⟨_, rfl, _, xs', rfl, .inl (SqL.of hr1), _, _, rfl, rfl, _, rfl, ite2 (fun h1 => ?_) (fun h1 => ?_)⟩
      · have h1 : (xs'.length : Int) = 1 := of_decide_eq_true h1
        have hd : ds = [] := List.length_eq_zero_iff.mp (by omega)
        have q' : AfterR H r ts ds l Q (.no "NothingLeft") := by
          have e : act l ds .back = .no "NothingLeft" := by unfold act; dsimp only; rw [if_pos hd]
          rw [e] at q; exact q
        exact q' H (Same.refl _)
      · have h1 : ¬ (xs'.length : Int) = 1 := fun z => h1 (decide_eq_true z)
        have hd : ds ≠ [] := fun z => h1 (by have : ds.length = 0 := by { rw [z]; rfl }
                                             omega)
        have q' : AfterR H r ts ds l Q .back := by
          have e : act l ds .back = .back := by unfold act; dsimp only; rw [if_neg hd]
          rw [e] at q; exact q
        obtain ⟨zs, y2, g1, g2, g3, g4⟩ := ra.pop hd
        rw [hr1] at g1
        injection g1 with g1
        injection g1 with g1
        subst g1
        refine ⟨_, rfl, .inl ⟨rfl, _, SqL.of hr1⟩, r, xs', y2, rfl, rfl, hr1, g3, ?_⟩
        exact q' _ (by rw [List.dropLast_concat] at g4; exact g4) (Bts.refl.upd (by simp)) (tups_upd fun ys z => by rw [hr1] at z; cases z)
    · have hw0 : raw.wd ≠ backL := by
        cases raw with
        | back => exact absurd rfl hbk
        | fold x => exact (by decide : foldL ≠ backL)
        | unf x y => exact (by decide : unfoldL ≠ backL)
        | turn => exact (by decide : turnL ≠ backL)
      refine ite2 (fun z => absurd (of_decide_eq_true z) hw0) (fun _ => ?_)
      refine ⟨fun σ' H' => ∃ (t : L) (d : De), σ' = [some (.ref r), some (.ref b), some (vS t)] ∧ H' = H ∧ raw.vs = d.vs ∧ act l ds raw = .go t d, ?_, ?_⟩
      · refine ⟨_, rfl, b, raw.vs, 0, vS raw.wd, rfl, rfl, tb, raw.at0, raw.wd, foldL, rfl, rfl, _, rfl, ?_⟩
        cases raw with
        | back => exact absurd rfl hbk
        | fold x =>
          refine iteT ?_
          refine ⟨_, rfl, b, _, 1, x, rfl, rfl, tb, rfl, _, rfl, l, rfl, by omega, _, _, rfl, rfl, ?_⟩
          dsimp only [tNil]
          refine is_from_of hok ?_
          cases hi : inR x 1 ((l.length : Int) - 1) with
          | none =>
            refine ⟨_, rfl, iteT (iteT ?_)⟩
            have q' : AfterR H r ts ds l Q (.no "NoCrease") := by
              have e : act l ds (.fold x) = .no "NoCrease" := by unfold act; dsimp only; rw [isCr_of_none hi]
              rw [e] at q; exact q
            exact q' H (Same.refl _)
          | some k =>
            obtain ⟨rfl, k1, k2⟩ := inR_some (by decide) hi
            refine ⟨_, rfl, iteF ?_⟩
            refine ⟨_, rfl, _, rfl, b, _, 1, vI k, rfl, rfl, tb, rfl, l, k, rfl, by omega, by omega, by omega, _, rfl, ?_⟩
            by_cases hL : Lies l k
            · rw [decide_eq_true hL]
              refine iteF ?_
              refine ⟨_, rfl, _, rfl, b, _, 1, vI k, rfl, rfl, tb, rfl, l, k, rfl, by omega, by omega, ?_⟩
              refine ⟨left l k, .fold k, rfl, rfl, rfl, ?_⟩
              unfold act
              dsimp only
              rw [isCr_vI ⟨by omega, by omega, hL⟩]
            · rw [decide_eq_false hL]
              refine iteT ?_
              have q' : AfterR H r ts ds l Q (.no "NoCrease") := by
                have e : act l ds (.fold (vI k)) = .no "NoCrease" := by unfold act; dsimp only; rw [isCr_of_not hL]
                rw [e] at q; exact q
              exact q' H (Same.refl _)
        | turn =>
          refine iteF ?_
          refine ⟨_, rfl, b, _, 0, vS turnL, rfl, rfl, tb, rfl, turnL, turnL, rfl, rfl, _, rfl, iteT ?_⟩
          exact ⟨_, rfl, l, rfl, Nat.le_of_lt (small1000 (by omega)), l.reverse, .turn, rfl, rfl, rfl, rfl⟩
        | unf x y =>
          refine iteF ?_
          refine ⟨_, rfl, b, _, 0, vS unfoldL, rfl, rfl, tb, rfl, unfoldL, turnL, rfl, rfl, _, rfl, iteF ?_⟩
          refine ⟨_, rfl, b, _, 1, x, rfl, rfl, tb, rfl, ?_⟩
          dsimp only [tNil, tCons, tC]
          refine is_from_of hok.1 ?_
          cases he : inR x 0 1 with
          | none =>
            refine ⟨_, rfl, iteT ?_⟩
            have q' : AfterR H r ts ds l Q (.no "NoEnd") := by
              have e : act l ds (.unf x y) = .no "NoEnd" := by
                have : unfAct l x y = .inl "NoEnd" := by unfold unfAct; rw [he]
                unfold act; dsimp only; rw [this]
              rw [e] at q; exact q
            exact q' H (Same.refl _)
          | some e =>
            obtain ⟨rfl, e1, e2⟩ := inR_some (by decide) he
            refine ⟨_, rfl, iteF ?_⟩
            refine ⟨_, rfl, b, _, 2, y, rfl, rfl, tb, rfl, _, rfl, l, rfl, by omega, _, rfl, b, _, 1, vI e, rfl, rfl, tb, rfl, _, _, rfl, rfl, ?_⟩
            dsimp only [tNil]
            refine is_from_of hok.2 ?_
            cases hm : inR y 1 ((l.length : Int) - (e : Int)) with
            | none =>
              refine ⟨_, rfl, iteT ?_⟩
              have q' : AfterR H r ts ds l Q (.no "NoMany") := by
                have ea : act l ds (.unf (vI e) y) = .no "NoMany" := by
                  have : unfAct l (vI e) y = .inl "NoMany" := by unfold unfAct; rw [he]; dsimp only; rw [hm]
                  unfold act; dsimp only; rw [this]
                rw [ea] at q; exact q
              exact q' H (Same.refl _)
            | some m =>
              obtain ⟨rfl, m1, m2⟩ := inR_some (by decide) hm
              have hu : unfAct l (vI e) (vI m) = if l.length + m > 24 then .inl "Long" else .inr (e, m) := by
                unfold unfAct
                rw [he]
                dsimp only
                rw [hm]
              refine ⟨_, rfl, iteF ?_⟩
              refine ⟨_, rfl, l, rfl, by omega, _, rfl, b, _, 2, vI m, rfl, rfl, tb, rfl, _, _, rfl, rfl, _, _, rfl, rfl, _, rfl, ite2 (fun h24 => ?_) (fun h24 => ?_)⟩
              · have h24 : (24 : Int) < (l.length : Int) + (m : Int) := of_decide_eq_true h24
                have q' : AfterR H r ts ds l Q (.no "Long") := by
                  have ea : act l ds (.unf (vI e) (vI m)) = .no "Long" := by
                    unfold act; dsimp only; rw [hu, if_pos (by omega)]
                  rw [ea] at q; exact q
                exact q' H (Same.refl _)
              · have h24 : ¬ (24 : Int) < (l.length : Int) + (m : Int) := fun z => h24 (decide_eq_true z)
                have hu2 : unfAct l (vI e) (vI m) = .inr (e, m) := by rw [hu, if_neg (by omega)]
                have ea : act l ds (.unf (vI e) (vI m)) = .go (unfL l (e, m)) (.unf e m) := by
                  unfold act; dsimp only; rw [hu2]
                refine ⟨_, rfl, b, _, 1, vI e, rfl, rfl, tb, rfl, _, _, rfl, rfl, _, rfl, ite2 (fun c => ?_) (fun c => ?_)⟩
                · have c' : (e : Int) = 0 := of_decide_eq_true c
                  have e0 : e = 0 := by omega
                  refine ⟨_, rfl, _, rfl, b, _, 2, vI m, rfl, rfl, tb, rfl, _, rfl, l, rfl, by omega, _, rfl, big (Nat.le_trans (cut_len _ _ _) (by omega)), ?_⟩
                  rw [cut_to _ (by omega), Int.toNat_natCast]
                  refine ⟨_, rfl, _, _, rfl, rfl, by rw [List.length_reverse, List.length_take]; omega, ?_⟩
                  have : unfL l (e, m) = (l.take m).reverse ++ l := by unfold unfL; rw [if_pos e0]
                  rw [this] at ea
                  exact ⟨_, _, rfl, rfl, rfl, ea⟩
                · have c' : ¬ (e : Int) = 0 := fun z => c (decide_eq_true z)
                  refine ⟨_, rfl, _, rfl, _, rfl, l, rfl, by omega, _, rfl, b, _, 2, vI m, rfl, rfl, tb, rfl, _, _, rfl, rfl, _, rfl, l, rfl, by omega, _, rfl, big (Nat.le_trans (cut_len _ _ _) (by omega)), ?_⟩
                  rw [cut_from _ (by omega), show ((l.length : Int) - (m : Int)).toNat = l.length - m by omega]
                  refine ⟨_, _, rfl, rfl, by rw [List.length_reverse, List.length_drop]; omega, ?_⟩
                  have : unfL l (e, m) = l ++ (l.drop (l.length - m)).reverse := by unfold unfL; rw [if_neg (by show ¬ e = 0; omega)]
                  rw [this] at ea
                  exact ⟨_, _, rfl, rfl, rfl, ea⟩
      · rintro σ' H' ⟨t, d, rfl, rfl, ev, ea⟩
        have q' : AfterR H' r ts ds l Q (.go t d) := by rw [ea] at q; exact q
        refine ⟨_, rfl, .inl ⟨rfl, _, SqL.of hr1⟩, _, rfl, _, rfl, (by show 2 ≤ sizeLine; decide), fun p2 hp2 => ?_⟩
        have sm := Same.upd (o := .tup [vS t, .ref b]) hp2
        obtain ⟨zs, g1, g2, g3⟩ := (ra.same sm).snoc (t := t) (d := d) upd_same (by rw [← ev]; exact sm _ _ hb)
        refine ⟨r, zs, _, rfl, rfl, g1, small1000 (by rw [g2, List.length_append]; simp; omega), ?_⟩
        refine ⟨_, rfl, q' _ g3 ((Bts.of sm).upd (by simp)) ((Tups.same sm).trans (tups_upd fun ys z => by rw [g1] at z; cases z))⟩
end
end Lk

namespace Lk
open PySem PySem.Spec PyProof.Rows L2
/-! ### k10: deeds drawn -/
open Fo
theorem But.tups {H H' : Hp} {b : Addr} (bt : But b H H') (bg : Bag H b) : Tups H H' := fun x xs e => bt x _ (fun z => by
  obtain ⟨u1, u2, e1, _⟩ := bg
  rw [z, e1] at e
  cases e) e
/-- no list, no instance -/
def OddV (H : Hp) (x : V) : Prop := (∃ i, x = .int i) ∨ (∃ b, x = .bl b) ∨ x = .non ∨ (∃ l, x = vS l) ∨ ∃ g xs, x = .ref g ∧ H g = some (.tup xs)
theorem OddV.tups {H H' : Hp} {x : V} (h : OddV H x) (t : Tups H H') : OddV H' x := by
  rcases h with h | h | h | h | ⟨g, xs, e, h⟩
  · exact .inl h
  · exact .inr (.inl h)
  · exact .inr (.inr (.inl h))
  · exact .inr (.inr (.inr (.inl h)))
  · exact .inr (.inr (.inr (.inr ⟨g, xs, e, t _ _ h⟩)))
theorem OddV.kd {K : PySem.W.Frag} {H : Hp} {x : V} (h : OddV H x) : KdOk K H x := by
  rcases h with ⟨i, rfl⟩ | ⟨b, rfl⟩ | rfl | ⟨l, rfl⟩ | ⟨g, xs, rfl, h⟩
  · exact .inl ⟨i, rfl⟩
  · exact (Tg.bl b).intOr
  · exact Tg.non.intOr
  · exact (Tg.str l).intOr
  · exact (Tg.tup h).intOr
/-- the odd things, with more ints -/
def Odd (H : Hp) (xs : List V) : Prop := ∀ x ∈ xs, OddV H x
theorem Odd.app {H : Hp} {xs ys : List V} (h : Odd H xs) (k : Odd H ys) : Odd H (xs ++ ys) := fun x hx => (List.mem_append.mp hx).elim (h x) (k x)
theorem Odd.ints {H : Hp} (is : List Int) : Odd H (is.map V.int) := fun x hx => by
  obtain ⟨i, _, rfl⟩ := List.mem_map.mp hx
  exact .inl ⟨i, rfl⟩
theorem Odd.tups {H H' : Hp} {xs : List V} (h : Odd H xs) (t : Tups H H') : Odd H' xs := fun x hx => (h x hx).tups t
theorem Odd.same {H H' : Hp} {xs : List V} (h : Odd H xs) (bt : Same H H') : Odd H' xs := h.tups (Tups.same bt)
theorem Odd.but {H H' : Hp} {b : Addr} {xs : List V} (h : Odd H xs) (bg : Bag H b) (bt : But b H H') : Odd H' xs := h.tups (bt.tups bg)
theorem KdOk.int {K : PySem.W.Frag} {H : Hp} (i : Int) : KdOk K H (.int i) := .inl ⟨i, rfl⟩
section
variable {P : Program} {w : World} {K : PySem.W.Frag} {mg : Str → Option Value} {base : Heap} {C : Addr}
theorem ok__law_a_deed (T : Txt K mg) : Fn P w K mg base CX0 3 "_law_a_deed" ["bag", "text"] (fun vs H Q _ => ∃ (b : Addr) (l : L), vs = [.ref b, vS l] ∧ Bag H b ∧ 1 ≤ l.length ∧ l.length ≤ 900 ∧ ∀ H' p (raw : Raw), But b H H' → Bag H' b → H p = none → H' p = some (.tup raw.vs) → (∀ H2, Tups H' H2 → raw.ok K H2) → Q (.ref p) H') := by
  have G__law_creases := ok__law_creases (P := P) (w := w) (base := base) T
  have G__law_of := ok__law_of (P := P) (w := w) (base := base) T
  have G__law_take := ok__law_take (P := P) (w := w) (base := base) T
  refine T.d__law_a_deed.fn fun f fd F => F.ok sc__law_a_deed (fun vs H Q E h => ?_) (fun cdv A outer s H vs Q E hr h => ?_)
  · obtain ⟨b, l, rfl, _⟩ := h
    rfl
  · obtain ⟨b, l, rfl, hb, hl0, hl, q⟩ := h
    have fin : ∀ (raw : Raw) (H5 : Hp), But b H H5 → Bag H5 b → ∀ p, H5 p = none → (∀ H2, Tups (upd H5 p (.tup raw.vs)) H2 → raw.ok K H2) → Q (.ref p) (upd H5 p (.tup raw.vs)) := fun raw H5 bt hb5 p hp hok =>
      q _ p raw (bt.same (Same.upd hp)) (hb5.upd (hb5.ne hp)) (bt.free (hb5.ne hp).symm hp) upd_same hok
    refine ⟨_, pss_cons (ps_par (i := 2) (j := 3) (by rfl) sc__law_a_deed.nd rfl rfl (by decide) rfl rfl (pa_cons (pe_fn G__law_take hr (pa_cons (pv 0) (pa_cons pe_int pa_nil))) (pa_cons (pe_lst (pa_cons pe_non (pa_cons pe_bl (pa_cons (pe_un un_neg pe_int) (pa_cons pe_int (pa_cons pe_int (pa_cons pe_str (pa_cons (pe_tup (pa_cons pe_int pa_nil)) (pa_cons pe_int (pa_cons pe_bl pa_nil)))))))))) pa_nil)) (by rfl))
    (pss_cons (ps_set (i := 4) sc__law_a_deed.nd rfl (.inl rfl) (pe_fn G__law_creases hr (pa_cons (pv 1) pa_nil)))
    (C8.pss_cut (ps_if (PW.pt (pw_and (pt_cmpR op_lt (pv 2) pe_int (nomark _)) (pw_and1 (pt_cmpR (op_neLI hr.units) (pv 4) (pe_lst pa_nil) (nomark _)))))
      (pss_one (ps_ret (pe_tup (pa_cons pe_str (pa_cons (pe_fn G__law_of hr (pa_cons (pv 0) (pa_cons (pv 4) pa_nil))) pa_nil)))))
      pss_nil)
    (pss_cons (ps_if (pt_cmpR op_lt (pv 2) pe_int (nomark _))
      (pss_cons (ps_set (i := 5) sc__law_a_deed.nd rfl (.inl rfl) (pe_fn G__law_take hr (pa_cons (pv 0) (pa_cons pe_int pa_nil))))
      (pss_one (ps_ret (pe_tup (pa_cons pe_str (pa_cons (pv 5) (pa_cons (pe_op op_add pe_int (pe_fn G__law_take hr (pa_cons (pv 0) (pa_cons (pe_callB (call_max2 rfl) (by rfl) T.b_max (by decide +kernel) (pa_cons pe_int (pa_cons (pe_op op_sub (pe_callB call_lenS (by rfl) T.b_len PySem.boot_len (pa_cons (pv 1) pa_nil)) (pv 5)) pa_nil))) pa_nil)))) pa_nil)))))))
      pss_nil)
    (pss_cons (ps_if (pt_cmpR op_eqI (pv 2) pe_int (nomark _))
      (pss_one (ps_ret (pe_tup (pa_cons pe_str pa_nil))))
      pss_nil)
    (pss_cons (ps_if (pt_cmpR op_eqI (pv 2) pe_int (nomark _))
      (pss_one (ps_ret (pe_tup (pa_cons pe_str (pa_cons (pe_fn G__law_of hr (pa_cons (pv 0) (pa_cons (pe_op op_cat (pv 3) (pe_lst (pa_cons pe_int (pa_cons (pe_op op_sub (pe_callB call_lenS (by rfl) T.b_len PySem.boot_len (pa_cons (pv 1) pa_nil)) pe_int) (pa_cons (pe_callB call_lenS (by rfl) T.b_len PySem.boot_len (pa_cons (pv 1) pa_nil)) pa_nil))))) pa_nil))) pa_nil)))))
      pss_nil)
    (pss_cons (ps_if (pt_cmpR op_lt (pv 2) pe_int (nomark _))
      (pss_one (ps_ret (pe_tup (pa_cons pe_str (pa_cons (pe_fn G__law_of hr (pa_cons (pv 0) (pa_cons (pe_op op_cat (pv 3) (pe_lst (pa_cons pe_int (pa_cons pe_int pa_nil)))) pa_nil))) (pa_cons (pe_fn G__law_of hr (pa_cons (pv 0) (pa_cons (pe_op op_cat (pv 3) (pe_lst (pa_cons pe_int (pa_cons (pe_callB call_lenS (by rfl) T.b_len PySem.boot_len (pa_cons (pv 1) pa_nil)) (pa_cons (pe_op op_add (pe_callB call_lenS (by rfl) T.b_len PySem.boot_len (pa_cons (pv 1) pa_nil)) pe_int) pa_nil))))) pa_nil))) pa_nil))))))
      pss_nil)
    (pss_one (ps_ret (pe_tup (pa_cons pe_str pa_nil)))))))))), ?_⟩
    refine ⟨_, rfl, b, 12, rfl, hb, by decide, by decide, fun v H1 bt1 b1 v0 v1 => ?_⟩
    refine ⟨1, rfl, (by show 1 ≤ sizeLine; decide), fun g hg => ?_⟩
    have s2 := Same.upd (o := .tup [.int 1]) hg
    refine ⟨(by show 9 ≤ sizeLine; decide), fun o ho => ?_⟩
    generalize hodd : [V.non, .bl true, .int (-1), .int 0, .int 99, .str "1", .ref g, .int 2, .bl false] = odd at ho ⊢
    have s3 := Same.upd (o := .lst odd) ho
    have bg := b1.ne hg
    have b2 := b1.upd bg (o := .tup [.int 1])
    have bo := b2.ne ho
    have b3 := b2.upd bo (o := .lst odd)
    have O3 : Odd (upd (upd H1 g (.tup [.int 1])) o (.lst odd)) odd := by
      rw [← hodd]
      intro x hx
      simp only [List.mem_cons, List.not_mem_nil, or_false] at hx
      rcases hx with rfl | rfl | rfl | rfl | rfl | rfl | rfl | rfl | rfl
      · exact .inr (.inr (.inl rfl))
      · exact .inr (.inl ⟨_, rfl⟩)
      · exact .inl ⟨_, rfl⟩
      · exact .inl ⟨_, rfl⟩
      · exact .inl ⟨_, rfl⟩
      · exact .inr (.inr (.inr (.inl ⟨[49], rfl⟩)))
      · refine .inr (.inr (.inr (.inr ⟨g, [.int 1], rfl, ?_⟩)))
        rw [hodd]
        exact s3 _ _ upd_same
      · exact .inl ⟨_, rfl⟩
      · exact .inr (.inl ⟨_, rfl⟩)
    have lodd : odd.length = 9 := by rw [← hodd]; rfl
    have eo3 : (upd (upd H1 g (.tup [.int 1])) o (.lst odd)) o = some (.lst odd) := upd_same
    have bt3 : But b H (upd (upd H1 g (.tup [.int 1])) o (.lst odd)) := bt1.same (s2.trans s3)
    generalize upd (upd H1 g (.tup [.int 1])) o (.lst odd) = H3 at *
    refine ⟨_, _, rfl, _, rfl, l, rfl, by omega, fun cp hcp => ?_⟩
    have s4 := Same.upd (o := .lst ((creases l).map vI)) hcp
    have bc := b3.ne hcp
    have b4 := b3.upd bc (o := .lst ((creases l).map vI))
    have ec4 : (upd H3 cp (.lst ((creases l).map vI))) cp = some (.lst ((creases l).map vI)) := upd_same
    have bt4 := bt3.same s4
    have O4 := O3.same s4
    have eo4 := s4 _ _ eo3
    generalize upd H3 cp (.lst ((creases l).map vI)) = H4 at *
    refine ⟨fun σ' H' => σ' = [some (.ref b), some (vS l), some (.int v), some (.ref o), some (.ref cp), none] ∧ But b H H' ∧ Bag H' b ∧ H' o = some (.lst odd) ∧ Odd H' odd, ?_, ?_⟩
    · refine ⟨_, rfl, _, _, rfl, rfl, _, rfl, ite2 (fun h4 => ?_) (fun h4 => ?_)⟩
      · refine ⟨_, rfl, Nat.zero_le _, fun z hz => ?_⟩
        have s5 := Same.upd (o := .lst []) hz
        refine ⟨cp, z, creases l, [], rfl, rfl, SqL.of (s5 _ _ ec4), SqL.of upd_same, _, rfl, ?_⟩
        have bz := b4.ne hz
        by_cases ec : creases l = []
        · rw [show (if true = true then !decide (creases l = []) else decide (creases l = [])) = false by simp [ec]]
          refine iteF ?_
          exact ⟨rfl, bt4.same s5, b4.upd bz, s5 _ _ eo4, O4.same s5⟩
        · rw [show (if true = true then !decide (creases l = []) else decide (creases l = [])) = true by simp [ec]]
          refine iteT ?_
          have cl := creases_len l
          refine ⟨_, rfl, _, rfl, .inr ⟨b, cp, (creases l).map vI, rfl, b4.upd bz, SqL.of (s5 _ _ ec4), bc.symm, fun y => ec (List.map_eq_nil_iff.mp y), by rw [List.length_map]; omega, fun x H6 bt6 b6 hx => ?_⟩⟩
          obtain ⟨c, hc, rfl⟩ := List.mem_map.mp hx
          exact ⟨(by show 2 ≤ sizeLine; decide), fun p hp => fin (.fold (vI c)) H6 ((bt4.same s5).trans bt6) b6 p hp (fun _ _ => KdOk.int _)⟩
      · refine iteF ?_
        exact ⟨rfl, bt4, b4, eo4, O4⟩
    · rintro σ' H5 ⟨rfl, bt5, b5, eo5, O5⟩
      refine ⟨_, rfl, _, _, rfl, rfl, _, rfl, ite2 (fun h7 => ?_) (fun h7 => ?_)⟩
      · refine ⟨_, rfl, b, 2, rfl, b5, by decide, by decide, fun e H6 bt6 b6 e0 e1 => ?_⟩
        refine ⟨_, rfl, _, rfl, _, rfl, l, rfl, by omega, _, rfl, _, _, rfl, rfl, _, _, rfl, ?_⟩
        have hm : ∃ k : Int, (if (l.length : Int) - e > 1 then (l.length : Int) - e else 1) = k ∧ 1 ≤ k ∧ k ≤ 100000 := ⟨_, rfl, by split <;> omega, by split <;> omega⟩
        obtain ⟨k, hk, k1, k2⟩ := hm
        rw [hk]
        refine ⟨b, k, rfl, b6, k1, k2, fun r H7 bt7 b7 r0 r1 => ?_⟩
        exact ⟨_, _, rfl, rfl, (by show 3 ≤ sizeLine; decide), fun p hp => fin (.unf (.int e) (.int (1 + r))) H7 ((bt5.trans bt6).trans bt7) b7 p hp (fun _ _ => ⟨KdOk.int _, KdOk.int _⟩)⟩
      refine ⟨_, rfl, _, _, rfl, rfl, _, rfl, ite2 (fun h8 => ?_) (fun h8 => ?_)⟩
      · exact ⟨(by show 1 ≤ sizeLine; decide), fun p hp => fin .turn H5 bt5 b5 p hp (fun _ _ => trivial)⟩
      refine ⟨_, rfl, _, _, rfl, rfl, _, rfl, ite2 (fun h9 => ?_) (fun h9 => ?_)⟩
      · refine ⟨_, rfl, _, rfl, _, rfl, l, rfl, by omega, _, _, rfl, rfl, _, rfl, l, rfl, by omega, (by show 3 ≤ sizeLine; decide), fun z hz => ?_⟩
        have s6 := Same.upd (o := .lst [.int 1, .int ((l.length : Int) - 1), .int (l.length : Int)]) hz
        have bz := b5.ne hz
        refine ⟨o, z, odd, _, rfl, rfl, s6 _ _ eo5, upd_same, (by rw [lodd]; show 9 + 3 ≤ sizeLine; decide), fun y hy => ?_⟩
        have s7 := Same.upd (o := .lst (odd ++ [.int 1, .int ((l.length : Int) - 1), .int (l.length : Int)])) hy
        have b6 := b5.upd bz (o := .lst [.int 1, .int ((l.length : Int) - 1), .int (l.length : Int)])
        have by' := b6.ne hy
        have b7 := b6.upd by' (o := .lst (odd ++ [.int 1, .int ((l.length : Int) - 1), .int (l.length : Int)]))
        have O7 : Odd (upd (upd H5 z _) y (.lst (odd ++ [.int 1, .int ((l.length : Int) - 1), .int (l.length : Int)]))) (odd ++ [.int 1, .int ((l.length : Int) - 1), .int (l.length : Int)]) := (O5.same (s6.trans s7)).app (Odd.ints [1, (l.length : Int) - 1, (l.length : Int)])
        refine .inr ⟨b, y, _, rfl, b7, SqL.of upd_same, by'.symm, by simp, (by rw [List.length_append, lodd]; show 9 + 3 ≤ 1000; decide), fun x H8 bt8 b8 hx => ?_⟩
        exact ⟨(by show 2 ≤ sizeLine; decide), fun p hp => fin (.fold x) H8 ((bt5.same (s6.trans s7)).trans bt8) b8 p hp (fun H2 t2 => ((((O7.but b7 bt8).same (Same.upd hp)).tups t2) x hx).kd)⟩
      refine ⟨_, rfl, _, _, rfl, rfl, _, rfl, ite2 (fun h10 => ?_) (fun h10 => ?_)⟩
      · refine ⟨_, rfl, _, rfl, (by show 2 ≤ sizeLine; decide), fun z hz => ?_⟩
        have s6 := Same.upd (o := .lst [.int 0, .int 1]) hz
        have bz := b5.ne hz
        refine ⟨o, z, odd, _, rfl, rfl, s6 _ _ eo5, upd_same, by rw [lodd]; decide, fun y hy => ?_⟩
        have s7 := Same.upd (o := .lst (odd ++ [.int 0, .int 1])) hy
        have b6 := b5.upd bz (o := .lst [.int 0, .int 1])
        have by' := b6.ne hy
        have b7 := b6.upd by' (o := .lst (odd ++ [.int 0, .int 1]))
        have O7 : Odd (upd (upd H5 z _) y (.lst (odd ++ [.int 0, .int 1]))) (odd ++ [.int 0, .int 1]) := (O5.same (s6.trans s7)).app (Odd.ints [0, 1])
        have eo7 := s7 _ _ (s6 _ _ eo5)
        refine .inr ⟨b, y, _, rfl, b7, SqL.of upd_same, by'.symm, by simp, by rw [List.length_append, lodd]; decide, fun x H8 bt8 b8 hx => ?_⟩
        have no : o ≠ b := fun e => by
          obtain ⟨u1, u2, e1, _⟩ := b5
          rw [← e, eo5] at e1
          injection e1 with e1
          injection e1 with e1
          rw [e1] at lodd
          simp at lodd
        have eo8 := bt8 _ _ no eo7
        have O8 := O7.but b7 bt8
        have Oo8 : Odd H8 odd := (O5.same (s6.trans s7)).but b7 bt8
        refine ⟨_, rfl, _, rfl, _, rfl, l, rfl, by omega, _, rfl, l, rfl, by omega, _, _, rfl, rfl, (by show 3 ≤ sizeLine; decide), fun z2 hz2 => ?_⟩
        have t6 := Same.upd (o := .lst [.int 1, .int (l.length : Int), .int ((l.length : Int) + 1)]) hz2
        have cz := b8.ne hz2
        refine ⟨o, z2, odd, _, rfl, rfl, t6 _ _ eo8, upd_same, (by rw [lodd]; show 9 + 3 ≤ sizeLine; decide), fun y2 hy2 => ?_⟩
        have t7 := Same.upd (o := .lst (odd ++ [.int 1, .int (l.length : Int), .int ((l.length : Int) + 1)])) hy2
        have c6 := b8.upd cz (o := .lst [.int 1, .int (l.length : Int), .int ((l.length : Int) + 1)])
        have cy := c6.ne hy2
        have c7 := c6.upd cy (o := .lst (odd ++ [.int 1, .int (l.length : Int), .int ((l.length : Int) + 1)]))
        have P7 : Odd (upd (upd H8 z2 _) y2 (.lst (odd ++ [.int 1, .int (l.length : Int), .int ((l.length : Int) + 1)]))) (odd ++ [.int 1, .int (l.length : Int), .int ((l.length : Int) + 1)]) := (Oo8.same (t6.trans t7)).app (Odd.ints [1, (l.length : Int), (l.length : Int) + 1])
        refine .inr ⟨b, y2, _, rfl, c7, SqL.of upd_same, cy.symm, by simp, (by rw [List.length_append, lodd]; show 9 + 3 ≤ 1000; decide), fun x2 H9 bt9 b9 hx2 => ?_⟩
        exact ⟨(by show 3 ≤ sizeLine; decide), fun p hp => fin (.unf x x2) H9 ((((bt5.same (s6.trans s7)).trans bt8).same (t6.trans t7)).trans bt9) b9 p hp (fun H2 t2 => ⟨((((O8.same (t6.trans t7)).but c7 bt9).same (Same.upd hp)).tups t2 x hx).kd, (((P7.but c7 bt9).same (Same.upd hp)).tups t2 x2 hx2).kd⟩)⟩
      · exact ⟨(by show 1 ≤ sizeLine; decide), fun p hp => fin .back H5 bt5 b5 p hp (fun _ _ => trivial)⟩
end
end Lk

namespace Lk
open PySem PySem.Spec PyProof.Rows L2
/-! ### k10: how it stands -/
open Fo
theorem cutV_tail (x : V) (xs : List V) : cutV (x :: xs) (some 1) none = xs := by
  unfold cutV
  have e1 : HT.sIx (x :: xs).length 0 (some 1) = 1 := by
    unfold HT.sIx
    simp
  have e2 : HT.sIx (x :: xs).length (x :: xs).length none = (x :: xs).length := rfl
  rw [e1, e2, List.drop_succ_cons, List.drop_zero, List.length_cons, Nat.add_sub_cancel, List.take_length]
theorem dD_list_eqv (ds es : List De) : PyData.eqv (.list (ds.map dD)) (.list (es.map dD)) = decide (ds = es) := by
  rw [PyData.eqv]
  exact eqvAll_of fun a _ b _ => dD_eqv a b
theorem dD_list_shaped (ds : List De) : SeqAt.shaped (.list (ds.map dD)) = true := shaped_list (fun d _ => dD_lay d) (fun d _ => by have := dD_dep d; omega)
section
variable {P : Program} {w : World} {K : PySem.W.Frag} {mg : Str → Option Value} {base : Heap} {C : Addr}
def sp_stands (C : Addr) : Sp := fun vs H Q _ => ∃ (a dx ls lr r : Addr) (ts : List L) (ds : List De) (l t : L), vs = [.ref a, .ref r] ∧ KA C H a dx ls lr (ts ++ [l]) ds ∧ RA H r (ts ++ [l]) ds ∧ l.length ≤ 900 ∧ t.length ≤ 900 ∧ ds.length ≤ 900 ∧ (ts ++ [l]).head? = some t ∧ least t = least l ∧ ∀ H', Same H H' → Q (.bl true) H'
theorem ok__law_stands_so (T : Txt K mg) (c : KF K mg C) : Fn P w K mg base CX0 6 "_law_stands_so" ["kept", "rows"] (sp_stands C) := by
  have G_strip := okm_strip (P := P) (w := w) (base := base) T c
  have G_deeds := okm_deeds (P := P) (w := w) (base := base) T c
  have G_len := okm_len (P := P) (w := w) (base := base) T c
  have G_str := okm_str (P := P) (w := w) (base := base) T c
  have G_is_kin := okm_is_kin (P := P) (w := w) (base := base) T c
  refine T.d__law_stands_so.fn fun f fd F => F.ok sc__law_stands_so (fun vs H Q E h => ?_) (fun cdv A outer s H vs Q E hr h => ?_)
  · obtain ⟨a, dx, ls, lr, r, ts, ds, l, t, rfl, _⟩ := h
    rfl
  · obtain ⟨a, dx, ls, lr, r, ts, ds, l, t, rfl, k0, ra, hl, ht, hd, hh, hk, q⟩ := h
    have k1 := k0.1
    refine ⟨_, pss_cons (ps_if (PW.pt (pw_or (pt_cmpR op_neS (pe_mS0 (pv 0) c.cls G_strip hr passA0) (pe_ix ix_tup (pe_ix ix_list (pv 1) (pe_un un_neg pe_int) (fun _ _ => rfl)) pe_int (fun _ _ => rfl)) (nomark _))
        (pw_or1 (pt_cmpR (op_neD hr.units) (pe_mS0 (pv 0) c.cls G_deeds hr passA0) (pe_lc (own := [("row", 2)]) (g := gName 2) (tt := tYes) rfl sc__law_stands_so.nd (pi_list (pe_slice sl_list (pv 1) (po_some pe_int) po_none))
          (blkOk_by (own := [("row", 2)]) (N := ["kept", "rows", "row"]) (sc := defScope s__law_stands_so) (by decide +kernel)) (fun _ _ _ _ _ => pg_name (i := 2) sc__law_stands_so.nd rfl (Or.inl rfl)) (fun _ _ _ _ _ => pts_nil) (fun _ _ _ _ _ => pe_ix (ix_tupK K rfl) (pv 2) pe_int (fun _ _ => rfl))) (nomark _)))))
      (pss_one (ps_ret pe_bl)) pss_nil)
      (pss_one (ps_ret (pe_and (pe_cmpR op_eqI (pe_callB (call_lenO G_len hr) (by rfl) T.b_len PySem.boot_len (pa_cons (pv 0) pa_nil)) (pe_callB call_lenS (by rfl) T.b_len PySem.boot_len (pa_cons (pe_ix ix_tup (pe_ix ix_list (pv 1) (pe_un un_neg pe_int) (fun _ _ => rfl)) pe_int (fun _ _ => rfl)) pa_nil)) (by rfl))
        (pe_and (pe_cmpR op_eqS (pe_callTy (call_strO G_str hr) (by rfl) T.b_str (by decide +kernel) (pa_cons (pv 0) pa_nil)) (pe_ix ix_tup (pe_ix ix_list (pv 1) (pe_un un_neg pe_int) (fun _ _ => rfl)) pe_int (fun _ _ => rfl)) (by rfl))
        (pe_one (pe_cmpR op_isBl (pe_mS0 (pv 0) c.cls G_is_kin hr passA0) pe_bl (by rfl))))))), ?_⟩
    obtain ⟨xs, p, y, hr1, hr2, hp⟩ := ra.last
    refine ⟨_, rfl, a, dx, _, rfl, k1, rfl, ?_⟩
    refine ⟨a, dx, ls, lr, ts, ds, l, rfl, k0, by omega, ?_⟩
    refine ⟨_, rfl, 1, rfl, r, xs, -1, .ref p, rfl, rfl, SqL.of hr1, hr2, p, _, 0, vS l, rfl, rfl, SqT.of hp, rfl, l, l, rfl, rfl, _, rfl, ?_⟩
    refine ite2 (fun z => absurd z (by simp)) (fun _ => ?_)
    refine ⟨_, rfl, a, dx, _, rfl, k1, rfl, ?_⟩
    refine ⟨a, dx, ls, lr, _, ds, rfl, k0, by omega, fun p1 us hp1 hus => ?_⟩
    obtain ⟨ps, dv, g1, g2, g3, g4, g5⟩ := id ra
    obtain ⟨p0, qs, rfl⟩ : ∃ p0 qs, ps = p0 :: qs := by
      cases ps with
      | nil => cases g3
      | cons a b => exact ⟨a, b, rfl⟩
    have g1' := g1
    rw [List.map_cons] at g3
    injection g3 with g30 g31
    have lq : qs.length ≤ 900 := by
      have e1 := congrArg List.length g31
      have e2 := g4.len
      rw [List.length_map] at e1
      omega
    have s1 := Same.upd (o := .lst us) hp1
    refine ⟨_, rfl, _, rfl, r, _, rfl, SqL.of (s1 _ _ g1), fun z hz => ?_⟩
    rw [show cutV (List.map (fun p : Addr × L × V => V.ref p.1) (p0 :: qs)) (some 1) none = qs.map (fun p => V.ref p.1) from cutV_tail _ _]
    have s2 := Same.upd (o := .lst (qs.map fun p => V.ref p.1)) hz
    refine ⟨z, rfl, ⟨_, SqL.of upd_same⟩, fun D hD => ?_⟩
    generalize hH2 : upd (upd H p1 (.lst us)) z (.lst (qs.map fun p => V.ref p.1)) = H2 at *
    have ez : H2 z = some (.lst (qs.map fun p => V.ref p.1)) := by rw [← hH2]; exact upd_same
    have s12 := s1.trans s2
    refine it_gen (wk_list (K := K) (fun p : Addr × L × V => V.ref p.1) qs) (PF H2 D qs (fun _ => true) fun p => p.2.2) (PF.init hD) (fun j H7 _ zz => SqL.of (zz.1 _ _ ez)) ?_ ?_
    · rintro i x H3 H3' hi pf ⟨rfl, u, hu, rfl⟩
      have e5 := pf.1 _ _ (s12 _ _ (g5 u (List.mem_cons_of_mem _ (List.mem_of_getElem? hu))))
      refine ⟨rfl, _, rfl, u.1, _, 1, u.2.2, rfl, rfl, SqT.of e5, rfl, ?_⟩
      exact pf.acc hu rfl (Same.refl _) hD (by omega)
    · intro H3 pf
      have eD := pf.done
      rw [List.filter_eq_self.mpr (fun _ _ => rfl), g31] at eD
      have s3 := s12.trans pf.1
      have dp1 := (hus.mono (Tups.same s3)).dp (K := K) (a := p1) (by
        have e1 : upd H p1 (.lst us) p1 = some (.lst us) := upd_same
        exact pf.1 _ _ (s2 _ _ e1))
      have dp2 := (g4.mono (Tups.same s3)).dp (K := K) (a := D) eD
      refine ⟨_, _, dp1, dp2, dD_list_shaped _, dD_list_shaped _, _, rfl, ?_⟩
      rw [dD_list_eqv, decide_eq_true rfl]
      refine iteF ?_
      have k3 := k0.same s3
      refine ⟨_, rfl, a, dx, _, rfl, k3.1, ⟨a, dx, ls, lr, ts, ds, l, rfl, k3, by omega, l.length, rfl, by omega, ?_⟩⟩
      refine ⟨_, rfl, 1, rfl, r, xs, -1, .ref p, rfl, rfl, SqL.of (s3 _ _ hr1), hr2, p, _, 0, vS l, rfl, rfl, SqT.of (s3 _ _ hp), rfl, l, rfl, by omega, _, _, rfl, rfl, _, rfl, ?_⟩
      refine ite2 (fun _ => ?_) (fun z => absurd (by simp) z)
      refine ⟨_, rfl, a, dx, _, rfl, k3.1, ⟨a, dx, ls, lr, ts, ds, l, rfl, k3, by omega, _, rfl, ?_⟩⟩
      refine ⟨_, rfl, 1, rfl, r, xs, -1, .ref p, rfl, rfl, SqL.of (s3 _ _ hr1), hr2, p, _, 0, vS l, rfl, rfl, SqT.of (s3 _ _ hp), rfl, l, l, rfl, rfl, _, rfl, ?_⟩
      refine ite2 (fun _ => ?_) (fun z => absurd (by simp) z)
      refine ⟨_, rfl, a, dx, _, rfl, k3.1, rfl, ?_⟩
      refine ⟨a, dx, ls, lr, t, l, _, ds, rfl, k3, hh, by simp, by omega, by omega, fun H4 s4 => ?_⟩
      refine ⟨_, _, rfl, rfl, ?_⟩
      rw [decide_eq_true hk, decide_eq_true rfl]
      exact q H4 (s3.trans s4)
end
end Lk

namespace Lk
open PySem PySem.Spec PyProof.Rows L2
/-! ### k10: what stays true of strips and deeds -/
open Fo
/-- a strip kept: of t's signs, kin to t -/
def Gd (t u : L) : Prop := 1 ≤ u.length ∧ u.length ≤ 24 ∧ Fo.Sg u ∧ least u = least t
def De.raw : De → Raw
  | .fold c => .fold (vI c)
  | .unf e m => .unf (vI e) (vI m)
  | .turn => .turn
theorem De.raw_vs (d : De) : d.raw.vs = d.vs := by cases d <;> rfl
theorem De.raw_ok (K : PySem.W.Frag) (H : Hp) (d : De) : d.raw.ok K H := by
  cases d with
  | fold c => exact .inl ⟨_, rfl⟩
  | unf e m => exact ⟨.inl ⟨_, rfl⟩, .inl ⟨_, rfl⟩⟩
  | turn => trivial
/-- the deed d turns u into v -/
def Stp (u : L) (d : De) (v : L) : Prop := ∀ ds, act u ds d.raw = .go v d
theorem act_go {u v : L} {ds : List De} {raw : Raw} {d : De} (h : act u ds raw = .go v d) : raw = d.raw ∧ Stp u d v := by
  cases raw with
  | fold x =>
    unfold act at h
    dsimp only at h
    cases hc : isCr u x with
    | none => rw [hc] at h; cases h
    | some k =>
      rw [hc] at h
      dsimp only at h
      injection h with h1 h2
      subst h1 h2
      obtain ⟨rfl, hC⟩ := isCr_some hc
      refine ⟨rfl, fun ds' => ?_⟩
      show (match isCr u (vI k) with | some k => Act.go (left u k) (.fold k) | none => .no "NoCrease") = _
      rw [hc]
  | unf x y =>
    unfold act at h
    dsimp only at h
    cases hc : unfAct u x y with
    | inl w => rw [hc] at h; cases h
    | inr q =>
      obtain ⟨e, m⟩ := q
      rw [hc] at h
      dsimp only at h
      injection h with h1 h2
      subst h1 h2
      obtain ⟨he, hm, _, _⟩ := unfAct_inr hc
      obtain ⟨rfl, _⟩ := inR_some (by decide) he
      obtain ⟨rfl, _⟩ := inR_some (by decide) hm
      refine ⟨rfl, fun ds' => ?_⟩
      show (match unfAct u (vI e) (vI m) with | .inr (e, m) => Act.go (unfL u (e, m)) (.unf e m) | .inl w => .no w) = _
      rw [hc]
  | turn =>
    injection h with h1 h2
    subst h1 h2
    exact ⟨rfl, fun ds' => rfl⟩
  | back =>
    unfold act at h
    dsimp only at h
    split at h <;> cases h
theorem act_gd {t u v : L} {ds : List De} {raw : Raw} {d : De} (h : act u ds raw = .go v d) (g : Gd t u) : Gd t v := by
  obtain ⟨g1, g2, g3, g4⟩ := g
  cases raw with
  | fold x =>
    unfold act at h
    dsimp only at h
    cases hc : isCr u x with
    | none => rw [hc] at h; cases h
    | some k =>
      rw [hc] at h
      dsimp only at h
      injection h with h1 h2
      subst h1
      obtain ⟨_, hC⟩ := isCr_some hc
      have ll := left_len hC
      exact ⟨ll.2, by omega, g3.comes (.one hC), by rw [least_comes (.one hC), g4]⟩
  | unf x y =>
    unfold act at h
    dsimp only at h
    cases hc : unfAct u x y with
    | inl w => rw [hc] at h; cases h
    | inr q =>
      obtain ⟨e, m⟩ := q
      rw [hc] at h
      dsimp only at h
      injection h with h1 h2
      subst h1
      obtain ⟨_, _, h24, hw⟩ := unfAct_inr hc
      have hl := unfL_len hw
      dsimp only at hl
      obtain ⟨c, c1, c2⟩ := unfL_cr hw
      refine ⟨by omega, by omega, fun x hx => g3 x (unfL_mem hx), ?_⟩
      have := least_comes (Comes.one c1)
      rw [c2] at this
      rw [← this, g4]
  | turn =>
    injection h with h1 h2
    subst h1
    exact ⟨by rw [List.length_reverse]; exact g1, by rw [List.length_reverse]; exact g2, fun x hx => g3 x (List.mem_reverse.mp hx), by rw [least_rev, g4]⟩
  | back =>
    unfold act at h
    dsimp only at h
    split at h <;> cases h
/-- strips us by the deeds ds -/
def Chn (t : L) (us : List L) (ds : List De) : Prop := us.length = ds.length + 1 ∧ us.head? = some t ∧ (∀ u ∈ us, Gd t u) ∧ ∀ (i : Nat) (u v : L) (d : De), us[i]? = some u → us[i + 1]? = some v → ds[i]? = some d → Stp u d v
theorem Chn.snoc {t u v : L} {ts : List L} {ds : List De} {raw : Raw} {d : De} (h : Chn t (ts ++ [u]) ds) (a : act u ds raw = .go v d) : Chn t (ts ++ [u] ++ [v]) (ds ++ [d]) := by
  obtain ⟨h1, h2, h3, h4⟩ := h
  have hl : ts.length = ds.length := by rw [List.length_append] at h1; simpa using h1
  refine ⟨by rw [List.length_append, h1, List.length_append]; rfl, ?_, fun x hx => ?_, fun i x y e hx hy he => ?_⟩
  · cases ts with
    | nil => exact h2
    | cons a b => exact h2
  · rcases List.mem_append.mp hx with hx | hx
    · exact h3 x hx
    · rw [List.mem_singleton.mp hx]
      exact act_gd a (h3 u (by simp))
  · by_cases hi : i < ds.length
    · rw [List.getElem?_append_left (by rw [h1]; omega)] at hx
      rw [List.getElem?_append_left (by rw [h1]; omega)] at hy
      rw [List.getElem?_append_left hi] at he
      exact h4 i x y e hx hy he
    · have hi2 : i = ds.length := by
        obtain ⟨hlt, _⟩ := List.getElem?_eq_some_iff.mp he
        rw [List.length_append] at hlt
        simp at hlt
        omega
      subst hi2
      have ex : x = u := by
        rw [List.getElem?_append_left (by rw [h1]; omega), List.getElem?_append_right (by omega), hl, Nat.sub_self] at hx
        simpa using hx.symm
      have ey : y = v := by
        rw [List.getElem?_append_right (by rw [h1]; omega), h1, Nat.sub_self] at hy
        simpa using hy.symm
      have ee : e = d := by
        rw [List.getElem?_append_right (Nat.le_refl _), Nat.sub_self] at he
        simpa using he.symm
      subst ex ey ee
      exact (act_go a).2
theorem Chn.pop {t u : L} {ts : List L} {ds : List De} (h : Chn t (ts ++ [u]) ds) (hd : ds ≠ []) : Chn t ts ds.dropLast ∧ ts ≠ [] := by
  obtain ⟨h1, h2, h3, h4⟩ := h
  have hl : ts.length = ds.length := by rw [List.length_append] at h1; simpa using h1
  have hp : 0 < ds.length := List.length_pos_iff.mpr hd
  have hn : ts ≠ [] := fun z => by rw [z] at hl; simp at hl; omega
  refine ⟨⟨by rw [List.length_dropLast, hl]; omega, ?_, fun x hx => h3 x (List.mem_append_left _ hx), fun i x y e hx hy he => ?_⟩, hn⟩
  · cases ts with
    | nil => exact absurd rfl hn
    | cons a b => exact h2
  · have hx' := (List.getElem?_eq_some_iff.mp hx).1
    have hy' := (List.getElem?_eq_some_iff.mp hy).1
    refine h4 i x y e (by rw [List.getElem?_append_left hx']; exact hx) (by rw [List.getElem?_append_left hy']; exact hy) ?_
    rw [List.getElem?_dropLast] at he
    split at he
    · exact he
    · cases he
theorem Chn.split {t : L} {ts : List L} {ds : List De} (h : Chn t ts ds) : ∃ r u, ts = r ++ [u] ∧ Gd t u := by
  have hn : ts ≠ [] := fun z => by rw [z] at h; have := h.1; simp at this
  refine ⟨ts.dropLast, ts.getLast hn, (List.dropLast_concat_getLast hn).symm, h.2.2.1 _ (List.getLast_mem hn)⟩
theorem Chn.one {t : L} (h1 : 1 ≤ t.length) (h2 : t.length ≤ 24) (h3 : Fo.Sg t) : Chn t ([] ++ [t]) [] := by
  refine ⟨rfl, rfl, fun u hu => ?_, fun i u v d _ _ he => by simp at he⟩
  have : u = t := by simpa using hu
  subst this
  exact ⟨h1, h2, h3, rfl⟩
end Lk

namespace Lk
open PySem PySem.Spec PyProof.Rows L2
/-! ### k10: what comes of a deed, told alike -/
open Fo
/-- strips, deeds, value behind a deed -/
def oU (ts : List L) (l : L) : Act → List L
  | .go t _ => ts ++ [l] ++ [t]
  | .back => ts
  | .no _ => ts ++ [l]
def oD (ds : List De) : Act → List De
  | .go _ d => ds ++ [d]
  | .back => ds.dropLast
  | .no _ => ds
def oV : Act → V
  | .go t _ => vS t
  | .back => .non
  | .no w => .str w
theorem oV_scal (a : Act) : scal (oV a) (oV a) = true := by cases a <;> rfl
theorem oD_len (ds : List De) (a : Act) : (oD ds a).length ≤ ds.length + 1 := by
  cases a with
  | go t d => unfold oD; rw [List.length_append]; simp
  | back => unfold oD; rw [List.length_dropLast]; omega
  | no w => unfold oD; dsimp only; omega
theorem out_chn {t l : L} {ts : List L} {ds : List De} {raw : Raw} (h : Chn t (ts ++ [l]) ds) : Chn t (oU ts l (act l ds raw)) (oD ds (act l ds raw)) := by
  cases e : act l ds raw with
  | go v d => exact h.snoc e
  | back =>
    have hd : ds ≠ [] := fun z => by
      subst z
      cases raw with
      | fold x => unfold act at e; dsimp only at e; split at e <;> cases e
      | unf x y => unfold act at e; dsimp only at e; split at e <;> cases e
      | turn => cases e
      | back => cases e
    exact (h.pop hd).1
  | no w => exact h
theorem AfterR.of {H : Hp} {r : Addr} {ts : List L} {ds : List De} {l : L} {Q : VK} {a : Act} (ra : RA H r (ts ++ [l]) ds) (h : ∀ H', RA H' r (oU ts l a) (oD ds a) → Bts [r] H H' → Tups H H' → Q (oV a) H') : AfterR H r ts ds l Q a := by
  cases a with
  | go t d => exact fun H' k b t => h H' k b t
  | back => exact fun H' k b t => h H' k b t
  | no w => exact fun H' sm => h H' (ra.same sm) (Bts.of sm) (Tups.same sm)
theorem After.of {C : Addr} {H : Hp} {a dx ls lr : Addr} {ts : List L} {ds : List De} {l : L} {Q : VK} {ac : Act} (ka : KA C H a dx ls lr (ts ++ [l]) ds) (h : ∀ H', KA C H' a dx ls lr (oU ts l ac) (oD ds ac) → Bts [ls, lr] H H' → Tups H H' → Q (oV ac) H') : After C H a dx ls lr ts ds l Q ac := by
  cases ac with
  | go t d => exact fun H' k b t => h H' k b t
  | back => exact fun H' k b t => h H' k b t
  | no w => exact fun H' sm => h H' (ka.same sm) (Bts.of sm) (Tups.same sm)
theorem But.bts {b : Addr} {H H' : Hp} (e : But b H H') : Bts [b] H H' := fun x o n h => e x o (fun z => n (by simp [z])) h
/-- only what was not there ahead has changed -/
theorem Same.bts {S : List Addr} {H0 H H' : Hp} (s : Same H0 H) (b : Bts S H H') (n : ∀ x ∈ S, H0 x = none) : Same H0 H' := fun x o e => b x o (fun z => by rw [n x z] at e; cases e) (s x o e)
theorem Bts.fresh {H H' : Hp} {x dx : Addr} {o1 o2 : HO} (hx : H x = none) (hd : H dx = none) (b : Bts [x] (L2.upd (L2.upd H dx o1) x o2) H') : Same H H' := fun y o e => b y o (fun z => by
  have : y = x := by simpa using z
  rw [this, hx] at e
  cases e) (by rw [upd_ne (ne_of_none e hx), upd_ne (ne_of_none e hd)]; exact e)
/-- a word given back, told by itself -/
theorem PA.imp {X : Cx} {es : List Expr} {t t' : TA} (h : PA X es t) (i : ∀ σ H Q, t' σ H Q → t σ H Q) : PA X es t' := ⟨fun pos pins s σ H Q I q => h.run pos pins s σ H Q I (i σ H Q q)⟩
/-- o.append(e), K told -/
theorem pe_appK {X : Cx} (K : PySem.W.Frag) (hk : X.K = K) {o e : Expr} {to : TE} {t : TA} {apos cpos : Pos} (ho : PE X o to) (ha : PA X [e] t)
    (hbase : attributeBase o "append" X.env (eval o X.env) = eval o X.env := by rfl) (hline : (apos.endLine == cpos.line) = true := by rfl) (hst : starEach [e] X.env = (false, eval e X.env) :: starEach [] X.env := by rfl) (hpl : (backTo cpos (starEach [] X.env)).any (·.1) = false := by rfl) :
    PE X (.Call (.Attribute o "append" apos) [e] [] cpos) (tBM K "list" rAppend to t) := by
  subst hk
  exact pe_bm PySem.F.plainAttrs_list PySem.F.slot_list_append PySem.F.type_list_append mt_append ho ha hbase (by rw [hst]; rfl) hline hst hpl
/-- the same reading under a name -/
def tWrap (t : TS) : TS := fun D σ H => t D σ H
theorem ps_wrap {X : Cx} {st : Stmt} {t : TS} (h : PS X st t) : PS X st (tWrap t) := h
end Lk

namespace Lk
open PySem PySem.Spec PyProof.Rows L2
/-! ### the law -/
open Fo
section
variable {P : Program} {w : World} {K : PySem.W.Frag} {mg : Str → Option Value} {base : Heap} {C : Addr}
theorem FnPx.mono {CX : CXT} {x : Str} {ps : List Str} {j k : Nat} {sp : Addr × Obj → Sp} (F : FnPx P w K mg base CX j x ps sp) (h : j ≤ k) : FnPx P w K mg base CX k x ps sp := by
  obtain ⟨f, fd, a, b, d, e⟩ := F
  exact ⟨f, fd, a, b, d, ⟨e.len, fun A outer s H args us vs Q E p hr => e.run A outer s H args us vs Q E p (hr.mono h)⟩⟩
theorem ok_law (T : Txt K mg) {f : Addr} {fd : FuncData} (F : Fun K "law" "law" s_law f fd) : FnOk P w K mg base CX0 60 f fd ["script"] (sp_law K) := by
  obtain ⟨C, c⟩ := T.co_Kept
  have G__law_bag := ok__law_bag (P := P) (w := w) (base := base) T
  have G__law_strip := ok__law_strip (P := P) (w := w) (base := base) T
  have G_a_deed := ok__law_a_deed (P := P) (w := w) (base := base) T
  have G_due := ok__law_due (P := P) (w := w) (base := base) T
  have G_did := ok__law_did (P := P) (w := w) (base := base) T c
  have G_stands := ok__law_stands_so (P := P) (w := w) (base := base) T c
  have G_init := okm_init (P := P) (w := w) (base := base) T c
  have G_deeds := okm_deeds (P := P) (w := w) (base := base) T c
  have G_eq := okm_eq (P := P) (w := w) (base := base) T c
  have G_back := okm_back (P := P) (w := w) (base := base) T c
  have G_kind := (ok__law_kind (P := P) (w := w) (base := base) T).mono (show 1 ≤ 59 by decide)
  obtain ⟨F0, gF, kF, bF, tF, iF, sF, eF⟩ := T.x_FoldError.ex
  refine F.ok sc_law (fun vs H Q E h => ?_) (fun cdv A outer s H vs Q E hr h => ?_)
  · obtain ⟨a, ns, rfl, _⟩ := h
    rfl
  · obtain ⟨a0, ns, rfl, hS, hlen, q⟩ := h
    refine ⟨_, pss_cons (ps_set (i := 1) sc_law.nd rfl (.inl rfl) (pe_fn G__law_strip hr (pa_cons (pe_fn G__law_bag hr (pa_cons (pv 0) (pa_cons pe_int pa_nil))) (pa_cons pe_int pa_nil))))
    (pss_cons (ps_par3 (i := 2) (j := 3) (l := 4) rfl sc_law.nd rfl rfl rfl (by decide) (by decide) (by decide) rfl rfl rfl (pa_cons (pe_makeS c.mks c.kp G_init hr c.g passAF (pa_cons (pv 1) pa_nil)) (pa_cons (pe_makeS c.mks c.kp G_init hr c.g passAF (pa_cons (pv 1) pa_nil)) (pa_cons (pe_lst (pa_cons (pe_tup (pa_cons (pv 1) (pa_cons pe_non pa_nil))) pa_nil)) pa_nil))) (by rfl))
    (C8.pss_cut (ps_for PassesOwn.never rfl (pi_range1 (by rfl) T.b_range (pa_cons (pe_op op_add (pe_callB (call_min2 rfl) (by rfl) T.b_min (by decide +kernel) (pa_cons (pe_callB call_len_seq (by rfl) T.b_len PySem.boot_len (pa_cons (pv 0) pa_nil)) (pa_cons pe_int pa_nil))) pe_int) pa_nil)) (pg_name (i := 5) sc_law.nd rfl (.inl rfl))
      (pss_cons (ps_set (i := 6) sc_law.nd rfl (.inl rfl) (pe_fn G__law_bag hr (pa_cons (pv 0) (pa_cons (pe_op op_add (pv 5) pe_int) pa_nil))))
      (pss_one (ps_for PassesOwn.never rfl (pi_range1 (by rfl) T.b_range (pa_cons pe_int pa_nil)) (pg_name (i := 7) sc_law.nd rfl (.inl rfl))
        (pss_cons (ps_set (i := 8) sc_law.nd rfl (.inl rfl) (pe_fn G_a_deed hr (pa_cons (pv 6) (pa_cons (pe_ix ix_tup (pe_ix ix_list (pv 4) (pe_un un_neg pe_int) (fun _ _ => rfl)) pe_int (fun _ _ => rfl)) pa_nil))))
        (pss_cons (ps_set (i := 9) sc_law.nd rfl (.inl rfl) (pe_fn G_due hr (pa_cons (pv 4) (pa_cons (pv 8) pa_nil))))
        (pss_cons (ps_if (PW.pt (pw_or (pt_cmpR op_ne (pe_fn G_did hr (pa_cons (pv 2) (pa_cons (pv 8) pa_nil))) (pv 9) (nomark _)) (pw_or1 (pt_not (pt_val (pe_fn G_stands hr (pa_cons (pv 2) (pa_cons (pv 4) pa_nil))))))))
          (pss_one (ps_ret pe_bl))
          pss_nil)
        (pss_one (ps_expr (pe_bm PySem.F.plainAttrs_list PySem.F.slot_list_append PySem.F.type_list_append mt_append (pe_mS0 (pv 2) c.cls G_deeds hr passA0) (pa_cons pe_non pa_nil)))))))))))
    (C8.pss_cut (ps_for PassesOwn.never rfl (pi_list (pe_slice sl_list (pv 4) (po_some pe_int) po_none)) (pg_tup rfl (pgs_cons (pg_name (i := 10) sc_law.nd rfl (.inl rfl)) (pgs_cons (pg_name (i := 8) sc_law.nd rfl (.inl rfl)) pgs_nil)))
      (pss_cons (ps_if (pt_cmpR (op_eqO G_eq c.nf hr) (pv 2) (pv 3) (nomark _))
        (pss_one (ps_ret pe_bl))
        pss_nil)
      (pss_one (ps_expr (pe_fn G_did hr (pa_cons (pv 3) (pa_cons (pv 8) pa_nil)))))))
    (C8.pss_cut (ps_if (PW.pt (pw_or (pt_not (pt_cmpR (op_eqO G_eq c.nf hr) (pv 2) (pv 3) (nomark _))) (pw_or (pt_cmpR (op_eqO G_eq c.nf hr) (pv 2) (pe_ix ix_tup (pe_ix ix_list (pv 4) (pe_un un_neg pe_int) (fun _ _ => rfl)) pe_int (fun _ _ => rfl)) (nomark _)) (pw_or1 (pt_not (pt_val (pe_fn G_stands hr (pa_cons (pv 2) (pa_cons (pv 4) pa_nil)))))))))
      (pss_one (ps_ret pe_bl))
      pss_nil)
    (C8.pss_cut (ps_for PassesOwn.never rfl (pi_list (pe_slice sl_list (pv 4) (po_some pe_int) po_none)) (pg_name (i := 11) sc_law.nd rfl (.inl rfl))
      (pss_one (ps_expr (pe_mS0 (pv 2) c.cls G_back hr passAF))))
    (C8.pss_cut (ps_if (PW.pt (pw_or (pt_not (pt_cmpR (op_eqO G_eq c.nf hr) (pv 2) (pe_makeS c.mks c.kp G_init hr c.g passAF (pa_cons (pv 1) pa_nil)) (nomark _))) (pw_or (pt_cmpR op_neS (pe_fn G_did hr (pa_cons (pv 2) (pa_cons (pe_tup (pa_cons pe_str pa_nil)) pa_nil))) pe_str (nomark _)) (pw_or1 (pt_not (pt_val (pe_fn G_stands hr (pa_cons (pv 2) (pa_cons (pe_slice sl_list (pv 4) po_none (po_some pe_int)) pa_nil)))))))))
      (pss_one (ps_ret pe_bl))
      pss_nil)
    (pss_cons (ps_set (i := 12) sc_law.nd rfl (.inl rfl) (pe_lst pa_nil))
    (pss_cons (ps_for PassesOwn.never rfl (pi_tup (pe_tup (pa_cons pe_str (pa_cons pe_str (pa_cons (pe_op op_repS pe_str pe_int) (pa_cons pe_non (pa_cons (pe_tup (pa_cons pe_str pa_nil)) pa_nil))))))) (pg_name (i := 13) sc_law.nd rfl (.inl rfl))
      (pss_one (ps_wrap (L2N.ps_try_as (i := 14) (tb := fun W => _) (ts := fun a cls d => _) (Wout := fun _ _ _ _ => False) rfl rfl sc_law.nd rfl rfl ⟨rfl, by decide, Or.inl gF⟩ takes0N
        (fun W pn xe tk _ => pss_one (ps_expr (pe_appK K rfl (pv 12) (pa_cons (pe_makeS c.mks c.kp G_init hr c.g (fun σ => L2N.passAt tk σ) (pa_cons (pv 13) pa_nil)) pa_nil))))
        (fun a oe cls d pn hz hf => pss_one (ps_expr (pe_appK K rfl (pv 12) (pa_cons (pe_kind (j := 14) G_kind hr hz hf rfl (.inl rfl)) pa_nil))))))))
    (pss_one (ps_ret (pe_cmpR (op_eqLS hr.units) (pv 12) (pe_op op_rep (pe_lst (pa_cons pe_str pa_nil)) pe_int) (by rfl)))))))))))), ?_⟩
    refine ⟨_, rfl, a0, ns, 0, rfl, hS, by decide, by decide, fun b0 H1 hb0 sm1 bag0 => ?_⟩
    refine ⟨b0, 16, rfl, bag0, by decide, by decide, fun t H2 bt2 bag2 t1 t2 sg => ?_⟩
    have t16 : t.length ≤ 16 := by omega
    have fb0 : H b0 = none := hb0
    have sm2 : Same H H2 := same_but sm1 fb0 bt2
    have ist : isStrip t = true := isStrip_of t1 (by omega) sg
    -- kept
    refine ⟨_, rfl, fun a dxa ha hdxa hne => ?_⟩
    refine ⟨a, dxa, vS t, _, rfl, upd_same, .str t, fun l e => by rw [← vS_inj.mp e]; omega, fun l e _ H3 ls lr ka3 b3 _ fls flr => ⟨rfl, ?_⟩, fun hno => absurd (hno t rfl) (by rw [ist]; decide)⟩
    obtain rfl := vS_inj.mp e
    have s23 : Same H2 H3 := Bts.fresh ha hdxa b3
    have none2 : ∀ {y x d : Addr} {o1 o2 : HO} {G : Hp}, (upd (upd G d o1) x o2) y = none → y ≠ x ∧ G y = none := fun {y x d o1 o2 G} h => by
      have n1 : y ≠ x := fun z => by rw [z, upd_same] at h; cases h
      rw [upd_ne n1] at h
      have n2 : y ≠ d := fun z => by rw [z, upd_same] at h; cases h
      rw [upd_ne n2] at h
      exact ⟨n1, h⟩
    have f2ls := none2 fls
    have f2lr := none2 flr
    -- other
    refine ⟨_, rfl, fun b dxb hb hdxb hneb => ?_⟩
    refine ⟨b, dxb, vS t, _, rfl, upd_same, .str t, fun l e => by rw [← vS_inj.mp e]; omega, fun l e _ H4 ms mr kb4 b4 _ fms fmr => ⟨rfl, ?_⟩, fun hno => absurd (hno t rfl) (by rw [ist]; decide)⟩
    obtain rfl := vS_inj.mp e
    have s34 : Same H3 H4 := Bts.fresh hb hdxb b4
    have f3ms := none2 fms
    have f3mr := none2 fmr
    obtain ⟨ka31, ka32, ⟨va3, ka33, _⟩, ka34⟩ := id ka3
    obtain ⟨kb41, kb42, ⟨vb4, kb43, _⟩, kb44⟩ := id kb4
    have nbls : b ≠ ls := (ne_of_none ka32 hb).symm
    have nblr : b ≠ lr := (ne_of_none ka33 hb).symm
    have nmsls : ms ≠ ls := (ne_of_none ka32 f3ms.2).symm
    have nmslr : ms ≠ lr := (ne_of_none ka33 f3ms.2).symm
    have nmrls : mr ≠ ls := (ne_of_none ka32 f3mr.2).symm
    have nmrlr : mr ≠ lr := (ne_of_none ka33 f3mr.2).symm
    have nams : a ≠ ms := ne_of_none ka31 f3ms.2
    have namr : a ≠ mr := ne_of_none ka31 f3mr.2
    -- rows
    refine ⟨_, rfl, (by show 2 ≤ sizeLine; decide), fun tp htp => ⟨(by show 1 ≤ sizeLine; decide), fun r hr' => ?_⟩⟩
    have s45 := Same.upd (o := .tup [vS t, .non]) htp
    have s56 := Same.upd (o := .lst [.ref tp]) hr'
    have n5 : ∀ {y : Addr} {o : HO}, H4 y = some o → y ≠ r := fun {y o} h => ne_of_none (s45 _ _ h) hr'
    have nra := n5 (s34 _ _ ka31)
    have nrls := n5 (s34 _ _ ka32)
    have nrlr := n5 (s34 _ _ ka33)
    have nrb := n5 kb41
    have nrms := n5 kb42
    have nrmr := n5 kb43
    have fr4 : H4 r = none := by
      have z : r ≠ tp := fun z => by rw [z, upd_same] at hr'; cases hr'
      rw [upd_ne z] at hr'
      exact hr'
    have sm3 := sm2.trans s23
    have sm4 := sm3.trans s34
    have s46 := s45.trans s56
    have sm6 := sm4.trans s46
    have f0a : H a = none := sm2.free ha
    have f0ls : H ls = none := sm2.free f2ls.2
    have f0lr : H lr = none := sm2.free f2lr.2
    have f0b : H b = none := sm3.free hb
    have f0ms : H ms = none := sm3.free f3ms.2
    have f0mr : H mr = none := sm3.free f3mr.2
    have f0r : H r = none := sm4.free fr4
    have ka6 := (ka3.same s34).same s46
    have kb6 := kb4.same s46
    have ra6 : RA (upd (upd H4 tp (.tup [vS t, .non])) r (.lst [.ref tp])) r [t] [] := ⟨[(tp, t, .non)], [], upd_same, rfl, rfl, DsAt.nil, fun p hp => by
      rw [List.mem_singleton.mp hp]
      exact s56 _ _ upd_same⟩
    generalize upd (upd H4 tp (.tup [vS t, .non])) r (.lst [.ref tp]) = H6 at *
    refine ⟨_, _, _, rfl, ?_⟩
    have c0 : Chn t [t] [] := Chn.one t1 (by omega) sg
    refine ⟨fun σ' H' => ∃ (us : List L) (ds : List De) (v5 v6 v7 v8 v9 : Option V), σ' = [some (.ref a0), some (vS t), some (.ref a), some (.ref b), some (.ref r), v5, v6, v7, v8, v9, none, none, none, none, none] ∧ Same H H' ∧ KA C H' a dxa ls lr us ds ∧ KA C H' b dxb ms mr [t] [] ∧ RA H' r us ds ∧ Chn t us ds ∧ ds.length ≤ 60, ?main, ?rest⟩
    case main =>
      refine ⟨_, rfl, a0, _, rfl, .inl (sm6.seq hS), _, _, rfl, _, _, rfl, rfl, _, rfl, ?_, ?_, ?_⟩
      · split <;> (try rw [List.length_map]) <;> omega
      · split <;> (try rw [List.length_map]) <;> omega
      refine for_range (lo := 0) (n := _) (fun i σ' H' => ∃ (us : List L) (ds : List De) (v5 v6 v7 v8 v9 : Option V), σ' = [some (.ref a0), some (vS t), some (.ref a), some (.ref b), some (.ref r), v5, v6, v7, v8, v9, none, none, none, none, none] ∧ Same H H' ∧ KA C H' a dxa ls lr us ds ∧ KA C H' b dxb ms mr [t] [] ∧ RA H' r us ds ∧ Chn t us ds ∧ ds.length ≤ 3 * i) ⟨_, _, none, none, none, none, none, rfl, sm6, ka6, kb6, ra6, c0, Nat.zero_le _⟩ ?_ ?_
      · rintro i σ H7 hi ⟨us, ds, v5, v6, v7, v8, v9, rfl, sm7, ka7, kb7, ra7, ch7, ld7⟩
        have hi' : i ≤ 15 := by
          revert hi
          split <;> omega
        refine ⟨_, rfl, _, rfl, _, _, rfl, rfl, a0, ns, _, rfl, sm7.seq hS, by omega, by omega, fun bg H8 hbg s78 bag8 => ?_⟩
        have sm8 := sm7.trans s78
        have fbg : H bg = none := sm7.free hbg
        obtain ⟨k71, k72, ⟨w7, k73, _⟩, _⟩ := id ka7
        obtain ⟨j71, j72, ⟨z7, j73, _⟩, _⟩ := id kb7
        obtain ⟨y7, r71, _⟩ := ra7.list
        have nga := ne_of_none k71 hbg
        have ngls := ne_of_none k72 hbg
        have nglr := ne_of_none k73 hbg
        have ngb := ne_of_none j71 hbg
        have ngms := ne_of_none j72 hbg
        have ngmr := ne_of_none j73 hbg
        have ngr := ne_of_none r71 hbg
        refine ⟨3, rfl, by decide, by decide, ?_⟩
        refine for_range (lo := 0) (n := 3) (fun j σ' H' => ∃ (us : List L) (ds : List De) (v7 v8 v9 : Option V), σ' = [some (.ref a0), some (vS t), some (.ref a), some (.ref b), some (.ref r), some (.int (0 + (i : Int))), some (.ref bg), v7, v8, v9, none, none, none, none, none] ∧ Same H H' ∧ KA C H' a dxa ls lr us ds ∧ KA C H' b dxb ms mr [t] [] ∧ RA H' r us ds ∧ Chn t us ds ∧ ds.length ≤ 3 * i + j ∧ Bag H' bg) ⟨us, ds, v7, v8, v9, rfl, sm8, ka7.same s78, kb7.same s78, ra7.same s78, ch7, ld7, bag8⟩ ?_ ?_
        · rintro j σ H9 hj ⟨us, ds, v7, v8, v9, rfl, sm9, ka9, kb9, ra9, ch9, ld9, bag9⟩
          obtain ⟨ts, l, rfl, gd⟩ := ch9.split
          obtain ⟨xs, p, y, hr1, hr2, hp⟩ := ra9.last
          have ltd : ts.length = ds.length := by have := ch9.1; rw [List.length_append] at this; simpa using this
          have nbg : ∀ {y : Addr} {o : HO}, H8 y = some o → True := fun _ => trivial
          refine ⟨_, rfl, _, rfl, 1, rfl, r, xs, -1, .ref p, rfl, rfl, SqL.of hr1, hr2, p, _, 0, vS l, rfl, rfl, SqT.of hp, rfl, ?_⟩
          refine ⟨bg, l, rfl, bag9, gd.1, by have := gd.2.1; omega, fun H10 pd raw bt10 bag10 hpd epd rok => ?_⟩
          have t910 := bt10.tups bag9
          have b910 := bt10.bts
          have sm10 : Same H H10 := Same.bts sm9 b910 (fun x hx => by rw [List.mem_singleton.mp hx]; exact fbg)
          have ka10 := ka9.keep b910 t910 (by simpa using nga) (by simpa using ngls) (by simpa using nglr)
          have kb10 := kb9.keep b910 t910 (by simpa using ngb) (by simpa using ngms) (by simpa using ngmr)
          have ra10 := ra9.keep b910 t910 (by simpa using ngr)
          have l900 : l.length ≤ 900 := by have := gd.2.1; omega
          refine ⟨_, rfl, _, rfl, r, pd, ts, ds, l, raw, rfl, ra10, l900, by omega, epd, rok H10 (fun _ _ e => e), AfterR.of ra10 (fun H11 ra11 b11 t11 => ?_)⟩
          have sm11 : Same H H11 := Same.bts sm10 b11 (fun x hx => by rw [List.mem_singleton.mp hx]; exact f0r)
          have ka11 := ka10.keep b11 t11 (by simpa using nra) (by simpa using nrls) (by simpa using nrlr)
          have kb11 := kb10.keep b11 t11 (by simpa using nrb) (by simpa using nrms) (by simpa using nrmr)
          have bag11 : Bag H11 bg := by
            obtain ⟨x1, x2, e1, e2⟩ := bag10
            exact ⟨x1, x2, b11 _ _ (by simpa using ngr.symm) e1, e2⟩
          have oc := out_chn (raw := raw) ch9
          have ol := oD_len ds (act l ds raw)
          refine ⟨_, rfl, _, rfl, a, dxa, ls, lr, pd, ts, ds, l, raw, rfl, ka11, ltd, l900, by omega, t11 _ _ epd, rok H11 t11, After.of ka11 (fun H12 ka12 b12 t12 => ?_)⟩
          have sm12 : Same H H12 := Same.bts sm11 b12 (fun x hx => by
            rcases List.mem_cons.mp hx with e | e
            · rw [e]; exact f0ls
            · rw [List.mem_singleton.mp e]; exact f0lr)
          have kb12 := kb11.keep b12 t12 (by simp; exact ⟨nbls, nblr⟩) (by simp; exact ⟨nmsls, nmslr⟩) (by simp; exact ⟨nmrls, nmrlr⟩)
          have ra12 := ra11.keep b12 t12 (by simp; exact ⟨nrls.symm, nrlr.symm⟩)
          have bag12 : Bag H12 bg := by
            obtain ⟨x1, x2, e1, e2⟩ := bag11
            exact ⟨x1, x2, b12 _ _ (by simp; exact ⟨ngls.symm, nglr.symm⟩) e1, e2⟩
          refine ⟨_, rfl, oV_scal _, _, rfl, ite2 (fun z => absurd z (by simp)) (fun _ => ?_)⟩
          generalize hU : oU ts l (act l ds raw) = us' at *
          generalize hD : oD ds (act l ds raw) = ds' at *
          obtain ⟨ts', l', rfl, gd'⟩ := oc.split
          have le1 := gd'.2.1
          have le2 := gd.2.1
          refine ⟨_, rfl, _, rfl, a, dxa, ls, lr, r, ts', ds', l', t, rfl, ka12, ra12, by omega, by omega, by omega, oc.2.1, gd'.2.2.2.symm, fun H13 s13 => ?_⟩
          refine ⟨_, rfl, iteF ?_⟩
          have ka13 := ka12.same s13
          refine ⟨_, rfl, a, dxa, _, rfl, ka13.1, rfl, ?_⟩
          refine ⟨a, dxa, ls, lr, _, ds', rfl, ka13, by omega, fun p3 us3 hp3 hus3 => ?_⟩
          have lus := hus3.len
          refine ⟨.inl ⟨rfl, _, SqL.of upd_same⟩, p3, us3, .non, rfl, rfl, upd_same, small1000 (by omega), ?_⟩
          have s14 : Same H12 (upd (upd H13 p3 (.lst us3)) p3 (.lst (us3 ++ [.non]))) := s13.trans (Same.upd2 (Same.upd hp3) hp3)
          exact ⟨_, ds', _, _, _, rfl, sm12.trans s14, ka12.same s14, kb12.same s14, ra12.same s14, oc, by omega, bag12.same s14⟩
        · rintro σ H9 ⟨us, ds, v7, v8, v9, rfl, sm9, ka9, kb9, ra9, ch9, ld9, bag9⟩
          exact ⟨us, ds, _, _, _, _, _, rfl, sm9, ka9, kb9, ra9, ch9, by omega⟩
      · rintro σ H7 ⟨us, ds, v5, v6, v7, v8, v9, rfl, sm7, ka7, kb7, ra7, ch7, ld7⟩
        refine ⟨us, ds, _, _, _, _, _, rfl, sm7, ka7, kb7, ra7, ch7, ?_⟩
        simp only [List.length_map] at ld7
        (repeat' split at ld7) <;> omega
    case rest =>
      rintro σ1 H7 ⟨us, ds, v5, v6, v7, v8, v9, rfl, sm7, ka7, kb7, ra7, ch, ld⟩
      have lu := ch.1
      have hus : ∃ ur, us = t :: ur := head_split ch.2.1
      have tk1 : us.take 1 = [t] := by
        obtain ⟨ur, e⟩ := hus
        rw [e]
        rfl
      have tkh : ∀ i, (us.take (i + 1)).head? = some t := fun i => by
        obtain ⟨ur, e⟩ := hus
        rw [e]
        rfl
      have smt : Sm t := Lk.Sg.sm sg
      refine ⟨fun σ' H' => ∃ (v8 v10 : Option V), σ' = [some (.ref a0), some (vS t), some (.ref a), some (.ref b), some (.ref r), v5, v6, v7, v8, v9, v10, none, none, none, none] ∧ Same H H' ∧ KA C H' a dxa ls lr us ds ∧ KA C H' b dxb ms mr us ds ∧ RA H' r us ds, ?_, ?_⟩
      · -- the second one goes through the deeds
        obtain ⟨ps, dv, g1, g2, g3, g4, g5⟩ := id ra7
        obtain ⟨p0, qs, rfl⟩ : ∃ p0 qs, ps = p0 :: qs := by
          cases ps with
          | nil => cases g3
          | cons x y => exact ⟨x, y, rfl⟩
        rw [List.map_cons] at g3
        injection g3 with g30 g31
        obtain ⟨pd, d1, d2, d3⟩ := g4
        have lq : qs.length = ds.length := by
          have e1 := congrArg List.length g31
          have e2 := congrArg List.length d1
          have e3 := congrArg List.length d2
          simp at e1 e2 e3
          omega
        refine ⟨_, rfl, 1, rfl, r, _, rfl, SqL.of g1, fun z hz => ?_⟩
        rw [show cutV (List.map (fun p : Addr × L × V => V.ref p.1) (p0 :: qs)) (some 1) none = qs.map (fun p => V.ref p.1) from cutV_tail _ _]
        have s8 := Same.upd (o := .lst (qs.map fun p => V.ref p.1)) hz
        obtain ⟨k71, k72, ⟨w7, k73, _⟩, _⟩ := id ka7
        obtain ⟨j71, j72, ⟨z7, j73, _⟩, _⟩ := id kb7
        have nzms := ne_of_none j72 hz
        have nzmr := ne_of_none j73 hz
        refine ⟨z, rfl, ⟨_, SqL.of upd_same⟩, ?_⟩
        have ez : (upd H7 z (.lst (qs.map fun p => V.ref p.1))) z = some (.lst (qs.map fun p => V.ref p.1)) := upd_same
        generalize upd H7 z (.lst (qs.map fun p => V.ref p.1)) = H8 at *
        refine for_it (wk_list (K := K) (fun p : Addr × L × V => V.ref p.1) qs) (fun i σ' H' => ∃ (v8 v10 : Option V), σ' = [some (.ref a0), some (vS t), some (.ref a), some (.ref b), some (.ref r), v5, v6, v7, v8, v9, v10, none, none, none, none] ∧ Same H H' ∧ Tups H8 H' ∧ H' z = some (.lst (qs.map fun p => V.ref p.1)) ∧ KA C H' a dxa ls lr us ds ∧ KA C H' b dxb ms mr (us.take (i + 1)) (ds.take i) ∧ RA H' r us ds)
          ⟨_, _, rfl, sm7.trans s8, fun _ _ e => e, ez, ka7.same s8, by rw [tk1, List.take_zero]; exact kb7.same s8, ra7.same s8⟩ ?_ ?_ ?_
        · rintro i σ H9 _ ⟨_, _, _, _, _, e, _⟩
          exact SqL.of e
        · rintro i x σ H9 H10 hi ⟨v8, v10, rfl, sm9, t9, ez9, ka9, kb9, ra9⟩ ⟨rfl, u, hu, rfl⟩
          have e5 := t9 _ _ (s8 _ _ (g5 u (List.mem_cons_of_mem _ (List.mem_of_getElem? hu))))
          have hid : i < ds.length := by omega
          have hpd : ∃ qd, pd[i]? = some qd ∧ u.2.2 = .ref qd.1 ∧ ds[i]? = some qd.2 := by
            have hl : i < pd.length := by have := congrArg List.length d2; simp at this; omega
            refine ⟨_, List.getElem?_eq_getElem hl, ?_, ?_⟩
            · have e1 : (qs.map (fun p : Addr × L × V => p.2.2))[i]? = some u.2.2 := by rw [List.getElem?_map, hu]; rfl
              rw [g31, d1, List.getElem?_map, List.getElem?_eq_getElem hl] at e1
              exact (Option.some.inj e1).symm
            · rw [d2, List.getElem?_map, List.getElem?_eq_getElem hl]
              rfl
          obtain ⟨qd, hq1, hq2, hq3⟩ := hpd
          have epd := t9 _ _ (s8 _ _ (d3 qd (List.mem_of_getElem? hq1)))
          have hu1 : ∃ uu, us[i]? = some uu := ⟨_, List.getElem?_eq_getElem (by omega)⟩
          have hu2 : ∃ vv, us[i + 1]? = some vv := ⟨_, List.getElem?_eq_getElem (by omega)⟩
          obtain ⟨uu, hu1⟩ := hu1
          obtain ⟨vv, hu2⟩ := hu2
          have stp := ch.2.2.2 i uu vv qd.2 hu1 hu2 hq3
          have guu := ch.2.2.1 uu (List.mem_of_getElem? hu1)
          have lguu := guu.2.1
          refine ⟨u.1, _, rfl, SqT.of e5, rfl, _, _, rfl, _, _, rfl, rfl, ?_⟩
          have hne : ds ≠ ds.take i := fun e => by
            have := congrArg List.length e
            rw [List.length_take] at this
            omega
          refine ⟨_, rfl, _, rfl, a, dxa, _, rfl, ka9.1, .inr ⟨b, dxb, _, rfl, kb9.1⟩, a, .ref b, rfl, .inr ⟨b, dxa, ls, lr, dxb, ms, mr, t, t, us, _, ds, _, rfl, ka9, kb9, ch.2.1, tkh i, smt, smt, fun H11 s11 => ⟨_, rfl, _, rfl, ite2 (fun zz => absurd (of_decide_eq_true zz).2 hne) (fun _ => ?_)⟩⟩⟩
          have kb11 : KA C H11 b dxb ms mr (us.take i ++ [uu]) (ds.take i) := by
            have e : us.take (i + 1) = us.take i ++ [uu] := by rw [List.take_add_one, hu1]; rfl
            rw [← e]
            exact kb9.same s11
          have ka11 := ka9.same s11
          have ra11 := ra9.same s11
          rw [hq2]
          refine ⟨_, rfl, _, rfl, b, dxb, ms, mr, qd.1, us.take i, ds.take i, uu, qd.2.raw, rfl, kb11, by rw [List.length_take, List.length_take]; omega, by omega, by rw [List.length_take]; omega, by rw [De.raw_vs]; exact s11 _ _ epd, De.raw_ok _ _ _, ?_⟩
          rw [stp (ds.take i)]
          intro H12 k12 b12 t12
          have e1 : us.take (i + 1 + 1) = us.take i ++ [uu] ++ [vv] := by rw [List.take_add_one, hu2, List.take_add_one, hu1]; rfl
          have e2 : ds.take (i + 1) = ds.take i ++ [qd.2] := by rw [List.take_add_one, hq3]; rfl
          refine ⟨_, _, rfl, Same.bts (sm9.trans s11) b12 (fun x hx => by
            rcases List.mem_cons.mp hx with e | e
            · rw [e]; exact f0ms
            · rw [List.mem_singleton.mp e]; exact f0mr), fun x xs e => t12 _ _ (s11 _ _ (t9 _ _ e)), b12 _ _ (by simp; exact ⟨nzms.symm, nzmr.symm⟩) (s11 _ _ ez9), ka11.keep b12 t12 (by simp; exact ⟨nams, namr⟩) (by simp; exact ⟨nmsls.symm, nmrls.symm⟩) (by simp; exact ⟨nmslr.symm, nmrlr.symm⟩), by rw [e1, e2]; exact k12, ra11.keep b12 t12 (by simp; exact ⟨nrms.symm, nrmr.symm⟩)⟩
        · rintro σ H9 ⟨v8, v10, rfl, sm9, t9, ez9, ka9, kb9, ra9⟩
          rw [List.take_of_length_le (by omega), List.take_of_length_le (by omega)] at kb9
          exact ⟨_, _, rfl, sm9, ka9, kb9, ra9⟩
      rintro σ2 H9 ⟨v8', v10, rfl, sm9, ka9, kb9, ra9⟩
      refine ⟨fun σ' H' => σ' = [some (.ref a0), some (vS t), some (.ref a), some (.ref b), some (.ref r), v5, v6, v7, v8', v9, v10, none, none, none, none] ∧ Same H H' ∧ KA C H' a dxa ls lr us ds ∧ RA H' r us ds, ?_, ?_⟩
      · obtain ⟨ts, l, rfl, gd⟩ := ch.split
        have ltd : ts.length = ds.length := by rw [List.length_append] at lu; simpa using lu
        have l24 := gd.2.1
        refine ⟨_, rfl, _, rfl, a, dxa, _, rfl, ka9.1, .inr ⟨b, dxb, _, rfl, kb9.1⟩, a, .ref b, rfl, .inr ⟨b, dxa, ls, lr, dxb, ms, mr, t, t, _, _, ds, ds, rfl, ka9, kb9, ch.2.1, ch.2.1, smt, smt, fun H10 s10 => ⟨_, rfl, _, rfl, ?_⟩⟩⟩
        refine ite2 (fun zz => absurd zz (by simp)) (fun _ => ?_)
        obtain ⟨xs, p, y, hr1, hr2, hp⟩ := ra9.last
        have ka10 := ka9.same s10
        have ra10 := ra9.same s10
        refine ⟨_, rfl, _, rfl, 1, rfl, r, xs, -1, .ref p, rfl, rfl, SqL.of (s10 _ _ hr1), hr2, p, _, 0, vS l, rfl, rfl, SqT.of (s10 _ _ hp), rfl, ?_⟩
        refine ⟨a, dxa, _, rfl, ka10.1, .inl ⟨_, rfl⟩, a, vS l, rfl, .inl ⟨_, rfl, _, rfl, _, rfl, ?_⟩⟩
        refine iteF ?_
        refine ⟨_, rfl, _, rfl, a, dxa, ls, lr, r, ts, ds, l, t, rfl, ka10, ra10, by omega, by omega, by omega, ch.2.1, gd.2.2.2.symm, fun H11 s11 => ?_⟩
        refine ⟨_, rfl, iteF ?_⟩
        exact ⟨rfl, sm9.trans (s10.trans s11), ka10.same s11, ra10.same s11⟩
      rintro σ3 H10 ⟨rfl, sm10, ka10, ra10⟩
      refine ⟨fun σ' H' => ∃ v11 : Option V, σ' = [some (.ref a0), some (vS t), some (.ref a), some (.ref b), some (.ref r), v5, v6, v7, v8', v9, v10, v11, none, none, none] ∧ Same H H' ∧ KA C H' a dxa ls lr [t] [] ∧ RA H' r us ds, ?_, ?_⟩
      · -- all taken back
        obtain ⟨ps, dv, g1, g2, g3, g4, g5⟩ := id ra10
        obtain ⟨p0, qs, rfl⟩ : ∃ p0 qs, ps = p0 :: qs := by
          cases ps with
          | nil => cases g3
          | cons x y => exact ⟨x, y, rfl⟩
        have lq : qs.length = ds.length := by
          have e1 := congrArg List.length g3
          have e2 := g4.len
          simp at e1
          omega
        refine ⟨_, rfl, 1, rfl, r, _, rfl, SqL.of g1, fun z hz => ?_⟩
        rw [show cutV (List.map (fun p : Addr × L × V => V.ref p.1) (p0 :: qs)) (some 1) none = qs.map (fun p => V.ref p.1) from cutV_tail _ _]
        have s8 := Same.upd (o := .lst (qs.map fun p => V.ref p.1)) hz
        obtain ⟨k71, k72, ⟨w7, k73, _⟩, _⟩ := id ka10
        have nzls := ne_of_none k72 hz
        have nzlr := ne_of_none k73 hz
        refine ⟨z, rfl, ⟨_, SqL.of upd_same⟩, ?_⟩
        have ez : (upd H10 z (.lst (qs.map fun p => V.ref p.1))) z = some (.lst (qs.map fun p => V.ref p.1)) := upd_same
        generalize upd H10 z (.lst (qs.map fun p => V.ref p.1)) = H11 at *
        refine for_it (wk_list (K := K) (fun p : Addr × L × V => V.ref p.1) qs) (fun i σ' H' => ∃ v11 : Option V, σ' = [some (.ref a0), some (vS t), some (.ref a), some (.ref b), some (.ref r), v5, v6, v7, v8', v9, v10, v11, none, none, none] ∧ Same H H' ∧ H' z = some (.lst (qs.map fun p => V.ref p.1)) ∧ KA C H' a dxa ls lr (us.take (ds.length - i + 1)) (ds.take (ds.length - i)) ∧ RA H' r us ds)
          ⟨none, rfl, sm10.trans s8, ez, by rw [Nat.sub_zero, List.take_of_length_le (by omega), List.take_of_length_le (by omega)]; exact ka10.same s8, ra10.same s8⟩ ?_ ?_ ?_
        · rintro i σ H12 _ ⟨_, _, _, e, _⟩
          exact SqL.of e
        · rintro i x σ H12 H13 hi ⟨v11, rfl, sm12, ez12, ka12, ra12⟩ ⟨rfl, u, hu, rfl⟩
          have hid : i < ds.length := by omega
          refine ⟨_, rfl, a, dxa, _, rfl, ka12.1, rfl, a, dxa, ls, lr, _, _, rfl, ka12, by rw [List.length_take, List.length_take]; omega, fun _ H14 k14 b14 t14 => ?_, fun hd => ?_⟩
          · have e1 : (us.take (ds.length - i + 1)).dropLast = us.take (ds.length - (i + 1) + 1) := by
              rw [List.dropLast_eq_take, List.length_take, List.take_take]
              congr 1
              omega
            have e2 : (ds.take (ds.length - i)).dropLast = ds.take (ds.length - (i + 1)) := by
              rw [List.dropLast_eq_take, List.length_take, List.take_take]
              congr 1
              omega
            rw [e1, e2] at k14
            exact ⟨_, rfl, Same.bts sm12 b14 (fun x hx => by
              rcases List.mem_cons.mp hx with e | e
              · rw [e]; exact f0ls
              · rw [List.mem_singleton.mp e]; exact f0lr), b14 _ _ (by simp; exact ⟨nzls.symm, nzlr.symm⟩) ez12, k14, ra12.keep b14 t14 (by simp; exact ⟨nrls.symm, nrlr.symm⟩)⟩
          · have := congrArg List.length hd
            rw [List.length_take] at this
            simp at this
            omega
        · rintro σ H12 ⟨v11, rfl, sm12, ez12, ka12, ra12⟩
          rw [lq, Nat.sub_self, List.take_zero, tk1] at ka12
          exact ⟨_, rfl, sm12, ka12, ra12⟩
      rintro σ4 H11 ⟨v11, rfl, sm11, ka11, ra11⟩
      refine ⟨fun σ' H' => σ' = [some (.ref a0), some (vS t), some (.ref a), some (.ref b), some (.ref r), v5, v6, v7, v8', v9, v10, v11, none, none, none], ?_, ?_⟩
      · refine ⟨_, rfl, _, rfl, fun x dx hx hdx hnx => ?_⟩
        refine ⟨x, dx, vS t, _, rfl, upd_same, .str t, fun l e => by rw [← vS_inj.mp e]; omega, fun l e _ H12 ls' lr' k12 b12 _ _ _ => ⟨rfl, ?_⟩, fun hno => absurd (hno t rfl) (by rw [ist]; decide)⟩
        obtain rfl := vS_inj.mp e
        have s12 : Same H11 H12 := Bts.fresh hx hdx b12
        have ka12 := ka11.same s12
        refine ⟨a, dxa, _, rfl, ka12.1, .inr ⟨x, dx, _, rfl, k12.1⟩, a, .ref x, rfl, .inr ⟨x, dxa, ls, lr, dx, ls', lr', t, t, _, _, [], [], rfl, ka12, k12, rfl, rfl, smt, smt, fun H13 s13 => ⟨_, rfl, _, rfl, ?_⟩⟩⟩
        refine ite2 (fun zz => absurd zz (by simp)) (fun _ => ?_)
        have ka13 := ka12.same s13
        refine ⟨_, rfl, (by show 1 ≤ sizeLine; decide), fun pb hpb => ?_⟩
        have s14 := Same.upd (o := .tup [.str "back"]) hpb
        refine ⟨a, dxa, ls, lr, pb, [], [], t, .back, rfl, ka13.same s14, rfl, by omega, by decide, upd_same, trivial, ?_⟩
        intro H15 s15
        refine ⟨[78, 111, 116, 104, 105, 110, 103, 76, 101, 102, 116], [78, 111, 116, 104, 105, 110, 103, 76, 101, 102, 116], rfl, rfl, _, rfl, ?_⟩
        refine ite2 (fun zz => absurd zz (by simp)) (fun _ => ?_)
        have s16 := s12.trans (s13.trans (s14.trans s15))
        have ka16 := ka11.same s16
        have ra16 := ra11.same s16
        obtain ⟨ps, dv, g1, g2, g3, g4, g5⟩ := id ra16
        obtain ⟨p0, qs, rfl⟩ : ∃ p0 qs, ps = p0 :: qs := by
          cases ps with
          | nil => cases g3
          | cons x y => exact ⟨x, y, rfl⟩
        refine ⟨_, rfl, _, rfl, 1, rfl, r, _, rfl, SqL.of g1, fun z3 hz3 => ?_⟩
        rw [show cutV (List.map (fun p : Addr × L × V => V.ref p.1) (p0 :: qs)) none (some 1) = [V.ref p0.1] from cutV_to (fun p : Addr × L × V => V.ref p.1) (p0 :: qs) 1]
        have s17 := Same.upd (o := .lst [V.ref p0.1]) hz3
        have ep0 : p0.2.1 = t := by
          obtain ⟨ur, e⟩ := hus
          rw [e, List.map_cons] at g2
          injection g2
        have ep1 : p0.2.2 = V.non := by
          rw [List.map_cons] at g3
          injection g3
        have ra17 : RA (upd H15 z3 (.lst [V.ref p0.1])) z3 ([] ++ [t]) [] := ⟨[p0], [], upd_same, by rw [← ep0]; rfl, by rw [← ep1]; rfl, DsAt.nil, fun p hp => by
          rw [List.mem_singleton.mp hp]
          exact s17 _ _ (g5 p0 (by simp))⟩
        refine ⟨a, dxa, ls, lr, z3, [], [], t, t, rfl, ka16.same s17, ra17, by omega, by omega, by decide, rfl, rfl, fun H18 s18 => ?_⟩
        exact ⟨_, rfl, iteF rfl⟩
      rintro σ5 H12 rfl
      -- things that are no strips
      refine ⟨(by show 0 ≤ sizeLine; decide), fun kp hkp => ?_⟩
      have ek : (upd H12 kp (.lst [])) kp = some (.lst []) := upd_same
      generalize upd H12 kp (.lst []) = H13 at *
      refine ⟨[97], 25, rfl, rfl, by decide, by decide, by decide, ?_⟩
      refine ⟨(by show 1 ≤ sizeLine; decide), fun g hg => ⟨(by show 5 ≤ sizeLine; decide), fun tq htq => ?_⟩⟩
      have s14 := Same.upd (o := .tup [.str "a"]) hg
      have s15 := Same.upd (o := .tup [.str "", .str "e", vS (List.replicate 25 [97]).flatten, .non, .ref g]) htq
      have eg : (upd (upd H13 g (.tup [.str "a"])) tq (.tup [.str "", .str "e", vS (List.replicate 25 [97]).flatten, .non, .ref g])) g = some (.tup [.str "a"]) := s15 _ _ upd_same
      have etq : (upd (upd H13 g (.tup [.str "a"])) tq (.tup [.str "", .str "e", vS (List.replicate 25 [97]).flatten, .non, .ref g])) tq = some (.tup [.str "", .str "e", vS (List.replicate 25 [97]).flatten, .non, .ref g]) := upd_same
      have ek14 := (s14.trans s15) _ _ ek
      refine ⟨tq, rfl, ⟨_, SqT.of upd_same⟩, ?_⟩
      generalize upd (upd H13 g (.tup [.str "a"])) tq (.tup [.str "", .str "e", vS (List.replicate 25 [97]).flatten, .non, .ref g]) = H14 at *
      have htg : ∀ x ∈ [V.str "", .str "e", vS (List.replicate 25 [97]).flatten, .non, .ref g], ∀ G : Hp, G g = some (.tup [.str "a"]) → (∃ n, Tg G x n) ∧ ∀ l, x = vS l → l.length ≤ 1000 ∧ isStrip l = false := by
        intro x hx G hG
        simp only [List.mem_cons, List.not_mem_nil, or_false] at hx
        rcases hx with rfl | rfl | rfl | rfl | rfl
        · exact ⟨⟨_, .str []⟩, fun l e => by
            have : [] = l := vS_inj.mp e
            subst this
            exact ⟨by decide, by decide⟩⟩
        · exact ⟨⟨_, .str [101]⟩, fun l e => by
            have : [101] = l := vS_inj.mp e
            subst this
            exact ⟨by decide, by decide⟩⟩
        · exact ⟨⟨_, .str _⟩, fun l e => by
            have := vS_inj.mp e
            subst this
            exact ⟨by decide, by decide⟩⟩
        · exact ⟨⟨_, .non⟩, fun l e => by cases e⟩
        · exact ⟨⟨_, .tup hG⟩, fun l e => by cases e⟩
      generalize hth : [V.str "", .str "e", vS (List.replicate 25 [97]).flatten, .non, .ref g] = th at *
      have lth : th.length = 5 := by rw [← hth]; rfl
      have nkg : kp ≠ g := fun z => by rw [z, eg] at ek14; cases ek14
      have nkt : kp ≠ tq := fun z => by rw [z, etq] at ek14; cases ek14
      have mapid : th.map (fun v : V => v) = th := by simp
      refine for_it (wk_tup (K := K) (fun v : V => v) th) (fun i σ' H' => ∃ v13 : Option V, σ' = [some (.ref a0), some (vS t), some (.ref a), some (.ref b), some (.ref r), v5, v6, v7, v8', v9, v10, v11, some (.ref kp), v13, none] ∧ H' tq = some (.tup th) ∧ H' g = some (.tup [.str "a"]) ∧ H' kp = some (.lst (List.replicate i (.str "NoStrip"))))
        ⟨none, rfl, etq, eg, ek14⟩ ?_ ?_ ?_
      · rintro i σ H15 _ ⟨_, _, e, _, _⟩
        rw [mapid]
        exact SqT.of e
      · rintro i x σ H15 H16 hi ⟨v13, rfl, et15, eg15, ek15⟩ ⟨rfl, u, hu, rfl⟩
        obtain ⟨⟨n, tg⟩, hno⟩ := htg x (List.mem_of_getElem? hu) H16 eg15
        refine ⟨_, rfl, .inl ⟨rfl, _, SqL.of ek15⟩, _, rfl, fun x1 dx1 hx1 hdx1 hn1 => ?_⟩
        have sx : Same H16 (upd (upd H16 dx1 (.own x1)) x1 (.ins C dx1 [])) := fun y o e => by rw [upd_ne (ne_of_none e hx1), upd_ne (ne_of_none e hdx1)]; exact e
        refine ⟨x1, dx1, x, n, rfl, upd_same, tg.same sx, fun l e => (hno l e).1, fun l e hs => absurd (hno l e).2 (by rw [hs]; decide), fun _ D H17 gD s17 => ?_⟩
        have sxx := sx.trans s17
        refine ⟨true, PySem.W.exm_ref bF eF.hd tF (sub_of_kit tF sF iF (six_fold T (i := 4) (x := "NoStrip") rfl gD gF)), fun _ ae hae => ?_, fun z => nomatch z⟩
        refine ⟨_, rfl, .inl ⟨rfl, _, SqL.of (sxx _ _ ek15)⟩, rfl, 4, "NoStrip", _, D, rfl, gD, rfl, rfl, fun H18 s18 => ?_⟩
        have s20 := sxx.trans s18
        refine ⟨kp, _, .str "NoStrip", rfl, rfl, s20 _ _ ek15, small1000 (by rw [List.length_replicate]; omega), ?_⟩
        refine ⟨_, rfl, by rw [upd_ne nkt.symm]; exact s20 _ _ et15, by rw [upd_ne nkg.symm]; exact s20 _ _ eg15, by rw [upd_same, List.replicate_succ']⟩
      · rintro σ H15 ⟨v13, rfl, et15, eg15, ek15⟩
        rw [lth] at ek15
        refine ⟨_, rfl, (by show 1 ≤ sizeLine; decide), fun w1 hw1 => ?_⟩
        have s16 := Same.upd (o := .lst [.str "NoStrip"]) hw1
        refine ⟨w1, 5, [.str "NoStrip"], rfl, rfl, upd_same, by decide, by decide, (by show 1 * 5 ≤ sizeLine; decide), fun w2 hw2 => ?_⟩
        have s17 := Same.upd (o := .lst (List.replicate (5 : Int).toNat [V.str "NoStrip"]).flatten) hw2
        refine ⟨kp, w2, List.replicate 5 [78, 111, 83, 116, 114, 105, 112], List.replicate 5 [78, 111, 83, 116, 114, 105, 112], rfl, rfl, SqL.of (s17 _ _ (s16 _ _ ek15)), SqL.of upd_same, fun l hl => ?_, fun l hl => ?_, ?_⟩
        · rw [List.eq_of_mem_replicate hl]
          show ∀ c ∈ [78, 111, 83, 116, 114, 105, 112], c < 1000
          decide
        · rw [List.eq_of_mem_replicate hl]
          show ∀ c ∈ [78, 111, 83, 116, 114, 105, 112], c < 1000
          decide
        · exact q _
end
end Lk
namespace Lk
open PySem PySem.Spec PyProof.Rows L2
/-! ### what the top has left -/
theorem txt_mk {K : PySem.W.Frag} {h : Heap} {mg : Str → Option Value} (X : K.In h) (G : h.Ns mainGlobals mg)
    (z_all : PySem.W.nsIn K mainGlobals "all" = some none)
    (z_bool : PySem.W.nsIn K mainGlobals "bool" = some none)
    (z_int : PySem.W.nsIn K mainGlobals "int" = some none)
    (z_isinstance : PySem.W.nsIn K mainGlobals "isinstance" = some none)
    (z_len : PySem.W.nsIn K mainGlobals "len" = some none)
    (z_list : PySem.W.nsIn K mainGlobals "list" = some none)
    (z_max : PySem.W.nsIn K mainGlobals "max" = some none)
    (z_min : PySem.W.nsIn K mainGlobals "min" = some none)
    (z_range : PySem.W.nsIn K mainGlobals "range" = some none)
    (z_str : PySem.W.nsIn K mainGlobals "str" = some none)
    (z_zip : PySem.W.nsIn K mainGlobals "zip" = some none)
    {t_MOST : Tok} (z_MOST : PySem.W.nsIn K mainGlobals "MOST" = some (some (.int 24 t_MOST)))
    {t_SIGNS : Tok} (z_SIGNS : PySem.W.nsIn K mainGlobals "SIGNS" = some (some (.str "abcd" t_SIGNS)))
    {f11 : Addr} {od_f11 an_f11 : Option Addr} {sl_f11 : Array (Option Value)} {oc_f11 kV_f11 dc_f11 pm_f11 cd_f11 ct_f11 : Value} (a_f11 : PySem.W.nsIn K mainGlobals "is_from" = some (some (.ref f11))) (l_f11 : K.lookup f11 = some ⟨oc_f11, od_f11, .func (PySem.W.fnOf "is_from" "is_from" (defArgs s_is_from) (defBody s_is_from) (defScope s_is_from) .none kV_f11 dc_f11 pm_f11 an_f11 cd_f11 ct_f11), sl_f11⟩) (c_f11 : PySem.W.codeIn K cd_f11 "is_from" = true) (k_f11 : PySem.W.keepIn K (.ref f11) = true)
    {f12 : Addr} {od_f12 an_f12 : Option Addr} {sl_f12 : Array (Option Value)} {oc_f12 kV_f12 dc_f12 pm_f12 cd_f12 ct_f12 : Value} (a_f12 : PySem.W.nsIn K mainGlobals "is_strip" = some (some (.ref f12))) (l_f12 : K.lookup f12 = some ⟨oc_f12, od_f12, .func (PySem.W.fnOf "is_strip" "is_strip" (defArgs s_is_strip) (defBody s_is_strip) (defScope s_is_strip) .none kV_f12 dc_f12 pm_f12 an_f12 cd_f12 ct_f12), sl_f12⟩) (c_f12 : PySem.W.codeIn K cd_f12 "is_strip" = true) (k_f12 : PySem.W.keepIn K (.ref f12) = true)
    {f13 : Addr} {od_f13 an_f13 : Option Addr} {sl_f13 : Array (Option Value)} {oc_f13 kV_f13 dc_f13 pm_f13 cd_f13 ct_f13 : Value} (a_f13 : PySem.W.nsIn K mainGlobals "lies_well" = some (some (.ref f13))) (l_f13 : K.lookup f13 = some ⟨oc_f13, od_f13, .func (PySem.W.fnOf "lies_well" "lies_well" (defArgs s_lies_well) (defBody s_lies_well) (defScope s_lies_well) .none kV_f13 dc_f13 pm_f13 an_f13 cd_f13 ct_f13), sl_f13⟩) (c_f13 : PySem.W.codeIn K cd_f13 "lies_well" = true) (k_f13 : PySem.W.keepIn K (.ref f13) = true)
    {f14 : Addr} {od_f14 an_f14 : Option Addr} {sl_f14 : Array (Option Value)} {oc_f14 kV_f14 dc_f14 pm_f14 cd_f14 ct_f14 : Value} (a_f14 : PySem.W.nsIn K mainGlobals "creases" = some (some (.ref f14))) (l_f14 : K.lookup f14 = some ⟨oc_f14, od_f14, .func (PySem.W.fnOf "creases" "creases" (defArgs s_creases) (defBody s_creases) (defScope s_creases) .none kV_f14 dc_f14 pm_f14 an_f14 cd_f14 ct_f14), sl_f14⟩) (c_f14 : PySem.W.codeIn K cd_f14 "creases" = true) (k_f14 : PySem.W.keepIn K (.ref f14) = true)
    {f15 : Addr} {od_f15 an_f15 : Option Addr} {sl_f15 : Array (Option Value)} {oc_f15 kV_f15 dc_f15 pm_f15 cd_f15 ct_f15 : Value} (a_f15 : PySem.W.nsIn K mainGlobals "is_crease" = some (some (.ref f15))) (l_f15 : K.lookup f15 = some ⟨oc_f15, od_f15, .func (PySem.W.fnOf "is_crease" "is_crease" (defArgs s_is_crease) (defBody s_is_crease) (defScope s_is_crease) .none kV_f15 dc_f15 pm_f15 an_f15 cd_f15 ct_f15), sl_f15⟩) (c_f15 : PySem.W.codeIn K cd_f15 "is_crease" = true) (k_f15 : PySem.W.keepIn K (.ref f15) = true)
    {f16 : Addr} {od_f16 an_f16 : Option Addr} {sl_f16 : Array (Option Value)} {oc_f16 kV_f16 dc_f16 pm_f16 cd_f16 ct_f16 : Value} (a_f16 : PySem.W.nsIn K mainGlobals "left_of" = some (some (.ref f16))) (l_f16 : K.lookup f16 = some ⟨oc_f16, od_f16, .func (PySem.W.fnOf "left_of" "left_of" (defArgs s_left_of) (defBody s_left_of) (defScope s_left_of) .none kV_f16 dc_f16 pm_f16 an_f16 cd_f16 ct_f16), sl_f16⟩) (c_f16 : PySem.W.codeIn K cd_f16 "left_of" = true) (k_f16 : PySem.W.keepIn K (.ref f16) = true)
    {f18 : Addr} {od_f18 an_f18 : Option Addr} {sl_f18 : Array (Option Value)} {oc_f18 kV_f18 dc_f18 pm_f18 cd_f18 ct_f18 : Value} (a_f18 : PySem.W.nsIn K mainGlobals "least" = some (some (.ref f18))) (l_f18 : K.lookup f18 = some ⟨oc_f18, od_f18, .func (PySem.W.fnOf "least" "least" (defArgs s_least) (defBody s_least) (defScope s_least) .none kV_f18 dc_f18 pm_f18 an_f18 cd_f18 ct_f18), sl_f18⟩) (c_f18 : PySem.W.codeIn K cd_f18 "least" = true) (k_f18 : PySem.W.keepIn K (.ref f18) = true)
    {f20 : Addr} {od_f20 an_f20 : Option Addr} {sl_f20 : Array (Option Value)} {oc_f20 kV_f20 dc_f20 pm_f20 cd_f20 ct_f20 : Value} (a_f20 : PySem.W.nsIn K mainGlobals "are_kin" = some (some (.ref f20))) (l_f20 : K.lookup f20 = some ⟨oc_f20, od_f20, .func (PySem.W.fnOf "are_kin" "are_kin" (defArgs s_are_kin) (defBody s_are_kin) (defScope s_are_kin) .none kV_f20 dc_f20 pm_f20 an_f20 cd_f20 ct_f20), sl_f20⟩) (c_f20 : PySem.W.codeIn K cd_f20 "are_kin" = true) (k_f20 : PySem.W.keepIn K (.ref f20) = true)
    {f22 : Addr} {od_f22 an_f22 : Option Addr} {sl_f22 : Array (Option Value)} {oc_f22 kV_f22 dc_f22 pm_f22 cd_f22 ct_f22 : Value} (a_f22 : PySem.W.nsIn K mainGlobals "unfolded" = some (some (.ref f22))) (l_f22 : K.lookup f22 = some ⟨oc_f22, od_f22, .func (PySem.W.fnOf "unfolded" "unfolded" (defArgs s_unfolded) (defBody s_unfolded) (defScope s_unfolded) .none kV_f22 dc_f22 pm_f22 an_f22 cd_f22 ct_f22), sl_f22⟩) (c_f22 : PySem.W.codeIn K cd_f22 "unfolded" = true) (k_f22 : PySem.W.keepIn K (.ref f22) = true)
    {f26 : Addr} {od_f26 an_f26 : Option Addr} {sl_f26 : Array (Option Value)} {oc_f26 kV_f26 dc_f26 pm_f26 cd_f26 ct_f26 : Value} (a_f26 : PySem.W.nsIn K mainGlobals "_law_bag" = some (some (.ref f26))) (l_f26 : K.lookup f26 = some ⟨oc_f26, od_f26, .func (PySem.W.fnOf "_law_bag" "_law_bag" (defArgs s__law_bag) (defBody s__law_bag) (defScope s__law_bag) .none kV_f26 dc_f26 pm_f26 an_f26 cd_f26 ct_f26), sl_f26⟩) (c_f26 : PySem.W.codeIn K cd_f26 "_law_bag" = true) (k_f26 : PySem.W.keepIn K (.ref f26) = true)
    {f27 : Addr} {od_f27 an_f27 : Option Addr} {sl_f27 : Array (Option Value)} {oc_f27 kV_f27 dc_f27 pm_f27 cd_f27 ct_f27 : Value} (a_f27 : PySem.W.nsIn K mainGlobals "_law_take" = some (some (.ref f27))) (l_f27 : K.lookup f27 = some ⟨oc_f27, od_f27, .func (PySem.W.fnOf "_law_take" "_law_take" (defArgs s__law_take) (defBody s__law_take) (defScope s__law_take) .none kV_f27 dc_f27 pm_f27 an_f27 cd_f27 ct_f27), sl_f27⟩) (c_f27 : PySem.W.codeIn K cd_f27 "_law_take" = true) (k_f27 : PySem.W.keepIn K (.ref f27) = true)
    {f28 : Addr} {od_f28 an_f28 : Option Addr} {sl_f28 : Array (Option Value)} {oc_f28 kV_f28 dc_f28 pm_f28 cd_f28 ct_f28 : Value} (a_f28 : PySem.W.nsIn K mainGlobals "_law_of" = some (some (.ref f28))) (l_f28 : K.lookup f28 = some ⟨oc_f28, od_f28, .func (PySem.W.fnOf "_law_of" "_law_of" (defArgs s__law_of) (defBody s__law_of) (defScope s__law_of) .none kV_f28 dc_f28 pm_f28 an_f28 cd_f28 ct_f28), sl_f28⟩) (c_f28 : PySem.W.codeIn K cd_f28 "_law_of" = true) (k_f28 : PySem.W.keepIn K (.ref f28) = true)
    {f29 : Addr} {od_f29 an_f29 : Option Addr} {sl_f29 : Array (Option Value)} {oc_f29 kV_f29 dc_f29 pm_f29 cd_f29 ct_f29 : Value} (a_f29 : PySem.W.nsIn K mainGlobals "_law_any_text" = some (some (.ref f29))) (l_f29 : K.lookup f29 = some ⟨oc_f29, od_f29, .func (PySem.W.fnOf "_law_any_text" "_law_any_text" (defArgs s__law_any_text) (defBody s__law_any_text) (defScope s__law_any_text) .none kV_f29 dc_f29 pm_f29 an_f29 cd_f29 ct_f29), sl_f29⟩) (c_f29 : PySem.W.codeIn K cd_f29 "_law_any_text" = true) (k_f29 : PySem.W.keepIn K (.ref f29) = true)
    {f30 : Addr} {od_f30 an_f30 : Option Addr} {sl_f30 : Array (Option Value)} {oc_f30 kV_f30 dc_f30 pm_f30 cd_f30 ct_f30 : Value} (a_f30 : PySem.W.nsIn K mainGlobals "_law_grown" = some (some (.ref f30))) (l_f30 : K.lookup f30 = some ⟨oc_f30, od_f30, .func (PySem.W.fnOf "_law_grown" "_law_grown" (defArgs s__law_grown) (defBody s__law_grown) (defScope s__law_grown) .none kV_f30 dc_f30 pm_f30 an_f30 cd_f30 ct_f30), sl_f30⟩) (c_f30 : PySem.W.codeIn K cd_f30 "_law_grown" = true) (k_f30 : PySem.W.keepIn K (.ref f30) = true)
    {f31 : Addr} {od_f31 an_f31 : Option Addr} {sl_f31 : Array (Option Value)} {oc_f31 kV_f31 dc_f31 pm_f31 cd_f31 ct_f31 : Value} (a_f31 : PySem.W.nsIn K mainGlobals "_law_strip" = some (some (.ref f31))) (l_f31 : K.lookup f31 = some ⟨oc_f31, od_f31, .func (PySem.W.fnOf "_law_strip" "_law_strip" (defArgs s__law_strip) (defBody s__law_strip) (defScope s__law_strip) .none kV_f31 dc_f31 pm_f31 an_f31 cd_f31 ct_f31), sl_f31⟩) (c_f31 : PySem.W.codeIn K cd_f31 "_law_strip" = true) (k_f31 : PySem.W.keepIn K (.ref f31) = true)
    {f32 : Addr} {od_f32 an_f32 : Option Addr} {sl_f32 : Array (Option Value)} {oc_f32 kV_f32 dc_f32 pm_f32 cd_f32 ct_f32 : Value} (a_f32 : PySem.W.nsIn K mainGlobals "_law_lies" = some (some (.ref f32))) (l_f32 : K.lookup f32 = some ⟨oc_f32, od_f32, .func (PySem.W.fnOf "_law_lies" "_law_lies" (defArgs s__law_lies) (defBody s__law_lies) (defScope s__law_lies) .none kV_f32 dc_f32 pm_f32 an_f32 cd_f32 ct_f32), sl_f32⟩) (c_f32 : PySem.W.codeIn K cd_f32 "_law_lies" = true) (k_f32 : PySem.W.keepIn K (.ref f32) = true)
    {f33 : Addr} {od_f33 an_f33 : Option Addr} {sl_f33 : Array (Option Value)} {oc_f33 kV_f33 dc_f33 pm_f33 cd_f33 ct_f33 : Value} (a_f33 : PySem.W.nsIn K mainGlobals "_law_creases" = some (some (.ref f33))) (l_f33 : K.lookup f33 = some ⟨oc_f33, od_f33, .func (PySem.W.fnOf "_law_creases" "_law_creases" (defArgs s__law_creases) (defBody s__law_creases) (defScope s__law_creases) .none kV_f33 dc_f33 pm_f33 an_f33 cd_f33 ct_f33), sl_f33⟩) (c_f33 : PySem.W.codeIn K cd_f33 "_law_creases" = true) (k_f33 : PySem.W.keepIn K (.ref f33) = true)
    {f34 : Addr} {od_f34 an_f34 : Option Addr} {sl_f34 : Array (Option Value)} {oc_f34 kV_f34 dc_f34 pm_f34 cd_f34 ct_f34 : Value} (a_f34 : PySem.W.nsIn K mainGlobals "_law_left" = some (some (.ref f34))) (l_f34 : K.lookup f34 = some ⟨oc_f34, od_f34, .func (PySem.W.fnOf "_law_left" "_law_left" (defArgs s__law_left) (defBody s__law_left) (defScope s__law_left) .none kV_f34 dc_f34 pm_f34 an_f34 cd_f34 ct_f34), sl_f34⟩) (c_f34 : PySem.W.codeIn K cd_f34 "_law_left" = true) (k_f34 : PySem.W.keepIn K (.ref f34) = true)
    {f35 : Addr} {od_f35 an_f35 : Option Addr} {sl_f35 : Array (Option Value)} {oc_f35 kV_f35 dc_f35 pm_f35 cd_f35 ct_f35 : Value} (a_f35 : PySem.W.nsIn K mainGlobals "_law_kind" = some (some (.ref f35))) (l_f35 : K.lookup f35 = some ⟨oc_f35, od_f35, .func (PySem.W.fnOf "_law_kind" "_law_kind" (defArgs s__law_kind) (defBody s__law_kind) (defScope s__law_kind) .none kV_f35 dc_f35 pm_f35 an_f35 cd_f35 ct_f35), sl_f35⟩) (c_f35 : PySem.W.codeIn K cd_f35 "_law_kind" = true) (k_f35 : PySem.W.keepIn K (.ref f35) = true)
    {f36 : Addr} {od_f36 an_f36 : Option Addr} {sl_f36 : Array (Option Value)} {oc_f36 kV_f36 dc_f36 pm_f36 cd_f36 ct_f36 : Value} (a_f36 : PySem.W.nsIn K mainGlobals "_law_did" = some (some (.ref f36))) (l_f36 : K.lookup f36 = some ⟨oc_f36, od_f36, .func (PySem.W.fnOf "_law_did" "_law_did" (defArgs s__law_did) (defBody s__law_did) (defScope s__law_did) .none kV_f36 dc_f36 pm_f36 an_f36 cd_f36 ct_f36), sl_f36⟩) (c_f36 : PySem.W.codeIn K cd_f36 "_law_did" = true) (k_f36 : PySem.W.keepIn K (.ref f36) = true)
    {f37 : Addr} {od_f37 an_f37 : Option Addr} {sl_f37 : Array (Option Value)} {oc_f37 kV_f37 dc_f37 pm_f37 cd_f37 ct_f37 : Value} (a_f37 : PySem.W.nsIn K mainGlobals "_law_is_number" = some (some (.ref f37))) (l_f37 : K.lookup f37 = some ⟨oc_f37, od_f37, .func (PySem.W.fnOf "_law_is_number" "_law_is_number" (defArgs s__law_is_number) (defBody s__law_is_number) (defScope s__law_is_number) .none kV_f37 dc_f37 pm_f37 an_f37 cd_f37 ct_f37), sl_f37⟩) (c_f37 : PySem.W.codeIn K cd_f37 "_law_is_number" = true) (k_f37 : PySem.W.keepIn K (.ref f37) = true)
    {f38 : Addr} {od_f38 an_f38 : Option Addr} {sl_f38 : Array (Option Value)} {oc_f38 kV_f38 dc_f38 pm_f38 cd_f38 ct_f38 : Value} (a_f38 : PySem.W.nsIn K mainGlobals "_law_due" = some (some (.ref f38))) (l_f38 : K.lookup f38 = some ⟨oc_f38, od_f38, .func (PySem.W.fnOf "_law_due" "_law_due" (defArgs s__law_due) (defBody s__law_due) (defScope s__law_due) .none kV_f38 dc_f38 pm_f38 an_f38 cd_f38 ct_f38), sl_f38⟩) (c_f38 : PySem.W.codeIn K cd_f38 "_law_due" = true) (k_f38 : PySem.W.keepIn K (.ref f38) = true)
    {f39 : Addr} {od_f39 an_f39 : Option Addr} {sl_f39 : Array (Option Value)} {oc_f39 kV_f39 dc_f39 pm_f39 cd_f39 ct_f39 : Value} (a_f39 : PySem.W.nsIn K mainGlobals "_law_a_deed" = some (some (.ref f39))) (l_f39 : K.lookup f39 = some ⟨oc_f39, od_f39, .func (PySem.W.fnOf "_law_a_deed" "_law_a_deed" (defArgs s__law_a_deed) (defBody s__law_a_deed) (defScope s__law_a_deed) .none kV_f39 dc_f39 pm_f39 an_f39 cd_f39 ct_f39), sl_f39⟩) (c_f39 : PySem.W.codeIn K cd_f39 "_law_a_deed" = true) (k_f39 : PySem.W.keepIn K (.ref f39) = true)
    {f40 : Addr} {od_f40 an_f40 : Option Addr} {sl_f40 : Array (Option Value)} {oc_f40 kV_f40 dc_f40 pm_f40 cd_f40 ct_f40 : Value} (a_f40 : PySem.W.nsIn K mainGlobals "_law_stands_so" = some (some (.ref f40))) (l_f40 : K.lookup f40 = some ⟨oc_f40, od_f40, .func (PySem.W.fnOf "_law_stands_so" "_law_stands_so" (defArgs s__law_stands_so) (defBody s__law_stands_so) (defScope s__law_stands_so) .none kV_f40 dc_f40 pm_f40 an_f40 cd_f40 ct_f40), sl_f40⟩) (c_f40 : PySem.W.codeIn K cd_f40 "_law_stands_so" = true) (k_f40 : PySem.W.keepIn K (.ref f40) = true)
    {f41 : Addr} {od_f41 an_f41 : Option Addr} {sl_f41 : Array (Option Value)} {oc_f41 kV_f41 dc_f41 pm_f41 cd_f41 ct_f41 : Value} (a_f41 : PySem.W.nsIn K mainGlobals "law" = some (some (.ref f41))) (l_f41 : K.lookup f41 = some ⟨oc_f41, od_f41, .func (PySem.W.fnOf "law" "law" (defArgs s_law) (defBody s_law) (defScope s_law) .none kV_f41 dc_f41 pm_f41 an_f41 cd_f41 ct_f41), sl_f41⟩) (c_f41 : PySem.W.codeIn K cd_f41 "law" = true) (k_f41 : PySem.W.keepIn K (.ref f41) = true)
    {C_FoldError : Addr} (z_C_FoldError : PySem.W.nsIn K mainGlobals "FoldError" = some (some (.ref C_FoldError)))
    (k_C_FoldError : PySem.W.keepIn K (.ref C_FoldError) = true)
    (b_C_FoldError : PySem.W.subIn K (.ref C_FoldError) (.type "BaseException") = some true)
    (t_C_FoldError : PySem.W.typeIn K (.ref C_FoldError) = some (.type "type"))
    (i_C_FoldError : PySem.W.isClsIn K C_FoldError = true)
    (s_C_FoldError : PySem.W.subIn K (.ref C_FoldError) (.ref C_FoldError) = some true)
    (eg_C_FoldError : PySem.W.findIn K (.ref C_FoldError) "__getattribute__" = some (some (.builtin "BaseException.__getattribute__")))
    (ek_C_FoldError : PySem.W.findIn K (.ref C_FoldError) "__getattr__" = some none)
    (ed_C_FoldError : PySem.W.hasDictIn K C_FoldError = true)
    (ea_C_FoldError : PySem.W.findIn K (.ref C_FoldError) "__class__" = some (some (.builtin "object.__class__")))
    (em_C_FoldError : PySem.W.mroIn K C_FoldError (.type "object") = some true)
    {C_NoStrip : Addr} (z_C_NoStrip : PySem.W.nsIn K mainGlobals "NoStrip" = some (some (.ref C_NoStrip)))
    (k_C_NoStrip : PySem.W.keepIn K (.ref C_NoStrip) = true)
    (b_C_NoStrip : PySem.W.subIn K (.ref C_NoStrip) (.type "BaseException") = some true)
    (t_C_NoStrip : PySem.W.typeIn K (.ref C_NoStrip) = some (.type "type"))
    (i_C_NoStrip : PySem.W.isClsIn K C_NoStrip = true)
    (s_C_NoStrip : PySem.W.subIn K (.ref C_NoStrip) (.ref C_NoStrip) = some true)
    (eg_C_NoStrip : PySem.W.findIn K (.ref C_NoStrip) "__getattribute__" = some (some (.builtin "BaseException.__getattribute__")))
    (ek_C_NoStrip : PySem.W.findIn K (.ref C_NoStrip) "__getattr__" = some none)
    (ed_C_NoStrip : PySem.W.hasDictIn K C_NoStrip = true)
    (ea_C_NoStrip : PySem.W.findIn K (.ref C_NoStrip) "__class__" = some (some (.builtin "object.__class__")))
    (em_C_NoStrip : PySem.W.mroIn K C_NoStrip (.type "object") = some true)
    {C_NoCrease : Addr} (z_C_NoCrease : PySem.W.nsIn K mainGlobals "NoCrease" = some (some (.ref C_NoCrease)))
    (k_C_NoCrease : PySem.W.keepIn K (.ref C_NoCrease) = true)
    (b_C_NoCrease : PySem.W.subIn K (.ref C_NoCrease) (.type "BaseException") = some true)
    (t_C_NoCrease : PySem.W.typeIn K (.ref C_NoCrease) = some (.type "type"))
    (i_C_NoCrease : PySem.W.isClsIn K C_NoCrease = true)
    (s_C_NoCrease : PySem.W.subIn K (.ref C_NoCrease) (.ref C_NoCrease) = some true)
    (eg_C_NoCrease : PySem.W.findIn K (.ref C_NoCrease) "__getattribute__" = some (some (.builtin "BaseException.__getattribute__")))
    (ek_C_NoCrease : PySem.W.findIn K (.ref C_NoCrease) "__getattr__" = some none)
    (ed_C_NoCrease : PySem.W.hasDictIn K C_NoCrease = true)
    (ea_C_NoCrease : PySem.W.findIn K (.ref C_NoCrease) "__class__" = some (some (.builtin "object.__class__")))
    (em_C_NoCrease : PySem.W.mroIn K C_NoCrease (.type "object") = some true)
    {C_NoEnd : Addr} (z_C_NoEnd : PySem.W.nsIn K mainGlobals "NoEnd" = some (some (.ref C_NoEnd)))
    (k_C_NoEnd : PySem.W.keepIn K (.ref C_NoEnd) = true)
    (b_C_NoEnd : PySem.W.subIn K (.ref C_NoEnd) (.type "BaseException") = some true)
    (t_C_NoEnd : PySem.W.typeIn K (.ref C_NoEnd) = some (.type "type"))
    (i_C_NoEnd : PySem.W.isClsIn K C_NoEnd = true)
    (s_C_NoEnd : PySem.W.subIn K (.ref C_NoEnd) (.ref C_NoEnd) = some true)
    (eg_C_NoEnd : PySem.W.findIn K (.ref C_NoEnd) "__getattribute__" = some (some (.builtin "BaseException.__getattribute__")))
    (ek_C_NoEnd : PySem.W.findIn K (.ref C_NoEnd) "__getattr__" = some none)
    (ed_C_NoEnd : PySem.W.hasDictIn K C_NoEnd = true)
    (ea_C_NoEnd : PySem.W.findIn K (.ref C_NoEnd) "__class__" = some (some (.builtin "object.__class__")))
    (em_C_NoEnd : PySem.W.mroIn K C_NoEnd (.type "object") = some true)
    {C_NoMany : Addr} (z_C_NoMany : PySem.W.nsIn K mainGlobals "NoMany" = some (some (.ref C_NoMany)))
    (k_C_NoMany : PySem.W.keepIn K (.ref C_NoMany) = true)
    (b_C_NoMany : PySem.W.subIn K (.ref C_NoMany) (.type "BaseException") = some true)
    (t_C_NoMany : PySem.W.typeIn K (.ref C_NoMany) = some (.type "type"))
    (i_C_NoMany : PySem.W.isClsIn K C_NoMany = true)
    (s_C_NoMany : PySem.W.subIn K (.ref C_NoMany) (.ref C_NoMany) = some true)
    (eg_C_NoMany : PySem.W.findIn K (.ref C_NoMany) "__getattribute__" = some (some (.builtin "BaseException.__getattribute__")))
    (ek_C_NoMany : PySem.W.findIn K (.ref C_NoMany) "__getattr__" = some none)
    (ed_C_NoMany : PySem.W.hasDictIn K C_NoMany = true)
    (ea_C_NoMany : PySem.W.findIn K (.ref C_NoMany) "__class__" = some (some (.builtin "object.__class__")))
    (em_C_NoMany : PySem.W.mroIn K C_NoMany (.type "object") = some true)
    {C_Long : Addr} (z_C_Long : PySem.W.nsIn K mainGlobals "Long" = some (some (.ref C_Long)))
    (k_C_Long : PySem.W.keepIn K (.ref C_Long) = true)
    (b_C_Long : PySem.W.subIn K (.ref C_Long) (.type "BaseException") = some true)
    (t_C_Long : PySem.W.typeIn K (.ref C_Long) = some (.type "type"))
    (i_C_Long : PySem.W.isClsIn K C_Long = true)
    (s_C_Long : PySem.W.subIn K (.ref C_Long) (.ref C_Long) = some true)
    (eg_C_Long : PySem.W.findIn K (.ref C_Long) "__getattribute__" = some (some (.builtin "BaseException.__getattribute__")))
    (ek_C_Long : PySem.W.findIn K (.ref C_Long) "__getattr__" = some none)
    (ed_C_Long : PySem.W.hasDictIn K C_Long = true)
    (ea_C_Long : PySem.W.findIn K (.ref C_Long) "__class__" = some (some (.builtin "object.__class__")))
    (em_C_Long : PySem.W.mroIn K C_Long (.type "object") = some true)
    {C_NothingLeft : Addr} (z_C_NothingLeft : PySem.W.nsIn K mainGlobals "NothingLeft" = some (some (.ref C_NothingLeft)))
    (k_C_NothingLeft : PySem.W.keepIn K (.ref C_NothingLeft) = true)
    (b_C_NothingLeft : PySem.W.subIn K (.ref C_NothingLeft) (.type "BaseException") = some true)
    (t_C_NothingLeft : PySem.W.typeIn K (.ref C_NothingLeft) = some (.type "type"))
    (i_C_NothingLeft : PySem.W.isClsIn K C_NothingLeft = true)
    (s_C_NothingLeft : PySem.W.subIn K (.ref C_NothingLeft) (.ref C_NothingLeft) = some true)
    (eg_C_NothingLeft : PySem.W.findIn K (.ref C_NothingLeft) "__getattribute__" = some (some (.builtin "BaseException.__getattribute__")))
    (ek_C_NothingLeft : PySem.W.findIn K (.ref C_NothingLeft) "__getattr__" = some none)
    (ed_C_NothingLeft : PySem.W.hasDictIn K C_NothingLeft = true)
    (ea_C_NothingLeft : PySem.W.findIn K (.ref C_NothingLeft) "__class__" = some (some (.builtin "object.__class__")))
    (em_C_NothingLeft : PySem.W.mroIn K C_NothingLeft (.type "object") = some true)
    {C_Kept : Addr} (z_C_Kept : PySem.W.nsIn K mainGlobals "Kept" = some (some (.ref C_Kept)))
    {g24_0 : Addr} {od_g24_0 an_g24_0 : Option Addr} {sl_g24_0 : Array (Option Value)} {oc_g24_0 kV_g24_0 dc_g24_0 pm_g24_0 cd_g24_0 ct_g24_0 : Value} (i_g24_0 : PySem.W.findIn K (.ref C_Kept) "__init__" = some (some (.ref g24_0))) (t_g24_0 : PySem.W.typeIn K (.ref g24_0) = some (.type "function")) (l_g24_0 : K.lookup g24_0 = some ⟨oc_g24_0, od_g24_0, .func (PySem.W.fnOf "__init__" "Kept.__init__" (defArgs m_Kept___init__) (defBody m_Kept___init__) (defScope m_Kept___init__) .none kV_g24_0 dc_g24_0 pm_g24_0 an_g24_0 cd_g24_0 ct_g24_0), sl_g24_0⟩) (c_g24_0 : PySem.W.codeIn K cd_g24_0 "Kept.__init__" = true) (k_g24_0 : PySem.W.keepIn K (.ref g24_0) = true)
    {g24_1 : Addr} {od_g24_1 an_g24_1 : Option Addr} {sl_g24_1 : Array (Option Value)} {oc_g24_1 kV_g24_1 dc_g24_1 pm_g24_1 cd_g24_1 ct_g24_1 : Value} (i_g24_1 : PySem.W.findIn K (.ref C_Kept) "__len__" = some (some (.ref g24_1))) (t_g24_1 : PySem.W.typeIn K (.ref g24_1) = some (.type "function")) (l_g24_1 : K.lookup g24_1 = some ⟨oc_g24_1, od_g24_1, .func (PySem.W.fnOf "__len__" "Kept.__len__" (defArgs m_Kept___len__) (defBody m_Kept___len__) (defScope m_Kept___len__) .none kV_g24_1 dc_g24_1 pm_g24_1 an_g24_1 cd_g24_1 ct_g24_1), sl_g24_1⟩) (c_g24_1 : PySem.W.codeIn K cd_g24_1 "Kept.__len__" = true) (k_g24_1 : PySem.W.keepIn K (.ref g24_1) = true)
    {g24_2 : Addr} {od_g24_2 an_g24_2 : Option Addr} {sl_g24_2 : Array (Option Value)} {oc_g24_2 kV_g24_2 dc_g24_2 pm_g24_2 cd_g24_2 ct_g24_2 : Value} (i_g24_2 : PySem.W.findIn K (.ref C_Kept) "__eq__" = some (some (.ref g24_2))) (t_g24_2 : PySem.W.typeIn K (.ref g24_2) = some (.type "function")) (l_g24_2 : K.lookup g24_2 = some ⟨oc_g24_2, od_g24_2, .func (PySem.W.fnOf "__eq__" "Kept.__eq__" (defArgs m_Kept___eq__) (defBody m_Kept___eq__) (defScope m_Kept___eq__) .none kV_g24_2 dc_g24_2 pm_g24_2 an_g24_2 cd_g24_2 ct_g24_2), sl_g24_2⟩) (c_g24_2 : PySem.W.codeIn K cd_g24_2 "Kept.__eq__" = true) (k_g24_2 : PySem.W.keepIn K (.ref g24_2) = true)
    {g24_3 : Addr} {od_g24_3 an_g24_3 : Option Addr} {sl_g24_3 : Array (Option Value)} {oc_g24_3 kV_g24_3 dc_g24_3 pm_g24_3 cd_g24_3 ct_g24_3 : Value} (i_g24_3 : PySem.W.findIn K (.ref C_Kept) "__str__" = some (some (.ref g24_3))) (t_g24_3 : PySem.W.typeIn K (.ref g24_3) = some (.type "function")) (l_g24_3 : K.lookup g24_3 = some ⟨oc_g24_3, od_g24_3, .func (PySem.W.fnOf "__str__" "Kept.__str__" (defArgs m_Kept___str__) (defBody m_Kept___str__) (defScope m_Kept___str__) .none kV_g24_3 dc_g24_3 pm_g24_3 an_g24_3 cd_g24_3 ct_g24_3), sl_g24_3⟩) (c_g24_3 : PySem.W.codeIn K cd_g24_3 "Kept.__str__" = true) (k_g24_3 : PySem.W.keepIn K (.ref g24_3) = true)
    {g24_4 : Addr} {od_g24_4 an_g24_4 : Option Addr} {sl_g24_4 : Array (Option Value)} {oc_g24_4 kV_g24_4 dc_g24_4 pm_g24_4 cd_g24_4 ct_g24_4 : Value} (i_g24_4 : PySem.W.findIn K (.ref C_Kept) "keep" = some (some (.ref g24_4))) (t_g24_4 : PySem.W.typeIn K (.ref g24_4) = some (.type "function")) (l_g24_4 : K.lookup g24_4 = some ⟨oc_g24_4, od_g24_4, .func (PySem.W.fnOf "keep" "Kept.keep" (defArgs m_Kept_keep) (defBody m_Kept_keep) (defScope m_Kept_keep) .none kV_g24_4 dc_g24_4 pm_g24_4 an_g24_4 cd_g24_4 ct_g24_4), sl_g24_4⟩) (c_g24_4 : PySem.W.codeIn K cd_g24_4 "Kept.keep" = true) (k_g24_4 : PySem.W.keepIn K (.ref g24_4) = true)
    {g24_5 : Addr} {od_g24_5 an_g24_5 : Option Addr} {sl_g24_5 : Array (Option Value)} {oc_g24_5 kV_g24_5 dc_g24_5 pm_g24_5 cd_g24_5 ct_g24_5 : Value} (i_g24_5 : PySem.W.findIn K (.ref C_Kept) "fold" = some (some (.ref g24_5))) (t_g24_5 : PySem.W.typeIn K (.ref g24_5) = some (.type "function")) (l_g24_5 : K.lookup g24_5 = some ⟨oc_g24_5, od_g24_5, .func (PySem.W.fnOf "fold" "Kept.fold" (defArgs m_Kept_fold) (defBody m_Kept_fold) (defScope m_Kept_fold) .none kV_g24_5 dc_g24_5 pm_g24_5 an_g24_5 cd_g24_5 ct_g24_5), sl_g24_5⟩) (c_g24_5 : PySem.W.codeIn K cd_g24_5 "Kept.fold" = true) (k_g24_5 : PySem.W.keepIn K (.ref g24_5) = true)
    {g24_6 : Addr} {od_g24_6 an_g24_6 : Option Addr} {sl_g24_6 : Array (Option Value)} {oc_g24_6 kV_g24_6 dc_g24_6 pm_g24_6 cd_g24_6 ct_g24_6 : Value} (i_g24_6 : PySem.W.findIn K (.ref C_Kept) "unfold" = some (some (.ref g24_6))) (t_g24_6 : PySem.W.typeIn K (.ref g24_6) = some (.type "function")) (l_g24_6 : K.lookup g24_6 = some ⟨oc_g24_6, od_g24_6, .func (PySem.W.fnOf "unfold" "Kept.unfold" (defArgs m_Kept_unfold) (defBody m_Kept_unfold) (defScope m_Kept_unfold) .none kV_g24_6 dc_g24_6 pm_g24_6 an_g24_6 cd_g24_6 ct_g24_6), sl_g24_6⟩) (c_g24_6 : PySem.W.codeIn K cd_g24_6 "Kept.unfold" = true) (k_g24_6 : PySem.W.keepIn K (.ref g24_6) = true)
    {g24_7 : Addr} {od_g24_7 an_g24_7 : Option Addr} {sl_g24_7 : Array (Option Value)} {oc_g24_7 kV_g24_7 dc_g24_7 pm_g24_7 cd_g24_7 ct_g24_7 : Value} (i_g24_7 : PySem.W.findIn K (.ref C_Kept) "turn" = some (some (.ref g24_7))) (t_g24_7 : PySem.W.typeIn K (.ref g24_7) = some (.type "function")) (l_g24_7 : K.lookup g24_7 = some ⟨oc_g24_7, od_g24_7, .func (PySem.W.fnOf "turn" "Kept.turn" (defArgs m_Kept_turn) (defBody m_Kept_turn) (defScope m_Kept_turn) .none kV_g24_7 dc_g24_7 pm_g24_7 an_g24_7 cd_g24_7 ct_g24_7), sl_g24_7⟩) (c_g24_7 : PySem.W.codeIn K cd_g24_7 "Kept.turn" = true) (k_g24_7 : PySem.W.keepIn K (.ref g24_7) = true)
    {g24_8 : Addr} {od_g24_8 an_g24_8 : Option Addr} {sl_g24_8 : Array (Option Value)} {oc_g24_8 kV_g24_8 dc_g24_8 pm_g24_8 cd_g24_8 ct_g24_8 : Value} (i_g24_8 : PySem.W.findIn K (.ref C_Kept) "back" = some (some (.ref g24_8))) (t_g24_8 : PySem.W.typeIn K (.ref g24_8) = some (.type "function")) (l_g24_8 : K.lookup g24_8 = some ⟨oc_g24_8, od_g24_8, .func (PySem.W.fnOf "back" "Kept.back" (defArgs m_Kept_back) (defBody m_Kept_back) (defScope m_Kept_back) .none kV_g24_8 dc_g24_8 pm_g24_8 an_g24_8 cd_g24_8 ct_g24_8), sl_g24_8⟩) (c_g24_8 : PySem.W.codeIn K cd_g24_8 "Kept.back" = true) (k_g24_8 : PySem.W.keepIn K (.ref g24_8) = true)
    {g24_9 : Addr} {od_g24_9 an_g24_9 : Option Addr} {sl_g24_9 : Array (Option Value)} {oc_g24_9 kV_g24_9 dc_g24_9 pm_g24_9 cd_g24_9 ct_g24_9 : Value} (i_g24_9 : PySem.W.findIn K (.ref C_Kept) "strip" = some (some (.ref g24_9))) (t_g24_9 : PySem.W.typeIn K (.ref g24_9) = some (.type "function")) (l_g24_9 : K.lookup g24_9 = some ⟨oc_g24_9, od_g24_9, .func (PySem.W.fnOf "strip" "Kept.strip" (defArgs m_Kept_strip) (defBody m_Kept_strip) (defScope m_Kept_strip) .none kV_g24_9 dc_g24_9 pm_g24_9 an_g24_9 cd_g24_9 ct_g24_9), sl_g24_9⟩) (c_g24_9 : PySem.W.codeIn K cd_g24_9 "Kept.strip" = true) (k_g24_9 : PySem.W.keepIn K (.ref g24_9) = true)
    {g24_10 : Addr} {od_g24_10 an_g24_10 : Option Addr} {sl_g24_10 : Array (Option Value)} {oc_g24_10 kV_g24_10 dc_g24_10 pm_g24_10 cd_g24_10 ct_g24_10 : Value} (i_g24_10 : PySem.W.findIn K (.ref C_Kept) "deeds" = some (some (.ref g24_10))) (t_g24_10 : PySem.W.typeIn K (.ref g24_10) = some (.type "function")) (l_g24_10 : K.lookup g24_10 = some ⟨oc_g24_10, od_g24_10, .func (PySem.W.fnOf "deeds" "Kept.deeds" (defArgs m_Kept_deeds) (defBody m_Kept_deeds) (defScope m_Kept_deeds) .none kV_g24_10 dc_g24_10 pm_g24_10 an_g24_10 cd_g24_10 ct_g24_10), sl_g24_10⟩) (c_g24_10 : PySem.W.codeIn K cd_g24_10 "Kept.deeds" = true) (k_g24_10 : PySem.W.keepIn K (.ref g24_10) = true)
    {g24_11 : Addr} {od_g24_11 an_g24_11 : Option Addr} {sl_g24_11 : Array (Option Value)} {oc_g24_11 kV_g24_11 dc_g24_11 pm_g24_11 cd_g24_11 ct_g24_11 : Value} (i_g24_11 : PySem.W.findIn K (.ref C_Kept) "is_kin" = some (some (.ref g24_11))) (t_g24_11 : PySem.W.typeIn K (.ref g24_11) = some (.type "function")) (l_g24_11 : K.lookup g24_11 = some ⟨oc_g24_11, od_g24_11, .func (PySem.W.fnOf "is_kin" "Kept.is_kin" (defArgs m_Kept_is_kin) (defBody m_Kept_is_kin) (defScope m_Kept_is_kin) .none kV_g24_11 dc_g24_11 pm_g24_11 an_g24_11 cd_g24_11 ct_g24_11), sl_g24_11⟩) (c_g24_11 : PySem.W.codeIn K cd_g24_11 "Kept.is_kin" = true) (k_g24_11 : PySem.W.keepIn K (.ref g24_11) = true)
    (xe_FoldError : PySem.W.excIn K C_FoldError [.type "ValueError", .type "Exception", .type "BaseException", .type "object"] "ValueError.__new__" = true)
    (xe_NoStrip : PySem.W.excIn K C_NoStrip [.type "ValueError", .type "Exception", .type "BaseException", .type "object"] "ValueError.__new__" = true)
    (xe_NoCrease : PySem.W.excIn K C_NoCrease [.type "ValueError", .type "Exception", .type "BaseException", .type "object"] "ValueError.__new__" = true)
    (xe_NoEnd : PySem.W.excIn K C_NoEnd [.type "ValueError", .type "Exception", .type "BaseException", .type "object"] "ValueError.__new__" = true)
    (xe_NoMany : PySem.W.excIn K C_NoMany [.type "ValueError", .type "Exception", .type "BaseException", .type "object"] "ValueError.__new__" = true)
    (xe_Long : PySem.W.excIn K C_Long [.type "ValueError", .type "Exception", .type "BaseException", .type "object"] "ValueError.__new__" = true)
    (xe_NothingLeft : PySem.W.excIn K C_NothingLeft [.type "ValueError", .type "Exception", .type "BaseException", .type "object"] "ValueError.__new__" = true)
    (sx_FoldError_FoldError : PySem.W.subIn K (.ref C_FoldError) (.ref C_FoldError) = some true)
    (sx_FoldError_NoStrip : PySem.W.subIn K (.ref C_FoldError) (.ref C_NoStrip) = some false)
    (sx_FoldError_NoCrease : PySem.W.subIn K (.ref C_FoldError) (.ref C_NoCrease) = some false)
    (sx_FoldError_NoEnd : PySem.W.subIn K (.ref C_FoldError) (.ref C_NoEnd) = some false)
    (sx_FoldError_NoMany : PySem.W.subIn K (.ref C_FoldError) (.ref C_NoMany) = some false)
    (sx_FoldError_Long : PySem.W.subIn K (.ref C_FoldError) (.ref C_Long) = some false)
    (sx_FoldError_NothingLeft : PySem.W.subIn K (.ref C_FoldError) (.ref C_NothingLeft) = some false)
    (sx_NoStrip_FoldError : PySem.W.subIn K (.ref C_NoStrip) (.ref C_FoldError) = some true)
    (sx_NoStrip_NoStrip : PySem.W.subIn K (.ref C_NoStrip) (.ref C_NoStrip) = some true)
    (sx_NoStrip_NoCrease : PySem.W.subIn K (.ref C_NoStrip) (.ref C_NoCrease) = some false)
    (sx_NoStrip_NoEnd : PySem.W.subIn K (.ref C_NoStrip) (.ref C_NoEnd) = some false)
    (sx_NoStrip_NoMany : PySem.W.subIn K (.ref C_NoStrip) (.ref C_NoMany) = some false)
    (sx_NoStrip_Long : PySem.W.subIn K (.ref C_NoStrip) (.ref C_Long) = some false)
    (sx_NoStrip_NothingLeft : PySem.W.subIn K (.ref C_NoStrip) (.ref C_NothingLeft) = some false)
    (sx_NoCrease_FoldError : PySem.W.subIn K (.ref C_NoCrease) (.ref C_FoldError) = some true)
    (sx_NoCrease_NoStrip : PySem.W.subIn K (.ref C_NoCrease) (.ref C_NoStrip) = some false)
    (sx_NoCrease_NoCrease : PySem.W.subIn K (.ref C_NoCrease) (.ref C_NoCrease) = some true)
    (sx_NoCrease_NoEnd : PySem.W.subIn K (.ref C_NoCrease) (.ref C_NoEnd) = some false)
    (sx_NoCrease_NoMany : PySem.W.subIn K (.ref C_NoCrease) (.ref C_NoMany) = some false)
    (sx_NoCrease_Long : PySem.W.subIn K (.ref C_NoCrease) (.ref C_Long) = some false)
    (sx_NoCrease_NothingLeft : PySem.W.subIn K (.ref C_NoCrease) (.ref C_NothingLeft) = some false)
    (sx_NoEnd_FoldError : PySem.W.subIn K (.ref C_NoEnd) (.ref C_FoldError) = some true)
    (sx_NoEnd_NoStrip : PySem.W.subIn K (.ref C_NoEnd) (.ref C_NoStrip) = some false)
    (sx_NoEnd_NoCrease : PySem.W.subIn K (.ref C_NoEnd) (.ref C_NoCrease) = some false)
    (sx_NoEnd_NoEnd : PySem.W.subIn K (.ref C_NoEnd) (.ref C_NoEnd) = some true)
    (sx_NoEnd_NoMany : PySem.W.subIn K (.ref C_NoEnd) (.ref C_NoMany) = some false)
    (sx_NoEnd_Long : PySem.W.subIn K (.ref C_NoEnd) (.ref C_Long) = some false)
    (sx_NoEnd_NothingLeft : PySem.W.subIn K (.ref C_NoEnd) (.ref C_NothingLeft) = some false)
    (sx_NoMany_FoldError : PySem.W.subIn K (.ref C_NoMany) (.ref C_FoldError) = some true)
    (sx_NoMany_NoStrip : PySem.W.subIn K (.ref C_NoMany) (.ref C_NoStrip) = some false)
    (sx_NoMany_NoCrease : PySem.W.subIn K (.ref C_NoMany) (.ref C_NoCrease) = some false)
    (sx_NoMany_NoEnd : PySem.W.subIn K (.ref C_NoMany) (.ref C_NoEnd) = some false)
    (sx_NoMany_NoMany : PySem.W.subIn K (.ref C_NoMany) (.ref C_NoMany) = some true)
    (sx_NoMany_Long : PySem.W.subIn K (.ref C_NoMany) (.ref C_Long) = some false)
    (sx_NoMany_NothingLeft : PySem.W.subIn K (.ref C_NoMany) (.ref C_NothingLeft) = some false)
    (sx_Long_FoldError : PySem.W.subIn K (.ref C_Long) (.ref C_FoldError) = some true)
    (sx_Long_NoStrip : PySem.W.subIn K (.ref C_Long) (.ref C_NoStrip) = some false)
    (sx_Long_NoCrease : PySem.W.subIn K (.ref C_Long) (.ref C_NoCrease) = some false)
    (sx_Long_NoEnd : PySem.W.subIn K (.ref C_Long) (.ref C_NoEnd) = some false)
    (sx_Long_NoMany : PySem.W.subIn K (.ref C_Long) (.ref C_NoMany) = some false)
    (sx_Long_Long : PySem.W.subIn K (.ref C_Long) (.ref C_Long) = some true)
    (sx_Long_NothingLeft : PySem.W.subIn K (.ref C_Long) (.ref C_NothingLeft) = some false)
    (sx_NothingLeft_FoldError : PySem.W.subIn K (.ref C_NothingLeft) (.ref C_FoldError) = some true)
    (sx_NothingLeft_NoStrip : PySem.W.subIn K (.ref C_NothingLeft) (.ref C_NoStrip) = some false)
    (sx_NothingLeft_NoCrease : PySem.W.subIn K (.ref C_NothingLeft) (.ref C_NoCrease) = some false)
    (sx_NothingLeft_NoEnd : PySem.W.subIn K (.ref C_NothingLeft) (.ref C_NoEnd) = some false)
    (sx_NothingLeft_NoMany : PySem.W.subIn K (.ref C_NothingLeft) (.ref C_NoMany) = some false)
    (sx_NothingLeft_Long : PySem.W.subIn K (.ref C_NothingLeft) (.ref C_Long) = some false)
    (sx_NothingLeft_NothingLeft : PySem.W.subIn K (.ref C_NothingLeft) (.ref C_NothingLeft) = some true)
    (cg_C_Kept : PySem.W.plainGet K C_Kept PySem.Str.empty = true)
    (ch_C_Kept : PySem.W.hasDictIn K C_Kept = true)
    (cp_C_Kept : PySem.W.plainOver K C_Kept = true)
    (cs_C_Kept : PySem.W.findIn K (.ref C_Kept) "__setattr__" = some (some (.builtin "object.__setattr__")))
    (cf_strips_C_Kept : PySem.W.findIn K (.ref C_Kept) "strips" = some none)
    (cf_rows_C_Kept : PySem.W.findIn K (.ref C_Kept) "rows" = some none)
    (ck_C_Kept : PySem.W.makesIn K C_Kept = true)
    (cq_C_Kept : PySem.W.keepIn K (.ref C_Kept) = true)
    (cx_C_Kept : PySem.W.notFirst K C_Kept (.type "str") = true)
    (ci_C_Kept : PySem.W.isClsIn K C_Kept = true)
    (cy_C_Kept : PySem.W.typeIn K (.ref C_Kept) = some (.type "type"))
    (c1_C_Kept : PySem.W.subIn K (.ref C_Kept) (.ref C_Kept) = some true)
    (c0_C_Kept : PySem.W.subIn K (.type "str") (.ref C_Kept) = some false)
    (ca_C_Kept : PySem.W.findIn K (.ref C_Kept) "__class__" = some (some (.builtin "object.__class__")))
    (cm_C_Kept : PySem.W.mroIn K C_Kept (.type "object") = some true)
    (en_exc : PySem.W.specialIn K (.builtin "object.__class__") "__get__" = some (some (.builtin "getset_descriptor.__get__")))
    (et_exc : PySem.W.takesIn K (.builtin "object.__class__") = some true)
    : Txt K mg :=
  { b_all := PySem.W.mg_none_of X G z_all,
    b_bool := PySem.W.mg_none_of X G z_bool,
    b_int := PySem.W.mg_none_of X G z_int,
    b_isinstance := PySem.W.mg_none_of X G z_isinstance,
    b_len := PySem.W.mg_none_of X G z_len,
    b_list := PySem.W.mg_none_of X G z_list,
    b_max := PySem.W.mg_none_of X G z_max,
    b_min := PySem.W.mg_none_of X G z_min,
    b_range := PySem.W.mg_none_of X G z_range,
    b_str := PySem.W.mg_none_of X G z_str,
    b_zip := PySem.W.mg_none_of X G z_zip,
    g_MOST := ⟨_, PySem.W.mg_of X G z_MOST⟩,
    g_SIGNS := ⟨_, PySem.W.mg_of X G z_SIGNS⟩,
    d_is_from := def_mk X G (fun _ _ _ _ _ _ us hl => match us, hl with | [_, _, _], _ => rfl) a_f11 l_f11 c_f11 k_f11,
    d_is_strip := def_mk X G (fun _ _ _ _ _ _ us hl => match us, hl with | [_], _ => rfl) a_f12 l_f12 c_f12 k_f12,
    d_lies_well := def_mk X G (fun _ _ _ _ _ _ us hl => match us, hl with | [_, _], _ => rfl) a_f13 l_f13 c_f13 k_f13,
    d_creases := def_mk X G (fun _ _ _ _ _ _ us hl => match us, hl with | [_], _ => rfl) a_f14 l_f14 c_f14 k_f14,
    d_is_crease := def_mk X G (fun _ _ _ _ _ _ us hl => match us, hl with | [_, _], _ => rfl) a_f15 l_f15 c_f15 k_f15,
    d_left_of := def_mk X G (fun _ _ _ _ _ _ us hl => match us, hl with | [_, _], _ => rfl) a_f16 l_f16 c_f16 k_f16,
    d_least := def_mk X G (fun _ _ _ _ _ _ us hl => match us, hl with | [_], _ => rfl) a_f18 l_f18 c_f18 k_f18,
    d_are_kin := def_mk X G (fun _ _ _ _ _ _ us hl => match us, hl with | [_, _], _ => rfl) a_f20 l_f20 c_f20 k_f20,
    d_unfolded := def_mk X G (fun _ _ _ _ _ _ us hl => match us, hl with | [_, _, _], _ => rfl) a_f22 l_f22 c_f22 k_f22,
    d__law_bag := def_mk X G (fun _ _ _ _ _ _ us hl => match us, hl with | [_, _], _ => rfl) a_f26 l_f26 c_f26 k_f26,
    d__law_take := def_mk X G (fun _ _ _ _ _ _ us hl => match us, hl with | [_, _], _ => rfl) a_f27 l_f27 c_f27 k_f27,
    d__law_of := def_mk X G (fun _ _ _ _ _ _ us hl => match us, hl with | [_, _], _ => rfl) a_f28 l_f28 c_f28 k_f28,
    d__law_any_text := def_mk X G (fun _ _ _ _ _ _ us hl => match us, hl with | [_, _, _], _ => rfl) a_f29 l_f29 c_f29 k_f29,
    d__law_grown := def_mk X G (fun _ _ _ _ _ _ us hl => match us, hl with | [_, _, _], _ => rfl) a_f30 l_f30 c_f30 k_f30,
    d__law_strip := def_mk X G (fun _ _ _ _ _ _ us hl => match us, hl with | [_, _], _ => rfl) a_f31 l_f31 c_f31 k_f31,
    d__law_lies := def_mk X G (fun _ _ _ _ _ _ us hl => match us, hl with | [_, _], _ => rfl) a_f32 l_f32 c_f32 k_f32,
    d__law_creases := def_mk X G (fun _ _ _ _ _ _ us hl => match us, hl with | [_], _ => rfl) a_f33 l_f33 c_f33 k_f33,
    d__law_left := def_mk X G (fun _ _ _ _ _ _ us hl => match us, hl with | [_, _], _ => rfl) a_f34 l_f34 c_f34 k_f34,
    d__law_kind := def_mk X G (fun _ _ _ _ _ _ us hl => match us, hl with | [_], _ => rfl) a_f35 l_f35 c_f35 k_f35,
    d__law_did := def_mk X G (fun _ _ _ _ _ _ us hl => match us, hl with | [_, _], _ => rfl) a_f36 l_f36 c_f36 k_f36,
    d__law_is_number := def_mk X G (fun _ _ _ _ _ _ us hl => match us, hl with | [_, _, _], _ => rfl) a_f37 l_f37 c_f37 k_f37,
    d__law_due := def_mk X G (fun _ _ _ _ _ _ us hl => match us, hl with | [_, _], _ => rfl) a_f38 l_f38 c_f38 k_f38,
    d__law_a_deed := def_mk X G (fun _ _ _ _ _ _ us hl => match us, hl with | [_, _], _ => rfl) a_f39 l_f39 c_f39 k_f39,
    d__law_stands_so := def_mk X G (fun _ _ _ _ _ _ us hl => match us, hl with | [_, _], _ => rfl) a_f40 l_f40 c_f40 k_f40,
    d_law := def_mk X G (fun _ _ _ _ _ _ us hl => match us, hl with | [_], _ => rfl) a_f41 l_f41 c_f41 k_f41,
    x_FoldError := ⟨⟨C_FoldError, PySem.W.mg_of X G z_C_FoldError, k_C_FoldError, b_C_FoldError, t_C_FoldError, i_C_FoldError, s_C_FoldError, ⟨eg_C_FoldError, ek_C_FoldError, b_C_FoldError, ed_C_FoldError, ea_C_FoldError, en_exc, et_exc, em_C_FoldError⟩⟩⟩,
    x_NoStrip := ⟨⟨C_NoStrip, PySem.W.mg_of X G z_C_NoStrip, k_C_NoStrip, b_C_NoStrip, t_C_NoStrip, i_C_NoStrip, s_C_NoStrip, ⟨eg_C_NoStrip, ek_C_NoStrip, b_C_NoStrip, ed_C_NoStrip, ea_C_NoStrip, en_exc, et_exc, em_C_NoStrip⟩⟩⟩,
    x_NoCrease := ⟨⟨C_NoCrease, PySem.W.mg_of X G z_C_NoCrease, k_C_NoCrease, b_C_NoCrease, t_C_NoCrease, i_C_NoCrease, s_C_NoCrease, ⟨eg_C_NoCrease, ek_C_NoCrease, b_C_NoCrease, ed_C_NoCrease, ea_C_NoCrease, en_exc, et_exc, em_C_NoCrease⟩⟩⟩,
    x_NoEnd := ⟨⟨C_NoEnd, PySem.W.mg_of X G z_C_NoEnd, k_C_NoEnd, b_C_NoEnd, t_C_NoEnd, i_C_NoEnd, s_C_NoEnd, ⟨eg_C_NoEnd, ek_C_NoEnd, b_C_NoEnd, ed_C_NoEnd, ea_C_NoEnd, en_exc, et_exc, em_C_NoEnd⟩⟩⟩,
    x_NoMany := ⟨⟨C_NoMany, PySem.W.mg_of X G z_C_NoMany, k_C_NoMany, b_C_NoMany, t_C_NoMany, i_C_NoMany, s_C_NoMany, ⟨eg_C_NoMany, ek_C_NoMany, b_C_NoMany, ed_C_NoMany, ea_C_NoMany, en_exc, et_exc, em_C_NoMany⟩⟩⟩,
    x_Long := ⟨⟨C_Long, PySem.W.mg_of X G z_C_Long, k_C_Long, b_C_Long, t_C_Long, i_C_Long, s_C_Long, ⟨eg_C_Long, ek_C_Long, b_C_Long, ed_C_Long, ea_C_Long, en_exc, et_exc, em_C_Long⟩⟩⟩,
    x_NothingLeft := ⟨⟨C_NothingLeft, PySem.W.mg_of X G z_C_NothingLeft, k_C_NothingLeft, b_C_NothingLeft, t_C_NothingLeft, i_C_NothingLeft, s_C_NothingLeft, ⟨eg_C_NothingLeft, ek_C_NothingLeft, b_C_NothingLeft, ed_C_NothingLeft, ea_C_NothingLeft, en_exc, et_exc, em_C_NothingLeft⟩⟩⟩,
    me_Kept___init__ := defM_mk X G (fun _ _ _ _ _ _ us hl => match us, hl with | [_, _], _ => rfl) z_C_Kept i_g24_0 t_g24_0 l_g24_0 c_g24_0 k_g24_0,
    me_Kept___len__ := defM_mk X G (fun _ _ _ _ _ _ us hl => match us, hl with | [_], _ => rfl) z_C_Kept i_g24_1 t_g24_1 l_g24_1 c_g24_1 k_g24_1,
    me_Kept___eq__ := defM_mk X G (fun _ _ _ _ _ _ us hl => match us, hl with | [_, _], _ => rfl) z_C_Kept i_g24_2 t_g24_2 l_g24_2 c_g24_2 k_g24_2,
    me_Kept___str__ := defM_mk X G (fun _ _ _ _ _ _ us hl => match us, hl with | [_], _ => rfl) z_C_Kept i_g24_3 t_g24_3 l_g24_3 c_g24_3 k_g24_3,
    me_Kept_keep := defM_mk X G (fun _ _ _ _ _ _ us hl => match us, hl with | [_, _, _], _ => rfl) z_C_Kept i_g24_4 t_g24_4 l_g24_4 c_g24_4 k_g24_4,
    me_Kept_fold := defM_mk X G (fun _ _ _ _ _ _ us hl => match us, hl with | [_, _], _ => rfl) z_C_Kept i_g24_5 t_g24_5 l_g24_5 c_g24_5 k_g24_5,
    me_Kept_unfold := defM_mk X G (fun _ _ _ _ _ _ us hl => match us, hl with | [_, _, _], _ => rfl) z_C_Kept i_g24_6 t_g24_6 l_g24_6 c_g24_6 k_g24_6,
    me_Kept_turn := defM_mk X G (fun _ _ _ _ _ _ us hl => match us, hl with | [_], _ => rfl) z_C_Kept i_g24_7 t_g24_7 l_g24_7 c_g24_7 k_g24_7,
    me_Kept_back := defM_mk X G (fun _ _ _ _ _ _ us hl => match us, hl with | [_], _ => rfl) z_C_Kept i_g24_8 t_g24_8 l_g24_8 c_g24_8 k_g24_8,
    me_Kept_strip := defM_mk X G (fun _ _ _ _ _ _ us hl => match us, hl with | [_], _ => rfl) z_C_Kept i_g24_9 t_g24_9 l_g24_9 c_g24_9 k_g24_9,
    me_Kept_deeds := defM_mk X G (fun _ _ _ _ _ _ us hl => match us, hl with | [_], _ => rfl) z_C_Kept i_g24_10 t_g24_10 l_g24_10 c_g24_10 k_g24_10,
    me_Kept_is_kin := defM_mk X G (fun _ _ _ _ _ _ us hl => match us, hl with | [_], _ => rfl) z_C_Kept i_g24_11 t_g24_11 l_g24_11 c_g24_11 k_g24_11,
    e_FoldError := ⟨C_FoldError, PySem.W.mg_of X G z_C_FoldError, xe_FoldError⟩,
    e_NoStrip := ⟨C_NoStrip, PySem.W.mg_of X G z_C_NoStrip, xe_NoStrip⟩,
    e_NoCrease := ⟨C_NoCrease, PySem.W.mg_of X G z_C_NoCrease, xe_NoCrease⟩,
    e_NoEnd := ⟨C_NoEnd, PySem.W.mg_of X G z_C_NoEnd, xe_NoEnd⟩,
    e_NoMany := ⟨C_NoMany, PySem.W.mg_of X G z_C_NoMany, xe_NoMany⟩,
    e_Long := ⟨C_Long, PySem.W.mg_of X G z_C_Long, xe_Long⟩,
    e_NothingLeft := ⟨C_NothingLeft, PySem.W.mg_of X G z_C_NothingLeft, xe_NothingLeft⟩,
    k_FoldError_FoldError := ⟨C_FoldError, C_FoldError, PySem.W.mg_of X G z_C_FoldError, PySem.W.mg_of X G z_C_FoldError, kit_own i_C_FoldError t_C_FoldError s_C_FoldError sx_FoldError_FoldError⟩,
    k_FoldError_NoStrip := ⟨C_FoldError, C_NoStrip, PySem.W.mg_of X G z_C_FoldError, PySem.W.mg_of X G z_C_NoStrip, kit_own i_C_NoStrip t_C_NoStrip s_C_NoStrip sx_FoldError_NoStrip⟩,
    k_FoldError_NoCrease := ⟨C_FoldError, C_NoCrease, PySem.W.mg_of X G z_C_FoldError, PySem.W.mg_of X G z_C_NoCrease, kit_own i_C_NoCrease t_C_NoCrease s_C_NoCrease sx_FoldError_NoCrease⟩,
    k_FoldError_NoEnd := ⟨C_FoldError, C_NoEnd, PySem.W.mg_of X G z_C_FoldError, PySem.W.mg_of X G z_C_NoEnd, kit_own i_C_NoEnd t_C_NoEnd s_C_NoEnd sx_FoldError_NoEnd⟩,
    k_FoldError_NoMany := ⟨C_FoldError, C_NoMany, PySem.W.mg_of X G z_C_FoldError, PySem.W.mg_of X G z_C_NoMany, kit_own i_C_NoMany t_C_NoMany s_C_NoMany sx_FoldError_NoMany⟩,
    k_FoldError_Long := ⟨C_FoldError, C_Long, PySem.W.mg_of X G z_C_FoldError, PySem.W.mg_of X G z_C_Long, kit_own i_C_Long t_C_Long s_C_Long sx_FoldError_Long⟩,
    k_FoldError_NothingLeft := ⟨C_FoldError, C_NothingLeft, PySem.W.mg_of X G z_C_FoldError, PySem.W.mg_of X G z_C_NothingLeft, kit_own i_C_NothingLeft t_C_NothingLeft s_C_NothingLeft sx_FoldError_NothingLeft⟩,
    k_NoStrip_FoldError := ⟨C_NoStrip, C_FoldError, PySem.W.mg_of X G z_C_NoStrip, PySem.W.mg_of X G z_C_FoldError, kit_own i_C_FoldError t_C_FoldError s_C_FoldError sx_NoStrip_FoldError⟩,
    k_NoStrip_NoStrip := ⟨C_NoStrip, C_NoStrip, PySem.W.mg_of X G z_C_NoStrip, PySem.W.mg_of X G z_C_NoStrip, kit_own i_C_NoStrip t_C_NoStrip s_C_NoStrip sx_NoStrip_NoStrip⟩,
    k_NoStrip_NoCrease := ⟨C_NoStrip, C_NoCrease, PySem.W.mg_of X G z_C_NoStrip, PySem.W.mg_of X G z_C_NoCrease, kit_own i_C_NoCrease t_C_NoCrease s_C_NoCrease sx_NoStrip_NoCrease⟩,
    k_NoStrip_NoEnd := ⟨C_NoStrip, C_NoEnd, PySem.W.mg_of X G z_C_NoStrip, PySem.W.mg_of X G z_C_NoEnd, kit_own i_C_NoEnd t_C_NoEnd s_C_NoEnd sx_NoStrip_NoEnd⟩,
    k_NoStrip_NoMany := ⟨C_NoStrip, C_NoMany, PySem.W.mg_of X G z_C_NoStrip, PySem.W.mg_of X G z_C_NoMany, kit_own i_C_NoMany t_C_NoMany s_C_NoMany sx_NoStrip_NoMany⟩,
    k_NoStrip_Long := ⟨C_NoStrip, C_Long, PySem.W.mg_of X G z_C_NoStrip, PySem.W.mg_of X G z_C_Long, kit_own i_C_Long t_C_Long s_C_Long sx_NoStrip_Long⟩,
    k_NoStrip_NothingLeft := ⟨C_NoStrip, C_NothingLeft, PySem.W.mg_of X G z_C_NoStrip, PySem.W.mg_of X G z_C_NothingLeft, kit_own i_C_NothingLeft t_C_NothingLeft s_C_NothingLeft sx_NoStrip_NothingLeft⟩,
    k_NoCrease_FoldError := ⟨C_NoCrease, C_FoldError, PySem.W.mg_of X G z_C_NoCrease, PySem.W.mg_of X G z_C_FoldError, kit_own i_C_FoldError t_C_FoldError s_C_FoldError sx_NoCrease_FoldError⟩,
    k_NoCrease_NoStrip := ⟨C_NoCrease, C_NoStrip, PySem.W.mg_of X G z_C_NoCrease, PySem.W.mg_of X G z_C_NoStrip, kit_own i_C_NoStrip t_C_NoStrip s_C_NoStrip sx_NoCrease_NoStrip⟩,
    k_NoCrease_NoCrease := ⟨C_NoCrease, C_NoCrease, PySem.W.mg_of X G z_C_NoCrease, PySem.W.mg_of X G z_C_NoCrease, kit_own i_C_NoCrease t_C_NoCrease s_C_NoCrease sx_NoCrease_NoCrease⟩,
    k_NoCrease_NoEnd := ⟨C_NoCrease, C_NoEnd, PySem.W.mg_of X G z_C_NoCrease, PySem.W.mg_of X G z_C_NoEnd, kit_own i_C_NoEnd t_C_NoEnd s_C_NoEnd sx_NoCrease_NoEnd⟩,
    k_NoCrease_NoMany := ⟨C_NoCrease, C_NoMany, PySem.W.mg_of X G z_C_NoCrease, PySem.W.mg_of X G z_C_NoMany, kit_own i_C_NoMany t_C_NoMany s_C_NoMany sx_NoCrease_NoMany⟩,
    k_NoCrease_Long := ⟨C_NoCrease, C_Long, PySem.W.mg_of X G z_C_NoCrease, PySem.W.mg_of X G z_C_Long, kit_own i_C_Long t_C_Long s_C_Long sx_NoCrease_Long⟩,
    k_NoCrease_NothingLeft := ⟨C_NoCrease, C_NothingLeft, PySem.W.mg_of X G z_C_NoCrease, PySem.W.mg_of X G z_C_NothingLeft, kit_own i_C_NothingLeft t_C_NothingLeft s_C_NothingLeft sx_NoCrease_NothingLeft⟩,
    k_NoEnd_FoldError := ⟨C_NoEnd, C_FoldError, PySem.W.mg_of X G z_C_NoEnd, PySem.W.mg_of X G z_C_FoldError, kit_own i_C_FoldError t_C_FoldError s_C_FoldError sx_NoEnd_FoldError⟩,
    k_NoEnd_NoStrip := ⟨C_NoEnd, C_NoStrip, PySem.W.mg_of X G z_C_NoEnd, PySem.W.mg_of X G z_C_NoStrip, kit_own i_C_NoStrip t_C_NoStrip s_C_NoStrip sx_NoEnd_NoStrip⟩,
    k_NoEnd_NoCrease := ⟨C_NoEnd, C_NoCrease, PySem.W.mg_of X G z_C_NoEnd, PySem.W.mg_of X G z_C_NoCrease, kit_own i_C_NoCrease t_C_NoCrease s_C_NoCrease sx_NoEnd_NoCrease⟩,
    k_NoEnd_NoEnd := ⟨C_NoEnd, C_NoEnd, PySem.W.mg_of X G z_C_NoEnd, PySem.W.mg_of X G z_C_NoEnd, kit_own i_C_NoEnd t_C_NoEnd s_C_NoEnd sx_NoEnd_NoEnd⟩,
    k_NoEnd_NoMany := ⟨C_NoEnd, C_NoMany, PySem.W.mg_of X G z_C_NoEnd, PySem.W.mg_of X G z_C_NoMany, kit_own i_C_NoMany t_C_NoMany s_C_NoMany sx_NoEnd_NoMany⟩,
    k_NoEnd_Long := ⟨C_NoEnd, C_Long, PySem.W.mg_of X G z_C_NoEnd, PySem.W.mg_of X G z_C_Long, kit_own i_C_Long t_C_Long s_C_Long sx_NoEnd_Long⟩,
    k_NoEnd_NothingLeft := ⟨C_NoEnd, C_NothingLeft, PySem.W.mg_of X G z_C_NoEnd, PySem.W.mg_of X G z_C_NothingLeft, kit_own i_C_NothingLeft t_C_NothingLeft s_C_NothingLeft sx_NoEnd_NothingLeft⟩,
    k_NoMany_FoldError := ⟨C_NoMany, C_FoldError, PySem.W.mg_of X G z_C_NoMany, PySem.W.mg_of X G z_C_FoldError, kit_own i_C_FoldError t_C_FoldError s_C_FoldError sx_NoMany_FoldError⟩,
    k_NoMany_NoStrip := ⟨C_NoMany, C_NoStrip, PySem.W.mg_of X G z_C_NoMany, PySem.W.mg_of X G z_C_NoStrip, kit_own i_C_NoStrip t_C_NoStrip s_C_NoStrip sx_NoMany_NoStrip⟩,
    k_NoMany_NoCrease := ⟨C_NoMany, C_NoCrease, PySem.W.mg_of X G z_C_NoMany, PySem.W.mg_of X G z_C_NoCrease, kit_own i_C_NoCrease t_C_NoCrease s_C_NoCrease sx_NoMany_NoCrease⟩,
    k_NoMany_NoEnd := ⟨C_NoMany, C_NoEnd, PySem.W.mg_of X G z_C_NoMany, PySem.W.mg_of X G z_C_NoEnd, kit_own i_C_NoEnd t_C_NoEnd s_C_NoEnd sx_NoMany_NoEnd⟩,
    k_NoMany_NoMany := ⟨C_NoMany, C_NoMany, PySem.W.mg_of X G z_C_NoMany, PySem.W.mg_of X G z_C_NoMany, kit_own i_C_NoMany t_C_NoMany s_C_NoMany sx_NoMany_NoMany⟩,
    k_NoMany_Long := ⟨C_NoMany, C_Long, PySem.W.mg_of X G z_C_NoMany, PySem.W.mg_of X G z_C_Long, kit_own i_C_Long t_C_Long s_C_Long sx_NoMany_Long⟩,
    k_NoMany_NothingLeft := ⟨C_NoMany, C_NothingLeft, PySem.W.mg_of X G z_C_NoMany, PySem.W.mg_of X G z_C_NothingLeft, kit_own i_C_NothingLeft t_C_NothingLeft s_C_NothingLeft sx_NoMany_NothingLeft⟩,
    k_Long_FoldError := ⟨C_Long, C_FoldError, PySem.W.mg_of X G z_C_Long, PySem.W.mg_of X G z_C_FoldError, kit_own i_C_FoldError t_C_FoldError s_C_FoldError sx_Long_FoldError⟩,
    k_Long_NoStrip := ⟨C_Long, C_NoStrip, PySem.W.mg_of X G z_C_Long, PySem.W.mg_of X G z_C_NoStrip, kit_own i_C_NoStrip t_C_NoStrip s_C_NoStrip sx_Long_NoStrip⟩,
    k_Long_NoCrease := ⟨C_Long, C_NoCrease, PySem.W.mg_of X G z_C_Long, PySem.W.mg_of X G z_C_NoCrease, kit_own i_C_NoCrease t_C_NoCrease s_C_NoCrease sx_Long_NoCrease⟩,
    k_Long_NoEnd := ⟨C_Long, C_NoEnd, PySem.W.mg_of X G z_C_Long, PySem.W.mg_of X G z_C_NoEnd, kit_own i_C_NoEnd t_C_NoEnd s_C_NoEnd sx_Long_NoEnd⟩,
    k_Long_NoMany := ⟨C_Long, C_NoMany, PySem.W.mg_of X G z_C_Long, PySem.W.mg_of X G z_C_NoMany, kit_own i_C_NoMany t_C_NoMany s_C_NoMany sx_Long_NoMany⟩,
    k_Long_Long := ⟨C_Long, C_Long, PySem.W.mg_of X G z_C_Long, PySem.W.mg_of X G z_C_Long, kit_own i_C_Long t_C_Long s_C_Long sx_Long_Long⟩,
    k_Long_NothingLeft := ⟨C_Long, C_NothingLeft, PySem.W.mg_of X G z_C_Long, PySem.W.mg_of X G z_C_NothingLeft, kit_own i_C_NothingLeft t_C_NothingLeft s_C_NothingLeft sx_Long_NothingLeft⟩,
    k_NothingLeft_FoldError := ⟨C_NothingLeft, C_FoldError, PySem.W.mg_of X G z_C_NothingLeft, PySem.W.mg_of X G z_C_FoldError, kit_own i_C_FoldError t_C_FoldError s_C_FoldError sx_NothingLeft_FoldError⟩,
    k_NothingLeft_NoStrip := ⟨C_NothingLeft, C_NoStrip, PySem.W.mg_of X G z_C_NothingLeft, PySem.W.mg_of X G z_C_NoStrip, kit_own i_C_NoStrip t_C_NoStrip s_C_NoStrip sx_NothingLeft_NoStrip⟩,
    k_NothingLeft_NoCrease := ⟨C_NothingLeft, C_NoCrease, PySem.W.mg_of X G z_C_NothingLeft, PySem.W.mg_of X G z_C_NoCrease, kit_own i_C_NoCrease t_C_NoCrease s_C_NoCrease sx_NothingLeft_NoCrease⟩,
    k_NothingLeft_NoEnd := ⟨C_NothingLeft, C_NoEnd, PySem.W.mg_of X G z_C_NothingLeft, PySem.W.mg_of X G z_C_NoEnd, kit_own i_C_NoEnd t_C_NoEnd s_C_NoEnd sx_NothingLeft_NoEnd⟩,
    k_NothingLeft_NoMany := ⟨C_NothingLeft, C_NoMany, PySem.W.mg_of X G z_C_NothingLeft, PySem.W.mg_of X G z_C_NoMany, kit_own i_C_NoMany t_C_NoMany s_C_NoMany sx_NothingLeft_NoMany⟩,
    k_NothingLeft_Long := ⟨C_NothingLeft, C_Long, PySem.W.mg_of X G z_C_NothingLeft, PySem.W.mg_of X G z_C_Long, kit_own i_C_Long t_C_Long s_C_Long sx_NothingLeft_Long⟩,
    k_NothingLeft_NothingLeft := ⟨C_NothingLeft, C_NothingLeft, PySem.W.mg_of X G z_C_NothingLeft, PySem.W.mg_of X G z_C_NothingLeft, kit_own i_C_NothingLeft t_C_NothingLeft s_C_NothingLeft sx_NothingLeft_NothingLeft⟩,
    co_Kept := ⟨C_Kept, PySem.W.mg_of X G z_C_Kept, ⟨cg_C_Kept, ch_C_Kept, cp_C_Kept, cs_C_Kept⟩, (by intro f hf; rcases List.mem_cons.mp hf with rfl | hf; exact cf_strips_C_Kept; rcases List.mem_cons.mp hf with rfl | hf; exact cf_rows_C_Kept; cases hf), ck_C_Kept, cq_C_Kept, cx_C_Kept, kit_own ci_C_Kept cy_C_Kept c1_C_Kept c1_C_Kept, kit_strC ci_C_Kept cy_C_Kept c0_C_Kept, ca_C_Kept, en_exc, et_exc, cm_C_Kept⟩ }
theorem all_mk {l : PySem.W.OpenLaw} {w : World} {K : PySem.W.Frag} {mg : Str → Option Value} {fa : Addr} (T : Txt K mg) (hfa : mg "law" = some (.ref fa)) :
    ∃ fd : FuncData, (∀ (s : Shared) (v : Value), BindsTo s fd ⟨[v], []⟩ [("script", v)]) ∧ ∀ base : Heap, K.In base → base.Ns mainGlobals mg → FnOk l.prog w K mg base CX0 60 fa fd ["script"] (sp_law K) := by
  obtain ⟨f, fd, a, F, b, bt⟩ := T.d_law.ex
  have e := hfa.symm.trans a
  cases e
  exact ⟨fd, fun s v => bt s [v] rfl, fun base _ _ => ok_law T F⟩
end Lk
open PySem PySem.W PyProof.Rows
set_option maxRecDepth 100000 in
set_option maxHeartbeats 0 in
theorem PySem.Challenge.cw_likefolds_k10_whole_a_strip_kept_fold_by_holds : PySem.Challenge.rw_likefolds_k10_whole_a_strip_kept_fold_by.Holds := by
  w_on; o_law; k_head; (case hw => w_witness2)
  k_fill
  refine L2.walk_of (l := PySem.Challenge.rw_likefolds_k10_whole_a_strip_kept_fold_by) (n := 63) (k := 60) (x := "script") (CX := fun _ => L2.CX0) (sp := fun w => Lk.sp_law _) rfl (by decide) rfl ⟨rfl, by decide, by decide⟩ (fun w h Y => PySem.W.kIn_of Y) ?F (fun _ _ a ns hl _ hS => ⟨a, ns, rfl, hS, hl, fun _ => rfl⟩) (fun _ _ _ _ _ h => h)
  case F =>
    intro w mg fa h KX G hmg
    refine Lk.all_mk ?T hmg
    refine' Lk.txt_mk KX G ?z_all ?z_bool ?z_int ?z_isinstance ?z_len ?z_list ?z_max ?z_min ?z_range ?z_str ?z_zip ?z_MOST ?z_SIGNS ?a_f11 ?l_f11 ?c_f11 ?k_f11 ?a_f12 ?l_f12 ?c_f12 ?k_f12 ?a_f13 ?l_f13 ?c_f13 ?k_f13 ?a_f14 ?l_f14 ?c_f14 ?k_f14 ?a_f15 ?l_f15 ?c_f15 ?k_f15 ?a_f16 ?l_f16 ?c_f16 ?k_f16 ?a_f18 ?l_f18 ?c_f18 ?k_f18 ?a_f20 ?l_f20 ?c_f20 ?k_f20 ?a_f22 ?l_f22 ?c_f22 ?k_f22 ?a_f26 ?l_f26 ?c_f26 ?k_f26 ?a_f27 ?l_f27 ?c_f27 ?k_f27 ?a_f28 ?l_f28 ?c_f28 ?k_f28 ?a_f29 ?l_f29 ?c_f29 ?k_f29 ?a_f30 ?l_f30 ?c_f30 ?k_f30 ?a_f31 ?l_f31 ?c_f31 ?k_f31 ?a_f32 ?l_f32 ?c_f32 ?k_f32 ?a_f33 ?l_f33 ?c_f33 ?k_f33 ?a_f34 ?l_f34 ?c_f34 ?k_f34 ?a_f35 ?l_f35 ?c_f35 ?k_f35 ?a_f36 ?l_f36 ?c_f36 ?k_f36 ?a_f37 ?l_f37 ?c_f37 ?k_f37 ?a_f38 ?l_f38 ?c_f38 ?k_f38 ?a_f39 ?l_f39 ?c_f39 ?k_f39 ?a_f40 ?l_f40 ?c_f40 ?k_f40 ?a_f41 ?l_f41 ?c_f41 ?k_f41 ?z_C_FoldError ?k_C_FoldError ?b_C_FoldError ?t_C_FoldError ?i_C_FoldError ?s_C_FoldError ?eg_C_FoldError ?ek_C_FoldError ?ed_C_FoldError ?ea_C_FoldError ?em_C_FoldError ?z_C_NoStrip ?k_C_NoStrip ?b_C_NoStrip ?t_C_NoStrip ?i_C_NoStrip ?s_C_NoStrip ?eg_C_NoStrip ?ek_C_NoStrip ?ed_C_NoStrip ?ea_C_NoStrip ?em_C_NoStrip ?z_C_NoCrease ?k_C_NoCrease ?b_C_NoCrease ?t_C_NoCrease ?i_C_NoCrease ?s_C_NoCrease ?eg_C_NoCrease ?ek_C_NoCrease ?ed_C_NoCrease ?ea_C_NoCrease ?em_C_NoCrease ?z_C_NoEnd ?k_C_NoEnd ?b_C_NoEnd ?t_C_NoEnd ?i_C_NoEnd ?s_C_NoEnd ?eg_C_NoEnd ?ek_C_NoEnd ?ed_C_NoEnd ?ea_C_NoEnd ?em_C_NoEnd ?z_C_NoMany ?k_C_NoMany ?b_C_NoMany ?t_C_NoMany ?i_C_NoMany ?s_C_NoMany ?eg_C_NoMany ?ek_C_NoMany ?ed_C_NoMany ?ea_C_NoMany ?em_C_NoMany ?z_C_Long ?k_C_Long ?b_C_Long ?t_C_Long ?i_C_Long ?s_C_Long ?eg_C_Long ?ek_C_Long ?ed_C_Long ?ea_C_Long ?em_C_Long ?z_C_NothingLeft ?k_C_NothingLeft ?b_C_NothingLeft ?t_C_NothingLeft ?i_C_NothingLeft ?s_C_NothingLeft ?eg_C_NothingLeft ?ek_C_NothingLeft ?ed_C_NothingLeft ?ea_C_NothingLeft ?em_C_NothingLeft ?z_C_Kept ?i_g24_0 ?t_g24_0 ?l_g24_0 ?c_g24_0 ?k_g24_0 ?i_g24_1 ?t_g24_1 ?l_g24_1 ?c_g24_1 ?k_g24_1 ?i_g24_2 ?t_g24_2 ?l_g24_2 ?c_g24_2 ?k_g24_2 ?i_g24_3 ?t_g24_3 ?l_g24_3 ?c_g24_3 ?k_g24_3 ?i_g24_4 ?t_g24_4 ?l_g24_4 ?c_g24_4 ?k_g24_4 ?i_g24_5 ?t_g24_5 ?l_g24_5 ?c_g24_5 ?k_g24_5 ?i_g24_6 ?t_g24_6 ?l_g24_6 ?c_g24_6 ?k_g24_6 ?i_g24_7 ?t_g24_7 ?l_g24_7 ?c_g24_7 ?k_g24_7 ?i_g24_8 ?t_g24_8 ?l_g24_8 ?c_g24_8 ?k_g24_8 ?i_g24_9 ?t_g24_9 ?l_g24_9 ?c_g24_9 ?k_g24_9 ?i_g24_10 ?t_g24_10 ?l_g24_10 ?c_g24_10 ?k_g24_10 ?i_g24_11 ?t_g24_11 ?l_g24_11 ?c_g24_11 ?k_g24_11 ?xe_FoldError ?xe_NoStrip ?xe_NoCrease ?xe_NoEnd ?xe_NoMany ?xe_Long ?xe_NothingLeft ?sx_FoldError_FoldError ?sx_FoldError_NoStrip ?sx_FoldError_NoCrease ?sx_FoldError_NoEnd ?sx_FoldError_NoMany ?sx_FoldError_Long ?sx_FoldError_NothingLeft ?sx_NoStrip_FoldError ?sx_NoStrip_NoStrip ?sx_NoStrip_NoCrease ?sx_NoStrip_NoEnd ?sx_NoStrip_NoMany ?sx_NoStrip_Long ?sx_NoStrip_NothingLeft ?sx_NoCrease_FoldError ?sx_NoCrease_NoStrip ?sx_NoCrease_NoCrease ?sx_NoCrease_NoEnd ?sx_NoCrease_NoMany ?sx_NoCrease_Long ?sx_NoCrease_NothingLeft ?sx_NoEnd_FoldError ?sx_NoEnd_NoStrip ?sx_NoEnd_NoCrease ?sx_NoEnd_NoEnd ?sx_NoEnd_NoMany ?sx_NoEnd_Long ?sx_NoEnd_NothingLeft ?sx_NoMany_FoldError ?sx_NoMany_NoStrip ?sx_NoMany_NoCrease ?sx_NoMany_NoEnd ?sx_NoMany_NoMany ?sx_NoMany_Long ?sx_NoMany_NothingLeft ?sx_Long_FoldError ?sx_Long_NoStrip ?sx_Long_NoCrease ?sx_Long_NoEnd ?sx_Long_NoMany ?sx_Long_Long ?sx_Long_NothingLeft ?sx_NothingLeft_FoldError ?sx_NothingLeft_NoStrip ?sx_NothingLeft_NoCrease ?sx_NothingLeft_NoEnd ?sx_NothingLeft_NoMany ?sx_NothingLeft_Long ?sx_NothingLeft_NothingLeft ?cg_C_Kept ?ch_C_Kept ?cp_C_Kept ?cs_C_Kept ?cf_strips_C_Kept ?cf_rows_C_Kept ?ck_C_Kept ?cq_C_Kept ?cx_C_Kept ?ci_C_Kept ?cy_C_Kept ?c1_C_Kept ?c0_C_Kept ?ca_C_Kept ?cm_C_Kept ?en_exc ?et_exc
    (case z_all => k_is)
    (case z_bool => k_is)
    (case z_int => k_is)
    (case z_isinstance => k_is)
    (case z_len => k_is)
    (case z_list => k_is)
    (case z_max => k_is)
    (case z_min => k_is)
    (case z_range => k_is)
    (case z_str => k_is)
    (case z_zip => k_is)
    (case z_MOST => k_is)
    (case z_SIGNS => k_is)
    (case a_f11 => k_is)
    (case l_f11 => k_is)
    (case c_f11 => k_is)
    (case k_f11 => k_is)
    (case a_f12 => k_is)
    (case l_f12 => k_is)
    (case c_f12 => k_is)
    (case k_f12 => k_is)
    (case a_f13 => k_is)
    (case l_f13 => k_is)
    (case c_f13 => k_is)
    (case k_f13 => k_is)
    (case a_f14 => k_is)
    (case l_f14 => k_is)
    (case c_f14 => k_is)
    (case k_f14 => k_is)
    (case a_f15 => k_is)
    (case l_f15 => k_is)
    (case c_f15 => k_is)
    (case k_f15 => k_is)
    (case a_f16 => k_is)
    (case l_f16 => k_is)
    (case c_f16 => k_is)
    (case k_f16 => k_is)
    (case a_f18 => k_is)
    (case l_f18 => k_is)
    (case c_f18 => k_is)
    (case k_f18 => k_is)
    (case a_f20 => k_is)
    (case l_f20 => k_is)
    (case c_f20 => k_is)
    (case k_f20 => k_is)
    (case a_f22 => k_is)
    (case l_f22 => k_is)
    (case c_f22 => k_is)
    (case k_f22 => k_is)
    (case a_f26 => k_is)
    (case l_f26 => k_is)
    (case c_f26 => k_is)
    (case k_f26 => k_is)
    (case a_f27 => k_is)
    (case l_f27 => k_is)
    (case c_f27 => k_is)
    (case k_f27 => k_is)
    (case a_f28 => k_is)
    (case l_f28 => k_is)
    (case c_f28 => k_is)
    (case k_f28 => k_is)
    (case a_f29 => k_is)
    (case l_f29 => k_is)
    (case c_f29 => k_is)
    (case k_f29 => k_is)
    (case a_f30 => k_is)
    (case l_f30 => k_is)
    (case c_f30 => k_is)
    (case k_f30 => k_is)
    (case a_f31 => k_is)
    (case l_f31 => k_is)
    (case c_f31 => k_is)
    (case k_f31 => k_is)
    (case a_f32 => k_is)
    (case l_f32 => k_is)
    (case c_f32 => k_is)
    (case k_f32 => k_is)
    (case a_f33 => k_is)
    (case l_f33 => k_is)
    (case c_f33 => k_is)
    (case k_f33 => k_is)
    (case a_f34 => k_is)
    (case l_f34 => k_is)
    (case c_f34 => k_is)
    (case k_f34 => k_is)
    (case a_f35 => k_is)
    (case l_f35 => k_is)
    (case c_f35 => k_is)
    (case k_f35 => k_is)
    (case a_f36 => k_is)
    (case l_f36 => k_is)
    (case c_f36 => k_is)
    (case k_f36 => k_is)
    (case a_f37 => k_is)
    (case l_f37 => k_is)
    (case c_f37 => k_is)
    (case k_f37 => k_is)
    (case a_f38 => k_is)
    (case l_f38 => k_is)
    (case c_f38 => k_is)
    (case k_f38 => k_is)
    (case a_f39 => k_is)
    (case l_f39 => k_is)
    (case c_f39 => k_is)
    (case k_f39 => k_is)
    (case a_f40 => k_is)
    (case l_f40 => k_is)
    (case c_f40 => k_is)
    (case k_f40 => k_is)
    (case a_f41 => k_is)
    (case l_f41 => k_is)
    (case c_f41 => k_is)
    (case k_f41 => k_is)
    (case z_C_FoldError => k_is)
    (case k_C_FoldError => k_is)
    (case b_C_FoldError => k_is)
    (case t_C_FoldError => k_is)
    (case i_C_FoldError => k_is)
    (case s_C_FoldError => k_is)
    (case eg_C_FoldError => k_is)
    (case ek_C_FoldError => k_is)
    (case ed_C_FoldError => k_is)
    (case ea_C_FoldError => k_is)
    (case em_C_FoldError => k_is)
    (case z_C_NoStrip => k_is)
    (case k_C_NoStrip => k_is)
    (case b_C_NoStrip => k_is)
    (case t_C_NoStrip => k_is)
    (case i_C_NoStrip => k_is)
    (case s_C_NoStrip => k_is)
    (case eg_C_NoStrip => k_is)
    (case ek_C_NoStrip => k_is)
    (case ed_C_NoStrip => k_is)
    (case ea_C_NoStrip => k_is)
    (case em_C_NoStrip => k_is)
    (case z_C_NoCrease => k_is)
    (case k_C_NoCrease => k_is)
    (case b_C_NoCrease => k_is)
    (case t_C_NoCrease => k_is)
    (case i_C_NoCrease => k_is)
    (case s_C_NoCrease => k_is)
    (case eg_C_NoCrease => k_is)
    (case ek_C_NoCrease => k_is)
    (case ed_C_NoCrease => k_is)
    (case ea_C_NoCrease => k_is)
    (case em_C_NoCrease => k_is)
    (case z_C_NoEnd => k_is)
    (case k_C_NoEnd => k_is)
    (case b_C_NoEnd => k_is)
    (case t_C_NoEnd => k_is)
    (case i_C_NoEnd => k_is)
    (case s_C_NoEnd => k_is)
    (case eg_C_NoEnd => k_is)
    (case ek_C_NoEnd => k_is)
    (case ed_C_NoEnd => k_is)
    (case ea_C_NoEnd => k_is)
    (case em_C_NoEnd => k_is)
    (case z_C_NoMany => k_is)
    (case k_C_NoMany => k_is)
    (case b_C_NoMany => k_is)
    (case t_C_NoMany => k_is)
    (case i_C_NoMany => k_is)
    (case s_C_NoMany => k_is)
    (case eg_C_NoMany => k_is)
    (case ek_C_NoMany => k_is)
    (case ed_C_NoMany => k_is)
    (case ea_C_NoMany => k_is)
    (case em_C_NoMany => k_is)
    (case z_C_Long => k_is)
    (case k_C_Long => k_is)
    (case b_C_Long => k_is)
    (case t_C_Long => k_is)
    (case i_C_Long => k_is)
    (case s_C_Long => k_is)
    (case eg_C_Long => k_is)
    (case ek_C_Long => k_is)
    (case ed_C_Long => k_is)
    (case ea_C_Long => k_is)
    (case em_C_Long => k_is)
    (case z_C_NothingLeft => k_is)
    (case k_C_NothingLeft => k_is)
    (case b_C_NothingLeft => k_is)
    (case t_C_NothingLeft => k_is)
    (case i_C_NothingLeft => k_is)
    (case s_C_NothingLeft => k_is)
    (case eg_C_NothingLeft => k_is)
    (case ek_C_NothingLeft => k_is)
    (case ed_C_NothingLeft => k_is)
    (case ea_C_NothingLeft => k_is)
    (case em_C_NothingLeft => k_is)
    (case z_C_Kept => k_is)
    (case i_g24_0 => k_is)
    (case t_g24_0 => k_is)
    (case l_g24_0 => k_is)
    (case c_g24_0 => k_is)
    (case k_g24_0 => k_is)
    (case i_g24_1 => k_is)
    (case t_g24_1 => k_is)
    (case l_g24_1 => k_is)
    (case c_g24_1 => k_is)
    (case k_g24_1 => k_is)
    (case i_g24_2 => k_is)
    (case t_g24_2 => k_is)
    (case l_g24_2 => k_is)
    (case c_g24_2 => k_is)
    (case k_g24_2 => k_is)
    (case i_g24_3 => k_is)
    (case t_g24_3 => k_is)
    (case l_g24_3 => k_is)
    (case c_g24_3 => k_is)
    (case k_g24_3 => k_is)
    (case i_g24_4 => k_is)
    (case t_g24_4 => k_is)
    (case l_g24_4 => k_is)
    (case c_g24_4 => k_is)
    (case k_g24_4 => k_is)
    (case i_g24_5 => k_is)
    (case t_g24_5 => k_is)
    (case l_g24_5 => k_is)
    (case c_g24_5 => k_is)
    (case k_g24_5 => k_is)
    (case i_g24_6 => k_is)
    (case t_g24_6 => k_is)
    (case l_g24_6 => k_is)
    (case c_g24_6 => k_is)
    (case k_g24_6 => k_is)
    (case i_g24_7 => k_is)
    (case t_g24_7 => k_is)
    (case l_g24_7 => k_is)
    (case c_g24_7 => k_is)
    (case k_g24_7 => k_is)
    (case i_g24_8 => k_is)
    (case t_g24_8 => k_is)
    (case l_g24_8 => k_is)
    (case c_g24_8 => k_is)
    (case k_g24_8 => k_is)
    (case i_g24_9 => k_is)
    (case t_g24_9 => k_is)
    (case l_g24_9 => k_is)
    (case c_g24_9 => k_is)
    (case k_g24_9 => k_is)
    (case i_g24_10 => k_is)
    (case t_g24_10 => k_is)
    (case l_g24_10 => k_is)
    (case c_g24_10 => k_is)
    (case k_g24_10 => k_is)
    (case i_g24_11 => k_is)
    (case t_g24_11 => k_is)
    (case l_g24_11 => k_is)
    (case c_g24_11 => k_is)
    (case k_g24_11 => k_is)
    (case xe_FoldError => k_exc)
    (case xe_NoStrip => k_exc)
    (case xe_NoCrease => k_exc)
    (case xe_NoEnd => k_exc)
    (case xe_NoMany => k_exc)
    (case xe_Long => k_exc)
    (case xe_NothingLeft => k_exc)
    (case sx_FoldError_FoldError => k_is)
    (case sx_FoldError_NoStrip => k_is)
    (case sx_FoldError_NoCrease => k_is)
    (case sx_FoldError_NoEnd => k_is)
    (case sx_FoldError_NoMany => k_is)
    (case sx_FoldError_Long => k_is)
    (case sx_FoldError_NothingLeft => k_is)
    (case sx_NoStrip_FoldError => k_is)
    (case sx_NoStrip_NoStrip => k_is)
    (case sx_NoStrip_NoCrease => k_is)
    (case sx_NoStrip_NoEnd => k_is)
    (case sx_NoStrip_NoMany => k_is)
    (case sx_NoStrip_Long => k_is)
    (case sx_NoStrip_NothingLeft => k_is)
    (case sx_NoCrease_FoldError => k_is)
    (case sx_NoCrease_NoStrip => k_is)
    (case sx_NoCrease_NoCrease => k_is)
    (case sx_NoCrease_NoEnd => k_is)
    (case sx_NoCrease_NoMany => k_is)
    (case sx_NoCrease_Long => k_is)
    (case sx_NoCrease_NothingLeft => k_is)
    (case sx_NoEnd_FoldError => k_is)
    (case sx_NoEnd_NoStrip => k_is)
    (case sx_NoEnd_NoCrease => k_is)
    (case sx_NoEnd_NoEnd => k_is)
    (case sx_NoEnd_NoMany => k_is)
    (case sx_NoEnd_Long => k_is)
    (case sx_NoEnd_NothingLeft => k_is)
    (case sx_NoMany_FoldError => k_is)
    (case sx_NoMany_NoStrip => k_is)
    (case sx_NoMany_NoCrease => k_is)
    (case sx_NoMany_NoEnd => k_is)
    (case sx_NoMany_NoMany => k_is)
    (case sx_NoMany_Long => k_is)
    (case sx_NoMany_NothingLeft => k_is)
    (case sx_Long_FoldError => k_is)
    (case sx_Long_NoStrip => k_is)
    (case sx_Long_NoCrease => k_is)
    (case sx_Long_NoEnd => k_is)
    (case sx_Long_NoMany => k_is)
    (case sx_Long_Long => k_is)
    (case sx_Long_NothingLeft => k_is)
    (case sx_NothingLeft_FoldError => k_is)
    (case sx_NothingLeft_NoStrip => k_is)
    (case sx_NothingLeft_NoCrease => k_is)
    (case sx_NothingLeft_NoEnd => k_is)
    (case sx_NothingLeft_NoMany => k_is)
    (case sx_NothingLeft_Long => k_is)
    (case sx_NothingLeft_NothingLeft => k_is)
    (case cg_C_Kept => k_is)
    (case ch_C_Kept => k_is)
    (case cp_C_Kept => k_is)
    (case cs_C_Kept => k_is)
    (case cf_strips_C_Kept => k_is)
    (case cf_rows_C_Kept => k_is)
    (case ck_C_Kept => k_is)
    (case cq_C_Kept => k_is)
    (case cx_C_Kept => k_is)
    (case ci_C_Kept => k_is)
    (case cy_C_Kept => k_is)
    (case c1_C_Kept => k_is)
    (case c0_C_Kept => k_is)
    (case ca_C_Kept => k_is)
    (case cm_C_Kept => k_is)
    (case en_exc => k_is)
    (case et_exc => k_is)
#print axioms PySem.Challenge.cw_likefolds_k10_whole_a_strip_kept_fold_by_holds
