import PyProof.Rows.All
import Wide.All
import OpenK.AllK
import Wide.FinOn
import HandS.ForMost
import HandS.More
import HandS.Style
import HandS.Codes
import HandS.IsInst
import PyProof.Rows.SortShellAny
import PyProof.Rows.StrRev
import PyProof.Rows.StrMeet
import HandS.DictComp
import HandS.Comp
import HandS.Dict
import HandS.Iter
import HandS.List
import HandS.Walk
import HandS.IsInst
import HandS.Flow
import KE.DataMinMax
import PyProof.StrOps2
import HandS.ExcIs
import HandS.ExcInit
import HandS.ClsMeth
import HandS.ExcOwn
import KE.KExcIs
import HandS.Conv
import HandS.Text
import HandS.Exc
import HandS.WordsExc
import KE.KSortKey
import PyProof.Rows.CallKwBuiltin
import HandS.Set
import HandS.SetFor
import HandS.TupSets
import HandS.Replace
import HandS.Zip
import PyProof.Draws
import PyProof.EnumMake
import PyProof.EnumFor
import HandS.Strs
import PySem.Challenge.RW_likefolds_k09_whole_turned_about_and_oth
set_option Elab.async false
set_option linter.all false
set_option maxRecDepth 100000
set_option maxHeartbeats 4000000
/-! The mathematics of strips: folding, confluence, least strips. Plain lists of numbers. -/
namespace Fo
abbrev L := List Nat
/-- cells of the shorter side lie on like signs -/
def Lies (s : L) (c : Nat) : Prop := ∀ i, i < c → c + i < s.length → s[c - 1 - i]? = s[c + i]?
instance (s : L) (c : Nat) : Decidable (Lies s c) :=
  decidable_of_iff (∀ i, i < s.length → (i < c → c + i < s.length → s[c - 1 - i]? = s[c + i]?)) (by
    constructor
    · intro h i h1 h2
      exact h i (by omega) h1 h2
    · intro h i _ h1 h2
      exact h i h1 h2)
def Cr (s : L) (c : Nat) : Prop := 1 ≤ c ∧ c < s.length ∧ Lies s c
instance (s : L) (c : Nat) : Decidable (Cr s c) := by unfold Cr; infer_instance
def left (s : L) (c : Nat) : L := if 2 * c ≤ s.length then s.drop c else s.take c
def creases (s : L) : List Nat := (List.range' 1 (s.length - 1)).filter fun c => decide (Lies s c)
theorem mem_creases {s : L} {c : Nat} : c ∈ creases s ↔ Cr s c := by
  unfold creases Cr
  rw [List.mem_filter, List.mem_range'_1, decide_eq_true_eq]
  constructor
  · rintro ⟨⟨h1, h2⟩, h3⟩
    exact ⟨h1, by omega, h3⟩
  · rintro ⟨h1, h2, h3⟩
    exact ⟨⟨h1, by omega⟩, h3⟩
theorem left_len {s : L} {c : Nat} (h : Cr s c) : (left s c).length < s.length ∧ 1 ≤ (left s c).length := by
  obtain ⟨h1, h2, _⟩ := h
  unfold left
  split
  · rw [List.length_drop]; omega
  · rw [List.length_take]; omega
/-- t comes of s by folds -/
inductive Comes : L → L → Prop
  | refl (s : L) : Comes s s
  | step {s t : L} {c : Nat} : Cr s c → Comes (left s c) t → Comes s t
theorem Comes.trans {s t u : L} (a : Comes s t) (b : Comes t u) : Comes s u := by
  induction a with
  | refl => exact b
  | step h _ ih => exact .step h (ih b)
theorem Comes.one {s : L} {c : Nat} (h : Cr s c) : Comes s (left s c) := .step h (.refl _)
theorem Comes.len {s t : L} (a : Comes s t) : t.length ≤ s.length := by
  induction a with
  | refl => exact Nat.le_refl _
  | step h _ ih => have := (left_len h).1; omega
theorem Comes.pos {s t : L} (a : Comes s t) (h : 1 ≤ s.length) : 1 ≤ t.length := by
  induction a with
  | refl => exact h
  | step hc _ ih => exact ih (left_len hc).2
theorem left_mem {s : L} {c x : Nat} (h : x ∈ left s c) : x ∈ s := by
  unfold left at h
  split at h
  · exact List.mem_of_mem_drop h
  · exact List.mem_of_mem_take h
theorem Comes.mem {s t : L} (a : Comes s t) {x : Nat} (h : x ∈ t) : x ∈ s := by
  induction a with
  | refl => exact h
  | step _ _ ih => exact left_mem (ih h)
/-- least: no crease -/
def NF (s : L) : Prop := ∀ c, ¬ Cr s c
theorem nf_iff {s : L} : NF s ↔ creases s = [] := by
  constructor
  · intro h
    apply List.eq_nil_iff_forall_not_mem.mpr
    intro c hc
    exact h c (mem_creases.mp hc)
  · intro h c hc
    have := mem_creases.mpr hc
    rw [h] at this
    cases this
theorem nf_comes {s t : L} (h : NF s) (a : Comes s t) : t = s := by
  cases a with
  | refl => rfl
  | step h' _ => exact absurd h' (h _)

/-! ### turned about -/
theorem get_rev {s : L} {i : Nat} (h : i < s.length) : s.reverse[i]? = s[s.length - 1 - i]? := List.getElem?_reverse h
theorem cr_rev {s : L} {c : Nat} (h : Cr s c) : Cr s.reverse (s.length - c) := by
  obtain ⟨h1, h2, h3⟩ := h
  refine ⟨by omega, by rw [List.length_reverse]; omega, fun i hi hj => ?_⟩
  rw [List.length_reverse] at hj
  rw [get_rev (by omega), get_rev (by omega)]
  have := h3 i (by omega) (by omega)
  have e1 : s.length - 1 - (s.length - c - 1 - i) = c + i := by omega
  have e2 : s.length - 1 - (s.length - c + i) = c - 1 - i := by omega
  rw [e1, e2, this]
theorem cr_rev_iff {s : L} {c : Nat} (h1 : 1 ≤ c) (h2 : c < s.length) : Cr s.reverse c ↔ Cr s (s.length - c) := by
  constructor
  · intro h
    have := cr_rev h
    rw [List.reverse_reverse, List.length_reverse] at this
    exact this
  · intro h
    have := cr_rev h
    have e : s.length - (s.length - c) = c := by omega
    rw [e] at this
    exact this
theorem left_rev {s : L} {c : Nat} (h : Cr s c) : left s.reverse (s.length - c) = (left s c).reverse ∨ left s.reverse (s.length - c) = left s c := by
  obtain ⟨h1, h2, h3⟩ := h
  unfold left
  rw [List.length_reverse]
  by_cases hm : 2 * c = s.length
  · right
    rw [if_pos (by omega), if_pos (by omega)]
    apply List.ext_getElem?
    intro i
    rw [List.getElem?_drop, List.getElem?_drop]
    by_cases hi : c + i < s.length
    · have := h3 i (by omega) hi
      rw [get_rev (by omega), ← this]
      congr 1
      omega
    · rw [List.getElem?_eq_none (by rw [List.length_reverse]; omega), List.getElem?_eq_none (by omega)]
  · left
    by_cases hc : 2 * c ≤ s.length
    · rw [if_pos hc, if_neg (by omega), List.reverse_drop]
    · rw [if_neg hc, if_pos (by omega), List.reverse_take]
theorem left_rev_ne {s : L} {c : Nat} (h2 : c < s.length) (hm : 2 * c ≠ s.length) : left s.reverse (s.length - c) = (left s c).reverse := by
  unfold left
  rw [List.length_reverse]
  by_cases hc : 2 * c ≤ s.length
  · rw [if_pos hc, if_neg (by omega), List.reverse_drop]
  · rw [if_neg hc, if_pos (by omega), List.reverse_take]
theorem nf_rev {s : L} (h : NF s) : NF s.reverse := fun c hc => by
  have := cr_rev hc
  rw [List.reverse_reverse] at this
  exact h _ this
/-- alike: the same, or turned about -/
def Al (s t : L) : Prop := t = s ∨ t = s.reverse
theorem Al.refl (s : L) : Al s s := .inl rfl
theorem Al.symm {s t : L} (h : Al s t) : Al t s := by
  rcases h with rfl | rfl
  · exact .inl rfl
  · exact .inr (List.reverse_reverse _).symm
theorem Al.trans {s t u : L} (a : Al s t) (b : Al t u) : Al s u := by
  rcases a with rfl | rfl
  · exact b
  · rcases b with rfl | rfl
    · exact .inr rfl
    · exact .inl (List.reverse_reverse _)
theorem Al.rev {s t : L} (h : Al s t) : Al s t.reverse := h.trans (.inr rfl)
theorem Al.len {s t : L} (h : Al s t) : t.length = s.length := by
  rcases h with rfl | rfl
  · rfl
  · exact List.length_reverse
theorem Al.nf {s t : L} (h : Al s t) (n : NF s) : NF t := by
  rcases h with rfl | rfl
  · exact n
  · exact nf_rev n
theorem Al.mem {s t : L} (h : Al s t) {x : Nat} : x ∈ t ↔ x ∈ s := by
  rcases h with rfl | rfl
  · exact Iff.rfl
  · exact List.mem_reverse
/-- what is alike comes to alike -/
theorem Comes.al {s t s' : L} (a : Comes s t) : Al s s' → ∃ t', Comes s' t' ∧ Al t t' := by
  induction a generalizing s' with
  | refl s => exact fun h => ⟨s', .refl _, h⟩
  | @step s t c h _ ih =>
    intro e
    rcases e with rfl | rfl
    · obtain ⟨t', h1, h2⟩ := ih (.inl rfl)
      exact ⟨t', .step h h1, h2⟩
    · rcases left_rev h with e | e
      · obtain ⟨t', h1, h2⟩ := ih (.inr rfl)
        exact ⟨t', .step (cr_rev h) (by rw [e]; exact h1), h2⟩
      · obtain ⟨t', h1, h2⟩ := ih (.inl rfl)
        exact ⟨t', .step (cr_rev h) (by rw [e]; exact h1), h2⟩

/-! ### to and fro -/
/-- r is m turned about again and again, cut somewhere behind the first whole one -/
structure TF (m r : L) : Prop where
  len : m.length ≤ r.length
  a : ∀ i, i < m.length → r[i]? = m[i]?
  b : ∀ i, m.length ≤ i → i < 2 * m.length → i < r.length → r[i]? = r[2 * m.length - 1 - i]?
  c : ∀ i, 2 * m.length ≤ i → i < r.length → r[i]? = r[i - 2 * m.length]?
theorem TF.comes {m : L} (hm : 1 ≤ m.length) : ∀ (n : Nat) {m r : L}, r.length ≤ n → 1 ≤ m.length → TF m r → ∃ t, Comes r t ∧ Al m t := by
  intro n
  induction n with
  | zero =>
    intro m r h h1 t
    have := t.len
    omega
  | succ n ih =>
    intro m r hn h1 t
    have hl := t.len
    by_cases he : r.length = m.length
    · refine ⟨r, .refl _, .inl ?_⟩
      apply List.ext_getElem?
      intro i
      by_cases hi : i < m.length
      · exact t.a i hi
      · rw [List.getElem?_eq_none (by omega), List.getElem?_eq_none (by omega)]
    · have hc : Cr r m.length := by
        refine ⟨h1, by omega, fun i hi hj => ?_⟩
        have := t.b (m.length + i) (by omega) (by omega) hj
        rw [this]
        congr 1
        omega
      by_cases h2 : 2 * m.length ≤ r.length
      · have e : left r m.length = r.drop m.length := by unfold left; rw [if_pos h2]
        have t' : TF m.reverse (r.drop m.length) := by
          refine ⟨by rw [List.length_reverse, List.length_drop]; omega, fun i hi => ?_, fun i h3 h4 h5 => ?_, fun i h3 h4 => ?_⟩
          · rw [List.length_reverse] at hi
            rw [List.getElem?_drop, get_rev hi, ← t.a _ (by omega), t.b _ (by omega) (by omega) (by omega)]
            congr 1
            omega
          · rw [List.length_reverse] at h3 h4
            rw [List.length_drop] at h5
            rw [List.length_reverse, List.getElem?_drop, List.getElem?_drop, t.c _ (by omega) (by omega), t.b _ (by omega : m.length ≤ m.length + (2 * m.length - 1 - i)) (by omega) (by omega)]
            congr 1
            omega
          · rw [List.length_reverse] at h3
            rw [List.length_drop] at h4
            rw [List.length_reverse, List.getElem?_drop, List.getElem?_drop, t.c _ (by omega) (by omega)]
            congr 1
            omega
        obtain ⟨u, c1, c2⟩ := ih (by rw [List.length_drop]; omega) (by rw [List.length_reverse]; exact h1) t'
        refine ⟨u, .step hc (by rw [e]; exact c1), Al.trans (.inr rfl) c2⟩
      · have e : left r m.length = r.take m.length := by unfold left; rw [if_neg h2]
        refine ⟨r.take m.length, .step hc (by rw [e]; exact .refl _), .inl ?_⟩
        apply List.ext_getElem?
        intro i
        by_cases hi : i < m.length
        · rw [List.getElem?_take_of_lt hi, t.a i hi]
        · rw [List.getElem?_eq_none (by rw [List.length_take]; omega), List.getElem?_eq_none (by omega)]
theorem TF.to {m r : L} (hm : 1 ≤ m.length) (t : TF m r) : ∃ u, Comes r u ∧ Al m u := TF.comes hm r.length (Nat.le_refl _) hm t

/-! ### two creases -/
theorem loc {s : L} {c d : Nat} (hc : Cr s c) (hd : Cr s d) (hcd : c < d) : ∃ v w, Comes (left s c) v ∧ Comes (left s d) w ∧ Al v w := by
  obtain ⟨c1, c2, c3⟩ := hc
  obtain ⟨d1, d2, d3⟩ := hd
  by_cases h2d : 2 * d ≤ s.length
  · -- both keep the right
    have e1 : left s c = s.drop c := by unfold left; rw [if_pos (by omega)]
    have e2 : left s d = s.drop d := by unfold left; rw [if_pos h2d]
    rw [e1, e2]
    have k : Cr (s.drop c) (d - c) := by
      refine ⟨by omega, by rw [List.length_drop]; omega, fun i hi hj => ?_⟩
      rw [List.length_drop] at hj
      rw [List.getElem?_drop, List.getElem?_drop]
      have := d3 i (by omega) (by omega)
      have q1 : c + (d - c - 1 - i) = d - 1 - i := by omega
      have q2 : c + (d - c + i) = d + i := by omega
      rw [q1, q2, this]
    have e3 : left (s.drop c) (d - c) = s.drop d := by
      unfold left
      rw [if_pos (by rw [List.length_drop]; omega), List.drop_drop]
      congr 1
      omega
    exact ⟨s.drop d, s.drop d, .step k (by rw [e3]; exact .refl _), .refl _, .refl _⟩
  · have e2 : left s d = s.take d := by unfold left; rw [if_neg h2d]
    rw [e2]
    by_cases h2c : 2 * c ≤ s.length
    · have e1 : left s c = s.drop c := by unfold left; rw [if_pos h2c]
      rw [e1]
      -- the middle part
      have hb : ((s.drop c).take (d - c)).length = d - c := by rw [List.length_take, List.length_drop]; omega
      have mid : ∀ i, i < d - c → ((s.drop c).take (d - c))[i]? = s[c + i]? := fun i hi => by
        rw [List.getElem?_take_of_lt hi, List.getElem?_drop]
      generalize hm : (s.drop c).take (d - c) = m at hb mid
      -- both come to the middle, or it turned about
      have A : ∃ v, Comes (s.drop c) v ∧ Al m v := by
        have k : Cr (s.drop c) (d - c) := by
          refine ⟨by omega, by rw [List.length_drop]; omega, fun i hi hj => ?_⟩
          rw [List.length_drop] at hj
          rw [List.getElem?_drop, List.getElem?_drop]
          have := d3 i (by omega) (by omega)
          have q1 : c + (d - c - 1 - i) = d - 1 - i := by omega
          have q2 : c + (d - c + i) = d + i := by omega
          rw [q1, q2, this]
        by_cases hh : 2 * (d - c) ≤ s.length - c
        · have e3 : left (s.drop c) (d - c) = s.drop d := by
            unfold left
            rw [if_pos (by rw [List.length_drop]; omega), List.drop_drop]
            congr 1
            omega
          have t : TF m.reverse (s.drop d) := by
            refine ⟨by rw [List.length_reverse, List.length_drop, hb]; omega, fun i hi => ?_, fun i h3 h4 h5 => ?_, fun i h3 h4 => ?_⟩
            · rw [List.length_reverse, hb] at hi
              rw [List.getElem?_drop, get_rev (by omega), mid _ (by omega), ← d3 i (by omega) (by omega)]
              congr 1
              omega
            · rw [List.length_reverse, hb] at h3 h4
              rw [List.length_drop] at h5
              rw [List.length_reverse, hb, List.getElem?_drop, List.getElem?_drop, ← d3 i (by omega) (by omega)]
              have q1 : d - 1 - i = c - 1 - (i - (d - c)) := by omega
              rw [q1, c3 _ (by omega) (by omega), ← d3 (2 * (d - c) - 1 - i) (by omega) (by omega)]
              congr 1
              omega
            · rw [List.length_reverse, hb] at h3
              rw [List.length_drop] at h4
              rw [List.length_reverse, hb, List.getElem?_drop, List.getElem?_drop, ← d3 i (by omega) (by omega)]
              have q1 : d - 1 - i = c - 1 - (i - (d - c)) := by omega
              rw [q1, c3 _ (by omega) (by omega)]
              congr 1
              omega
          obtain ⟨u, q1, q2⟩ := t.to (by rw [List.length_reverse, hb]; omega)
          exact ⟨u, .step k (by rw [e3]; exact q1), Al.trans (.inr rfl) q2⟩
        · have e3 : left (s.drop c) (d - c) = m := by
            unfold left
            rw [if_neg (by rw [List.length_drop]; omega), hm]
          exact ⟨m, .step k (by rw [e3]; exact .refl _), .refl _⟩
      have B : ∃ w, Comes (s.take d) w ∧ Al m w := by
        have k : Cr (s.take d) c := by
          refine ⟨by omega, by rw [List.length_take]; omega, fun i hi hj => ?_⟩
          rw [List.length_take] at hj
          rw [List.getElem?_take_of_lt (by omega), List.getElem?_take_of_lt (by omega)]
          exact c3 i hi (by omega)
        by_cases hh : 2 * c ≤ d
        · have e3 : left (s.take d) c = m := by
            unfold left
            rw [if_pos (by rw [List.length_take]; omega), ← hm, List.drop_take]
          exact ⟨m, .step k (by rw [e3]; exact .refl _), .refl _⟩
        · have e3 : left (s.take d) c = s.take c := by
            unfold left
            rw [if_neg (by rw [List.length_take]; omega), List.take_take]
            congr 1
            omega
          have pr : ∀ i, i < c → (s.take c).reverse[i]? = s[c + i]? := fun i hi => by
            rw [get_rev (by rw [List.length_take]; omega), List.length_take, List.getElem?_take_of_lt (by omega), ← c3 i hi (by omega)]
            congr 1
            omega
          have hlr : (s.take c).reverse.length = c := by rw [List.length_reverse, List.length_take]; omega
          have t : TF m (s.take c).reverse := by
            refine ⟨by rw [hlr, hb]; omega, fun i hi => ?_, fun i h3 h4 h5 => ?_, fun i h3 h4 => ?_⟩
            · rw [hb] at hi
              rw [pr i (by omega), mid i hi]
            · rw [hb] at h3 h4
              rw [hlr] at h5
              rw [hb, pr i h5, pr _ (by omega)]
              have q1 : c + i = d + (i - (d - c)) := by omega
              rw [q1, ← d3 _ (by omega) (by omega)]
              congr 1
              omega
            · rw [hb] at h3
              rw [hlr] at h4
              rw [hb, pr i h4, pr _ (by omega)]
              have q1 : c + i = d + (i - (d - c)) := by omega
              rw [q1, ← d3 _ (by omega) (by omega)]
              have q2 : d - 1 - (i - (d - c)) = c - 1 - (i - 2 * (d - c)) := by omega
              rw [q2, c3 _ (by omega) (by omega)]
          obtain ⟨u, q1, q2⟩ := t.to (by omega)
          obtain ⟨u', q3, q4⟩ := q1.al (s' := s.take c) (.inr (List.reverse_reverse _).symm)
          exact ⟨u', .step k (by rw [e3]; exact q3), q2.trans q4⟩
      obtain ⟨v, v1, v2⟩ := A
      obtain ⟨w, w1, w2⟩ := B
      exact ⟨v, w, v1, w1, v2.symm.trans w2⟩
    · -- both keep the left
      have e1 : left s c = s.take c := by unfold left; rw [if_neg h2c]
      rw [e1]
      have k : Cr (s.take d) c := by
        refine ⟨by omega, by rw [List.length_take]; omega, fun i hi hj => ?_⟩
        rw [List.length_take] at hj
        rw [List.getElem?_take_of_lt (by omega), List.getElem?_take_of_lt (by omega)]
        exact c3 i hi (by omega)
      have e3 : left (s.take d) c = s.take c := by
        unfold left
        rw [if_neg (by rw [List.length_take]; omega), List.take_take]
        congr 1
        omega
      exact ⟨s.take c, s.take c, .refl _, .step k (by rw [e3]; exact .refl _), .refl _⟩

/-! ### the least strip -/
theorem has_nf : ∀ (n : Nat) (s : L), s.length ≤ n → ∃ t, Comes s t ∧ NF t := by
  intro n
  induction n with
  | zero =>
    intro s h
    exact ⟨s, .refl _, fun c hc => by have := hc.1; have := hc.2.1; omega⟩
  | succ n ih =>
    intro s h
    by_cases hs : ∃ c, Cr s c
    · obtain ⟨c, hc⟩ := hs
      have := (left_len hc).1
      obtain ⟨t, h1, h2⟩ := ih (left s c) (by omega)
      exact ⟨t, .step hc h1, h2⟩
    · exact ⟨s, .refl _, fun c hc => hs ⟨c, hc⟩⟩
theorem uniq_aux : ∀ (n : Nat) (s : L), s.length ≤ n → ∀ t u, Comes s t → NF t → Comes s u → NF u → Al t u := by
  intro n
  induction n with
  | zero =>
    intro s h t u a _ b _
    have hs : NF s := fun c hc => by have := hc.1; have := hc.2.1; omega
    rw [nf_comes hs a, nf_comes hs b]
    exact .refl _
  | succ n ih =>
    intro s h t u a nt b nu
    cases a with
    | refl => rw [nf_comes nt b]; exact .refl _
    | @step _ _ c hc a =>
      cases b with
      | refl => exact absurd hc (nu c)
      | @step _ _ d hd b =>
        have lc := (left_len hc).1
        have ld := (left_len hd).1
        have key : ∃ v w, Comes (left s c) v ∧ Comes (left s d) w ∧ Al v w := by
          rcases Nat.lt_trichotomy c d with g | g | g
          · exact loc hc hd g
          · subst g
            exact ⟨_, _, .refl _, .refl _, .refl _⟩
          · obtain ⟨v, w, h1, h2, h3⟩ := loc hd hc g
            exact ⟨w, v, h2, h1, h3.symm⟩
        obtain ⟨v, w, h1, h2, h3⟩ := key
        obtain ⟨x, x1, x2⟩ := has_nf w.length w (Nat.le_refl _)
        obtain ⟨x', y1, y2⟩ := x1.al h3.symm
        have p1 : Al t x' := ih (left s c) (by omega) t x' a nt (h1.trans y1) (y2.nf x2)
        have p2 : Al x u := ih (left s d) (by omega) x u (h2.trans x1) x2 b nu
        exact (p1.trans y2.symm).trans p2
/-- whatever is folded first: the same, or turned about -/
theorem uniq {s t u : L} (a : Comes s t) (nt : NF t) (b : Comes s u) (nu : NF u) : Al t u := uniq_aux s.length s (Nat.le_refl _) t u a nt b nu
end Fo


namespace Fo
/-- r comes to l, or to it turned about -/
def Up (r l : L) : Prop := ∃ t, Comes r t ∧ Al l t
theorem Up.refl (l : L) : Up l l := ⟨l, .refl l, .refl l⟩
theorem Up.trans {a b c : L} (h : Up a b) (k : Up b c) : Up a c := by
  obtain ⟨t, t1, t2⟩ := h
  obtain ⟨u, u1, u2⟩ := k
  obtain ⟨v, v1, v2⟩ := u1.al t2
  exact ⟨v, t1.trans v1, u2.trans v2⟩
theorem unf_left {l : L} {k : Nat} (h1 : 1 ≤ k) (h2 : k ≤ l.length) : Cr ((l.take k).reverse ++ l) k ∧ left ((l.take k).reverse ++ l) k = l := by
  have hl : ((l.take k).reverse).length = k := by rw [List.length_reverse, List.length_take]; omega
  refine ⟨⟨h1, by rw [List.length_append, hl]; omega, fun i hi hj => ?_⟩, ?_⟩
  · rw [List.length_append, hl] at hj
    rw [List.getElem?_append_left (by omega), List.getElem?_append_right (by omega), hl, get_rev (by rw [List.length_take]; omega), List.length_take, List.getElem?_take_of_lt (by omega)]
    congr 1
    omega
  · unfold left
    rw [if_pos (by rw [List.length_append, hl]; omega), List.drop_append_of_le_length (by omega), List.drop_of_length_le (by omega), List.nil_append]
theorem unf_right {l : L} {k : Nat} (h1 : 1 ≤ k) (h2 : k ≤ l.length) : Cr (l ++ (l.drop (l.length - k)).reverse) l.length ∧ (k < l.length → left (l ++ (l.drop (l.length - k)).reverse) l.length = l) ∧ Al l (left (l ++ (l.drop (l.length - k)).reverse) l.length) := by
  have hl : ((l.drop (l.length - k)).reverse).length = k := by rw [List.length_reverse, List.length_drop]; omega
  refine ⟨⟨by omega, by rw [List.length_append, hl]; omega, fun i hi hj => ?_⟩, fun hk => ?_, ?_⟩
  · rw [List.length_append, hl] at hj
    rw [List.getElem?_append_left (by omega), List.getElem?_append_right (by omega), get_rev (by rw [List.length_drop]; omega), List.length_drop, List.getElem?_drop]
    congr 1
    omega
  · unfold left
    rw [if_neg (by rw [List.length_append, hl]; omega), List.take_append_of_le_length (by omega), List.take_length]
  · unfold left
    by_cases hk : k = l.length
    · rw [if_pos (by rw [List.length_append, hl]; omega), List.drop_append_of_le_length (by omega), List.drop_length, List.nil_append]
      right
      congr 1
      rw [hk, Nat.sub_self, List.drop_zero]
    · rw [if_neg (by rw [List.length_append, hl]; omega), List.take_append_of_le_length (by omega), List.take_length]
      exact .refl _
theorem up_left {l : L} {k : Nat} (h1 : 1 ≤ k) (h2 : k ≤ l.length) : Up ((l.take k).reverse ++ l) l := by
  obtain ⟨a, b⟩ := unf_left h1 h2
  exact ⟨l, .step a (by rw [b]; exact .refl _), .refl _⟩
theorem up_right {l : L} {k : Nat} (h1 : 1 ≤ k) (h2 : k ≤ l.length) : Up (l ++ (l.drop (l.length - k)).reverse) l := by
  obtain ⟨a, _, b⟩ := unf_right h1 h2
  exact ⟨_, .one a, b⟩
/-- all signs are a, b, c or d -/
def Sg (l : L) : Prop := ∀ c ∈ l, 97 ≤ c ∧ c ≤ 100
theorem Sg.rev {l : L} (h : Sg l) : Sg l.reverse := fun c hc => h c (List.mem_reverse.mp hc)
theorem Sg.app {l m : L} (h : Sg l) (k : Sg m) : Sg (l ++ m) := fun c hc => by
  rcases List.mem_append.mp hc with e | e
  · exact h c e
  · exact k c e
theorem Sg.take {l : L} (h : Sg l) (n : Nat) : Sg (l.take n) := fun c hc => h c (List.mem_of_mem_take hc)
theorem Sg.drop {l : L} (h : Sg l) (n : Nat) : Sg (l.drop n) := fun c hc => h c (List.mem_of_mem_drop hc)
theorem Sg.comes {s t : L} (h : Sg s) (a : Comes s t) : Sg t := fun c hc => h c (a.mem hc)

/-! ### the least strip, told -/
def nfAux : Nat → L → L
  | 0, s => s
  | n + 1, s => match creases s with
    | [] => s
    | c :: _ => nfAux n (left s c)
theorem nfAux_ok : ∀ (n : Nat) (s : L), s.length ≤ n → Comes s (nfAux n s) ∧ NF (nfAux n s)
  | 0, s, h => ⟨.refl s, fun c hc => by have := hc.1; have : c < s.length := hc.2.1; omega⟩
  | n + 1, s, h => by
    unfold nfAux
    cases e : creases s with
    | nil => exact ⟨.refl s, nf_iff.mpr e⟩
    | cons c r =>
      have hc : Cr s c := mem_creases.mp (by rw [e]; exact List.mem_cons_self ..)
      have := (left_len hc).1
      obtain ⟨a, b⟩ := nfAux_ok n (left s c) (by omega)
      exact ⟨.step hc a, b⟩
def nf (s : L) : L := nfAux s.length s
theorem nf_ok (s : L) : Comes s (nf s) ∧ NF (nf s) := nfAux_ok s.length s (Nat.le_refl _)
def minL (a b : L) : L := if b < a then b else a
theorem minL_comm (a b : L) : minL a b = minL b a := by
  unfold minL
  by_cases h1 : b < a
  · rw [if_pos h1, if_neg (List.lt_asymm h1)]
  · by_cases h2 : a < b
    · rw [if_neg h1, if_pos h2]
    · rw [if_neg h1, if_neg h2]
      exact List.le_antisymm (List.not_lt.mp h1) (List.not_lt.mp h2)
theorem minL_al (a : L) : Al a (minL a a.reverse) := by
  unfold minL
  split
  · exact .inr rfl
  · exact .inl rfl
theorem minL_of_al {a b : L} (h : Al a b) : minL a a.reverse = minL b b.reverse := by
  rcases h with rfl | rfl
  · rfl
  · rw [List.reverse_reverse, minL_comm]
def least (s : L) : L := minL (nf s) (nf s).reverse
theorem least_al (s : L) : Al (nf s) (least s) := minL_al _
theorem least_nf (s : L) : NF (least s) := (least_al s).nf (nf_ok s).2
theorem least_le (s : L) : minL (least s) (least s).reverse = least s := (minL_of_al (least_al s)).symm
theorem least_of {s t : L} (a : Comes s t) (n : NF t) : least s = minL t t.reverse := minL_of_al (uniq (nf_ok s).1 (nf_ok s).2 a n)
theorem al_least {s t : L} (a : Comes s t) (n : NF t) : Al (least s) t := (least_al s).symm.trans (uniq (nf_ok s).1 (nf_ok s).2 a n)
theorem least_comes {s t : L} (a : Comes s t) : least t = least s := by
  rw [least_of (a.trans (nf_ok t).1) (nf_ok t).2]
  rfl
theorem least_of_al {s t : L} (h : Al s t) : least s = least t := by
  obtain ⟨u, u1, u2⟩ := (nf_ok s).1.al h
  rw [least_of u1 (u2.nf (nf_ok s).2), ← minL_of_al u2]
  rfl
theorem least_up {r l : L} (h : Up r l) : least r = least l := by
  obtain ⟨t, a, b⟩ := h
  rw [← least_comes a, least_of_al b]
theorem least_rev (s : L) : least s.reverse = least s := (least_of_al (.inr rfl)).symm
/-- s comes to its least strip, or to it turned about -/
theorem to_least (s : L) : Up s (least s) := ⟨nf s, (nf_ok s).1, (least_al s).symm⟩
theorem nf_least {s : L} (h : NF s) : least s = minL s s.reverse := least_of (.refl s) h
theorem least_least (s : L) : least (least s) = least s := by rw [nf_least (least_nf s), least_le]
theorem least_mem {s : L} {x : Nat} (h : x ∈ least s) : x ∈ s := (nf_ok s).1.mem ((least_al s).mem.mp h)
theorem least_len (s : L) : (least s).length ≤ s.length := by rw [(least_al s).len]; exact (nf_ok s).1.len
theorem least_pos {s : L} (h : 1 ≤ s.length) : 1 ≤ (least s).length := by rw [(least_al s).len]; exact (nf_ok s).1.pos h
theorem Sg.least {s : L} (h : Sg s) : Sg (least s) := fun c hc => h c (least_mem hc)
end Fo

namespace Fo
theorem lies_rev_iff {l : L} {c : Nat} (h1 : 1 ≤ c) (h2 : c < l.length) :
    (l.drop (c - min c (l.length - c))).take (c - (c - min c (l.length - c))) = ((l.drop c).take (c + min c (l.length - c) - c)).reverse ↔ Lies l c := by
  generalize hr : min c (l.length - c) = r
  have hr1 : r ≤ c := by omega
  have hr2 : c + r ≤ l.length := by omega
  have e1 : c - (c - r) = r := by omega
  have e2 : c + r - c = r := by omega
  rw [e1, e2]
  have hl : ((l.drop c).take r).length = r := by rw [List.length_take, List.length_drop]; omega
  have A : ∀ i, i < r → ((l.drop (c - r)).take r)[i]? = l[c - r + i]? := fun i hi => by
    rw [List.getElem?_take_of_lt hi, List.getElem?_drop]
  have B : ∀ i, i < r → (((l.drop c).take r).reverse)[i]? = l[c + (r - 1 - i)]? := fun i hi => by
    rw [get_rev (by omega), hl, List.getElem?_take_of_lt (by omega), List.getElem?_drop]
  constructor
  · intro h i hi hj
    have hir : i < r := by omega
    have z := A (r - 1 - i) (by omega)
    rw [h, B (r - 1 - i) (by omega)] at z
    have q1 : c + (r - 1 - (r - 1 - i)) = c + i := by omega
    have q2 : c - r + (r - 1 - i) = c - 1 - i := by omega
    rw [q1, q2] at z
    exact z.symm
  · intro h
    apply List.ext_getElem?
    intro i
    by_cases hi : i < r
    · rw [A i hi, B i hi]
      have z := h (r - 1 - i) (by omega) (by omega)
      have q1 : c - 1 - (r - 1 - i) = c - r + i := by omega
      rw [q1] at z
      exact z
    · rw [List.getElem?_eq_none (by rw [List.length_take]; omega), List.getElem?_eq_none (by rw [List.length_reverse, hl]; omega)]
theorem range'_snoc (n : Nat) : List.range' 1 (n + 1) = List.range' 1 n ++ [1 + n] := by
  rw [List.range'_concat]
  simp
def crTo (l : L) (i : Nat) : List Nat := (List.range' 1 i).filter fun c => decide (Lies l c)
theorem crTo_all (l : L) : crTo l (l.length - 1) = creases l := rfl
theorem crTo_yes {l : L} {i : Nat} (h : Lies l (1 + i)) : crTo l (i + 1) = crTo l i ++ [1 + i] := by
  unfold crTo
  rw [range'_snoc, List.filter_append]
  simp [h]
theorem crTo_no {l : L} {i : Nat} (h : ¬ Lies l (1 + i)) : crTo l (i + 1) = crTo l i := by
  unfold crTo
  rw [range'_snoc, List.filter_append]
  simp [h]
theorem crTo_len (l : L) (i : Nat) : (crTo l i).length ≤ i := by
  unfold crTo
  exact Nat.le_trans (List.length_filter_le _ _) (by simp)
theorem creases_len (l : L) : (creases l).length ≤ l.length := Nat.le_trans (crTo_len l _) (by omega)
end Fo

namespace Fo
/-! ### going through all that is reached -/
section
variable (nxt : L → List L)
/-- what stands behind the turns of a walk: found, and still to be looked at -/
inductive Star : L → L → Prop
  | refl (s : L) : Star s s
  | step {s t u : L} : t ∈ nxt s → Star t u → Star s u
theorem Star.snoc {s t u : L} (a : Star nxt s t) (h : u ∈ nxt t) : Star nxt s u := by
  induction a with
  | refl s => exact .step h (.refl u)
  | step h' _ ih => exact .step h' (ih h)
def Rch (st : List L) (t : L) : Prop := ∃ s ∈ st, Star nxt s t
structure Dfs (st fs rs : List L) : Prop where
  nd : fs.Nodup
  rc : ∀ t ∈ fs, Rch nxt st t
  sub : ∀ t ∈ rs, t ∈ fs
  st : ∀ s ∈ st, s ∈ fs
  cl : ∀ t ∈ fs, t ∉ rs → ∀ u ∈ nxt t, u ∈ fs
/-- within a turn at here, j of its next ones seen -/
structure DfsIn (st fs rs : List L) (here : L) (j : Nat) : Prop where
  nd : fs.Nodup
  rc : ∀ t ∈ fs, Rch nxt st t
  sub : ∀ t ∈ rs, t ∈ fs
  st : ∀ s ∈ st, s ∈ fs
  mem : here ∈ fs
  cl : ∀ t ∈ fs, t ∉ rs → t ≠ here → ∀ u ∈ nxt t, u ∈ fs
  did : ∀ u ∈ (nxt here).take j, u ∈ fs
variable {nxt}
theorem Dfs.start {st : List L} (h : st.Nodup) : Dfs nxt st st st :=
  ⟨h, fun t ht => ⟨t, ht, .refl t⟩, fun _ h => h, fun _ h => h, fun t h1 h2 => absurd h1 h2⟩
theorem Dfs.pop {st fs rs : List L} {here : L} (D : Dfs nxt st fs (rs ++ [here])) : DfsIn nxt st fs rs here 0 :=
  ⟨D.nd, D.rc, fun t ht => D.sub t (List.mem_append_left _ ht), D.st, D.sub here (List.mem_append_right _ (List.mem_singleton.mpr rfl)),
    fun t h1 h2 h3 => D.cl t h1 fun hm => (List.mem_append.mp hm).elim h2 fun z => h3 (List.mem_singleton.mp z), fun u hu => by simp at hu⟩
theorem DfsIn.old {st fs rs : List L} {here u : L} {j : Nat} (D : DfsIn nxt st fs rs here j) (hu : (nxt here)[j]? = some u) (hm : u ∈ fs) : DfsIn nxt st fs rs here (j + 1) := by
  refine ⟨D.nd, D.rc, D.sub, D.st, D.mem, D.cl, fun v hv => ?_⟩
  rw [List.take_add_one, hu] at hv
  rcases List.mem_append.mp hv with hv | hv
  · exact D.did v hv
  · have : v = u := by simpa using hv
    rw [this]
    exact hm
theorem DfsIn.new {st fs rs : List L} {here u : L} {j : Nat} (D : DfsIn nxt st fs rs here j) (hu : (nxt here)[j]? = some u) (hm : u ∉ fs) : DfsIn nxt st (fs ++ [u]) (rs ++ [u]) here (j + 1) := by
  have hnu : u ∈ nxt here := List.mem_of_getElem? hu
  refine ⟨?_, fun t ht => ?_, fun t ht => ?_, fun s hs => List.mem_append_left _ (D.st s hs), List.mem_append_left _ D.mem, fun t h1 h2 h3 v hv => ?_, fun v hv => ?_⟩
  · rw [List.nodup_append]
    refine ⟨D.nd, by simp, fun a ha b hb => ?_⟩
    rw [List.mem_singleton.mp hb]
    intro e
    rw [e] at ha
    exact hm ha
  · rcases List.mem_append.mp ht with ht | ht
    · exact D.rc t ht
    · rw [List.mem_singleton.mp ht]
      obtain ⟨s, hs, a⟩ := D.rc here D.mem
      exact ⟨s, hs, Star.snoc nxt a hnu⟩
  · rcases List.mem_append.mp ht with ht | ht
    · exact List.mem_append_left _ (D.sub t ht)
    · exact List.mem_append_right _ ht
  · rcases List.mem_append.mp h1 with h1 | h1
    · exact List.mem_append_left _ (D.cl t h1 (fun z => h2 (List.mem_append_left _ z)) h3 v hv)
    · exact absurd (List.mem_append_right _ h1) h2
  · rw [List.take_add_one, hu] at hv
    rcases List.mem_append.mp hv with hv | hv
    · exact List.mem_append_left _ (D.did v hv)
    · have : v = u := by simpa using hv
      rw [this]
      exact List.mem_append_right _ (List.mem_singleton.mpr rfl)
theorem DfsIn.skip {st fs rs : List L} {here : L} {j : Nat} (D : DfsIn nxt st fs rs here j) (hj : (nxt here).length ≤ j) : Dfs nxt st fs rs := by
  refine ⟨D.nd, D.rc, D.sub, D.st, fun t h1 h2 u hu => ?_⟩
  by_cases e : t = here
  · subst e
    exact D.did u (by rw [List.take_of_length_le hj]; exact hu)
  · exact D.cl t h1 h2 e u hu
theorem Dfs.done {st fs : List L} (D : Dfs nxt st fs []) (t : L) : t ∈ fs ↔ Rch nxt st t := by
  constructor
  · exact D.rc t
  · rintro ⟨s, hs, a⟩
    have h := D.st s hs
    clear hs
    induction a with
    | refl => exact h
    | @step s t u h1 _ ih => exact ih (D.cl s h (fun z => nomatch z) t h1)
end
/-! ### lists in order -/
def Srt (xs : List L) : Prop := xs.Pairwise fun a b => ¬ b < a
theorem srt_uniq {xs ys : List L} (h1 : Srt xs) (h2 : Srt ys) (n1 : xs.Nodup) (n2 : ys.Nodup) (h : ∀ t, t ∈ xs ↔ t ∈ ys) : xs = ys := by
  have hp : xs.Perm ys := (List.perm_ext_iff_of_nodup n1 n2).mpr h
  refine hp.eq_of_pairwise (le := fun a b => ¬ b < a) ?_ h1 h2
  intro a b _ _ h3 h4
  exact List.le_antisymm (List.not_lt.mp h3) (List.not_lt.mp h4)
/-- all strips that come of one -/
def nxtF (s : L) : List L := (creases s).map (left s)
theorem star_comes {s t : L} : Star nxtF s t ↔ Comes s t := by
  constructor
  · intro a
    induction a with
    | refl s => exact .refl s
    | step h _ ih =>
      obtain ⟨c, hc, rfl⟩ := List.mem_map.mp h
      exact .step (mem_creases.mp hc) ih
  · intro a
    induction a with
    | refl s => exact .refl s
    | step h _ ih => exact .step (List.mem_map.mpr ⟨_, mem_creases.mpr h, rfl⟩) ih
theorem rch_comes {s t : L} : Rch nxtF [s] t ↔ Comes s t := by
  constructor
  · rintro ⟨u, hu, a⟩
    rw [List.mem_singleton.mp hu] at a
    exact star_comes.mp a
  · intro a
    exact ⟨s, List.mem_singleton.mpr rfl, star_comes.mpr a⟩
def subs (l : L) : List L := (List.range (l.length + 1)).flatMap fun i => (List.range (l.length + 1)).map fun j => (l.drop i).take j
theorem mem_subs {l t : L} : t ∈ subs l ↔ ∃ i j, i ≤ l.length ∧ j ≤ l.length ∧ t = (l.drop i).take j := by
  unfold subs
  rw [List.mem_flatMap]
  constructor
  · rintro ⟨i, hi, h⟩
    obtain ⟨j, hj, e⟩ := List.mem_map.mp h
    have := List.mem_range.mp hi
    have := List.mem_range.mp hj
    exact ⟨i, j, by omega, by omega, e.symm⟩
  · rintro ⟨i, j, hi, hj, rfl⟩
    exact ⟨i, List.mem_range.mpr (by omega), List.mem_map.mpr ⟨j, List.mem_range.mpr (by omega), rfl⟩⟩
theorem subs_len (l : L) : (subs l).length = (l.length + 1) * (l.length + 1) := by
  unfold subs
  rw [List.length_flatMap]
  have : (List.map (fun i => ((List.range (l.length + 1)).map fun j => (l.drop i).take j).length) (List.range (l.length + 1))) = List.replicate (l.length + 1) (l.length + 1) := by
    rw [List.eq_replicate_iff]
    refine ⟨by simp, fun b hb => ?_⟩
    obtain ⟨i, _, e⟩ := List.mem_map.mp hb
    rw [← e]
    simp
  rw [this]
  simp
theorem comes_subs {l t : L} (a : Comes l t) : t ∈ subs l := by
  have gen : ∀ s t : L, Comes s t → (∃ i j, i ≤ l.length ∧ j ≤ l.length ∧ s = (l.drop i).take j) → ∃ i j, i ≤ l.length ∧ j ≤ l.length ∧ t = (l.drop i).take j := by
    intro s t a
    induction a with
    | refl => exact id
    | @step s t c hc _ ih =>
      rintro ⟨i, j, hi, hj, rfl⟩
      apply ih
      obtain ⟨c1, c2, _⟩ := hc
      rw [List.length_take, List.length_drop] at c2
      unfold left
      split
      · exact ⟨i + c, j - c, by omega, by omega, by rw [List.drop_take, List.drop_drop]⟩
      · exact ⟨i, min c j, hi, by omega, by rw [List.take_take]⟩
  rw [mem_subs]
  exact gen l t a ⟨0, l.length, by omega, by omega, by simp⟩
theorem found_le {l : L} {fs : List L} (nd : fs.Nodup) (h : ∀ t ∈ fs, Comes l t) : fs.length ≤ (l.length + 1) * (l.length + 1) := by
  rw [← subs_len]
  exact nd.length_le_of_subset fun t ht => comes_subs (h t ht)
end Fo

namespace Fo
/-! ### unfolding, all texts of a length -/
def waysL (n : Nat) : List (Nat × Nat) := (List.range' 1 n).map (fun m => (0, m)) ++ (List.range' 1 (n - 1)).map (fun m => (1, m))
def unfL (s : L) (w : Nat × Nat) : L := if w.1 = 0 then (s.take w.2).reverse ++ s else s ++ (s.drop (s.length - w.2)).reverse
theorem mem_ways {n : Nat} {w : Nat × Nat} : w ∈ waysL n ↔ (w.1 = 0 ∧ 1 ≤ w.2 ∧ w.2 ≤ n) ∨ (w.1 = 1 ∧ 1 ≤ w.2 ∧ w.2 < n) := by
  obtain ⟨e, m⟩ := w
  unfold waysL
  rw [List.mem_append, List.mem_map, List.mem_map]
  constructor
  · rintro (⟨k, hk, h⟩ | ⟨k, hk, h⟩)
    · rw [List.mem_range'_1] at hk
      injection h with h1 h2
      subst h1 h2
      exact .inl ⟨rfl, hk.1, by show k ≤ n; omega⟩
    · rw [List.mem_range'_1] at hk
      injection h with h1 h2
      subst h1 h2
      exact .inr ⟨rfl, hk.1, by show k < n; omega⟩
  · rintro (⟨h1, h2, h3⟩ | ⟨h1, h2, h3⟩)
    · exact .inl ⟨m, by rw [List.mem_range'_1]; have : m ≤ n := h3; have : 1 ≤ m := h2; omega, by rw [show e = 0 from h1]⟩
    · exact .inr ⟨m, by rw [List.mem_range'_1]; have : m < n := h3; have : 1 ≤ m := h2; omega, by rw [show e = 1 from h1]⟩
theorem unfL_len {s : L} {w : Nat × Nat} (h : w ∈ waysL s.length) : (unfL s w).length = s.length + w.2 := by
  unfold unfL
  rcases mem_ways.mp h with ⟨h1, h2, h3⟩ | ⟨h1, h2, h3⟩
  · rw [if_pos h1, List.length_append, List.length_reverse, List.length_take]
    omega
  · rw [if_neg (by omega), List.length_append, List.length_reverse, List.length_drop]
    omega
theorem unfL_cr {s : L} {w : Nat × Nat} (h : w ∈ waysL s.length) : ∃ c, Cr (unfL s w) c ∧ left (unfL s w) c = s := by
  unfold unfL
  rcases mem_ways.mp h with ⟨h1, h2, h3⟩ | ⟨h1, h2, h3⟩
  · rw [if_pos h1]
    exact ⟨_, unf_left h2 h3⟩
  · rw [if_neg (by omega)]
    obtain ⟨a, b, _⟩ := unf_right (l := s) h2 (by omega)
    exact ⟨_, a, b h3⟩
theorem cr_unfL {t : L} {c : Nat} (h : Cr t c) : ∃ w, w ∈ waysL (left t c).length ∧ unfL (left t c) w = t := by
  obtain ⟨h1, h2, h3⟩ := h
  by_cases hc : 2 * c ≤ t.length
  · have e : left t c = t.drop c := by unfold left; rw [if_pos hc]
    rw [e]
    refine ⟨(0, c), mem_ways.mpr (.inl ⟨rfl, h1, by show c ≤ _; rw [List.length_drop]; omega⟩), ?_⟩
    unfold unfL
    rw [if_pos rfl]
    have : ((t.drop c).take c).reverse = t.take c := by
      apply List.ext_getElem?
      intro i
      by_cases hi : i < c
      · rw [get_rev (by rw [List.length_take, List.length_drop]; omega), List.length_take, List.length_drop, List.getElem?_take_of_lt (by omega), List.getElem?_drop, List.getElem?_take_of_lt hi]
        have := h3 (c - 1 - i) (by omega) (by omega)
        rw [show c - 1 - (c - 1 - i) = i by omega] at this
        rw [this]
        congr 1
        omega
      · rw [List.getElem?_eq_none (by rw [List.length_reverse, List.length_take]; omega), List.getElem?_eq_none (by rw [List.length_take]; omega)]
    show ((t.drop c).take c).reverse ++ t.drop c = t
    rw [this, List.take_append_drop]
  · have e : left t c = t.take c := by unfold left; rw [if_neg hc]
    rw [e]
    have hl : (t.take c).length = c := by rw [List.length_take]; omega
    refine ⟨(1, t.length - c), mem_ways.mpr (.inr ⟨rfl, by show 1 ≤ t.length - c; omega, by show t.length - c < _; rw [hl]; omega⟩), ?_⟩
    unfold unfL
    rw [if_neg (by show ¬ (1 = 0); omega), hl]
    show t.take c ++ ((t.take c).drop (c - (t.length - c))).reverse = t
    have : ((t.take c).drop (c - (t.length - c))).reverse = t.drop c := by
      apply List.ext_getElem?
      intro i
      by_cases hi : i < t.length - c
      · rw [get_rev (by rw [List.length_drop, hl]; omega), List.length_drop, hl, List.getElem?_drop, List.getElem?_take_of_lt (by omega), List.getElem?_drop]
        have := h3 i (by omega) (by omega)
        rw [← this]
        congr 1
        omega
      · rw [List.getElem?_eq_none (by rw [List.length_reverse, List.length_drop, hl]; omega), List.getElem?_eq_none (by rw [List.length_drop]; omega)]
    rw [this, List.take_append_drop]
theorem unfL_mem {s : L} {w : Nat × Nat} {x : Nat} (h : x ∈ unfL s w) : x ∈ s := by
  unfold unfL at h
  split at h
  · rcases List.mem_append.mp h with h | h
    · exact List.mem_of_mem_take (List.mem_reverse.mp h)
    · exact h
  · rcases List.mem_append.mp h with h | h
    · exact h
    · exact List.mem_of_mem_drop (List.mem_reverse.mp h)
/-- no sign is lost by a fold -/
theorem Comes.mem2 {s t : L} (a : Comes s t) {x : Nat} (h : x ∈ s) : x ∈ t := by
  induction a with
  | refl => exact h
  | step hc _ ih =>
    obtain ⟨w, _, e⟩ := cr_unfL hc
    exact ih (unfL_mem (s := left _ _) (w := w) (by rw [e]; exact h))
theorem Comes.sg2 {s t : L} (a : Comes s t) (h : Sg t) : Sg s := fun c hc => h c (a.mem2 hc)
/-- the unfoldings of one strip, of at most m cells -/
def nxtO (m : Nat) (s : L) : List L := (waysL s.length).map fun w => if s.length + w.2 ≤ m then unfL s w else s
theorem star_over {m : Nat} {s t : L} (hs : s.length ≤ m) : Star (nxtO m) s t ↔ t.length ≤ m ∧ Comes t s := by
  constructor
  · intro a
    induction a with
    | refl s => exact ⟨hs, .refl s⟩
    | @step s t u h _ ih =>
      obtain ⟨w, hw, rfl⟩ := List.mem_map.mp h
      by_cases hm : s.length + w.2 ≤ m
      · rw [if_pos hm] at ih
        obtain ⟨i1, i2⟩ := ih (by rw [unfL_len hw]; exact hm)
        obtain ⟨c, c1, c2⟩ := unfL_cr hw
        exact ⟨i1, i2.trans (.step c1 (by rw [c2]; exact .refl s))⟩
      · rw [if_neg hm] at ih
        exact ih hs
  · rintro ⟨ht, a⟩
    induction a with
    | refl s => exact .refl s
    | @step t s c hc _ ih =>
      have hl := (left_len hc).1
      refine Star.snoc _ (ih hs (by omega)) ?_
      obtain ⟨w, hw, e⟩ := cr_unfL hc
      refine List.mem_map.mpr ⟨w, hw, ?_⟩
      have := unfL_len hw
      rw [e] at this
      rw [if_pos (by omega), e]
theorem rch_over {m : Nat} {st : List L} {t : L} (hst : ∀ s ∈ st, s.length ≤ m) : Rch (nxtO m) st t ↔ t.length ≤ m ∧ ∃ s ∈ st, Comes t s := by
  constructor
  · rintro ⟨s, hs, a⟩
    obtain ⟨h1, h2⟩ := (star_over (hst s hs)).mp a
    exact ⟨h1, s, hs, h2⟩
  · rintro ⟨h, s, hs, a⟩
    exact ⟨s, hs, (star_over (hst s hs)).mpr ⟨h, a⟩⟩
/-! all texts of a length -/
def sgs (k : Nat) : List Nat := [97, 98, 99, 100].take k
theorem sgs_sg {k c : Nat} (h : c ∈ sgs k) : 97 ≤ c ∧ c ≤ 100 := by
  have := List.mem_of_mem_take h
  simp at this
  omega
theorem sgs_nd (k : Nat) : (sgs k).Nodup := by
  unfold sgs
  exact List.Nodup.sublist (List.take_sublist ..) (by decide)
def txA (k : Nat) : Nat → List L
  | 0 => [[]]
  | n + 1 => (txA k n).flatMap fun t => (sgs k).map fun c => t ++ [c]
def txB (k : Nat) : Nat → List L
  | 0 => [[]]
  | n + 1 => (sgs k).flatMap fun c => (txB k n).map fun t => t ++ [c]
theorem snoc_cases {t : L} {n : Nat} (h : t.length = n + 1) : ∃ u c, t = u ++ [c] ∧ u.length = n := by
  refine ⟨t.dropLast, t.getLast (fun e => by rw [e] at h; simp at h), ?_, ?_⟩
  · rw [List.dropLast_concat_getLast]
  · rw [List.length_dropLast]; omega
theorem mem_txA {k : Nat} : ∀ {n : Nat} {t : L}, t ∈ txA k n ↔ t.length = n ∧ ∀ c ∈ t, c ∈ sgs k
  | 0, t => by
    unfold txA
    rw [List.mem_singleton]
    constructor
    · rintro rfl
      exact ⟨rfl, fun c hc => nomatch hc⟩
    · rintro ⟨h, _⟩
      exact List.length_eq_zero_iff.mp h
  | n + 1, t => by
    unfold txA
    rw [List.mem_flatMap]
    constructor
    · rintro ⟨u, hu, h⟩
      obtain ⟨c, hc, rfl⟩ := List.mem_map.mp h
      obtain ⟨h1, h2⟩ := mem_txA.mp hu
      refine ⟨by rw [List.length_append, h1]; rfl, fun x hx => ?_⟩
      rcases List.mem_append.mp hx with hx | hx
      · exact h2 x hx
      · rw [List.mem_singleton.mp hx]
        exact hc
    · rintro ⟨h1, h2⟩
      obtain ⟨u, c, rfl, hu⟩ := snoc_cases h1
      exact ⟨u, mem_txA.mpr ⟨hu, fun x hx => h2 x (List.mem_append_left _ hx)⟩, List.mem_map.mpr ⟨c, h2 c (by simp), rfl⟩⟩
theorem mem_txB {k : Nat} : ∀ {n : Nat} {t : L}, t ∈ txB k n ↔ t.length = n ∧ ∀ c ∈ t, c ∈ sgs k
  | 0, t => by
    unfold txB
    rw [List.mem_singleton]
    constructor
    · rintro rfl
      exact ⟨rfl, fun c hc => nomatch hc⟩
    · rintro ⟨h, _⟩
      exact List.length_eq_zero_iff.mp h
  | n + 1, t => by
    unfold txB
    rw [List.mem_flatMap]
    constructor
    · rintro ⟨c, hc, h⟩
      obtain ⟨u, hu, rfl⟩ := List.mem_map.mp h
      obtain ⟨h1, h2⟩ := mem_txB.mp hu
      refine ⟨by rw [List.length_append, h1]; rfl, fun x hx => ?_⟩
      rcases List.mem_append.mp hx with hx | hx
      · exact h2 x hx
      · rw [List.mem_singleton.mp hx]
        exact hc
    · rintro ⟨h1, h2⟩
      obtain ⟨u, c, rfl, hu⟩ := snoc_cases h1
      exact ⟨c, h2 c (by simp), List.mem_map.mpr ⟨u, mem_txB.mpr ⟨hu, fun x hx => h2 x (List.mem_append_left _ hx)⟩, rfl⟩⟩
theorem snoc_inj {u v : L} {c d : Nat} (h : u ++ [c] = v ++ [d]) : u = v ∧ c = d := by
  have := List.append_inj' h rfl
  exact ⟨this.1, by simpa using this.2⟩
theorem txA_nd (k : Nat) : ∀ n, (txA k n).Nodup
  | 0 => by simp [txA]
  | n + 1 => by
    unfold txA List.Nodup
    rw [List.pairwise_flatMap]
    refine ⟨fun t _ => ?_, (txA_nd k n).imp fun {a b} hab x hx y hy e => ?_⟩
    · rw [List.pairwise_map]
      exact (sgs_nd k).imp fun {a b} hab e => hab (snoc_inj e).2
    · obtain ⟨c, _, rfl⟩ := List.mem_map.mp hx
      obtain ⟨d, _, rfl⟩ := List.mem_map.mp hy
      exact hab (snoc_inj e).1
theorem txB_nd (k : Nat) : ∀ n, (txB k n).Nodup
  | 0 => by simp [txB]
  | n + 1 => by
    unfold txB List.Nodup
    rw [List.pairwise_flatMap]
    refine ⟨fun t _ => ?_, (sgs_nd k).imp fun {a b} hab x hx y hy e => ?_⟩
    · rw [List.pairwise_map]
      exact (txB_nd k n).imp fun {a b} hab e => hab (snoc_inj e).1
    · obtain ⟨c, _, rfl⟩ := List.mem_map.mp hx
      obtain ⟨d, _, rfl⟩ := List.mem_map.mp hy
      exact hab (snoc_inj e).2
theorem txAB (k n : Nat) : (txA k n).Perm (txB k n) := (List.perm_ext_iff_of_nodup (txA_nd k n) (txB_nd k n)).mpr fun t => mem_txA.trans mem_txB.symm
theorem sgs_le (k : Nat) : (sgs k).length ≤ 4 := by
  unfold sgs
  rw [List.length_take]
  exact Nat.min_le_right _ _
theorem sum_le {α : Type} (f : α → Nat) (b : Nat) : ∀ xs : List α, (∀ x ∈ xs, f x ≤ b) → (xs.map f).sum ≤ xs.length * b
  | [], _ => by simp
  | x :: r, h => by
    rw [List.map_cons, List.sum_cons, List.length_cons, Nat.add_mul]
    have := h x (List.mem_cons_self ..)
    have := sum_le f b r fun y hy => h y (List.mem_cons_of_mem _ hy)
    omega
theorem txA_len (k : Nat) : ∀ n, (txA k n).length ≤ 4 ^ n
  | 0 => by simp [txA]
  | n + 1 => by
    unfold txA
    rw [List.length_flatMap]
    have h := sum_le (fun t : L => ((sgs k).map fun c => t ++ [c]).length) 4 (txA k n) (fun t _ => by rw [List.length_map]; exact sgs_le k)
    have := txA_len k n
    rw [Nat.pow_succ]
    omega
theorem txB_len (k n : Nat) : (txB k n).length ≤ 4 ^ n := by
  rw [← (txAB k n).length_eq]
  exact txA_len k n
def upTo (n : Nat) : List L := (List.range n).flatMap (txA 4)
theorem upTo_len : ∀ n, (upTo n).length ≤ 4 ^ n
  | 0 => by simp [upTo]
  | n + 1 => by
    have e : upTo (n + 1) = upTo n ++ txA 4 n := by
      unfold upTo
      rw [List.range_succ, List.flatMap_append]
      simp
    rw [e, List.length_append]
    have := upTo_len n
    have := txA_len 4 n
    rw [Nat.pow_succ]
    omega
theorem sg_sgs {t : L} (h : Sg t) : ∀ c ∈ t, c ∈ sgs 4 := fun c hc => by
  have := h c hc
  have : c = 97 ∨ c = 98 ∨ c = 99 ∨ c = 100 := by omega
  rcases this with e | e | e | e <;> subst e <;> decide
theorem found_upTo {fs : List L} {m : Nat} (nd : fs.Nodup) (h : ∀ t ∈ fs, t.length ≤ m ∧ Sg t) : fs.length ≤ 4 ^ (m + 1) := by
  refine Nat.le_trans (nd.length_le_of_subset fun t ht => ?_) (upTo_len (m + 1))
  obtain ⟨h1, h2⟩ := h t ht
  exact List.mem_flatMap.mpr ⟨t.length, List.mem_range.mpr (by omega), mem_txA.mpr ⟨rfl, sg_sgs h2⟩⟩
end Fo

namespace Fo
/-! ### the best rows -/
/-- a stands ahead of b: fewer (more) folds, then the lower row -/
def Ahead (few : Bool) (a b : List Nat) : Prop := (if few then a.length < b.length else b.length < a.length) ∨ a.length = b.length ∧ a < b
instance (few : Bool) (a b : List Nat) : Decidable (Ahead few a b) := by unfold Ahead; infer_instance
theorem ahead_total {few : Bool} {a b : List Nat} (h1 : ¬ Ahead few a b) (h2 : ¬ Ahead few b a) : a = b := by
  unfold Ahead at h1 h2
  have e : a.length = b.length := by
    cases few <;> simp at h1 h2 <;> omega
  have n1 : ¬ a < b := fun z => h1 (.inr ⟨e, z⟩)
  have n2 : ¬ b < a := fun z => h2 (.inr ⟨e.symm, z⟩)
  exact List.le_antisymm (List.not_lt.mp n2) (List.not_lt.mp n1)
theorem ahead_trans {few : Bool} {a b c : List Nat} (h1 : Ahead few a b) (h2 : Ahead few b c) : Ahead few a c := by
  unfold Ahead at *
  rcases h1 with h1 | ⟨h1, h1'⟩ <;> rcases h2 with h2 | ⟨h2, h2'⟩
  · left; cases few <;> simp at * <;> omega
  · left; cases few <;> simp at * <;> omega
  · left; cases few <;> simp at * <;> omega
  · right; exact ⟨by omega, List.lt_trans h1' h2'⟩
theorem ahead_irrefl {few : Bool} (a : List Nat) : ¬ Ahead few a a := by
  unfold Ahead
  rintro (h | ⟨_, h⟩)
  · cases few <;> simp at h
  · exact List.lt_irrefl _ h
/-- r is the best of some -/
def Best (few : Bool) (cs : List (List Nat)) (r : List Nat) : Prop := r ∈ cs ∧ ∀ x ∈ cs, ¬ Ahead few x r
theorem Best.uniq {few : Bool} {cs : List (List Nat)} {r s : List Nat} (h : Best few cs r) (k : Best few cs s) : r = s := ahead_total (k.2 r h.1) (h.2 s k.1)
def pickB (few : Bool) : Option (List Nat) → List (List Nat) → Option (List Nat)
  | o, [] => o
  | none, x :: r => pickB few (some x) r
  | some y, x :: r => pickB few (some (if Ahead few x y then x else y)) r
theorem pickB_snoc (few : Bool) : ∀ (xs : List (List Nat)) (o : Option (List Nat)) (x : List Nat), pickB few o (xs ++ [x]) = some (match pickB few o xs with | none => x | some y => if Ahead few x y then x else y)
  | [], none, x => rfl
  | [], some y, x => rfl
  | z :: r, none, x => by
    show pickB few (some z) (r ++ [x]) = _
    rw [pickB_snoc few r (some z) x]
    rfl
  | z :: r, some y, x => by
    show pickB few (some (if Ahead few z y then z else y)) (r ++ [x]) = _
    rw [pickB_snoc few r _ x]
    rfl
theorem pickB_ok (few : Bool) (xs : List (List Nat)) (hne : xs ≠ []) : ∃ r, pickB few none xs = some r ∧ Best few xs r := by
  have gen : ∀ n, ∀ xs : List (List Nat), xs.length = n → xs ≠ [] → ∃ r, pickB few none xs = some r ∧ Best few xs r := by
    intro n
    induction n with
    | zero => intro xs h hne; exact absurd (List.length_eq_zero_iff.mp h) hne
    | succ n ih =>
      intro xs h hne
      obtain ⟨ys, x, rfl⟩ : ∃ ys x, xs = ys ++ [x] := ⟨xs.dropLast, xs.getLast hne, (List.dropLast_concat_getLast hne).symm⟩
      rw [pickB_snoc]
      by_cases hy : ys = []
      · subst hy
        exact ⟨x, rfl, by simp, fun z hz => by rw [show z = x by simpa using hz]; exact ahead_irrefl x⟩
      · obtain ⟨r, h1, h2, h3⟩ := ih ys (by rw [List.length_append] at h; simp at h; exact h) hy
        rw [h1]
        refine ⟨_, rfl, ?_, fun z hz => ?_⟩
        · show (if Ahead few x r then x else r) ∈ _
          split
          · exact List.mem_append_right _ (by simp)
          · exact List.mem_append_left _ h2
        · show ¬ Ahead few z (if Ahead few x r then x else r)
          rcases List.mem_append.mp hz with hz | hz
          · split
            · rename_i hx
              exact fun k => h3 z hz (ahead_trans k hx)
            · exact h3 z hz
          · rw [show z = x by simpa using hz]
            split
            · exact ahead_irrefl x
            · assumption
  exact gen xs.length xs rfl hne
/-- the best row that leads to an end -/
def bestN (few : Bool) : Nat → L → List Nat
  | 0, _ => []
  | n + 1, s => (pickB few none ((creases s).map fun c => c :: bestN few n (left s c))).getD []
theorem bestN_eq (few : Bool) : ∀ (n m : Nat) (s : L), s.length ≤ n → s.length ≤ m → bestN few n s = bestN few m s
  | 0, m, s, h, _ => by
    have e : s = [] := List.length_eq_zero_iff.mp (by omega)
    subst e
    cases m with
    | zero => rfl
    | succ m => rfl
  | n + 1, 0, s, _, h => by
    have e : s = [] := List.length_eq_zero_iff.mp (by omega)
    subst e
    rfl
  | n + 1, m + 1, s, h1, h2 => by
    unfold bestN
    congr 2
    apply List.map_congr_left
    intro c hc
    have := (left_len (mem_creases.mp hc)).1
    rw [bestN_eq few n m (left s c) (by omega) (by omega)]
def best (few : Bool) (s : L) : List Nat := bestN few s.length s
def cands (few : Bool) (s : L) : List (List Nat) := (creases s).map fun c => c :: best few (left s c)
theorem best_step (few : Bool) (s : L) : best few s = (pickB few none (cands few s)).getD [] := by
  unfold best cands
  cases h : s.length with
  | zero =>
    have e : s = [] := List.length_eq_zero_iff.mp h
    subst e
    rfl
  | succ n =>
    show (pickB few none ((creases s).map fun c => c :: bestN few n (left s c))).getD [] = _
    congr 2
    apply List.map_congr_left
    intro c hc
    have := (left_len (mem_creases.mp hc)).1
    show c :: bestN few n (left s c) = c :: bestN few (left s c).length (left s c)
    rw [bestN_eq few n (left s c).length (left s c) (by omega) (Nat.le_refl _)]
theorem best_nil (few : Bool) {s : L} (h : creases s = []) : best few s = [] := by
  rw [best_step]
  unfold cands
  rw [h]
  rfl
theorem best_best (few : Bool) {s : L} (h : creases s ≠ []) : Best few (cands few s) (best few s) := by
  obtain ⟨r, h1, h2⟩ := pickB_ok few (cands few s) (by unfold cands; intro e; exact h (List.map_eq_nil_iff.mp e))
  rw [best_step, h1]
  exact h2
/-- a row of folds, one after the other -/
def RowOk : L → List Nat → L → Prop
  | s, [], t => s = t
  | s, c :: r, t => Cr s c ∧ RowOk (left s c) r t
theorem RowOk.comes : ∀ {r : List Nat} {s t : L}, RowOk s r t → Comes s t
  | [], s, t, h => by rw [show s = t from h]; exact .refl t
  | c :: r, s, t, h => .step h.1 (RowOk.comes h.2)
theorem RowOk.len : ∀ {r : List Nat} {s t : L}, RowOk s r t → r.length + t.length ≤ s.length
  | [], s, t, h => by rw [show s = t from h]; simp
  | c :: r, s, t, h => by
    have := RowOk.len h.2
    have := (left_len h.1).1
    rw [List.length_cons]
    omega
theorem best_row (few : Bool) : ∀ (n : Nat) (s : L), s.length ≤ n → ∃ t, RowOk s (best few s) t ∧ NF t
  | n, s, h => by
    by_cases hc : creases s = []
    · rw [best_nil few hc]
      exact ⟨s, rfl, nf_iff.mpr hc⟩
    · obtain ⟨c, c1, c2⟩ := List.mem_map.mp (best_best few hc).1
      have hcr := mem_creases.mp c1
      have := (left_len hcr).1
      obtain ⟨t, t1, t2⟩ := best_row few (left s c).length (left s c) (Nat.le_refl _)
      rw [← c2]
      exact ⟨t, ⟨hcr, t1⟩, t2⟩
termination_by _ s _ => s.length
theorem best_ok (few : Bool) (s : L) : ∃ t, RowOk s (best few s) t ∧ NF t := best_row few s.length s (Nat.le_refl _)
theorem best_len (few : Bool) (s : L) : (best few s).length ≤ s.length := by
  obtain ⟨t, h, _⟩ := best_ok few s
  have := h.len
  omega
theorem row_lt : ∀ {r : List Nat} {s t : L}, RowOk s r t → ∀ c ∈ r, c < s.length
  | [], _, _, _, _, hc => nomatch hc
  | c :: r, s, t, h, x, hx => by
    rcases List.mem_cons.mp hx with rfl | hx
    · exact h.1.2.1
    · have := row_lt h.2 x hx
      have := (left_len h.1).1
      omega
/-- the program's choice: the shortest (longest), of these the lowest -/
theorem best_choice {few : Bool} {cs : List (List Nat)} {m : Nat} {r : List Nat} (h1 : ∃ x ∈ cs, x.length = m) (h2 : ∀ x ∈ cs, if few then m ≤ x.length else x.length ≤ m) (h3 : r ∈ cs.filter fun x => decide (x.length = m)) (h4 : ∀ x ∈ cs.filter fun x => decide (x.length = m), ¬ x < r) : Best few cs r := by
  obtain ⟨r1, r2⟩ := List.mem_filter.mp h3
  have r2 := of_decide_eq_true r2
  refine ⟨r1, fun x hx => ?_⟩
  unfold Ahead
  have := h2 x hx
  rintro (h | ⟨h, k⟩)
  · cases few <;> simp at this h <;> omega
  · exact h4 x (List.mem_filter.mpr ⟨hx, decide_eq_true (by omega)⟩) k
end Fo

namespace Fo
/-! ### to and fro words, words of one sign -/
theorem TF.take {m r : L} (t : TF m r) {n : Nat} (h : m.length ≤ n) : TF m (r.take n) := by
  refine ⟨by rw [List.length_take]; have := t.len; omega, fun i hi => ?_, fun i h1 h2 h3 => ?_, fun i h1 h2 => ?_⟩
  · rw [List.getElem?_take_of_lt (by omega)]
    exact t.a i hi
  · rw [List.length_take] at h3
    rw [List.getElem?_take_of_lt (by omega), List.getElem?_take_of_lt (by omega)]
    exact t.b i h1 h2 (by omega)
  · rw [List.length_take] at h2
    rw [List.getElem?_take_of_lt (by omega), List.getElem?_take_of_lt (by omega)]
    exact t.c i h1 (by omega)
theorem TF.least {m r : L} (hm : 1 ≤ m.length) (t : TF m r) : least r = least m := by
  obtain ⟨u, a, b⟩ := t.to hm
  rw [← least_comes a, least_of_al b]
/-- w, w turned about, w, .. -/
def tfw (w : L) : Nat → L
  | 0 => []
  | n + 1 => tfw w n ++ (if n % 2 = 0 then w else w.reverse)
theorem tfw_len (w : L) : ∀ n, (tfw w n).length = n * w.length
  | 0 => by simp [tfw]
  | n + 1 => by
    unfold tfw
    rw [List.length_append, tfw_len w n, Nat.add_mul]
    split <;> simp
theorem tfw_get (w : L) : ∀ (n i : Nat), i < n * w.length → (tfw w n)[i]? = if (i / w.length) % 2 = 0 then w[i % w.length]? else w[w.length - 1 - i % w.length]?
  | 0, i, h => by simp at h
  | n + 1, i, h => by
    have hw : 0 < w.length := by
      rcases Nat.eq_zero_or_pos w.length with e | e
      · rw [e] at h; simp at h
      · exact e
    unfold tfw
    by_cases hi : i < n * w.length
    · rw [List.getElem?_append_left (by rw [tfw_len]; exact hi)]
      exact tfw_get w n i hi
    · rw [List.getElem?_append_right (by rw [tfw_len]; omega), tfw_len]
      rw [Nat.add_mul, Nat.one_mul] at h
      have e1 : i / w.length = n := by
        rw [Nat.div_eq_iff hw]
        omega
      have e2 : i % w.length = i - n * w.length := by
        have h9 := Nat.div_add_mod i w.length
        rw [e1, Nat.mul_comm] at h9
        omega
      rw [e1, e2]
      by_cases hp : n % 2 = 0
      · rw [if_pos hp, if_pos hp]
      · rw [if_neg hp, if_neg hp, get_rev (by omega)]
theorem tfw_tf {w : L} (hw : 1 ≤ w.length) {n : Nat} (hn : 1 ≤ n) : TF w (tfw w n) := by
  refine ⟨by rw [tfw_len]; exact Nat.le_mul_of_pos_left _ hn, fun i hi => ?_, fun i h1 h2 h3 => ?_, fun i h1 h2 => ?_⟩
  · rw [tfw_get w n i (Nat.lt_of_lt_of_le hi (Nat.le_mul_of_pos_left _ hn)), Nat.div_eq_of_lt hi, Nat.mod_eq_of_lt hi]
    rfl
  · rw [tfw_len] at h3
    have hj : 2 * w.length - 1 - i < w.length := by omega
    rw [tfw_get w n i h3, tfw_get w n _ (by omega), Nat.div_eq_of_lt hj, Nat.mod_eq_of_lt hj]
    have e1 : i / w.length = 1 := by
      rw [Nat.div_eq_iff (by omega)]
      omega
    have e2 : i % w.length = i - w.length := by
      have h9 := Nat.div_add_mod i w.length
      rw [e1] at h9
      omega
    rw [e1, e2, if_neg (by decide), if_pos (by decide)]
    congr 1
    omega
  · rw [tfw_len] at h2
    rw [tfw_get w n i h2, tfw_get w n _ (by omega)]
    have e1 : i / w.length = (i - 2 * w.length) / w.length + 2 := by
      have : i = (i - 2 * w.length) + 2 * w.length := by omega
      rw [this, Nat.add_mul_div_right _ _ (by omega)]
      simp
    have e2 : i % w.length = (i - 2 * w.length) % w.length := by
      have : i = (i - 2 * w.length) + w.length * 2 := by omega
      rw [this, Nat.add_mul_mod_self_left]
      congr 1
      omega
    rw [e1, e2, Nat.add_mod_right]
theorem tfw_rev (w : L) {n : Nat} (h : n = 2 ∨ n = 3 ∨ n = 4) : (tfw w n).reverse = tfw w n ∨ (tfw w n).reverse = tfw w.reverse n := by
  rcases h with rfl | rfl | rfl
  · left; simp [tfw]
  · right; simp [tfw]
  · left; simp [tfw]
theorem tfw_least {w : L} (hw : 1 ≤ w.length) {n k : Nat} (h : n = 2 ∨ n = 3 ∨ n = 4) (hk : w.length ≤ k) : least ((tfw w n).take k) = least w ∧ least ((tfw w n).drop ((tfw w n).length - k)) = least w := by
  refine ⟨((tfw_tf hw (by omega)).take hk).least hw, ?_⟩
  have e : ((tfw w n).drop ((tfw w n).length - k)).reverse = (tfw w n).reverse.take k := by
    by_cases h2 : k ≤ (tfw w n).length
    · rw [List.reverse_drop]
      congr 1
      omega
    · rw [show (tfw w n).length - k = 0 by omega, List.drop_zero, List.take_of_length_le (by rw [List.length_reverse]; omega)]
  rw [← least_rev, e]
  rcases tfw_rev w h with h2 | h2
  · rw [h2]
    exact ((tfw_tf hw (by omega)).take hk).least hw
  · rw [h2]
    have := ((tfw_tf (w := w.reverse) (by rw [List.length_reverse]; exact hw) (n := n) (by omega)).take (n := k) (by rw [List.length_reverse]; exact hk)).least (by rw [List.length_reverse]; exact hw)
    rw [this, least_rev]
/-! one sign -/
theorem rep_cr {b n c : Nat} (h1 : 1 ≤ c) (h2 : c < n) : Cr (List.replicate n b) c := by
  refine ⟨h1, by rw [List.length_replicate]; exact h2, fun i hi hj => ?_⟩
  rw [List.length_replicate] at hj
  rw [List.getElem?_replicate, List.getElem?_replicate, if_pos (by omega), if_pos hj]
theorem rep_left {b n c : Nat} (h1 : 1 ≤ c) (h2 : c < n) : left (List.replicate n b) c = List.replicate (max c (n - c)) b := by
  unfold left
  rw [List.length_replicate]
  split
  · rw [List.drop_replicate]; congr 1; omega
  · rw [List.take_replicate]; congr 1; omega
theorem rep_creases (b n : Nat) : creases (List.replicate n b) = List.range' 1 (n - 1) := by
  unfold creases
  rw [List.length_replicate, List.filter_eq_self.mpr]
  intro c hc
  rw [List.mem_range'_1] at hc
  exact decide_eq_true (rep_cr (b := b) hc.1 (by omega)).2.2
theorem rep_least {b n : Nat} (h : 1 ≤ n) : least (List.replicate n b) = [b] := by
  have h1 : ∀ x ∈ least (List.replicate n b), x = b := fun x hx => List.eq_of_mem_replicate (least_mem hx)
  have h2 := List.eq_replicate_iff.mpr ⟨rfl, h1⟩
  have h3 := least_nf (List.replicate n b)
  have h4 := least_pos (s := List.replicate n b) (by rw [List.length_replicate]; exact h)
  rw [h2] at h3
  by_cases h5 : (least (List.replicate n b)).length ≤ 1
  · rw [h2, show (least (List.replicate n b)).length = 1 by omega]
    rfl
  · exact absurd (rep_cr (b := b) (Nat.le_refl 1) (by omega)) (h3 1)
/-- halvings -/
def halv : Nat → Nat → Nat
  | 0, _ => 0
  | k + 1, n => if n ≤ 1 then 0 else 1 + halv k ((n + 1) / 2)
theorem halv_eq : ∀ (j k n : Nat), n ≤ j → n ≤ k → halv j n = halv k n
  | 0, k, n, h, _ => by
    have : n = 0 := by omega
    subst this
    cases k <;> rfl
  | j + 1, 0, n, _, h => by
    have : n = 0 := by omega
    subst this
    rfl
  | j + 1, k + 1, n, h1, h2 => by
    unfold halv
    split
    · rfl
    · rw [halv_eq j k ((n + 1) / 2) (by omega) (by omega)]
def hv (n : Nat) : Nat := halv n n
theorem hv_step {n : Nat} (h : 2 ≤ n) : hv n = 1 + hv ((n + 1) / 2) := by
  unfold hv
  obtain ⟨k, rfl⟩ : ∃ k, n = k + 1 := ⟨n - 1, by omega⟩
  show (if k + 1 ≤ 1 then 0 else 1 + halv k ((k + 1 + 1) / 2)) = _
  rw [if_neg (by omega), halv_eq k ((k + 1 + 1) / 2) ((k + 1 + 1) / 2) (by omega) (Nat.le_refl _)]
theorem hv_one {n : Nat} (h : n ≤ 1) : hv n = 0 := by
  have : n = 0 ∨ n = 1 := by omega
  rcases this with rfl | rfl <;> rfl
theorem hv_mono : ∀ (k m n : Nat), n ≤ k → m ≤ n → hv m ≤ hv n
  | k, m, n, hk, h => by
    by_cases hm : m ≤ 1
    · rw [hv_one hm]; exact Nat.zero_le _
    · rw [hv_step (by omega : 2 ≤ m), hv_step (by omega : 2 ≤ n)]
      have := hv_mono ((n + 1) / 2) ((m + 1) / 2) ((n + 1) / 2) (Nat.le_refl _) (by omega)
      omega
termination_by _ _ n => n
theorem rep_few (b : Nat) : ∀ (k n : Nat), n ≤ k → (best true (List.replicate n b)).length = hv n
  | k, n, hk => by
    by_cases hn : n ≤ 1
    · rw [hv_one hn, best_nil true (by rw [rep_creases, show n - 1 = 0 by omega]; rfl)]
      rfl
    · have hne : creases (List.replicate n b) ≠ [] := by
        rw [rep_creases]
        intro e
        have := congrArg List.length e
        rw [List.length_range'] at this
        simp at this
        omega
      have hb := best_best true hne
      have cand : ∀ c, 1 ≤ c → c < n → (c :: best true (left (List.replicate n b) c)).length = 1 + hv (max c (n - c)) := fun c h1 h2 => by
        rw [rep_left h1 h2, List.length_cons, rep_few b (max c (n - c)) (max c (n - c)) (Nat.le_refl _)]
        omega
      rw [hv_step (by omega : 2 ≤ n)]
      apply Nat.le_antisymm
      · have hm : (n / 2) ∈ creases (List.replicate n b) := by rw [rep_creases, List.mem_range'_1]; omega
        have := hb.2 _ (List.mem_map.mpr ⟨n / 2, hm, rfl⟩)
        have hle : ¬ (n / 2 :: best true (left (List.replicate n b) (n / 2))).length < (best true (List.replicate n b)).length := fun z => this (.inl (by simpa using z))
        rw [cand (n / 2) (by omega) (by omega), show max (n / 2) (n - n / 2) = (n + 1) / 2 by omega] at hle
        omega
      · obtain ⟨c, hc, e⟩ := List.mem_map.mp hb.1
        rw [rep_creases, List.mem_range'_1] at hc
        rw [← e, cand c hc.1 (by omega)]
        have := hv_mono (max c (n - c)) ((n + 1) / 2) (max c (n - c)) (Nat.le_refl _) (by omega)
        omega
termination_by _ n => n
decreasing_by all_goals omega
theorem rep_most (b : Nat) : ∀ (k n : Nat), n ≤ k → best false (List.replicate n b) = List.replicate (n - 1) 1
  | k, n, hk => by
    by_cases hn : n ≤ 1
    · rw [best_nil false (by rw [rep_creases, show n - 1 = 0 by omega]; rfl), show n - 1 = 0 by omega]
      rfl
    · have hne : creases (List.replicate n b) ≠ [] := by
        rw [rep_creases]
        intro e
        have := congrArg List.length e
        rw [List.length_range'] at this
        simp at this
        omega
      have cand : ∀ c, 1 ≤ c → c < n → (c :: best false (left (List.replicate n b) c)) = c :: List.replicate (max c (n - c) - 1) 1 := fun c h1 h2 => by
        rw [rep_left h1 h2, rep_most b (max c (n - c)) (max c (n - c)) (Nat.le_refl _)]
      refine (best_best false hne).uniq ⟨?_, fun x hx => ?_⟩
      · refine List.mem_map.mpr ⟨1, by rw [rep_creases, List.mem_range'_1]; omega, ?_⟩
        rw [cand 1 (Nat.le_refl _) (by omega), show max 1 (n - 1) = n - 1 by omega]
        obtain ⟨j, hj⟩ : ∃ j, n - 1 = j + 1 := ⟨n - 2, by omega⟩
        rw [hj]
        rfl
      · obtain ⟨c, hc, rfl⟩ := List.mem_map.mp hx
        rw [rep_creases, List.mem_range'_1] at hc
        rw [cand c hc.1 (by omega)]
        unfold Ahead
        rw [List.length_cons, List.length_replicate, List.length_replicate]
        rintro (h | ⟨h1, h2⟩)
        · simp at h
          omega
        · obtain ⟨j, hj⟩ : ∃ j, n - 1 = j + 1 := ⟨n - 2, by omega⟩
          rw [hj, List.replicate_succ, List.cons_lt_cons_iff] at h2
          rcases h2 with h2 | ⟨h2, h3⟩
          · omega
          · rw [show max c (n - c) - 1 = j by omega] at h3
            exact List.lt_irrefl _ h3
termination_by _ n => n
decreasing_by all_goals omega
/-! all that comes, by computing -/
def comesL : Nat → L → List L
  | 0, s => [s]
  | n + 1, s => s :: (creases s).flatMap fun c => comesL n (left s c)
theorem mem_comesL : ∀ (n : Nat) {s t : L}, s.length ≤ n → (t ∈ comesL n s ↔ Comes s t)
  | 0, s, t, h => by
    have e : s = [] := List.length_eq_zero_iff.mp (by omega)
    subst e
    unfold comesL
    rw [List.mem_singleton]
    constructor
    · rintro rfl; exact .refl _
    · intro a
      have := a.len
      exact List.length_eq_zero_iff.mp (by simpa using this)
  | n + 1, s, t, h => by
    unfold comesL
    rw [List.mem_cons, List.mem_flatMap]
    constructor
    · rintro (rfl | ⟨c, hc, ht⟩)
      · exact .refl _
      · have hcr := mem_creases.mp hc
        have := (left_len hcr).1
        exact .step hcr ((mem_comesL n (by omega)).mp ht)
    · intro a
      cases a with
      | refl => exact .inl rfl
      | step hc b =>
        have := (left_len hc).1
        exact .inr ⟨_, mem_creases.mpr hc, (mem_comesL n (by omega)).mpr b⟩
theorem comes_dec (s t : L) : Comes s t ↔ t ∈ comesL s.length s := (mem_comesL s.length (Nat.le_refl _)).symm
end Fo

namespace Fo
/-! ### turned about, other signs -/
theorem creases_pw (s : L) : (creases s).Pairwise (· < ·) := by
  unfold creases
  exact List.Pairwise.sublist List.filter_sublist List.pairwise_lt_range'
theorem pw_uniq {xs ys : List Nat} (h1 : xs.Pairwise (· < ·)) (h2 : ys.Pairwise (· < ·)) (h : ∀ t, t ∈ xs ↔ t ∈ ys) : xs = ys := by
  have n1 : xs.Nodup := h1.imp fun {a b} hab => Nat.ne_of_lt hab
  have n2 : ys.Nodup := h2.imp fun {a b} hab => Nat.ne_of_lt hab
  have hp : xs.Perm ys := (List.perm_ext_iff_of_nodup n1 n2).mpr h
  exact hp.eq_of_pairwise (le := (· < ·)) (fun a b _ _ h3 h4 => absurd (Nat.lt_trans h3 h4) (Nat.lt_irrefl _)) h1 h2
theorem creases_rev (s : L) : creases s.reverse = (creases s).reverse.map fun c => s.length - c := by
  refine pw_uniq (creases_pw _) ?_ fun c => ?_
  · rw [List.pairwise_map, List.pairwise_reverse]
    refine (creases_pw s).imp_of_mem fun {a b} ha hb hab => ?_
    have := (mem_creases.mp hb).2.1
    omega
  · rw [mem_creases, List.mem_map]
    constructor
    · intro h
      have hc : c < s.length := by have := h.2.1; rw [List.length_reverse] at this; exact this
      exact ⟨s.length - c, List.mem_reverse.mpr (mem_creases.mpr ((cr_rev_iff h.1 hc).mp h)), by omega⟩
    · rintro ⟨d, hd, rfl⟩
      exact cr_rev (mem_creases.mp (List.mem_reverse.mp hd))
theorem crease_like {s : L} {c : Nat} (h : Cr s c) : s[c - 1]? = s[c]? := by
  have := h.2.2 0 h.1 (by have := h.2.1; omega)
  simpa using this
theorem row_pos : ∀ {r : List Nat} {s t : L}, RowOk s r t → ∀ c ∈ r, 1 ≤ c ∧ c < s.length
  | [], _, _, _, _, hc => nomatch hc
  | c :: r, s, t, h, x, hx => by
    rcases List.mem_cons.mp hx with rfl | hx
    · exact ⟨h.1.1, h.1.2.1⟩
    · obtain ⟨h1, h2⟩ := row_pos h.2 x hx
      have := (left_len h.1).1
      exact ⟨h1, by omega⟩
/-- the best row's length, by the candidates' lengths -/
theorem best_len_eq {few : Bool} {s t : L} (hs : creases s ≠ []) (ht : creases t ≠ []) (h1 : ∀ x ∈ cands few s, ∃ y ∈ cands few t, y.length = x.length) (h2 : ∀ y ∈ cands few t, ∃ x ∈ cands few s, x.length = y.length) : (best few s).length = (best few t).length := by
  obtain ⟨b1, b2⟩ := best_best few hs
  obtain ⟨c1, c2⟩ := best_best few ht
  obtain ⟨y, hy, ey⟩ := h1 _ b1
  obtain ⟨x, hx, ex⟩ := h2 _ c1
  have n1 := c2 y hy
  have n2 := b2 x hx
  unfold Ahead at n1 n2
  cases few <;> simp at n1 n2 <;> omega
theorem best_rev (few : Bool) : ∀ (n : Nat) (s : L), s.length ≤ n → (best few s.reverse).length = (best few s).length
  | n, s, hn => by
    by_cases hc : creases s = []
    · have hr : creases s.reverse = [] := by rw [creases_rev, hc]; rfl
      rw [best_nil few hc, best_nil few hr]
    · have hr : creases s.reverse ≠ [] := by
        rw [creases_rev]
        intro e
        exact hc (List.reverse_eq_nil_iff.mp (List.map_eq_nil_iff.mp e))
      have key : ∀ c, Cr s c → (best few (left s.reverse (s.length - c))).length = (best few (left s c)).length := fun c h => by
        have hl := (left_len h).1
        rcases left_rev h with e | e
        · rw [e, best_rev few (left s c).length (left s c) (Nat.le_refl _)]
        · rw [e]
      refine best_len_eq hr hc (fun x hx => ?_) (fun y hy => ?_)
      · obtain ⟨d, hd, rfl⟩ := List.mem_map.mp hx
        rw [creases_rev] at hd
        obtain ⟨c, h1, rfl⟩ := List.mem_map.mp hd
        have h1 := mem_creases.mp (List.mem_reverse.mp h1)
        exact ⟨c :: best few (left s c), List.mem_map.mpr ⟨c, mem_creases.mpr h1, rfl⟩, by rw [List.length_cons, List.length_cons, key c h1]⟩
      · obtain ⟨c, h1, rfl⟩ := List.mem_map.mp hy
        have h1 := mem_creases.mp h1
        exact ⟨_, List.mem_map.mpr ⟨s.length - c, mem_creases.mpr (cr_rev h1), rfl⟩, by rw [List.length_cons, List.length_cons, key c h1]⟩
termination_by _ s => s.length
/-! other signs -/
section
variable {f : Nat → Nat}
theorem lies_map {s : L} {c : Nat} (h : Lies s c) : Lies (s.map f) c := fun i h1 h2 => by
  rw [List.length_map] at h2
  rw [List.getElem?_map, List.getElem?_map, h i h1 h2]
theorem lies_map_inj {s : L} {c : Nat} (hc : c ≤ s.length) (hf : ∀ a ∈ s, ∀ b ∈ s, f a = f b → a = b) (h : Lies (s.map f) c) : Lies s c := fun i h1 h2 => by
  have := h i h1 (by rw [List.length_map]; exact h2)
  rw [List.getElem?_map, List.getElem?_map] at this
  have g1 : c - 1 - i < s.length := by omega
  rw [List.getElem?_eq_getElem g1, List.getElem?_eq_getElem h2] at this ⊢
  have e : f s[c - 1 - i] = f s[c + i] := Option.some.inj this
  rw [hf _ (List.getElem_mem g1) _ (List.getElem_mem h2) e]
theorem creases_map_sub {s : L} : ∀ c ∈ creases s, c ∈ creases (s.map f) := fun c hc => by
  obtain ⟨h1, h2, h3⟩ := mem_creases.mp hc
  exact mem_creases.mpr ⟨h1, by rw [List.length_map]; exact h2, lies_map h3⟩
theorem left_map (s : L) (c : Nat) : left (s.map f) c = (left s c).map f := by
  unfold left
  rw [List.length_map]
  split
  · rw [List.map_drop]
  · rw [List.map_take]
theorem creases_map {s : L} (hf : ∀ a ∈ s, ∀ b ∈ s, f a = f b → a = b) : creases (s.map f) = creases s := by
  refine pw_uniq (creases_pw _) (creases_pw _) fun c => ⟨fun h => ?_, creases_map_sub c⟩
  obtain ⟨h1, h2, h3⟩ := mem_creases.mp h
  rw [List.length_map] at h2
  exact mem_creases.mpr ⟨h1, h2, lies_map_inj (by omega) hf h3⟩
theorem best_map (few : Bool) : ∀ (n : Nat) (s : L), s.length ≤ n → (∀ a ∈ s, ∀ b ∈ s, f a = f b → a = b) → best few (s.map f) = best few s
  | n, s, hn, hf => by
    have hcm := creases_map hf
    by_cases hc : creases s = []
    · rw [best_nil few hc, best_nil few (by rw [hcm]; exact hc)]
    · refine (best_best few (by rw [hcm]; exact hc)).uniq ?_
      have e : cands few (s.map f) = cands few s := by
        unfold cands
        rw [hcm]
        apply List.map_congr_left
        intro c hc
        have hl := (left_len (mem_creases.mp hc)).1
        rw [left_map, best_map few (left s c).length (left s c) (Nat.le_refl _) fun a ha b hb => hf a (left_mem ha) b (left_mem hb)]
      rw [e]
      exact best_best few hc
termination_by _ s => s.length
decreasing_by all_goals exact hl
theorem comes_map {s t : L} (a : Comes s t) : Comes (s.map f) (t.map f) := by
  induction a with
  | refl s => exact .refl _
  | @step s t c hc _ ih =>
    refine .step (mem_creases.mp (creases_map_sub c (mem_creases.mpr hc))) ?_
    rw [left_map]
    exact ih
theorem comes_map_inv {s : L} : ∀ {u : L}, Comes (s.map f) u → (∀ a ∈ s, ∀ b ∈ s, f a = f b → a = b) → ∃ t, Comes s t ∧ u = t.map f := by
  intro u a
  generalize e : s.map f = v at a
  induction a generalizing s with
  | refl v => exact fun _ => ⟨s, .refl s, e.symm⟩
  | @step v u c hc _ ih =>
    intro hf
    subst e
    have h1 : Cr s c := mem_creases.mp (by rw [← creases_map hf]; exact mem_creases.mpr hc)
    obtain ⟨t, t1, t2⟩ := ih (s := left s c) (left_map s c).symm fun a ha b hb => hf a (left_mem ha) b (left_mem hb)
    exact ⟨t, .step h1 t1, t2⟩
theorem nf_map {s : L} (hf : ∀ a ∈ s, ∀ b ∈ s, f a = f b → a = b) (h : NF s) : NF (s.map f) := nf_iff.mpr (by rw [creases_map hf]; exact nf_iff.mp h)
/-- the least strip of a strip called otherwise -/
theorem least_map {s : L} (hf : ∀ a ∈ s, ∀ b ∈ s, f a = f b → a = b) : Al ((least s).map f) (least (s.map f)) := by
  obtain ⟨u, u1, u2⟩ := to_least s
  have hu : NF u := u2.nf (least_nf s)
  have h1 := comes_map (f := f) u1
  have h2 : NF (u.map f) := nf_map (fun a ha b hb => hf a (u1.mem ha) b (u1.mem hb)) hu
  have h3 : Al (least (s.map f)) (u.map f) := al_least h1 h2
  have h4 : Al ((least s).map f) (u.map f) := by
    rcases u2 with rfl | rfl
    · exact .refl _
    · rw [List.map_reverse]; exact .inr rfl
  exact h4.trans h3.symm
end
/-- no like neighbours: no crease -/
theorem nf_apart {s : L} (h : ∀ i, i + 1 < s.length → s[i]? ≠ s[i + 1]?) : NF s := fun c hc => by
  have h1 := crease_like hc
  have h2 := h (c - 1) (by have := hc.1; have := hc.2.1; omega)
  rw [show c - 1 + 1 = c by have := hc.1; omega] at h2
  exact h2 h1
/-- the first cells of a least strip are not doubled, nor the last -/
theorem nf_ends {s : L} (h : NF s) (hl : 2 ≤ s.length) : s[0]? ≠ s[1]? ∧ s[s.length - 2]? ≠ s[s.length - 1]? := by
  refine ⟨fun e => h 1 ⟨Nat.le_refl 1, by omega, fun i h1 h2 => ?_⟩, fun e => h (s.length - 1) ⟨by omega, by omega, fun i h1 h2 => ?_⟩⟩
  · have : i = 0 := by omega
    subst this
    exact e
  · have : i = 0 := by omega
    subst this
    rw [show s.length - 1 - 1 - 0 = s.length - 2 by omega]
    exact e
/-- equal neighbours left out -/
def apartL : L → L
  | [] => []
  | [a] => [a]
  | a :: b :: r => if a = b then apartL (b :: r) else a :: apartL (b :: r)
end Fo

/-! Infrastructure: a def of the text by its name (Def), its promise (Fn), calls by name. -/
namespace Lk
open PySem PySem.Spec PyProof.Rows L2
/-- the def x of the text stands under its name -/
structure Def (K : PySem.W.Frag) (mg : Str → Option Value) (x : Str) (st : Stmt) (ps : List Str) : Prop where
  ex : ∃ f fd, mg x = some (.ref f) ∧ Fun K x x st f fd ∧ Binds K fd ps [] ∧ ∀ (s : Shared) (us : List Value), us.length = ps.length → BindsTo s fd ⟨us, []⟩ (ps.zip us)
theorem def_mk {K : PySem.W.Frag} {h : Heap} {mg : Str → Option Value} {x : Str} {st : Stmt} {ps : List Str} {f : Addr} {oc : Value} {od an : Option Addr} {osl : Array (Option Value)} {kV doc pm cdv ct : Value} (X : K.In h) (G : h.Ns mainGlobals mg)
    (hb : ∀ (kV doc pm : Value) (an : Option Addr) (cdv ct : Value) (us : List Value), us.length = ps.length → bindArgs (PySem.W.fnOf x x (defArgs st) (defBody st) (defScope st) .none kV doc pm an cdv ct) ⟨us, []⟩ = pure (ps.zip us))
    (a : PySem.W.nsIn K mainGlobals x = some (some (.ref f))) (l : K.lookup f = some ⟨oc, od, .func (PySem.W.fnOf x x (defArgs st) (defBody st) (defScope st) .none kV doc pm an cdv ct), osl⟩)
    (c : PySem.W.codeIn K cdv x = true) (k : PySem.W.keepIn K (.ref f) = true) : Def K mg x st ps := by
  have F := fun_mk (st := st) l c k
  exact ⟨f, _, PySem.W.mg_of X G a, F, F.binds hb, fun s us hl => .of_eq (hb _ _ _ _ _ _ us hl)⟩
/-- what a def named x is worth -/
def Fn (P : Program) (w : World) (K : PySem.W.Frag) (mg : Str → Option Value) (base : Heap) (CX : CXT) (k : Nat) (x : Str) (ps : List Str) (sp : Sp) : Prop :=
  ∃ f fd, mg x = some (.ref f) ∧ PySem.W.keepIn K (.ref f) = true ∧ Binds K fd ps [] ∧ FnOk P w K mg base CX k f fd ps sp
section
variable {P : Program} {w : World} {K : PySem.W.Frag} {mg : Str → Option Value} {base : Heap}
theorem Def.fn {CX : CXT} {x : Str} {st : Stmt} {ps : List Str} {k : Nat} {sp : Sp} (D : Def K mg x st ps) (h : ∀ f fd, Fun K x x st f fd → FnOk P w K mg base CX k f fd ps sp) : Fn P w K mg base CX k x ps sp := by
  obtain ⟨f, fd, a, F, b, _⟩ := D.ex
  exact ⟨f, fd, a, F.kp, b, h f fd F⟩
theorem Fn.mono {CX : CXT} {x : Str} {ps : List Str} {j k : Nat} {sp : Sp} (F : Fn P w K mg base CX j x ps sp) (h : j ≤ k) : Fn P w K mg base CX k x ps sp := by
  obtain ⟨f, fd, a, b, c, d⟩ := F
  exact ⟨f, fd, a, b, c, d.mono h⟩
theorem Fn.imp {CX : CXT} {x : Str} {ps : List Str} {k : Nat} {sp sp' : Sp} (F : Fn P w K mg base CX k x ps sp) (h : ∀ vs H Q E, sp' vs H Q E → sp vs H Q E) : Fn P w K mg base CX k x ps sp' := by
  obtain ⟨f, fd, a, b, c, d⟩ := F
  exact ⟨f, fd, a, b, c, d.imp h⟩
end
section
variable {X : Cx} {x : Str} {ps : List Str} {k j : Nat} {sp : Sp} {e : Expr} {es : List Expr} {t : TA} {p pos : Pos}
/-- x(e, ..), nothing raised -/
def tFn (sp : Sp) (t : TA) : TE := fun σ H Q => t σ H fun vs H1 => sp vs H1 Q E0
theorem pe_fn (F : Fn X.prog X.w X.K X.mg X.base CX0 k x ps sp) (hr : Room j X.A) (ha : PA X (e :: es) t) (hj : k ≤ j := by decide) (hg : Gl X x := by rfl)
    (hdb : (x == ("__debug__" : Str)) = false := by decide) (he : starEach (e :: es) X.env = (false, eval e X.env) :: starEach es X.env := by rfl) (hpl : (backTo pos (starEach es X.env)).any (·.1) = false := by rfl) :
    PE X (.Call (.Name x p) (e :: es) [] pos) (tFn sp t) := by
  obtain ⟨f, fd, a, b, c, d⟩ := F
  have z := pe_call (E := E0) (p := p) (pos := pos) d (hr.mono hj) hg a b c .nil pass0 ha hdb he hpl
  refine ⟨fun pins s σ H Q I h => z.run pins s σ H Q I ?_⟩
  show t σ H fun vs H1 => sp (vs ++ []) H1 Q E0
  have e : (fun vs H1 => sp (vs ++ []) H1 Q E0) = fun (vs : List V) H1 => sp vs H1 Q E0 := by
    funext vs H1
    rw [List.append_nil]
  rw [e]
  exact h
end
/-- all but the object at b stands as it was -/
def But (b : Addr) (H H' : Hp) : Prop := ∀ a o, a ≠ b → H a = some o → H' a = some o
theorem But.refl (b : Addr) (H : Hp) : But b H H := fun _ _ _ h => h
theorem But.trans {b : Addr} {H H1 H2 : Hp} (a : But b H H1) (c : But b H1 H2) : But b H H2 := fun x o n h => c x o n (a x o n h)
theorem But.same {b : Addr} {H H1 H2 : Hp} (a : But b H H1) (c : Same H1 H2) : But b H H2 := fun x o n h => c x o (a x o n h)
theorem Same.but {b : Addr} {H H1 : Hp} (a : Same H H1) : But b H H1 := fun x o _ h => a x o h
theorem Same.upd {H : Hp} {p : Addr} {o : HO} (h : H p = none) : Same H (L2.upd H p o) := fun b x e => by
  rw [upd_ne (ne_of_none e h)]
  exact e
theorem Same.upd' {H0 H : Hp} {p : Addr} {o : HO} (s : Same H0 H) (h : H p = none) : Same H0 (L2.upd H p o) := s.trans (Same.upd h)
theorem Same.upd2 {H0 H : Hp} {p : Addr} {o : HO} (s : Same H0 H) (h : H0 p = none) : Same H0 (L2.upd H p o) := fun b x e => by
  rw [upd_ne (ne_of_none e h)]
  exact s b x e
theorem But.free {b l : Addr} {H H' : Hp} (e : But b H H') (n : l ≠ b) (h : H' l = none) : H l = none := by
  cases q : H l with
  | none => rfl
  | some o =>
    rw [e l o n q] at h
    cases h
theorem But.upd2 {b p : Addr} {o : HO} {H H' : Hp} (e : But b H H') (h : H p = none) : But b H (L2.upd H' p o) := fun c x n q => by
  rw [upd_ne (ne_of_none q h)]
  exact e c x n q
theorem But.seq {K : PySem.W.Frag} {b : Addr} {H H' : Hp} {a : Addr} {xs : List V} (e : But b H H') (n : a ≠ b) (h : SqL K H a xs) : SqL K H' a xs := by
  rcases h with (h | ⟨o, h⟩) | h
  · exact .inl (.inl (e _ _ n h))
  · exact .inl (.inr ⟨o, e _ _ n h⟩)
  · exact .inr h
end Lk


/-! Rules for texts: [::-1], min of two, sorting of any number. -/
namespace Lk
open PySem PySem.Spec PyProof.Rows L2
abbrev S (l : List Nat) : Str := SX.S l
abbrev vS (l : List Nat) : V := .str (S l)
theorem S_len (l : List Nat) : (S l).length = l.length := SX.S_len l
theorem S_tl (l : List Nat) : (S l).cps.toList = l := rfl
theorem S_of (x : Str) : S x.cps.toList = x := SX.S_tl x
theorem S_inj {a b : List Nat} : S a = S b ↔ a = b := ⟨SX.S_inj, fun h => by rw [h]⟩
theorem vS_inj {a b : List Nat} : vS a = vS b ↔ a = b := ⟨fun h => SX.S_inj (V.str.inj h), fun h => by rw [h]⟩
theorem vS_dec (a b : List Nat) : decide (vS a = vS b) = decide (a = b) := by
  by_cases h : a = b
  · rw [decide_eq_true h, decide_eq_true (vS_inj.mpr h)]
  · rw [decide_eq_false h, decide_eq_false fun e => h (vS_inj.mp e)]
section
variable {X : Cx}
/-! ### s[::-1] -/
def tRevS (te : TE) : TE := fun σ H Q => te σ H fun x H1 => ∃ l, x = vS l ∧ l.length ≤ sizeLine ∧ Q (vS l.reverse) H1
theorem rev_list (x : Str) (u : Tok) : (Txt.sliceBy x none none (-1, u)).cps.toList = x.cps.toList.reverse := by
  rw [step_rev_list]
  apply List.ext_getElem?
  intro i
  by_cases hi : i < x.length
  · have hs : x.cps.size = x.length := rfl
    rw [List.getElem?_map, List.getElem?_range hi, List.getElem?_reverse (by rw [Array.length_toList]; exact hi), Array.length_toList]
    show some (x.cps.getD (x.length - 1 - i) 0) = x.cps.toList[x.length - 1 - i]?
    have h2 : x.length - 1 - i < x.cps.size := by omega
    rw [Array.getElem?_toList, Array.getElem?_eq_getElem h2]
    congr 1
    simp [Array.getD, h2]
  · rw [List.getElem?_eq_none (by rw [List.length_map, List.length_range]; omega), List.getElem?_eq_none (by rw [List.length_reverse, Array.length_toList]; show x.length ≤ i; omega)]
theorem pe_revS {e : Expr} {te : TE} {k : Nat} {p1 p2 p3 pos : Pos} (he : PE X e te) : PE X (.Subscript e (.Slice none none (some (.UnaryOp .USub (.Constant (.int 1) k p1) p2)) p3) pos) (tRevS te) := by
  refine ⟨fun pins s σ H Q I h => ?_⟩
  refine Subscript_ (thn (he.run pins s σ H _ I h) fun v s1 ⟨x, H1, I1, r1, q1⟩ => ?_)
  obtain ⟨z, ex, hz, q⟩ := q1
  subst ex
  obtain ⟨tz, rfl⟩ := r1
  have hst : PO X (some (.UnaryOp .USub (.Constant (.int 1) k p1) p2)) (tPart (tUn (rU fun i => .int (-i)) (tC (.int 1)))) := po_some (pe_un un_neg pe_int)
  refine wpAny_Slice (thn (po_none.run pins s1 σ H1 (fun o H2 => o = none ∧ H2 = H1) I1 ⟨rfl, rfl⟩) fun vl s2 ⟨l, H2, I2, pl, el, e2⟩ => ?_)
  subst el e2
  refine thn (po_none.run pins s2 σ H2 (fun o H3 => o = none ∧ H3 = H2) I2 ⟨rfl, rfl⟩) fun vu s3 ⟨u, H3, I3, pu, eu, e3⟩ => ?_
  subst eu e3
  refine thn (hst.run pins s3 σ H3 (fun o H4 => o = some (-1) ∧ H4 = H3) I3 ⟨1, rfl, -1, rfl, rfl, rfl⟩) fun vs s4 ⟨o, H4, I4, ps, eo, e4⟩ => ?_
  subst eo e4
  have I5 : Inv X pins σ H4 { s4 with heap := s4.heap.push { cls := .type "slice", data := .fields #[vl, vu, vs] } } := I4.kept (t' := s4.toks) fun b ob q => Heap.get?_push_of_some _ q
  show wpAny (model X.prog X.w) X.A (subscriptTail e (.Slice none none (some (.UnaryOp .USub (.Constant (.int 1) k p1) p2)) p3) (.str (S z) tz) (.ref s4.heap.objs.size)) (EP X pins σ Q) X.xe { s4 with heap := s4.heap.push { cls := .type "slice", data := .fields #[vl, vu, vs] } }
  obtain ⟨l, rfl, el⟩ := IsPart.raw pl
  obtain ⟨u, rfl, eu⟩ := IsPart.raw pu
  obtain ⟨st, rfl, es⟩ := IsPart.raw ps
  have el' : l = none := by cases l with | none => rfl | some p => simp at el
  have eu' : u = none := by cases u with | none => rfl | some p => simp at eu
  subst el' eu'
  obtain ⟨t, es'⟩ : ∃ t, st = some (-1, t) := by
    cases st with
    | none => simp at es
    | some p =>
      obtain ⟨p1, p2⟩ := p
      have e1 : p1 = -1 := Option.some.inj es
      exact ⟨p2, by rw [e1]⟩
  subst es'
  refine tail_any (ops := [.str (S z) tz, .ref s4.heap.objs.size]) (typeIs_str _ _ _) (PySem.F.slot_str_getitem.lookup) ?_ (by with_unfolding_all rfl)
  refine wpAny_getItem_str_slice (l := none) (u := none) (st := some (-1, t)) ⟨_, Heap.get?_push_size _ rfl, rfl, rfl⟩ (by rfl) ?_
  have hrl := rev_list (S z) t
  have hcond : ¬ ((((some ((-1 : Int), t)).map (·.1)).getD 1 == 1 && (slicePicked (S z) none none (some (-1, t))).length == (S z).length) = true) := by
    have : ((((some ((-1 : Int), t)).map (·.1)).getD 1 == 1)) = false := rfl
    rw [this]; simp
  unfold Txt.sliceBy at hrl
  rw [if_neg hcond] at hrl
  unfold sliceMade
  rw [if_neg hcond]
  have e9 : (⟨((slicePicked (S z) none none (some (-1, t))).filterMap ((S z).cps[·]?)).toArray⟩ : Str) = S z.reverse := by
    apply TL.ext_tl
    exact hrl
  rw [e9]
  exact ⟨by rw [S_len, List.length_reverse]; exact hz, vS z.reverse, _, I5.tok _, ⟨_, rfl⟩, q⟩

/-! ### min(s, t) -/
def strItems (xs : Array (Str × Tok)) : Array Value := xs.map fun p => .str p.1 p.2
def strAt (xs : Array (Str × Tok)) (i : Nat) : Str := (xs[i]?.map (·.1)).getD ⟨#[]⟩
theorem strItems_at {xs : Array (Str × Tok)} {i : Nat} {v : Value} (h : (strItems xs)[i]? = some v) : ∃ t, v = .str (strAt xs i) t := by
  simp only [strItems, Array.getElem?_map, Option.map_eq_some_iff] at h
  obtain ⟨p, hp, rfl⟩ := h
  exact ⟨p.2, by simp [strAt, hp]⟩
theorem cmp_strs_lt {prog : Program} {w : World} {A : Around} {P : Nat → Value → Prop} (val : Nat → Str) (hval : ∀ i v, P i v → ∃ t, v = .str (val i) t) :
    CmpOf prog w A .Lt P (fun i j => decide ((val i).cps.toList < (val j).cps.toList)) := fun i j vi vj s Q E hi hj h => by
  obtain ⟨t, rfl⟩ := hval i vi hi
  obtain ⟨u, rfl⟩ := hval j vj hj
  exact richCompare_gives (op := .Lt) (typeIs_str s _ t) (typeIs_str s _ u) PySem.F.slot_str_lt PySem.F.entry_str_lt (PySem.F.args_str_lt_2 _ _) (gives_str_lt _ _ t u) (fun x => nomatch x) h
theorem min_two_strs {prog : Program} {w : World} {A : Around} {E : Value → Shared → Prop} {s : Shared} {a b : Str} {t u : Tok} {Q : Value → Shared → Prop} (hh : A.handled = none)
    (h : ∀ h' tk, (∀ c o, s.heap.get? c = some o → h'.get? c = some o) → Q (if b.cps.toList < a.cps.toList then .str b u else .str a t) { s with heap := h', toks := tk }) :
    wpAny (model prog w) A (call (.builtin "min") [.str a t, .str b u]) Q E s := by
  have hT : (s.heap.push { cls := .type "tuple", data := .seq #[.str a t, .str b u] }).IsTuple s.heap.objs.size (strItems #[(a, t), (b, u)]) := ⟨_, Heap.get?_push_size _ rfl, rfl, 0, by simp [strItems]⟩
  refine call_min_two (wpAny_pyIter_tuple hT ?_)
  have hsz : (s.heap.push { cls := .type "tuple", data := .seq #[.str a t, .str b u] }).objs.size = s.heap.objs.size + 1 := Heap.size_push ..
  refine ⟨_, [_, s.heap.objs.size], [_], _, _, _, _, rfl, Walks.tuple (A := A.in1) hh _ s.heap.objs.size (by rw [hsz]; exact Nat.ne_of_lt (Nat.lt_succ_self _)) (strItems #[(a, t), (b, u)]),
    ⟨⟨_, Heap.get?_push_size _ rfl, rfl, rfl⟩, hT.push _⟩, fun c hc => ?_, by simp [strItems], cmp_strs_lt (strAt #[(a, t), (b, u)]) (fun _ _ => strItems_at), fun v h' tk hP hk => ?_⟩
  · show c < ((s.heap.push _).push _).objs.size
    rw [Heap.size_push, hsz]
    rcases List.mem_cons.mp hc with rfl | hc
    · rw [hsz]; exact Nat.lt_succ_self _
    · rcases List.mem_cons.mp hc with rfl | hc
      · exact Nat.lt_succ_of_lt (Nat.lt_succ_self _)
      · cases hc
  · have hold : ∀ c o, s.heap.get? c = some o → h'.get? c = some o := fun c o e => by
      refine hk c o (fun hm => ?_) (Heap.get?_push_of_some _ (Heap.get?_push_of_some _ e))
      rcases List.mem_cons.mp hm with e1 | hm
      · have := Heap.lt_size e; rw [e1, hsz] at this; exact Nat.lt_irrefl _ (Nat.lt_of_succ_lt this)
      · cases hm
    have := h h' tk hold
    have hv : v = if b.cps.toList < a.cps.toList then Value.str b u else Value.str a t := by
      have hP' : (strItems #[(a, t), (b, u)])[argBest (fun i j => decide ((strAt #[(a, t), (b, u)] i).cps.toList < (strAt #[(a, t), (b, u)] j).cps.toList)) 1]? = some v := by
        have hsz2 : (strItems #[(a, t), (b, u)]).size - 1 = 1 := by simp [strItems]
        rw [← hsz2]; exact hP
      by_cases hba : b.cps.toList < a.cps.toList
      · have e : argBest (fun i j => decide ((strAt #[(a, t), (b, u)] i).cps.toList < (strAt #[(a, t), (b, u)] j).cps.toList)) 1 = 1 := by simp [argBest, strAt, hba]
        rw [e] at hP'
        simpa [strItems, hba] using hP'.symm
      · have e : argBest (fun i j => decide ((strAt #[(a, t), (b, u)] i).cps.toList < (strAt #[(a, t), (b, u)] j).cps.toList)) 1 = 0 := by simp [argBest, strAt, hba]
        rw [e] at hP'
        simpa [strItems, hba] using hP'.symm
    rw [hv]; exact this
theorem call_minS (hc : X.calm = true) : CallR X (.builtin "min") (fun xs H Q => ∃ a b, xs = [vS a, vS b] ∧ Q (vS (if b < a then b else a)) H) := by
  intro pins s σ H xs us Q I r h
  obtain ⟨a, b, rfl, q⟩ := h
  obtain ⟨u, w', rfl, ⟨t, rfl⟩, ⟨t', rfl⟩⟩ := vals2 r
  refine min_two_strs (I.ok.hd hc) fun h' tk k => ⟨_, H, I.kept k, ?_, q⟩
  by_cases hb : b < a
  · rw [if_pos hb, if_pos (show (S b).cps.toList < (S a).cps.toList from hb)]; exact ⟨_, rfl⟩
  · rw [if_neg hb, if_neg (show ¬ (S b).cps.toList < (S a).cps.toList from hb)]; exact ⟨_, rfl⟩

/-! ### sorted(xs), sorted(d): texts, any number -/
def rSortedSA (K : PySem.W.Frag) : List V → Hp → VK → Prop := fun vs H Q => ∃ (a : Addr) (xs : List Str), vs = [V.ref a] ∧ SqL K H a (xs.map V.str) ∧
  ∀ (ys : List Str) (p : Addr), ys.Perm xs → sortedS ys = true → H p = none → Q (.ref p) (upd H p (.lst (ys.map V.str)))
theorem cr_sortedSA : CallR X (.builtin "sorted") (rSortedSA X.K) := by
  intro pins s σ H vs us Q I r h
  obtain ⟨a, xs, rfl, hs, q⟩ := h
  obtain ⟨its, rv, hl, hz⟩ := I.list hs
  rw [Vals.ref1 r]
  have hlen0 := rv.length
  refine PyProof.Rows.sorted_strsAny hl.isList rv.strs (by rw [← hlen0]; exact hz) fun out ys h1 h2 h3 => ?_
  obtain ⟨ep, he'⟩ := PyProof.Rows.sortedAll_at s.heap its out
  have hlen : (ys.map V.str).length ≤ sizeLine := by rw [List.length_map, h2.length_eq]; rw [List.length_map] at hz; exact hz
  exact ⟨.ref _, upd H (s.heap.objs.size + 1) (.lst (ys.map V.str)), I.laid (t' := s.toks) (fun _ _ => PyProof.Rows.sortedAll_old) (Nat.le_succ _) ⟨hlen, out.toList, ep, vals_of_strs h1, he'⟩, rfl, q ys _ h2 h3 (I.hok.fresh (Nat.le_succ _))⟩
def rSortedDA : List V → Hp → VK → Prop := fun xs H Q => ∃ (a : Addr) (kvs : List (Key × V)) (ks : List Str), xs = [.ref a] ∧ Rd H a (.dK kvs) ∧ kvs.map (·.1) = ks.map Sum.inr ∧
    ∀ ys p, ys.Perm ks → sortedS ys = true → H p = none → Q (.ref p) (upd H p (.lst (ys.map V.str)))
theorem call_sortedDA (hcalm : X.calm = true) : CallR X (.builtin "sorted") rSortedDA := by
  intro pins s σ H xs us Q I r q
  obtain ⟨a, kvs, ks, ex, hd, hks, q⟩ := q
  subst ex
  obtain ⟨u, eu, rx⟩ := vals1 r
  subst eu
  cases rx
  obtain ⟨z, lo, vs, rel, dd⟩ := dk_rd I.hok hd
  obtain ⟨ep, hat⟩ := dd.dictAt
  have hkeys : vs.map (·.1) = ks.map Sum.inr := rel.keys.symm.trans hks
  have hl : vs.length = ks.length := by
    have e := congrArg List.length hkeys
    rw [List.length_map, List.length_map] at e
    exact e
  have h16' : kvs.length = ks.length := by
    have e := congrArg List.length hks
    rw [List.length_map, List.length_map] at e
    exact e
  have h16 : vs.length ≤ sizeLine := by rw [hl, ← h16']; exact z
  refine Calls.call_function_entry PyProof.Rows.kind_sorted PyProof.Rows.plain_sorted PyProof.Rows.entry_sorted (PyProof.Rows.args_sorted1 _) ?_
  unfold Builtin.«sorted»
  refine wpAny_bind (m := checkCount "sorted" 1 1 _) (wpAny_pure ?_)
  refine wpAny_bind (PySem.W.kdu_collect (A := X.A.in1) (PySem.W.kdl_dict (knd := mixKind X.prog X.w) (kvs := vs) (ep := ep) lo) (I.ok.hd hcalm) hat h16 fun h' tk acc hk hacc => ?_)
  have hal : acc.toList.length = ks.length := by rw [Array.length_toList, hacc.1, hl]
  have hS : StrsAre acc.toList ks := strs_at hal fun j v e => by
    obtain ⟨k, x, e1, e2⟩ := hacc.2 j v (by rw [← Array.getElem?_toList]; exact e)
    have e3 : (vs.map (·.1))[j]? = some k := by rw [List.getElem?_map, e1]; all_goals rfl
    rw [hkeys, List.getElem?_map] at e3
    cases e4 : ks[j]? with
    | none => rw [e4] at e3; cases e3
    | some y =>
      rw [e4] at e3
      have e5 : Sum.inr y = k := Option.some.inj e3
      subst e5
      obtain ⟨t, ev⟩ := Value.isStrOf_shape (x := y) (v := v) e2
      exact ⟨y, t, rfl, ev⟩
  have I1 : Inv X pins σ H { s with heap := h', toks := tk } := I.kept hk
  refine wpAny_bind (wpAny_newList ?_ (by rw [hal, ← hl]; exact h16))
  have hoL : (h'.push (seqObj "list" acc.toList.toArray 0)).get? h'.objs.size = some (seqObj "list" acc.toList.toArray 0) := Heap.get?_push_size _ rfl
  show wpAny _ _ _ _ _ { s with heap := h'.push (seqObj "list" acc.toList.toArray 0), toks := tk }
  refine wpAny_bind (wpAny_holding (wpAny_call_entry PyProof.Rows.slot_list_sort ⟨_, hoL, rfl⟩ PyProof.Rows.entry_list_sort
    (list_sort_treeKAny strKind_oneLt (s := { s with heap := h'.push (seqObj "list" acc.toList.toArray 0), toks := tk }) hoL hS.keysOf (fun v₁ v₂ rest e => keyKind_strs (by rw [← e]; exact hS)) (by rw [hal, ← hl]; exact h16) fun st' hp hs => ⟨_, rfl, ?_⟩)
    (PyProof.Rows.args_list_sort _)))
  obtain ⟨ys, g1, g2, g3⟩ := sorted_out_str hS hp hs
  obtain ⟨e', he'⟩ := PyProof.Rows.sortedHeap_at (vs := acc.toList) (out := (arrOf st').map (·.2)) hoL
  have hlen : (ys.map V.str).length ≤ sizeLine := by
    rw [List.length_map, g2.length_eq, ← hl]
    exact h16
  refine wpAny_pure ⟨_, rfl, .ref h'.objs.size, upd H h'.objs.size (.lst (ys.map V.str)), I1.laid (t' := tk) (fun b u e => ?_) (Nat.le_refl _)
    (show ObjOk X.prog X.w _ _ _ (.lst (ys.map V.str)) from ⟨hlen, ((arrOf st').map (·.2)).toList, e', vals_of_strs g1, by rw [Array.toArray_toList]; exact he'⟩), rfl, q ys _ g2 g3 (I1.hok.fresh (Nat.le_refl _))⟩
  have hb : b < h'.objs.size := Heap.lt_size e
  rw [PyProof.Rows.sortedHeap_old (Nat.ne_of_lt hb) (by rw [size_push']; exact Nat.lt_succ_of_lt hb)]
  exact Heap.get?_push_of_some _ e
end
end Lk


namespace Lk
open PySem PySem.Spec PyProof.Rows L2
/-! ### rules over lists of signs -/
abbrev vI (c : Nat) : V := .int (c : Int)
/-- l[lo:hi] -/
def cutL (l : List Nat) (lo hi : Option Int) : List Nat := (l.drop (HT.sIx l.length 0 lo)).take (HT.sIx l.length l.length hi - HT.sIx l.length 0 lo)
theorem cutS_S (l : List Nat) (lo hi : Option Int) : cutS (S l) lo hi = S (cutL l lo hi) := by
  unfold cutS cutL
  rw [S_len]
theorem cut_to (l : List Nat) {i : Int} (h : 0 ≤ i) : cutL l none (some i) = l.take i.toNat := by
  have e : i = ((i.toNat : Nat) : Int) := by omega
  unfold cutL
  rw [HT.sIx_none, e, HT.sIx_nat, List.drop_zero, Nat.sub_zero, Int.toNat_natCast]
  by_cases hl : i.toNat ≤ l.length
  · rw [Nat.min_eq_left hl]
  · rw [Nat.min_eq_right (by omega), List.take_length, List.take_of_length_le (by omega)]
theorem cut_from (l : List Nat) {i : Int} (h : 0 ≤ i) : cutL l (some i) none = l.drop i.toNat := by
  have e : i = ((i.toNat : Nat) : Int) := by omega
  unfold cutL
  rw [HT.sIx_none, e, HT.sIx_nat, Int.toNat_natCast]
  by_cases hl : i.toNat ≤ l.length
  · rw [Nat.min_eq_left hl, List.take_of_length_le (by rw [List.length_drop]; omega)]
  · rw [Nat.min_eq_right (by omega), List.drop_length, List.drop_eq_nil_of_le (by omega), List.take_nil]
theorem cut_mid (l : List Nat) {i j : Int} (h : 0 ≤ i) (h2 : i ≤ j) (h3 : j ≤ l.length) : cutL l (some i) (some j) = (l.drop i.toNat).take (j.toNat - i.toNat) := by
  have e : i = ((i.toNat : Nat) : Int) := by omega
  have e2 : j = ((j.toNat : Nat) : Int) := by omega
  unfold cutL
  rw [e, e2, HT.sIx_nat, HT.sIx_nat, Int.toNat_natCast, Int.toNat_natCast, Nat.min_eq_left (by omega), Nat.min_eq_left (by omega)]
theorem cut_neg (l : List Nat) {i : Int} (h : i < 0) (h2 : 0 ≤ l.length + i) : cutL l (some i) none = l.drop (l.length + i).toNat := by
  have e : HT.sIx l.length 0 (some i) = (l.length + i).toNat := by
    show (if i < 0 then (i + (l.length : Int)).toNat else min i.toNat l.length) = _
    rw [if_pos h, Int.add_comm]
  unfold cutL
  rw [HT.sIx_none, e, List.take_of_length_le (by rw [List.length_drop]; omega)]
theorem cut_len (l : List Nat) (lo hi : Option Int) : (cutL l lo hi).length ≤ l.length := by
  unfold cutL
  rw [List.length_take, List.length_drop]
  omega
section
variable {X : Cx}
theorem big {n : Nat} (h : n ≤ 1000000) : n ≤ sizeLine := Nat.le_trans h (by decide)
theorem sl_S : SlR X (fun x lo hi H Q => ∃ l, x = vS l ∧ l.length ≤ 1000000 ∧ Q (vS (cutL l lo hi)) H) := by
  intro pins s σ H x v vl vu lo hi sl Q I rx hs pl pu ⟨l, e, hl, q⟩
  refine sl_str pins s σ H x v vl vu lo hi sl Q I rx hs pl pu ⟨S l, e, by rw [S_len]; exact big hl, ?_⟩
  rw [cutS_S]
  exact q
theorem op_catS : OpR X (binaryOp .Add) (fun x y H Q => ∃ a b, x = vS a ∧ y = vS b ∧ a.length + b.length ≤ 1000000 ∧ Q (vS (a ++ b)) H) := by
  intro pins s σ H x y v u Q I rx ry ⟨a, b, e1, e2, hl, q⟩
  refine op_add_str pins s σ H x y v u Q I rx ry ⟨S a, S b, e1, e2, by rw [S_len, S_len]; exact big hl, ?_⟩
  rw [SX.S_cat]
  exact q
theorem call_lenS : CallR X (.builtin "len") (fun xs H Q => ∃ l, xs = [vS l] ∧ l.length ≤ 1000000 ∧ Q (.int l.length) H) := by
  intro pins s σ H xs us Q I r ⟨l, e, hl, q⟩
  refine call_len_str pins s σ H xs us Q I r ⟨S l, e, by rw [S_len]; exact big hl, ?_⟩
  rw [S_len]
  exact q
/-- len of a text, a list, a tuple -/
def LenX (K : PySem.W.Frag) (x : V) (H : Hp) (n : Nat) : Prop := (∃ l, x = vS l ∧ l.length ≤ 1000000 ∧ n = l.length) ∨ (∃ p xs, x = .ref p ∧ SqL K H p xs ∧ n = xs.length) ∨ ∃ p xs, x = .ref p ∧ SqT K H p xs ∧ n = xs.length
theorem call_lenX : CallR X (.builtin "len") (fun xs H Q => ∃ x n, xs = [x] ∧ LenX X.K x H n ∧ Q (.int n) H) := by
  intro pins s σ H xs us Q I r ⟨x, n, e, hl, q⟩
  rcases hl with ⟨l, rfl, h1, rfl⟩ | ⟨p, ys, rfl, h1, rfl⟩ | ⟨p, ys, rfl, h1, rfl⟩
  · exact call_len pins s σ H xs us Q I r ⟨_, _, e, ⟨by rw [S_len]; exact big h1, (S_len l).symm⟩, q⟩
  · exact call_len pins s σ H xs us Q I r ⟨_, _, e, .inl ⟨ys, h1, rfl⟩, q⟩
  · exact call_len pins s σ H xs us Q I r ⟨_, _, e, .inr ⟨ys, h1, rfl⟩, q⟩
theorem ix_S : IxR X (fun x y H Q => ∃ l i c, x = vS l ∧ y = .int i ∧ l.length ≤ 1000000 ∧ atI l i = some c ∧ Q (vS [c]) H) := by
  intro value slice pins s σ H x y v u Q I rx ry ⟨l, i, c, e1, e2, hl, ha, q⟩ hs
  exact ix_str value slice pins s σ H x y v u Q I rx ry ⟨S l, i, c, e1, e2, by rw [S_len]; exact big hl, ha, q⟩ hs
theorem map_vS (ys : List (List Nat)) : (ys.map S).map V.str = ys.map vS := by rw [List.map_map]; rfl
/-- sep.join(list of texts) -/
theorem mt_joinS : MtR X "str.join" (fun x xs H Q => ∃ a p, ∃ ys : List (List Nat), x = vS a ∧ xs = [.ref p] ∧ (SqL X.K H p (ys.map vS) ∨ SqT X.K H p (ys.map vS)) ∧ (ys.map (·.length)).sum + ys.length * a.length ≤ 16777216 ∧ Q (vS (TL.joinL a ys)) H) := by
  intro pins s σ H x xs v us Q I rx rxs ⟨a, p, ys, e1, e2, h1, h2, q⟩
  refine mt_join pins s σ H x xs v us Q I rx rxs ⟨S a, p, ys.map S, e1, e2, by rw [map_vS]; exact h1, by rw [SX.lens, S_len, List.length_map]; exact h2, ?_⟩
  rw [SX.join_S]
  exact q
theorem pe_joinS {o e : Expr} {to te : TE} {apos pos : Pos} (ho : PE X o to) (he : PE X e te) (hs : starEach [e] X.env = [(false, eval e X.env)] := by rfl) (hbase : attributeBase o "join" X.env (eval o X.env) = eval o X.env := by rfl) (hline : (apos.endLine == pos.line) = true := by rfl) :
    PE X (.Call (.Attribute o "join" apos) [e] [] pos) (tM1 (fun x xs H Q => ∃ a p, ∃ ys : List (List Nat), x = vS a ∧ xs = [.ref p] ∧ (SqL X.K H p (ys.map vS) ∨ SqT X.K H p (ys.map vS)) ∧ (ys.map (·.length)).sum + ys.length * a.length ≤ 16777216 ∧ Q (vS (TL.joinL a ys)) H) to te) :=
  pe_m1 PySem.F.slot_str_join PySem.F.type_str_join mt_joinS ho he hs hbase hline
theorem joinL_flat : ∀ ys : List (List Nat), TL.joinL [] ys = ys.flatten
  | [] => rfl
  | [p] => by simp [TL.joinL]
  | p :: q :: r => by
    show p ++ ([] ++ TL.joinL [] (q :: r)) = _
    rw [joinL_flat (q :: r), List.nil_append]
    rfl
end
end Lk

/-! sorted(d, key=len), d a dict whose keys are texts; any number of them. -/
namespace Lk
open PySem PySem.Spec PyProof.Rows L2
section
variable {prog : Program} {w : World} {A : Around} {E : Value → Shared → Prop} {s : Shared}
def lensOf (ss : List Str) : List Int := ss.map fun x => (x.length : Int)
/-- what a sort by length hands on -/
def ByLen (ss : List Str) (vs out : List Value) : Prop := ∃ ys : List Str, StrsAre out ys ∧ ys.Perm ss ∧ ys.Pairwise (fun x y => x.length ≤ y.length)
theorem byLen_of {vs out : List Value} {ss : List Str} (hS : StrsAre vs ss) (h : KskOut false (lensOf ss) vs out) : ByLen ss vs out := by
  obtain ⟨ps, h1, h2, h3⟩ := h
  have hlen := StrsAre.length hS
  have key : ∀ p ∈ ps, ∃ x t, p.2 = Value.str x t ∧ p.1 = (x.length : Int) := fun p hp => by
    have hm := h1.mem_iff.mp hp
    obtain ⟨i, hi, e⟩ := List.getElem_of_mem hm
    rw [List.getElem_zip] at e
    have hi1 : i < ss.length := by
      have := hi
      rw [List.length_zip, lensOf, List.length_map] at this
      omega
    have hi2 : i < vs.length := by
      have := hi
      rw [List.length_zip] at this
      omega
    have hi0 : i < (lensOf ss).length := by
      unfold lensOf
      rw [List.length_map]
      exact hi1
    obtain ⟨x, t, ev⟩ := StrsAre.all hS _ (List.getElem_mem hi2)
    refine ⟨x, t, by rw [← e]; exact ev, ?_⟩
    rw [← e]
    show (lensOf ss)[i] = (x.length : Int)
    have es : ss = vs.map strOf := (StrsAre.strs hS).symm
    have q0 : (lensOf ss)[i]? = some ((ss[i]).length : Int) := by
      unfold lensOf
      rw [List.getElem?_map, List.getElem?_eq_getElem hi1]
      rfl
    rw [List.getElem?_eq_getElem hi0] at q0
    have this : (lensOf ss)[i] = ((ss[i]).length : Int) := Option.some.inj q0
    rw [this]
    have e2 : ss[i] = strOf vs[i] := by
      have := List.getElem_map strOf (l := vs) (i := i) (h := by rw [List.length_map]; exact hi2)
      rw [← this]
      congr 1
    rw [e2, ev]
    rfl
  refine ⟨out.map strOf, strsAre_map _ (fun v hv => ?_), ?_, ?_⟩
  · rw [h2] at hv
    obtain ⟨p, hp, rfl⟩ := List.mem_map.mp hv
    obtain ⟨x, t, e, _⟩ := key p hp
    exact ⟨x, t, e⟩
  · have e1 : (ps.map Prod.snd).Perm vs := by
      have := h1.map Prod.snd
      rw [List.map_snd_zip (by rw [lensOf, List.length_map]; omega)] at this
      exact this
    rw [h2, ← StrsAre.strs hS]
    exact e1.map strOf
  · rw [h2, List.map_map, List.pairwise_map]
    have hp : ps.Pairwise (fun p q : Int × Value => p.1 ≤ q.1) := h3
    refine hp.imp_of_mem fun {a b} ha hb hab => ?_
    obtain ⟨x, t, e1, e2⟩ := key a ha
    obtain ⟨y, u, e3, e4⟩ := key b hb
    show (strOf a.2).length ≤ (strOf b.2).length
    rw [e1, e3]
    show x.length ≤ y.length
    omega
variable {a kS : Addr} {vs : List Value} {kz : List Int} {keys : Array Value} {e e1 : Nat} {P : PySem.Fin → Shared → Prop}
theorem len_tail {st : SortSt} (nk : s.heap.get? kS = some (seqObj "list" keys e)) (na : s.heap.get? a = some (seqObj "list" #[] e1)) (hka : kS ≠ a)
    (hk : IntsAre keys.toList kz) (hlen : kz.length = vs.length) (hL : vs.length ≤ sizeLine) (hp : (arrOf st).Perm (keys.zip vs.toArray)) (hs : SortedTo (arrOf st) (arrOf st).size) (hfl : failedOf st = none)
    (h : ∀ h' tk out c, (∀ b o, b ≠ kS → b ≠ a → s.heap.get? b = some o → h'.get? b = some o) → h'.get? a = some (seqObj "list" out c) → KskOut false kz vs out.toList → P (.done (.ret .none)) { s with heap := h', toks := tk }) :
    wpAny (model prog w) A (ksk_tail a false e1 (.ref kS) st) P E s := by
  have hL2 := hL
  rw [sizeLine_eq] at hL2
  have hsz : keys.size = vs.length := by
    have h1 := hk.length
    rw [Array.length_toList] at h1
    omega
  have hsz2 : (arrOf st).size = vs.length := by rw [hp.size_eq, Array.size_zip, hsz, List.size_toArray, Nat.min_self]
  have hout : ((arrOf st).map (·.2)).size = vs.length := by rw [Array.size_map]; exact hsz2
  have s1 := Heap.SameBut.update s.heap kS (Obj.mapSeq fun _ => (#[] : Array Value))
  have na1 : (s.heap.update kS (Obj.mapSeq fun _ => (#[] : Array Value))).get? a = some (seqObj "list" #[] e1) := (s1.2 a hka.symm).trans na
  have s2 := Heap.SameBut.update (s.heap.update kS (Obj.mapSeq fun _ => (#[] : Array Value))) a (Obj.mapSeq fun _ => (arrOf st).map (·.2))
  obtain ⟨c2, hc2⟩ : ∃ c2, ((s.heap.update kS (Obj.mapSeq fun _ => (#[] : Array Value))).update a (Obj.mapSeq fun _ => (arrOf st).map (·.2))).get? a = some (seqObj "list" ((arrOf st).map (·.2)) c2) :=
    ⟨_, get?_update_seq na1 fun _ => (arrOf st).map (·.2)⟩
  unfold ksk_tail
  try dsimp only
  refine wpAny_bind (listUpdate_at nk rfl ?_ (by rw [hsz]; exact hL) (Nat.zero_le _))
  refine wpAny_bind (wpAny_letGo ?_)
  refine wpAny_bind (seqEpoch_at na1 rfl ?_)
  refine wpAny_bind (listUpdate_at na1 rfl ?_ (Nat.zero_le _) (Nat.le_trans (Nat.le_of_eq hout) (Nat.le_succ_of_le hL)))
  rw [hfl]
  simp only [bne_self_eq_false, Bool.false_eq_true, if_false]
  exact wpAny_pure (h _ _ _ c2 (fun b o h1 h2 q => (s2.2 b h2).trans ((s1.2 b h1).trans q)) hc2 (ksk_out (b := false) hk hp hs))
theorem len_end (nk : s.heap.get? kS = some (seqObj "list" keys e)) (na : s.heap.get? a = some (seqObj "list" #[] e1)) (hka : kS ≠ a)
    (hk : IntsAre keys.toList kz) (hlen : kz.length = vs.length) (hL : vs.length ≤ sizeLine)
    (h : ∀ h' tk out c, (∀ b o, b ≠ kS → b ≠ a → s.heap.get? b = some o → h'.get? b = some o) → h'.get? a = some (seqObj "list" out c) → KskOut false kz vs out.toList → P (.done (.ret .none)) { s with heap := h', toks := tk }) :
    wpAny (model prog w) A (ksk_end a false vs.toArray e1 (.ref kS) keys) P E s := by
  have hsz : keys.size = vs.length := by
    have h1 := hk.length
    rw [Array.length_toList] at h1
    omega
  have hzs : (keys.zip vs.toArray).size = vs.length := by rw [Array.size_zip, hsz, List.size_toArray, Nat.min_self]
  unfold ksk_end
  try dsimp only
  simp only [Bool.false_eq_true, if_false]
  by_cases h2 : vs.toArray.size < 2
  · rw [if_pos h2, if_pos h2]
    refine wpAny_bind (wpAny_pure ?_)
    rw [StateT.run_pure]
    refine wpAny_bind (wpAny_pure ?_)
    try dsimp only
    refine len_tail (st := SortSt.mk' general' (keys.zip vs.toArray) #[] 7 none) nk na hka hk hlen hL (Array.Perm.refl _) ?_ rfl h
    intro i j hij hj
    have hj2 : j < (keys.zip vs.toArray).size := hj
    rw [hzs] at hj2
    rw [List.size_toArray] at h2
    have : i = j := by omega
    subst this
    exact Int.le_refl _
  · rw [if_neg h2, if_neg h2]
    rw [List.size_toArray] at h2
    rw [ksk_kind hk (by rw [hsz]; omega)]
    refine wpAny_bind (wpAny_pure ?_)
    have hkeys : KeysOf intKind (keys.zip vs.toArray) := fun p hp => by
      obtain ⟨n, t, e⟩ := ksk_intKeys (vs := vs) hk p hp
      exact ⟨n, by rw [e]⟩
    refine wpAny_bind (wpAny_mono (wpS_sortRunsAny (κ := intKind) (a₀ := keys.zip vs.toArray) (st := SortSt.mk' oneType' (keys.zip vs.toArray) #[] 7 none)
      (Q := fun _ st' => (arrOf st').Perm (keys.zip vs.toArray) ∧ failedOf st' = none ∧ SortedToK intKind (arrOf st') (keys.zip vs.toArray).size)
      intKind_oneLt hkeys ⟨Array.Perm.refl _, rfl, rfl⟩ rfl (by rw [hzs]; omega) fun st' a1 a2 a3 => ⟨a1, a2, a3⟩) ?_ fun _ _ e => e)
    rintro ⟨⟨⟩, st'⟩ s' ⟨rfl, hp, hf, hs⟩
    try dsimp only
    exact len_tail nk na hka hk hlen hL hp (by rw [hp.size_eq]; exact sortedTo_of_int hs) hf h
theorem len_rest {ss : List Str} (nk : s.heap.get? kS = some (seqObj "list" #[] 0)) (na : s.heap.get? a = some (seqObj "list" #[] e1)) (hka : kS ≠ a)
    (hS : StrsAre vs ss) (hL : vs.length ≤ sizeLine) (hz : ∀ x ∈ ss, x.length ≤ sizeLine)
    (h : ∀ h' tk out c, (∀ b o, b ≠ kS → b ≠ a → s.heap.get? b = some o → h'.get? b = some o) → h'.get? a = some (seqObj "list" out c) → KskOut false (lensOf ss) vs out.toList → P (.done (.ret .none)) { s with heap := h', toks := tk }) :
    wpAny (model prog w) A (ksk_rest a (.builtin "len") false vs.toArray e1 (.ref kS)) P E s := by
  have hll := StrsAre.length hS
  have hlen : (lensOf ss).length = vs.length := by
    unfold lensOf
    rw [List.length_map]
    omega
  unfold ksk_rest
  refine wpAny_bind (wpAny_rule ?_)
  first
    | rw [List.forIn_toArray]
    | (rw [← Array.forIn_toList]; simp only [List.toList_toArray])
    | rw [← Array.forIn_toList]
  refine wpAny_bind (ksk_fold (fun i s' => ∃ h' tk kA e, s' = { s with heap := h', toks := tk } ∧ (∀ b o, b ≠ kS → s.heap.get? b = some o → h'.get? b = some o) ∧ h'.get? kS = some (seqObj "list" kA e) ∧ IntsAre kA.toList ((lensOf ss).take i)) vs 0 s
    ⟨s.heap, s.toks, #[], 0, rfl, fun _ _ _ q => q, nk, by simpa using IntsAre.nil⟩ ?step ?done)
  case step =>
    rintro j x s' hx ⟨h', tk, kA, e, rfl, kp, nk', hk⟩
    simp only [Nat.zero_add] at hk ⊢
    have hj : j < vs.length := (List.getElem?_eq_some_iff.mp hx).1
    have hj2 : j < ss.length := by omega
    obtain ⟨y, t, rfl⟩ := StrsAre.all hS x (List.mem_of_getElem? hx)
    have ey : ss[j]? = some y := by
      rw [← StrsAre.strs hS, List.getElem?_map, hx]
      rfl
    have hkj : (lensOf ss)[j]? = some (y.length : Int) := by
      unfold lensOf
      rw [List.getElem?_map, ey]
      rfl
    have hzy := hz y (List.mem_of_getElem? ey)
    have hn := line63
    have hzz : kA.size ≤ vs.length := by
      have h1 := hk.length
      rw [Array.length_toList, List.length_take] at h1
      omega
    refine wpAny_bind (wpAny_attempt (len_str (by omega) ?_))
    try dsimp only
    have s1 := Heap.SameBut.update h' kS (Obj.mapSeq (·.push (.int (y.length : Int) (tk + 1))))
    obtain ⟨c2, hc2⟩ : ∃ c2, (h'.update kS (Obj.mapSeq (·.push (.int (y.length : Int) (tk + 1))))).get? kS = some (seqObj "list" (kA.push (.int (y.length : Int) (tk + 1))) c2) := ⟨_, get?_update_seq nk' (·.push (.int (y.length : Int) (tk + 1)))⟩
    have ek : (lensOf ss).take (j + 1) = (lensOf ss).take j ++ [(y.length : Int)] := by rw [List.take_add_one, hkj]; simp
    have ea : (kA.push (Value.int (y.length : Int) (tk + 1))).toList = kA.toList ++ [Value.int (y.length : Int) (tk + 1)] := by simp
    refine wpAny_bind (listUpdate_at nk' rfl ?_ (by omega) (Nat.le_trans (Nat.le_of_eq (Array.size_push ..)) (by omega)))
    exact wpAny_pure ⟨rfl, _, _, kA.push (.int (y.length : Int) (tk + 1)), c2, rfl, fun b o hb q => (s1.2 b hb).trans (kp b o hb q), hc2, by rw [ea, ek]; exact ksk_snoc hk⟩
  case done =>
    rintro s' ⟨h', tk, kA, e, rfl, kp, nk', hk⟩
    have hk' : IntsAre kA.toList (lensOf ss) := by
      have e3 : (lensOf ss).take (0 + vs.length) = lensOf ss := List.take_of_length_le (by omega)
      rw [e3] at hk
      exact hk
    try dsimp only
    refine wpAny_bind (listItems_at nk' rfl ?_)
    exact len_end nk' (kp a _ hka.symm na) hka hk' hlen hL fun h3 tk3 out c k3 na3 o3 => h h3 tk3 out c (fun b o h1 h2 q => k3 b o h1 h2 (kp b o h1 q)) na3 o3
theorem len_sort {n : Nat} {ss : List Str} (ho : s.heap.get? a = some (seqObj "list" vs.toArray n)) (hS : StrsAre vs ss) (hL : vs.length ≤ sizeLine) (hz : ∀ x ∈ ss, x.length ≤ sizeLine)
    (h : ∀ h' tk out c, (∀ b o, b ≠ a → s.heap.get? b = some o → h'.get? b = some o) → h'.get? a = some (seqObj "list" out c) → ByLen ss vs out.toList → P (.done (.ret .none)) { s with heap := h', toks := tk }) :
    wpAny (model prog w) A (ksk_tree a (.builtin "len") false) P E s := by
  have ha : a < s.heap.objs.size := Heap.lt_size ho
  have s1 := Heap.SameBut.update s.heap a (Obj.mapSeq fun _ => (#[] : Array Value))
  obtain ⟨e1, ho1⟩ : ∃ e1, (s.heap.update a (Obj.mapSeq fun _ => (#[] : Array Value))).get? a = some (seqObj "list" #[] e1) := ⟨_, get?_update_seq ho fun _ => #[]⟩
  have hkS : ((s.heap.update a (Obj.mapSeq fun _ => (#[] : Array Value))).push (seqObj "tuple" vs.toArray 0)).objs.size = s.heap.objs.size + 1 := by rw [size_push', Heap.size_update]
  unfold ksk_tree
  refine wpAny_bind (listItems_at ho rfl ?_)
  refine wpAny_bind (listUpdate_at ho rfl ?_ (by rw [List.size_toArray]; exact hL) (Nat.zero_le _))
  refine wpAny_bind (seqEpoch_at ho1 rfl ?_)
  refine wpAny_bind (wpAny_newTuple ?_ (by show vs.length ≤ _; exact hL))
  refine wpAny_bind (wpAny_newList ?_ (Nat.zero_le _))
  refine wpAny_holding ?_
  refine len_rest (s := { s with heap := ((s.heap.update a (Obj.mapSeq fun _ => (#[] : Array Value))).push (seqObj "tuple" vs.toArray 0)).push (seqObj "list" #[] 0) }) (kS := ((s.heap.update a (Obj.mapSeq fun _ => (#[] : Array Value))).push (seqObj "tuple" vs.toArray 0)).objs.size)
    (Heap.get?_push_size _ rfl) (Heap.get?_push_of_some _ (Heap.get?_push_of_some _ ho1)) (by rw [hkS]; exact Nat.ne_of_gt (Nat.lt_succ_of_lt ha)) hS hL hz fun h' tk out c kp na o => h h' tk out c (fun b u hb q => ?_) na (byLen_of hS o)
  have hlt : b < s.heap.objs.size := Heap.lt_size q
  refine kp b u (by rw [hkS]; exact Nat.ne_of_lt (Nat.lt_succ_of_lt hlt)) hb (Heap.get?_push_of_some _ (Heap.get?_push_of_some _ ((s1.2 b hb).trans q)))
end
section
variable {X : Cx}
/-- sorted(d, key=len) -/
def rSL : List V → Hp → VK → Prop := fun vs H Q => ∃ (a : Addr) (kvs : List (Key × V)) (ks : List Str), vs = [.ref a] ∧ Rd H a (.dK kvs) ∧ kvs.map (·.1) = ks.map Sum.inr ∧ (∀ y ∈ ks, y.length ≤ sizeLine) ∧
    ∀ (ys : List Str) (p : Addr), ys.Perm ks → ys.Pairwise (fun x y => x.length ≤ y.length) → H p = none → Q (.ref p) (upd H p (.lst (ys.map V.str)))
def tSortLen (t : TA) : TE := fun σ H Q => t σ H fun vs H1 => rSL vs H1 Q
theorem pe_sortLen {e : Expr} {t : TA} {p p2 kp pos : Pos} (hcalm : X.calm = true) (hm : X.mg "sorted" = none) (hm2 : X.mg "len" = none) (ha : PA X [e] t) (hg : Gl X "sorted" := by rfl) (hg2 : Gl X "len" := by rfl)
    (he : backTo pos (starEach [e] X.env) = (false, eval e X.env) :: backTo pos (starEach [] X.env) := by rfl) (hpl : (backTo pos (starEach [e] X.env)).any (·.1) = false := by rfl) :
    PE X (.Call (.Name "sorted" p) [e] [⟨some "key", .Name "len" p2, kp⟩] pos) (tSortLen t) := by
  refine ⟨fun pins s σ H Q I h => ?_⟩
  refine wpAny_Call_Name_kw (ld_blt I hg hm (by decide +kernel : bootBuiltins "sorted" = some (.builtin "sorted")) ?_)
  refine PyProof.Rows.callWith_kw (thn (ha.run pos pins s σ H _ I h) fun us s1 hh => ?_) he hpl
  · obtain ⟨vs, H1, I1, r1, a, kvs, ks, ex, hd, hks, hz, q⟩ := hh
    subst ex
    obtain ⟨u, eu, rx⟩ := vals1 r1
    subst eu
    cases rx
    show wpAny _ _ (evalAll ((do let v ← eval (.Name "len" p2) X.env; standAt pos; pure v) :: (backToKw pos (keywordEach [] X.env)).map (·.2))) _ _ s1
    refine wpAny_evalAll_cons (wpAny_bind (ld_blt I1 hg2 hm2 (by decide +kernel : bootBuiltins "len" = some (.builtin "len")) (wpAny_bind (wpAny_standAt (wpAny_pure (wpAny_evalAll_nil ?_))))))
    show wpAny _ _ (call (.builtin "sorted") [.ref a] [(Str.ofString "key", .builtin "len")]) _ _ _
    obtain ⟨z, lo, vs, rel, dd⟩ := dk_rd I1.hok hd
    obtain ⟨ep, hat⟩ := dd.dictAt
    have hkeys : vs.map (·.1) = ks.map Sum.inr := rel.keys.symm.trans hks
    have hl : vs.length = ks.length := by
      have e := congrArg List.length hkeys
      rw [List.length_map, List.length_map] at e
      exact e
    have h16' : kvs.length = ks.length := by
      have e := congrArg List.length hks
      rw [List.length_map, List.length_map] at e
      exact e
    have h16 : vs.length ≤ sizeLine := by rw [hl, ← h16']; exact z
    refine call_function_entry_kw kind_sorted plain_sorted entry_sorted (ksk_s1 _ _) ?_
    unfold Builtin.«sorted»
    refine wpAny_bind (m := checkCount "sorted" 1 1 _) (wpAny_pure ?_)
    refine wpAny_bind (PySem.W.kdu_collect (A := X.A.in1) (PySem.W.kdl_dict (knd := mixKind X.prog X.w) (kvs := vs) (ep := ep) lo) (I1.ok.hd hcalm) hat h16 fun h' tk acc hk hacc => ?_)
    have hal : acc.toList.length = ks.length := by rw [Array.length_toList, hacc.1, hl]
    have hS : StrsAre acc.toList ks := strs_at hal fun j v e => by
      obtain ⟨k, x, e1, e2⟩ := hacc.2 j v (by rw [← Array.getElem?_toList]; exact e)
      have e3 : (vs.map (·.1))[j]? = some k := by rw [List.getElem?_map, e1]; all_goals rfl
      rw [hkeys, List.getElem?_map] at e3
      cases e4 : ks[j]? with
      | none => rw [e4] at e3; cases e3
      | some y =>
        rw [e4] at e3
        have e5 : Sum.inr y = k := Option.some.inj e3
        subst e5
        obtain ⟨t, ev⟩ := Value.isStrOf_shape (x := y) (v := v) e2
        exact ⟨y, t, rfl, ev⟩
    have I2 : Inv X pins σ H1 { s1 with heap := h', toks := tk } := I1.kept hk
    refine wpAny_bind (wpAny_newList ?_ (by rw [hal, ← hl]; exact h16))
    have hoL : (h'.push (seqObj "list" acc.toList.toArray 0)).get? h'.objs.size = some (seqObj "list" acc.toList.toArray 0) := Heap.get?_push_size _ rfl
    show wpAny _ _ _ _ _ { s1 with heap := h'.push (seqObj "list" acc.toList.toArray 0), toks := tk }
    refine wpAny_bind (wpAny_holding (wpAny_call_entry_kw slot_list_sort ⟨_, hoL, rfl⟩ entry_list_sort ?body (ksk_l1 _ _)))
    case body =>
      rw [ksk_t4]
      refine len_sort (s := { s1 with heap := h'.push (seqObj "list" acc.toList.toArray 0), toks := tk }) hoL hS (by rw [hal, ← hl]; exact h16) hz fun h3 tk3 out c kp na o => ⟨_, rfl, ?_⟩
      obtain ⟨ys, g1, g2, g3⟩ := o
      have hlen : (ys.map V.str).length ≤ sizeLine := by
        rw [List.length_map, g2.length_eq, ← hl]
        exact h16
      refine wpAny_pure ⟨_, rfl, .ref h'.objs.size, upd H1 h'.objs.size (.lst (ys.map V.str)), I2.laid (t' := tk3) (fun b u e => ?_) (Nat.le_refl _)
        (show ObjOk X.prog X.w _ _ _ (.lst (ys.map V.str)) from ⟨hlen, out.toList, c, vals_of_strs g1, by rw [Array.toArray_toList]; exact na⟩), rfl, q ys _ g2 g3 (I2.hok.fresh (Nat.le_refl _))⟩
      have hb : b < h'.objs.size := Heap.lt_size e
      exact kp b u (Nat.ne_of_lt hb) (Heap.get?_push_of_some _ e)
end
end Lk


namespace Lk
open PySem PySem.Spec PyProof.Rows L2
/-! ### dicts of texts seen, sorted lists -/
open Fo
def kvF (fs : List L) : List (Key × V) := fs.map fun t => (Sum.inr (S t), V.bl true)
theorem kvF_len (fs : List L) : (kvF fs).length = fs.length := List.length_map _
theorem kvF_keys (fs : List L) : (kvF fs).map (·.1) = (fs.map S).map Sum.inr := by
  unfold kvF
  rw [List.map_map, List.map_map]
  rfl
theorem inrS {a b : L} : ((Sum.inr (S a) : Key) = Sum.inr (S b)) ↔ a = b := ⟨fun h => S_inj.mp (Sum.inr.inj h), fun h => by rw [h]⟩
theorem valV_kvF (fs : List L) (u : L) : valV (kvF fs) (Sum.inr (S u) : Key) = if u ∈ fs then some (.bl true) else none := by
  induction fs with
  | nil => rfl
  | cons t r ih =>
    by_cases e : t = u
    · subst e
      rw [if_pos (List.mem_cons_self ..)]
      exact valV_pos rfl
    · have e2 : ¬ ((Sum.inr (S t) : Key) = Sum.inr (S u)) := fun z => e (inrS.mp z)
      rw [show kvF (t :: r) = (Sum.inr (S t), V.bl true) :: kvF r from rfl, valV_neg e2, ih]
      by_cases hm : u ∈ r
      · rw [if_pos hm, if_pos (List.mem_cons_of_mem _ hm)]
      · rw [if_neg hm, if_neg fun z => (List.mem_cons.mp z).elim (fun q => e q.symm) hm]
theorem putK_kvF {fs : List L} {u : L} (h : u ∉ fs) : putK (kvF fs) (Sum.inr (S u) : Key) (V.bl true) = kvF (fs ++ [u]) := by
  rw [putK_new _ (by rw [valV_kvF, if_neg h])]
  unfold kvF
  rw [List.map_append]
  rfl
theorem perm_S {ys : List Str} {fs : List L} (h : ys.Perm (fs.map S)) : ∃ zs : List L, ys = zs.map S ∧ zs.Perm fs := by
  refine ⟨ys.map fun x => x.cps.toList, ?_, ?_⟩
  · rw [List.map_map]
    have : (S ∘ fun (x : Str) => x.cps.toList) = id := by
      funext x
      exact S_of x
    rw [this, List.map_id]
  · have := h.map fun x : Str => x.cps.toList
    rw [List.map_map] at this
    have e : ((fun x : Str => x.cps.toList) ∘ S) = id := by
      funext x
      rfl
    rw [e, List.map_id] at this
    exact this
theorem rising_pw : ∀ (p : L) (xs : List L), risingS (S p) (xs.map S) = true → (p :: xs).Pairwise (fun a b => ¬ b < a)
  | p, [], _ => List.pairwise_singleton _ _
  | p, x :: r, h => by
    have h' : (!ltCps x p && risingS (S x) (r.map S)) = true := h
    rw [Bool.and_eq_true, Bool.not_eq_true', ltCps_eq] at h'
    have h1 : ¬ x < p := of_decide_eq_false h'.1
    have ih := rising_pw x r h'.2
    rw [List.pairwise_cons]
    refine ⟨fun y hy => ?_, ih⟩
    rcases List.mem_cons.mp hy with e | hy
    · rw [e]
      exact h1
    · have h2 := (List.pairwise_cons.mp ih).1 y hy
      exact List.not_lt.mpr (List.le_trans (List.not_lt.mp h1) (List.not_lt.mp h2))
theorem srt_of {xs : List L} (h : sortedS (xs.map S) = true) : Srt xs := by
  cases xs with
  | nil => exact List.Pairwise.nil
  | cons x r => exact rising_pw x r h
end Lk

namespace Lk
open PySem PySem.Spec PyProof.Rows L2
/-! ### == of lists of texts, of numbers -/
open Fo
/-- data told in Lean: how it is handed (g), what it is (f) -/
structure Emb (K : PySem.W.Frag) (H : Hp) {α : Type} (xs : List α) (g : α → V) (f : α → PyData) : Prop where
  dp : ∀ a ∈ xs, Dp K H (g a) (f a)
  lay : ∀ a ∈ xs, (f a).canLay0 = true
  dep : ∀ a ∈ xs, (f a).depth ≤ 60
theorem dpAll_of {K : PySem.W.Frag} {H : Hp} {α : Type} {g : α → V} {f : α → PyData} : ∀ {xs : List α}, (∀ a ∈ xs, Dp K H (g a) (f a)) → DpAll K H (xs.map g) (xs.map f)
  | [], _ => .nil
  | x :: r, h => .cons (h x (List.mem_cons_self ..)) (dpAll_of fun a ha => h a (List.mem_cons_of_mem _ ha))
theorem layAll_of {α : Type} {f : α → PyData} : ∀ {xs : List α}, (∀ a ∈ xs, (f a).canLay0 = true) → PyData.canLayAll0 (xs.map f) = true
  | [], _ => by simp [PyData.canLayAll0]
  | x :: r, h => by
    rw [List.map_cons, PyData.canLayAll0, h x (List.mem_cons_self ..), layAll_of fun a ha => h a (List.mem_cons_of_mem _ ha)]
    rfl
theorem depAll_of {α : Type} {f : α → PyData} {n : Nat} : ∀ {xs : List α}, (∀ a ∈ xs, (f a).depth ≤ n) → PyData.depthAll (xs.map f) ≤ n
  | [], _ => by simp [PyData.depthAll]
  | x :: r, h => by
    rw [List.map_cons, PyData.depthAll]
    exact Nat.max_le.mpr ⟨h x (List.mem_cons_self ..), depAll_of fun a ha => h a (List.mem_cons_of_mem _ ha)⟩
theorem eqvAll_of {α : Type} [DecidableEq α] {f : α → PyData} : ∀ {xs ys : List α}, (∀ a ∈ xs, ∀ b ∈ ys, PyData.eqv (f a) (f b) = decide (a = b)) → PyData.eqvAll (xs.map f) (ys.map f) = decide (xs = ys)
  | [], [], _ => rfl
  | [], _ :: _, _ => rfl
  | _ :: _, [], _ => rfl
  | x :: r, y :: t, h => by
    rw [List.map_cons, List.map_cons, PyData.eqvAll, h x (List.mem_cons_self ..) y (List.mem_cons_self ..), eqvAll_of fun a ha b hb => h a (List.mem_cons_of_mem _ ha) b (List.mem_cons_of_mem _ hb)]
    by_cases e : x = y
    · subst e
      by_cases e2 : r = t
      · subst e2
        simp
      · simp [e2]
    · simp [e]
theorem shaped_list {α : Type} {xs : List α} {f : α → PyData} (h1 : ∀ a ∈ xs, (f a).canLay0 = true) (h2 : ∀ a ∈ xs, (f a).depth ≤ 60) : SeqAt.shaped (.list (xs.map f)) = true := by
  unfold SeqAt.shaped
  have e1 : (PyData.list (xs.map f)).canLay0 = true := by rw [PyData.canLay0]; exact layAll_of h1
  have e2 : (PyData.list (xs.map f)).depth ≤ 64 := by
    rw [PyData.depth]
    have := depAll_of (n := 60) h2
    omega
  rw [e1, decide_eq_true e2]
  rfl
theorem shaped_tup {α : Type} {xs : List α} {f : α → PyData} (h1 : ∀ a ∈ xs, (f a).canLay0 = true) (h2 : ∀ a ∈ xs, (f a).depth ≤ 60) : SeqAt.shaped (.tuple (xs.map f)) = true := by
  unfold SeqAt.shaped
  have e1 : (PyData.tuple (xs.map f)).canLay0 = true := by rw [PyData.canLay0]; exact layAll_of h1
  have e2 : (PyData.tuple (xs.map f)).depth ≤ 64 := by
    rw [PyData.depth]
    have := depAll_of (n := 60) h2
    omega
  rw [e1, decide_eq_true e2]
  rfl
/-- a text of plain signs -/
def Sm (l : L) : Prop := ∀ c ∈ l, c < 1000
theorem Sg.sm {l : L} (h : Fo.Sg l) : Sm l := fun c hc => by have := h c hc; omega
abbrev dS (l : L) : PyData := .str (S l)
abbrev dI (n : Nat) : PyData := .int (n : Int)
theorem dS_lay {l : L} (h : Sm l) : (dS l).canLay0 = true := by
  show (S l).cps.all (· < 0x110000) = true
  rw [Array.all_eq_true']
  intro c hc
  have := h c (by simpa [SX.S] using hc)
  simp
  omega
theorem dS_dep (l : L) : (dS l).depth ≤ 60 := by simp [PyData.depth]
theorem dI_dep (l : Nat) : (dI l).depth ≤ 60 := by simp [PyData.depth]
theorem dI_lay (l : Nat) : (dI l).canLay0 = true := by simp [PyData.canLay0]
theorem dS_eqv (a b : L) : PyData.eqv (dS a) (dS b) = decide (a = b) := by
  show (S a == S b) = decide (a = b)
  exact SX.S_beq_eq
theorem dI_eqv (a b : Nat) : PyData.eqv (dI a) (dI b) = decide (a = b) := by
  show ((a : Int) == (b : Int)) = decide (a = b)
  by_cases e : a = b
  · subst e; simp
  · have : ¬ (a : Int) = (b : Int) := by omega
    simp [e, this]
section
variable {X : Cx}
def rEqLS (K : PySem.W.Frag) (neg : Bool) : R2 := fun x y H Q => ∃ (a b : Addr) (xs ys : List L), x = .ref a ∧ y = .ref b ∧ SqL K H a (xs.map vS) ∧ SqL K H b (ys.map vS) ∧ (∀ l ∈ xs, Sm l) ∧ (∀ l ∈ ys, Sm l) ∧ Q (.bl (if neg then !decide (xs = ys) else decide (xs = ys))) H
def rEqLI (K : PySem.W.Frag) (neg : Bool) : R2 := fun x y H Q => ∃ (a b : Addr) (xs ys : List Nat), x = .ref a ∧ y = .ref b ∧ SqL K H a (xs.map vI) ∧ SqL K H b (ys.map vI) ∧ Q (.bl (if neg then !decide (xs = ys) else decide (xs = ys))) H
theorem dps {K : PySem.W.Frag} {H : Hp} {a : Addr} {xs : List L} (h : SqL K H a (xs.map vS)) : Dp K H (.ref a) (.list (xs.map dS)) := .lst h (dpAll_of fun l _ => .str (S l))
theorem dpi {K : PySem.W.Frag} {H : Hp} {a : Addr} {xs : List Nat} (h : SqL K H a (xs.map vI)) : Dp K H (.ref a) (.list (xs.map dI)) := .lst h (dpAll_of fun l _ => .int l)
theorem op_eqLS (hu : X.A.units + 64 < cLine) : OpR X (compareOp .Eq) (rEqLS X.K false) := by
  intro pins s σ H x y v u Q I rx ry ⟨a, b, xs, ys, e1, e2, h1, h2, m1, m2, q⟩
  refine op_eqD hu pins s σ H x y v u Q I rx ry ⟨_, _, by rw [e1]; exact dps h1, by rw [e2]; exact dps h2, shaped_list (fun l hl => dS_lay (m1 l hl)) (fun l _ => dS_dep l), shaped_list (fun l hl => dS_lay (m2 l hl)) (fun l _ => dS_dep l), ?_⟩
  have e : PyData.eqv (.list (xs.map dS)) (.list (ys.map dS)) = decide (xs = ys) := by
    rw [PyData.eqv]
    exact eqvAll_of fun a _ b _ => dS_eqv a b
  rw [e]
  exact q
theorem op_neLS (hu : X.A.units + 64 < cLine) : OpR X (compareOp .NotEq) (rEqLS X.K true) := by
  intro pins s σ H x y v u Q I rx ry ⟨a, b, xs, ys, e1, e2, h1, h2, m1, m2, q⟩
  refine op_neD hu pins s σ H x y v u Q I rx ry ⟨_, _, by rw [e1]; exact dps h1, by rw [e2]; exact dps h2, shaped_list (fun l hl => dS_lay (m1 l hl)) (fun l _ => dS_dep l), shaped_list (fun l hl => dS_lay (m2 l hl)) (fun l _ => dS_dep l), ?_⟩
  have e : PyData.eqv (.list (xs.map dS)) (.list (ys.map dS)) = decide (xs = ys) := by
    rw [PyData.eqv]
    exact eqvAll_of fun a _ b _ => dS_eqv a b
  rw [e]
  exact q
theorem op_eqLI (hu : X.A.units + 64 < cLine) : OpR X (compareOp .Eq) (rEqLI X.K false) := by
  intro pins s σ H x y v u Q I rx ry ⟨a, b, xs, ys, e1, e2, h1, h2, q⟩
  refine op_eqD hu pins s σ H x y v u Q I rx ry ⟨_, _, by rw [e1]; exact dpi h1, by rw [e2]; exact dpi h2, shaped_list (fun l _ => dI_lay l) (fun l _ => dI_dep l), shaped_list (fun l _ => dI_lay l) (fun l _ => dI_dep l), ?_⟩
  have e : PyData.eqv (.list (xs.map dI)) (.list (ys.map dI)) = decide (xs = ys) := by
    rw [PyData.eqv]
    exact eqvAll_of fun a _ b _ => dI_eqv a b
  rw [e]
  exact q
theorem op_neLI (hu : X.A.units + 64 < cLine) : OpR X (compareOp .NotEq) (rEqLI X.K true) := by
  intro pins s σ H x y v u Q I rx ry ⟨a, b, xs, ys, e1, e2, h1, h2, q⟩
  refine op_neD hu pins s σ H x y v u Q I rx ry ⟨_, _, by rw [e1]; exact dpi h1, by rw [e2]; exact dpi h2, shaped_list (fun l _ => dI_lay l) (fun l _ => dI_dep l), shaped_list (fun l _ => dI_lay l) (fun l _ => dI_dep l), ?_⟩
  have e : PyData.eqv (.list (xs.map dI)) (.list (ys.map dI)) = decide (xs = ys) := by
    rw [PyData.eqv]
    exact eqvAll_of fun a _ b _ => dI_eqv a b
  rw [e]
  exact q
/-- x in (s, t), texts; and not in -/
def rInTS (K : PySem.W.Frag) (neg : Bool) : R2 := fun x y H Q => ∃ (p : Addr) (l : L) (xs : List L), x = vS l ∧ y = .ref p ∧ SqT K H p (xs.map vS) ∧ Q (.bl (if neg then !decide (l ∈ xs) else decide (l ∈ xs))) H
def rInLS (K : PySem.W.Frag) (neg : Bool) : R2 := fun x y H Q => ∃ (p : Addr) (l : L) (xs : List L), x = vS l ∧ y = .ref p ∧ SqL K H p (xs.map vS) ∧ Q (.bl (if neg then !decide (l ∈ xs) else decide (l ∈ xs))) H
def rInLI (K : PySem.W.Frag) (neg : Bool) : R2 := fun x y H Q => ∃ (p : Addr) (l : Int) (xs : List Nat), x = .int l ∧ y = .ref p ∧ SqL K H p (xs.map vI) ∧ Q (.bl (if neg then !decide (∃ n ∈ xs, (n : Int) = l) else decide (∃ n ∈ xs, (n : Int) = l))) H
theorem inV_S (l : L) (xs : List L) : inV (vS l) (xs.map vS) = decide (l ∈ xs) := by
  unfold inV
  rw [List.any_map]
  by_cases h : l ∈ xs
  · rw [decide_eq_true h, List.any_eq_true]
    exact ⟨l, h, by show eqV (vS l) (vS l) = true; simp [eqV]⟩
  · rw [decide_eq_false h, List.any_eq_false]
    intro y hy
    show ¬ eqV (vS y) (vS l) = true
    have : ¬ y = l := fun e => h (e ▸ hy)
    simp [eqV, this]
theorem inV_I (l : Int) (xs : List Nat) : inV (.int l) (xs.map vI) = decide (∃ n ∈ xs, (n : Int) = l) := by
  unfold inV
  rw [List.any_map]
  by_cases h : ∃ n ∈ xs, (n : Int) = l
  · rw [decide_eq_true h, List.any_eq_true]
    obtain ⟨n, h1, h2⟩ := h
    exact ⟨n, h1, by show eqV (.int (n : Int)) (.int l) = true; simp [eqV, h2]⟩
  · rw [decide_eq_false h, List.any_eq_false]
    intro y hy
    show ¬ eqV (.int (y : Int)) (.int l) = true
    have : ¬ (y : Int) = l := fun e => h ⟨y, hy, e⟩
    simp [eqV, this]
theorem flat_S (xs : List L) : (xs.map vS).all flatV = true := by
  rw [List.all_map, List.all_eq_true]
  intro x _
  rfl
theorem flat_I (xs : List Nat) : (xs.map vI).all flatV = true := by
  rw [List.all_map, List.all_eq_true]
  intro x _
  rfl
theorem op_inTS : OpR X (compareOp .In) (rInTS X.K false) := by
  intro pins s σ H x y v u Q I rx ry ⟨p, l, xs, e1, e2, h1, q⟩
  refine op_in_seq pins s σ H x y v u Q I rx ry ⟨p, xs.map vS, e2, .inr h1, by rw [e1]; rfl, flat_S xs, ?_⟩
  rw [e1, inV_S]
  exact q
theorem op_notinTS : OpR X (compareOp .NotIn) (rInTS X.K true) := by
  intro pins s σ H x y v u Q I rx ry ⟨p, l, xs, e1, e2, h1, q⟩
  refine op_notIn_seq pins s σ H x y v u Q I rx ry ⟨p, xs.map vS, e2, .inr h1, by rw [e1]; rfl, flat_S xs, ?_⟩
  rw [e1, inV_S]
  exact q
theorem op_inLS : OpR X (compareOp .In) (rInLS X.K false) := by
  intro pins s σ H x y v u Q I rx ry ⟨p, l, xs, e1, e2, h1, q⟩
  refine op_in_seq pins s σ H x y v u Q I rx ry ⟨p, xs.map vS, e2, .inl h1, by rw [e1]; rfl, flat_S xs, ?_⟩
  rw [e1, inV_S]
  exact q
theorem op_notinLS : OpR X (compareOp .NotIn) (rInLS X.K true) := by
  intro pins s σ H x y v u Q I rx ry ⟨p, l, xs, e1, e2, h1, q⟩
  refine op_notIn_seq pins s σ H x y v u Q I rx ry ⟨p, xs.map vS, e2, .inl h1, by rw [e1]; rfl, flat_S xs, ?_⟩
  rw [e1, inV_S]
  exact q
theorem op_notinLI : OpR X (compareOp .NotIn) (rInLI X.K true) := by
  intro pins s σ H x y v u Q I rx ry ⟨p, l, xs, e1, e2, h1, q⟩
  refine op_notIn_seq pins s σ H x y v u Q I rx ry ⟨p, xs.map vI, e2, .inl h1, by rw [e1]; rfl, flat_I xs, ?_⟩
  rw [e1, inV_I]
  exact q
end
section
variable {X : Cx}
theorem vi_dec (i j : Int) : decide (V.int i = V.int j) = decide (i = j) := by
  by_cases h : i = j
  · subst h
    simp
  · have : ¬ V.int i = V.int j := fun e => h (V.int.inj e)
    simp [h, this]
def rII (f : Int → Int → Bool) : R2 := fun x y H Q => ∃ i j : Int, x = .int i ∧ y = .int j ∧ Q (.bl (f i j)) H
theorem op_eqI : OpR X (compareOp .Eq) (rII fun i j => decide (i = j)) := by
  intro pins s σ H x y v u Q I rx ry ⟨i, j, e1, e2, q⟩
  subst e1 e2
  refine op_eq pins s σ H _ _ v u Q I rx ry ⟨rfl, ?_⟩
  rw [vi_dec]
  exact q
theorem op_neI : OpR X (compareOp .NotEq) (rII fun i j => !decide (i = j)) := by
  intro pins s σ H x y v u Q I rx ry ⟨i, j, e1, e2, q⟩
  subst e1 e2
  refine op_ne pins s σ H _ _ v u Q I rx ry ⟨rfl, ?_⟩
  rw [vi_dec]
  exact q
def rSS (f : L → L → Bool) : R2 := fun x y H Q => ∃ i j : L, x = vS i ∧ y = vS j ∧ Q (.bl (f i j)) H
theorem op_eqS : OpR X (compareOp .Eq) (rSS fun i j => decide (i = j)) := by
  intro pins s σ H x y v u Q I rx ry ⟨i, j, e1, e2, q⟩
  subst e1 e2
  refine op_eq pins s σ H _ _ v u Q I rx ry ⟨rfl, ?_⟩
  rw [vS_dec]
  exact q
theorem op_neS : OpR X (compareOp .NotEq) (rSS fun i j => !decide (i = j)) := by
  intro pins s σ H x y v u Q I rx ry ⟨i, j, e1, e2, q⟩
  subst e1 e2
  refine op_ne pins s σ H _ _ v u Q I rx ry ⟨rfl, ?_⟩
  rw [vS_dec]
  exact q
end
section
variable {X : Cx}
theorem vb_dec (i j : Bool) : decide (V.bl i = V.bl j) = decide (i = j) := by
  by_cases h : i = j
  · subst h
    simp
  · have : ¬ V.bl i = V.bl j := fun e => h (V.bl.inj e)
    simp [h, this]
def rBB (f : Bool → Bool → Bool) : R2 := fun x y H Q => ∃ i j : Bool, x = .bl i ∧ y = .bl j ∧ Q (.bl (f i j)) H
theorem op_eqB : OpR X (compareOp .Eq) (rBB fun i j => decide (i = j)) := by
  intro pins s σ H x y v u Q I rx ry ⟨i, j, e1, e2, q⟩
  subst e1 e2
  refine op_eq pins s σ H _ _ v u Q I rx ry ⟨rfl, ?_⟩
  rw [vb_dec]
  exact q
theorem op_neB : OpR X (compareOp .NotEq) (rBB fun i j => !decide (i = j)) := by
  intro pins s σ H x y v u Q I rx ry ⟨i, j, e1, e2, q⟩
  subst e1 e2
  refine op_ne pins s σ H _ _ v u Q I rx ry ⟨rfl, ?_⟩
  rw [vb_dec]
  exact q
end
/-! ### walks of a text -/
theorem lc_str {l : L} {g : TG} {tt : TT} {te : TE} {vs : List Nat} {σ : L2.St} {H1 : Hp} {D : Addr} {Qd : Hp → Prop} (Pv : Nat → Hp → Prop) (h0 : Pv 0 (upd H1 D (.lst [])))
    (hs : ∀ i c H, l[i]? = some c → Pv i H → g (vS [c]) (wipe σ vs) H fun σ2 H2 => wipe σ2 vs = wipe σ vs ∧ tt σ2 H2 fun b H3 =>
      if b = true then te σ2 H3 fun y H4 => ∃ acc, H4 D = some (.lst acc) ∧ acc.length < sizeLine ∧ Pv (i + 1) (upd H4 D (.lst (acc ++ [y]))) else Pv (i + 1) H3) (hd : ∀ H, Pv l.length H → Qd H) :
    ∃ W : Nat → Nat → Hp → Prop, (∃ m, W 0 m (upd H1 D (.lst []))) ∧ ∀ i m H, W i m H →
      ((Its (S l)).stop i H ∧ Qd H) ∨ ((Its (S l)).go i H ∧ ∃ Nx : Hp → Prop, (∀ H', Nx H' → ∃ m', m' < m ∧ W (i + 1) m' H') ∧ ∀ x H', (Its (S l)).yld i H x H' → g x (wipe σ vs) H' fun σ2 H2 => wipe σ2 vs = wipe σ vs ∧ tt σ2 H2 fun b H3 =>
        if b = true then te σ2 H3 fun y H4 => ∃ acc, H4 D = some (.lst acc) ∧ acc.length < sizeLine ∧ Nx (upd H4 D (.lst (acc ++ [y]))) else Nx H3) := by
  have hsz : (S l).cps.size = l.length := by simp [SX.S]
  refine ⟨fun i m H => m = l.length - i ∧ i ≤ l.length ∧ Pv i H, ⟨l.length, by simp, Nat.zero_le _, h0⟩, ?_⟩
  rintro i m H ⟨rfl, hi, p⟩
  by_cases hlt : i < l.length
  · refine .inr ⟨by show i < (S l).cps.size; omega, Pv (i + 1), fun H' p' => ⟨l.length - (i + 1), by omega, rfl, hlt, p'⟩, fun x H' y => ?_⟩
    obtain ⟨e, c, hc, rfl⟩ := y
    subst e
    have hc' : l[i]? = some c := by simpa [SX.S] using hc
    exact hs i c _ hc' p
  · have e : i = l.length := by omega
    subst e
    exact .inl ⟨by show (S l).cps.size ≤ l.length; omega, hd H p⟩
end Lk

namespace Lk
open PySem PySem.Spec PyProof.Rows L2
/-! ### comprehensions: a dict kept under a name, over a list -/

section
variable {X : Cx}
/-- name = {k: v for ..}, the name a local of the def -/
theorem ps_setDc {i : Nat} {y : Str} {py : Pos} {kx vx tg iter : Expr} {ifs : List Expr} {scope : Scope} {own : List (Str × Nat)} {pos spos : Pos} {wi : TI} {g : TG} {tt : TT} {tk tv : TE} (hc : X.calm = true) (hN : X.N.Nodup)
    (hy : X.N[i]? = some y) (hyl : X.env.scope.names.lookup y = some .local) (hsw : swapsWith (.DictComp kx vx [⟨tg, iter, ifs, 0⟩] scope pos) (some (.Name y py)) spos.line X.env = pure true)
    (hi : PI X tg iter wi) (ok : BlkOk X.N X.env.scope scope own)
    (dg : ∀ (s : Shared) (H : Hp) (C : Addr) (cl : List (Str × Addr)) (fp : List Addr), PG (X.blk s H scope (compEnvC scope cl C X.env) fp) tg g)
    (dt : ∀ (s : Shared) (H : Hp) (C : Addr) (cl : List (Str × Addr)) (fp : List Addr), PTs (X.blk s H scope (compEnvC scope cl C X.env) fp) ifs tt)
    (dk : ∀ (s : Shared) (H : Hp) (C : Addr) (cl : List (Str × Addr)) (fp : List Addr), PE (X.blk s H scope (compEnvC scope cl C X.env) fp) kx tk)
    (dv : ∀ (s : Shared) (H : Hp) (C : Addr) (cl : List (Str × Addr)) (fp : List Addr), PE (X.blk s H scope (compEnvC scope cl C X.env) fp) vx tv) (hs : ∀ x, foldedSetIterable iter X.env x = pure x := by intro _; rfl) :
    PS X (.Assign [.Name y py] (.DictComp kx vx [⟨tg, iter, ifs, 0⟩] scope pos) spos) (tAsg (tDc wi g tt tk tv (own.map (·.2))) (gName i)) := by
  refine ⟨fun pins s σ H D I q0 => ?_⟩
  rw [exec_Assign_Name_used _ _ _ _ hsw]
  refine wpAny_bind (wpAny_standAt (wpAny_bind ?_))
  show wpAny _ X.A (do let _ ← comprehension (.DictComp kx vx [⟨tg, iter, ifs, 0⟩] scope pos) scope X.env (firstIterPos [⟨tg, iter, ifs, 0⟩] pos) newDict false (eval iter X.env) (some (assign (.Name y py) X.env))) _ _ s
  have q1 : tDc wi g tt tk tv (own.map (·.2)) σ H (fun x H1 => gName i x σ H1 D.nx) := q0
  refine wpAny_bind (thn (dc_core (Qf := fun _ t => SP X pins D .next t) hc hN I hi ok dg dt dk dv hs q1 fun E C t m H2 I2 q hn f => ?_) fun _ t hq => wpAny_pure (wpAny_pure hq))
  show wpAny _ _ (assign (.Name y py) X.env (.ref E)) _ _ _
  refine wpAny_assign_Name (store_ok2 (v := V.ref E) I2 hN hy (.inl hyl) rfl (fun s3 I3 ⟨a, sb, ha⟩ => ?_) (.inr hyl))
  obtain ⟨f0, f1, f2, f3, f4, f5⟩ := f
  have nCa : C ≠ a := by
    rcases ha with z | z
    · rw [z]; exact f1
    · exact fun e => f4 y a z e.symm
  refine ⟨m, hn.sameBut sb nCa, fun h4 sb4 => ?_⟩
  exact ⟨_, H2, I3.turned (t' := s3.toks) (fun b o hb e => (sb4.2 b hb).trans e) f0 f1 f3 f4 f5, q⟩
theorem sw_trueD {kx vx : Expr} {gs : List Comprehension} {scope : Scope} {pos py : Pos} {y : Str} {l : Nat} {env : Env} (hk : env.scope.kind = .function) (hy : env.scope.names.lookup y = some .local) (hl : (py.line == pos.line) = true)
    (ha : (scope.names.any fun (n, k) => n == y && (k == .local || k == .cell)) = false) : swapsWith (.DictComp kx vx gs scope pos) (some (.Name y py)) l env = pure true := by
  have e1 : env.kindOf y = some .local := hy
  have e2 : env.blockKind = .function := by unfold Env.blockKind; rw [hk]; rfl
  unfold swapsWith
  simp only [e2, e1, ha, Expr.pos, hl]
  rfl
/-- a dict of a list that stays -/
theorem dc_list {K : PySem.W.Frag} {a : Addr} {xs : List V} {g : TG} {tt : TT} {tk tv : TE} {vs : List Nat} {σ : L2.St} {H1 : Hp} {D : Addr} {Qd : Hp → Prop} (Pv : Nat → Hp → Prop)
    (h0 : Pv 0 (upd H1 D (.dK []))) (hl : ∀ i H, i ≤ xs.length → Pv i H → SqL K H a xs)
    (hs : ∀ i x H, xs[i]? = some x → Pv i H → g x (wipe σ vs) H fun σ2 H2 => wipe σ2 vs = wipe σ vs ∧ tt σ2 H2 fun b H3 =>
      if b = true then tk σ2 H3 fun y H4 => tv σ2 H4 fun z H5 => ∃ kvs k, y = kV k ∧ H5 D = some (.dK kvs) ∧ kvs.length < sizeLine ∧ Pv (i + 1) (upd H5 D (.dK (putK kvs k z))) else Pv (i + 1) H3)
    (hd : ∀ H, Pv xs.length H → Qd H) :
    ∃ W : Nat → Nat → Hp → Prop, (∃ m, W 0 m (upd H1 D (.dK []))) ∧ ∀ i m H, W i m H →
      ((Itl K a).stop i H ∧ Qd H) ∨ ((Itl K a).go i H ∧ ∃ Nx : Hp → Prop, (∀ H', Nx H' → ∃ m', m' < m ∧ W (i + 1) m' H') ∧ ∀ x H', (Itl K a).yld i H x H' → g x (wipe σ vs) H' fun σ2 H2 => wipe σ2 vs = wipe σ vs ∧ tt σ2 H2 fun b H3 =>
        if b = true then tk σ2 H3 fun y H4 => tv σ2 H4 fun z H5 => ∃ kvs k, y = kV k ∧ H5 D = some (.dK kvs) ∧ kvs.length < sizeLine ∧ Nx (upd H5 D (.dK (putK kvs k z))) else Nx H3) := by
  refine ⟨fun i m H => m = xs.length - i ∧ i ≤ xs.length ∧ Pv i H, ⟨xs.length, by simp, Nat.zero_le _, h0⟩, ?_⟩
  rintro i m H ⟨rfl, hi, p⟩
  have q := hl i H hi p
  by_cases lt : i < xs.length
  · exact .inr ⟨⟨xs, xs[i], q, by simp [lt]⟩, Pv (i + 1), fun H' r => ⟨xs.length - (i + 1), by omega, rfl, lt, r⟩, fun x H' ⟨e, y⟩ => by
      subst e
      exact hs i x _ (y xs q) p⟩
  · have e : i = xs.length := by omega
    subst e
    exact .inl ⟨⟨xs, q, Nat.le_refl _⟩, hd H p⟩
end
/-! ### a fresh dict, walked: it is locked from then on -/
section
variable {X : Cx}
def tFrz (t : TE) : TE := fun σ H Q => t σ H fun x H1 => ∃ d u, H1 d = some u ∧ Mut (some u) ∧ ∀ od, Q x (upd H1 d (.frz od u))
theorem pe_frz {e : Expr} {t : TE} (h : PE X e t) : PE X e (tFrz t) := by
  refine ⟨fun pins s σ H Q I hw => thn (h.run pins s σ H _ I hw) fun v s1 ⟨x, H1, I1, r, d, u, hd, mu, q⟩ => ?_⟩
  obtain ⟨od, I2⟩ := I1.lock hd mu
  exact ⟨x, _, I2, r, q od⟩
theorem lc_keys {d : Addr} {o : Obj} {fs : List (List Nat)} {kvs : List (Key × V)} (hk : kvs.map (fun kv => kV kv.1) = fs.map vS) {g : TG} {tt : TT} {te : TE} {vs : List Nat} {σ : L2.St} {H1 : Hp} {D : Addr} {Qd : Hp → Prop} (Pv : Nat → Hp → Prop)
    (h0 : Pv 0 (upd H1 D (.lst []))) (hl : ∀ i H, i ≤ fs.length → Pv i H → H d = some (.frz o (.dK kvs)))
    (hs : ∀ i u H, fs[i]? = some u → Pv i H → g (vS u) (wipe σ vs) H fun σ2 H2 => wipe σ2 vs = wipe σ vs ∧ tt σ2 H2 fun b H3 =>
      if b = true then te σ2 H3 fun y H4 => ∃ acc, H4 D = some (.lst acc) ∧ acc.length < sizeLine ∧ Pv (i + 1) (upd H4 D (.lst (acc ++ [y]))) else Pv (i + 1) H3)
    (hd : ∀ H, Pv fs.length H → Qd H) :
    ∃ W : Nat → Nat → Hp → Prop, (∃ m, W 0 m (upd H1 D (.lst []))) ∧ ∀ i m H, W i m H →
      ((Itk d o kvs).stop i H ∧ Qd H) ∨ ((Itk d o kvs).go i H ∧ ∃ Nx : Hp → Prop, (∀ H', Nx H' → ∃ m', m' < m ∧ W (i + 1) m' H') ∧ ∀ x H', (Itk d o kvs).yld i H x H' → g x (wipe σ vs) H' fun σ2 H2 => wipe σ2 vs = wipe σ vs ∧ tt σ2 H2 fun b H3 =>
        if b = true then te σ2 H3 fun y H4 => ∃ acc, H4 D = some (.lst acc) ∧ acc.length < sizeLine ∧ Nx (upd H4 D (.lst (acc ++ [y]))) else Nx H3) := by
  have el : kvs.length = fs.length := by
    have := congrArg List.length hk
    rw [List.length_map, List.length_map] at this
    exact this
  refine ⟨fun i m H => m = fs.length - i ∧ i ≤ fs.length ∧ Pv i H, ⟨fs.length, by simp, Nat.zero_le _, h0⟩, ?_⟩
  rintro i m H ⟨rfl, hi, p⟩
  by_cases lt : i < fs.length
  · refine .inr ⟨⟨hl i H hi p, by omega⟩, Pv (i + 1), fun H' r => ⟨fs.length - (i + 1), by omega, rfl, lt, r⟩, ?_⟩
    rintro x H' ⟨rfl, k, v, e1, rfl⟩
    have e2 : (fs.map vS)[i]? = some (kV k) := by rw [← hk, List.getElem?_map, e1]; rfl
    rw [List.getElem?_map] at e2
    cases e3 : fs[i]? with
    | none => rw [e3] at e2; cases e2
    | some u =>
      rw [e3] at e2
      have e4 : vS u = kV k := Option.some.inj e2
      rw [← e4]
      exact hs i u _ e3 p
  · have e : i = fs.length := by omega
    subst e
    exact .inl ⟨⟨hl _ H hi p, by omega⟩, hd H p⟩
end
/-! ### walks, whatever is done in a turn -/
section
theorem it_gen {J : It} {n : Nat} {G : Hp → Prop} {Y : Nat → Hp → V → Hp → Prop} (w : Walk J n G Y) {Body : (Hp → Prop) → V → Hp → Prop} {H0 : Hp} {Qd : Hp → Prop} (Pv : Nat → Hp → Prop) (h0 : Pv 0 H0) (hG : ∀ i H, i ≤ n → Pv i H → G H)
    (hs : ∀ i x H H', i < n → Pv i H → Y i H x H' → Body (Pv (i + 1)) x H') (hd : ∀ H, Pv n H → Qd H) :
    ∃ W : Nat → Nat → Hp → Prop, (∃ m, W 0 m H0) ∧ ∀ i m H, W i m H → (J.stop i H ∧ Qd H) ∨ (J.go i H ∧ ∃ Nx : Hp → Prop, (∀ H', Nx H' → ∃ m', m' < m ∧ W (i + 1) m' H') ∧ ∀ x H', J.yld i H x H' → Body Nx x H') := by
  refine ⟨fun i m H => m = n - i ∧ i ≤ n ∧ Pv i H, ⟨n, by simp, Nat.zero_le _, h0⟩, ?_⟩
  rintro i m H ⟨rfl, hi, p⟩
  have gH := hG i H hi p
  by_cases lt : i < n
  · exact .inr ⟨w.goes i H lt gH, Pv (i + 1), fun H' r => ⟨n - (i + 1), by omega, rfl, lt, r⟩, fun x H' y => hs i x H H' lt p (w.yields i H x H' lt gH y)⟩
  · have e : i = n := by omega
    subst e
    exact .inl ⟨w.stops H gH, hd H p⟩
/-- the i-th of xs, told by f -/
def YM {α : Type} (f : α → V) (xs : List α) : Nat → Hp → V → Hp → Prop := fun i H v H' => H' = H ∧ ∃ u, xs[i]? = some u ∧ v = f u
theorem ym_of {α : Type} {f : α → V} {xs : List α} {i : Nat} {x : V} (h : (xs.map f)[i]? = some x) : ∃ u, xs[i]? = some u ∧ x = f u := by
  rw [List.getElem?_map] at h
  cases e : xs[i]? with
  | none => rw [e] at h; cases h
  | some c => rw [e] at h; exact ⟨c, rfl, (Option.some.inj h).symm⟩
theorem wk_list {K : PySem.W.Frag} {a : Addr} {α : Type} (f : α → V) (xs : List α) : Walk (Itl K a) xs.length (fun H => SqL K H a (xs.map f)) (YM f xs) :=
  ⟨fun i H hi h => (walk_list (xs := xs.map f)).goes i H (by rw [List.length_map]; exact hi) h,
   fun H h => by have := (walk_list (xs := xs.map f)).stops H h; rw [List.length_map] at this; exact this,
   fun i H x H' hi h y => by
    obtain ⟨e, q⟩ := (walk_list (xs := xs.map f)).yields i H x H' (by rw [List.length_map]; exact hi) h y
    exact ⟨e, ym_of q⟩⟩
theorem wk_tup {K : PySem.W.Frag} {a : Addr} {α : Type} (f : α → V) (xs : List α) : Walk (Itt K a) xs.length (fun H => SqT K H a (xs.map f)) (YM f xs) :=
  ⟨fun i H hi h => (walk_tup (xs := xs.map f)).goes i H (by rw [List.length_map]; exact hi) h,
   fun H h => by have := (walk_tup (xs := xs.map f)).stops H h; rw [List.length_map] at this; exact this,
   fun i H x H' hi h y => by
    obtain ⟨e, q⟩ := (walk_tup (xs := xs.map f)).yields i H x H' (by rw [List.length_map]; exact hi) h y
    exact ⟨e, ym_of q⟩⟩
theorem wk_str (l : List Nat) : Walk (Its (S l)) l.length (fun _ => True) (YM (fun c => vS [c]) l) :=
  ⟨fun i H hi h => (walk_str (z := S l)).goes i H (by simpa [SX.S] using hi) h,
   fun H h => by have := (walk_str (z := S l)).stops H h; simpa [SX.S] using this,
   fun i H x H' hi h y => by
    obtain ⟨e, c, q1, q2⟩ := (walk_str (z := S l)).yields i H x H' (by simpa [SX.S] using hi) h y
    exact ⟨e, c, by simpa [SX.S] using q1, q2⟩⟩
end
section
variable {X : Cx}
def tTru (K : PySem.W.Frag) (te : TE) : TT := fun σ H Q => te σ H fun x H' => ∃ k, TruV K x H' k ∧ Q k H'
theorem pt_tru (K : PySem.W.Frag) {a : Expr} {ta : TE} (hk : X.K = K) (h : PE X a ta) (he : ∀ whole, isTrue a X.env whole = (do let v ← whole; standAt a.pos; holding [v] (truthy v))) : PT X a (tTru K ta) := by
  subst hk
  exact pt_truth h he
end
/-! ### rules with the fragment told (within comprehensions) -/
section
variable {X : Cx}
theorem sl_listK (K : PySem.W.Frag) (hk : X.K = K) : SlR X (rSlL K) := by subst hk; exact sl_list
theorem ix_listK (K : PySem.W.Frag) (hk : X.K = K) : IxR X (rIxL K) := by subst hk; exact ix_list
theorem ix_tupK (K : PySem.W.Frag) (hk : X.K = K) : IxR X (rIxT K) := by subst hk; exact ix_tup
theorem call_lenK (K : PySem.W.Frag) (hk : X.K = K) : CallR X (.builtin "len") (fun xs H Q => ∃ p ys, xs = [.ref p] ∧ (SqL K H p ys ∨ SqT K H p ys) ∧ Q (.int ys.length) H) := by subst hk; exact call_len_seq
theorem pi_listK (K : PySem.W.Frag) (hk : X.K = K) {tg l : Expr} {tl : TE} (h : PE X l tl) : PI X tg l (iList K tl) := by subst hk; exact pi_list h
theorem pi_tupK (K : PySem.W.Frag) (hk : X.K = K) {tg l : Expr} {tl : TE} (h : PE X l tl) : PI X tg l (iTup K tl) := by subst hk; exact pi_tup h
end
end Lk

namespace Lk
open PySem PySem.Spec PyProof.Rows L2
/-! ### order: lists of numbers, (number, list) -/
open Fo PySem.W
abbrev dL (l : List Nat) : PyData := .list (l.map dI)
theorem alike_ints : ∀ a b : List Nat, alikeAll (a.map dI) (b.map dI) = true
  | [], _ => by simp [alikeAll]
  | _ :: _, [] => by simp [alikeAll]
  | x :: r, y :: t => by
    rw [List.map_cons, List.map_cons, alikeAll, alike_ints r t]
    simp [alike]
theorem alike_dL (a b : List Nat) : alike (dL a) (dL b) = true := by
  rw [alike]
  exact alike_ints a b
theorem toks_lt : ∀ a b : List Nat, PyProof.Rows.lexLt itemOrd (keyToksAll (a.map dI)) (keyToksAll (b.map dI)) = decide (a < b)
  | [], [] => by rw [decide_eq_false (List.lt_irrefl [])]; decide
  | [], y :: t => by
    rw [decide_eq_true (show ([] : List Nat) < y :: t from List.nil_lt_cons y t)]
    show PyProof.Rows.lexLt itemOrd (keyToksAll []) (keyToksAll (dI y :: t.map dI)) = true
    rw [toks_all_cons]
    simp only [keyToksAll]
    rw [lex_diff (O := itemOrd) (by simp)]
    decide
  | x :: r, [] => by
    rw [decide_eq_false (List.not_lt_nil _)]
    show PyProof.Rows.lexLt itemOrd (keyToksAll (dI x :: r.map dI)) (keyToksAll []) = false
    rw [toks_all_cons]
    simp only [keyToksAll]
    rw [lex_diff (O := itemOrd) (by simp)]
    decide
  | x :: r, y :: t => by
    rw [List.map_cons, List.map_cons]
    have ha : alike (dI x) (dI y) = true := by simp [alike]
    by_cases e : x = y
    · subst e
      rw [dataLt_all_yes ha (by rw [dI_eqv]; exact decide_eq_true rfl), toks_lt r t]
      apply decide_eq_decide.mpr
      rw [List.cons_lt_cons_iff]
      constructor
      · exact fun h => .inr ⟨rfl, h⟩
      · rintro (h | ⟨_, h⟩)
        · omega
        · exact h
    · rw [dataLt_all_no ha (by rw [dI_eqv]; exact decide_eq_false e), dataLt_int]
      apply decide_eq_decide.mpr
      rw [List.cons_lt_cons_iff]
      constructor
      · exact fun h => .inl (by omega)
      · rintro (h | ⟨h, _⟩)
        · omega
        · exact absurd h e
theorem dataLt_dL (a b : List Nat) : dataLt (dL a) (dL b) = decide (a < b) := by rw [dataLt_list, toks_lt]
theorem dL_inj {a b : List Nat} (h : dL a = dL b) : a = b := by
  injection h with h
  have : ∀ a b : List Nat, a.map dI = b.map dI → a = b := by
    intro a
    induction a with
    | nil =>
      intro b h
      cases b with
      | nil => rfl
      | cons y t => simp at h
    | cons x r ih =>
      intro b h
      cases b with
      | nil => simp at h
      | cons y t =>
        rw [List.map_cons, List.map_cons] at h
        injection h with h1 h2
        injection h1 with h1
        rw [ih t h2]
        congr 1
        omega
  exact this a b h
def minR (x : List Nat) (xs : List (List Nat)) : List Nat := xs.foldl (fun a y => if y < a then y else a) x
theorem minD_dL : ∀ (xs : List (List Nat)) (x : List Nat), minD (dL x) (xs.map dL) = dL (minR x xs) := by
  intro xs
  induction xs with
  | nil => intro x; rfl
  | cons y r ih =>
    intro x
    show (r.map dL).foldl (fun a y => if dataLt y a then y else a) (if dataLt (dL y) (dL x) then dL y else dL x) = dL (r.foldl (fun a y => if y < a then y else a) (if y < x then y else x))
    rw [dataLt_dL]
    by_cases h : y < x
    · rw [if_pos (decide_eq_true h), if_pos h]
      exact ih y
    · rw [if_neg (by simpa using h), if_neg h]
      exact ih x
theorem minR_ok : ∀ (xs : List (List Nat)) (x : List Nat), minR x xs ∈ x :: xs ∧ ∀ y ∈ x :: xs, ¬ y < minR x xs := by
  intro xs
  induction xs with
  | nil =>
    intro x
    refine ⟨List.mem_singleton.mpr rfl, fun y hy => ?_⟩
    rw [List.mem_singleton.mp hy]
    exact List.lt_irrefl _
  | cons z r ih =>
    intro x
    have e : minR x (z :: r) = minR (if z < x then z else x) r := rfl
    obtain ⟨h1, h2⟩ := ih (if z < x then z else x)
    rw [← e] at h1 h2
    constructor
    · rcases List.mem_cons.mp h1 with h | h
      · rw [h]
        split
        · exact List.mem_cons_of_mem _ (List.mem_cons_self ..)
        · exact List.mem_cons_self ..
      · exact List.mem_cons_of_mem _ (List.mem_cons_of_mem _ h)
    · intro y hy
      have hm := h2 _ (List.mem_cons_self ..)
      rcases List.mem_cons.mp hy with rfl | hy
      · by_cases hz : z < y
        · rw [if_pos hz] at hm
          exact List.not_lt.mpr (List.le_trans (List.not_lt.mp hm) (List.le_of_lt hz))
        · rw [if_neg hz] at hm
          exact hm
      · rcases List.mem_cons.mp hy with rfl | hy
        · by_cases hz : y < x
          · rw [if_pos hz] at hm
            exact hm
          · rw [if_neg hz] at hm
            exact List.not_lt.mpr (List.le_trans (List.not_lt.mp hm) (List.not_lt.mp hz))
        · exact h2 y (List.mem_cons_of_mem _ hy)
theorem depthAll_ints (l : List Nat) : PyData.depthAll (l.map dI) ≤ 1 := depAll_of fun a _ => by simp [PyData.depth]
theorem dL_dep (l : List Nat) : (dL l).depth ≤ 2 := by
  rw [PyData.depth]
  have := depthAll_ints l
  omega
/-- rows stand at the addresses bs -/
def RowsAt (K : PySem.W.Frag) (H : Hp) (bs : List Addr) (rs : List (List Nat)) : Prop := bs.length = rs.length ∧ ∀ (i : Nat) (b : Addr) (r : List Nat), bs[i]? = some b → rs[i]? = some r → SqL K H b (r.map vI)
theorem RowsAt.dps {K : PySem.W.Frag} {H : Hp} : ∀ {bs : List Addr} {rs : List (List Nat)}, RowsAt K H bs rs → DpAll K H (bs.map V.ref) (rs.map dL)
  | [], [], _ => .nil
  | [], _ :: _, h => by simp [RowsAt] at h
  | _ :: _, [], h => by simp [RowsAt] at h
  | b :: bs, r :: rs, h => .cons (dpi (h.2 0 b r rfl rfl)) (RowsAt.dps (bs := bs) (rs := rs) ⟨by have := h.1; simp at this; exact this, fun i c s hc hs => h.2 (i + 1) c s hc hs⟩)
section
variable {X : Cx}
def rMinLL (K : PySem.W.Frag) : List V → Hp → VK → Prop := fun vs H Q => ∃ (a : Addr) (bs : List Addr) (rs : List (List Nat)), vs = [.ref a] ∧ SqL K H a (bs.map V.ref) ∧ RowsAt K H bs rs ∧ rs ≠ [] ∧
  ∀ (i : Nat) (b : Addr) (r : List Nat), bs[i]? = some b → rs[i]? = some r → (∀ x ∈ rs, ¬ x < r) → Q (.ref b) H
theorem cr_minLL (hc : X.calm = true) (hu : X.A.units + 64 < cLine) : CallR X (.builtin "min") (rMinLL X.K) := by
  intro pins s σ H vs us Q I r h
  obtain ⟨a, bs, rs, rfl, hs, hr, hne, q⟩ := h
  obtain ⟨its, rv, hl, hz⟩ := I.list hs
  rw [Vals.ref1 r]
  obtain ⟨as, ra⟩ := Dp.readsAll I _ _ _ hr.dps rv
  cases rs with
  | nil => exact absurd rfl hne
  | cons x xs =>
    have hal : AlikeAll (dL x :: xs.map dL) := by
      refine ⟨fun y hy z hz => ?_, fun y hy => ?_⟩
      · obtain ⟨y', _, rfl⟩ : ∃ y', y' ∈ x :: xs ∧ dL y' = y := by rw [← List.map_cons (f := dL)] at hy; exact List.mem_map.mp hy
        obtain ⟨z', _, rfl⟩ : ∃ z', z' ∈ x :: xs ∧ dL z' = z := by rw [← List.map_cons (f := dL)] at hz; exact List.mem_map.mp hz
        exact alike_dL _ _
      · obtain ⟨y', _, rfl⟩ : ∃ y', y' ∈ x :: xs ∧ dL y' = y := by rw [← List.map_cons (f := dL)] at hy; exact List.mem_map.mp hy
        intro z
        cases z
    have hdep : PyData.depthAll (dL x :: xs.map dL) ≤ 2 := by
      rw [← List.map_cons (f := dL)]
      exact depAll_of fun a _ => dL_dep a
    have ra' : ReadsAll s.heap its.toArray.toList (dL x :: xs.map dL) as := ra
    refine min_list_data (I.ok.hd hc) hl.isList ra' hal (by omega) fun i v h' tk cs hv hrd hk => ?_
    have hit : its[i]? = some v := by simpa using hv
    have hin : i < its.length := (List.getElem?_eq_some_iff.mp hit).1
    have hlen : its.length = bs.length := by have := rv.length; rw [List.length_map] at this; omega
    obtain ⟨cs2, rd2, hi2, _, _⟩ := readsAll_atA ra' i v hv
    rw [← List.map_cons (f := dL)] at rd2
    have hir : i < (x :: xs).length := by rw [← hr.1]; omega
    obtain ⟨y, hy⟩ : ∃ y, (x :: xs)[i]? = some y := ⟨_, List.getElem?_eq_getElem hir⟩
    have egd : ((x :: xs).map dL).getD i .none = dL y := by rw [List.getD_eq_getElem?_getD, List.getElem?_map, hy]; rfl
    rw [egd] at rd2
    rw [minD_dL] at hrd
    have e1 : dL y = dL (minR x xs) := alike_unique _ _ _ _ _ (alike_dL _ _) (reads_keeps hk rd2) hrd
    have e2 := dL_inj e1
    have hib : i < bs.length := by omega
    obtain ⟨b, hb⟩ : ∃ b, bs[i]? = some b := ⟨_, List.getElem?_eq_getElem hib⟩
    have ev : v = .ref b := by
      have hh : RelV (V.ref b) v := by
        have : (bs.map V.ref)[i]? = some (V.ref b) := by rw [List.getElem?_map, hb]; rfl
        obtain ⟨u, hu1, hu2⟩ := Vals.get rv this
        rw [hit] at hu1
        rw [Option.some.inj hu1]
        exact hu2
      exact hh
    subst ev
    exact ⟨.ref b, H, I.kept hk, rfl, q i b y hb hy (by rw [e2]; exact (minR_ok xs x).2)⟩
def rLtIL (K : PySem.W.Frag) : R2 := fun x y H Q => ∃ (a b p q : Addr) (n m : Int) (l k : List Nat), x = .ref a ∧ y = .ref b ∧ SqT K H a [.int n, .ref p] ∧ SqT K H b [.int m, .ref q] ∧ SqL K H p (l.map vI) ∧ SqL K H q (k.map vI) ∧ Q (.bl (decide (n < m ∨ n = m ∧ l < k))) H
theorem dataLt_IL (n m : Int) (l k : List Nat) : dataLt (.tuple [.int n, dL l]) (.tuple [.int m, dL k]) = decide (n < m ∨ n = m ∧ l < k) := by
  rw [dataLt_tuple]
  have ha : alike (.int n) (.int m) = true := by simp [alike]
  have eqv : PyData.eqv (.int n) (.int m) = (n == m) := rfl
  by_cases e : n = m
  · subst e
    rw [dataLt_all_yes ha (by rw [eqv]; simp)]
    by_cases e2 : l = k
    · subst e2
      rw [decide_eq_false (by rintro (h | ⟨_, h⟩); exact absurd h (Int.lt_irrefl _); exact List.lt_irrefl _ h)]
      rw [dataLt_all_yes (alike_dL l l) (eqv_refl_alike _ (alike_dL l l))]
      decide
    · have hne : PyData.eqv (dL l) (dL k) = false := by
        show PyData.eqv (.list (l.map dI)) (.list (k.map dI)) = false
        rw [PyData.eqv, eqvAll_of fun a _ b _ => dI_eqv a b]
        exact decide_eq_false e2
      rw [dataLt_all_no (alike_dL l k) hne, dataLt_dL]
      apply decide_eq_decide.mpr
      exact ⟨fun h => .inr ⟨rfl, h⟩, fun h => h.elim (fun z => absurd z (Int.lt_irrefl _)) fun z => z.2⟩
  · rw [dataLt_all_no ha (by rw [eqv]; simpa using e), dataLt_int]
    apply decide_eq_decide.mpr
    exact ⟨fun h => .inl h, fun h => h.elim id fun z => absurd z.1 e⟩
theorem op_ltIL (hu : X.A.units + 64 < cLine) : OpR X (compareOp .Lt) (rLtIL X.K) := by
  intro pins s σ H x y v u Q I rx ry ⟨a, b, p, q, n, m, l, k, e1, e2, h1, h2, h3, h4, hq⟩
  subst e1 e2
  have d1 : Dp X.K H (.ref a) (.tuple [.int n, dL l]) := .tup h1 (.cons (.int n) (.cons (dpi h3) .nil))
  have d2 : Dp X.K H (.ref b) (.tuple [.int m, dL k]) := .tup h2 (.cons (.int m) (.cons (dpi h4) .nil))
  obtain ⟨as, r1⟩ := Dp.reads I _ _ v d1 rx
  obtain ⟨bs, r2⟩ := Dp.reads I _ _ u d2 ry
  have hal : alike (.tuple [.int n, dL l]) (.tuple [.int m, dL k]) = true := by
    rw [alike, alikeAll, alikeAll, alikeAll, alike_dL]
    simp [alike]
  have hdep : (PyData.tuple [.int n, dL l]).depth ≤ 4 := by
    rw [PyData.depth, PyData.depthAll, PyData.depthAll, PyData.depthAll]
    have := dL_dep l
    have e : (PyData.int n).depth ≤ 1 := by simp [PyData.depth]
    omega
  have hx := rcLt_alike _ _ X.A s v u as bs r1 r2 hal (fun z => by cases z) (by have := Nat.min_le_left (PyData.tuple [.int n, dL l]).depth (PyData.tuple [.int m, dL k]).depth; omega)
  rw [dataLt_IL] at hx
  exact hx X.prog X.w _ _ ⟨.bl _, H, I, rfl, hq⟩
end
end Lk

namespace Lk
open PySem PySem.Spec PyProof.Rows L2
/-! ### text * number -/
section
variable {X : Cx}
theorem rep_fold (l : List Nat) : ∀ (m : Nat) (acc : List Nat), (List.replicate m l.toArray).foldl (· ++ ·) acc.toArray = (acc ++ (List.replicate m l).flatten).toArray
  | 0, acc => by simp
  | m + 1, acc => by
    rw [List.replicate_succ, List.foldl_cons, List.replicate_succ, List.flatten_cons, ← List.append_assoc]
    have := rep_fold l m (acc ++ l)
    rw [← this]
    congr 1
    simp
theorem op_repS : OpR X (binaryOp .Mult) (fun x y H Q => ∃ (l : List Nat) (n : Nat), x = vS l ∧ y = .int n ∧ 1 ≤ n ∧ n ≤ 1000 ∧ l.length ≤ 1000 ∧ Q (vS (List.replicate n l).flatten) H) := by
  intro pins s σ H x y v u Q I rx ry ⟨l, n, e1, e2, n1, n2, hl, q⟩
  subst e1 e2
  obtain ⟨t, rfl⟩ := rx
  obtain ⟨t', rfl⟩ := ry
  have hle : (S l).length * ((n : Int)).toNat ≤ 1000000 := by
    rw [S_len, Int.toNat_natCast]
    exact Nat.le_trans (Nat.mul_le_mul hl n2) (by decide)
  refine P.mul_str ?_ (fun _ _ => ?_) (fun _ _ => ?_) ?_
  · rw [decide_eq_false (by omega), decide_eq_false (by omega)]
    rfl
  · have h1 : ((S l).length : Int) ≤ 1000 := by rw [S_len]; omega
    have h2 : (1000 : Int) ≤ (2 ^ 63 - 1) / (n : Int) := by
      rw [Int.le_ediv_iff_mul_le (by omega)]
      omega
    omega
  · show decide ((S l).length * ((n : Int)).toNat > sizeLine) = false
    exact decide_eq_false (Nat.not_lt.mpr (big hle))
  · rw [if_neg (by omega)]
    by_cases h1 : (((n : Int) == 1) || (S l).length == 0) = true
    · rw [if_pos h1]
      have e : (List.replicate n l).flatten = l := by
        rw [Bool.or_eq_true] at h1
        rcases h1 with h1 | h1
        · have : n = 1 := by have := eq_of_beq h1; omega
          rw [this]
          simp
        · have : l = [] := by
            have := eq_of_beq h1
            rw [S_len] at this
            exact List.length_eq_zero_iff.mp this
          rw [this]
          simp
      rw [e] at q
      exact ⟨vS l, H, I, ⟨t, rfl⟩, q⟩
    · rw [if_neg h1]
      have e : (⟨(List.replicate ((n : Int)).toNat (S l).cps).foldl (· ++ ·) #[]⟩ : Str) = S (List.replicate n l).flatten := by
        have := rep_fold l n []
        rw [List.nil_append] at this
        show (⟨(List.replicate ((n : Int)).toNat l.toArray).foldl (· ++ ·) [].toArray⟩ : Str) = ⟨_⟩
        rw [Int.toNat_natCast, this]
      rw [e]
      refine ⟨?_, ⟨vS _, H, I.tok _, ⟨_, rfl⟩, q⟩⟩
      clear e
      have hfl : (List.replicate n l).flatten.length = n * l.length := by simp
      rw [S_len, hfl]
      exact big (Nat.le_trans (Nat.mul_le_mul n2 hl) (by decide))
end
end Lk

namespace Lk
open PySem PySem.Spec PyProof.Rows L2
/-! ### own exception classes: what the written part says of them -/
/-- the class x -/
structure ExF (K : PySem.W.Frag) (mg : Str → Option Value) (x : Str) : Prop where
  ex : ∃ C, mg x = some (.ref C) ∧ PySem.W.keepIn K (.ref C) = true ∧ PySem.W.subIn K (.ref C) (.type "BaseException") = some true ∧ PySem.W.typeIn K (.ref C) = some (.type "type") ∧ PySem.W.isClsIn K C = true ∧ PySem.W.subIn K (.ref C) (.ref C) = some true ∧ ExcC K C
/-- isinstance of an x and the class y -/
def ExK (K : PySem.W.Frag) (mg : Str → Option Value) (x y : Str) (b : Bool) : Prop := ∃ C D, mg x = some (.ref C) ∧ mg y = some (.ref D) ∧ PySem.W.kitOne K (.ref C) (.ref D) = some b
theorem kit_own {K : PySem.W.Frag} {C D : Addr} {b : Bool} (i : PySem.W.isClsIn K D = true) (t : PySem.W.typeIn K (.ref D) = some (.type "type")) (s : PySem.W.subIn K (.ref D) (.ref D) = some true) (x : PySem.W.subIn K (.ref C) (.ref D) = some b) : PySem.W.kitOne K (.ref C) (.ref D) = some b := by
  unfold PySem.W.kitOne
  by_cases e : C = D
  · subst e
    rw [s] at x
    rw [if_pos (by simp)]
    exact x
  · rw [if_neg (by simpa using e)]
    unfold PySem.W.kitCls
    have i' : (PySem.W.clsIn K D).isSome = true := i
    dsimp only
    rw [i', t]
    simpa using x
/-- the method m of the class x -/
structure DefM (K : PySem.W.Frag) (mg : Str → Option Value) (x m q : Str) (st : Stmt) (ps : List Str) : Prop where
  ex : ∃ C f fd, mg x = some (.ref C) ∧ PySem.W.findIn K (.ref C) m = some (some (.ref f)) ∧ PySem.W.typeIn K (.ref f) = some (.type "function") ∧ PySem.W.keepIn K (.ref f) = true ∧ Fun K m q st f fd ∧ Binds K fd ps []
theorem defM_mk {K : PySem.W.Frag} {h : Heap} {mg : Str → Option Value} {x m q : Str} {st : Stmt} {ps : List Str} {C f : Addr} {oc : Value} {od an : Option Addr} {osl : Array (Option Value)} {kV doc pm cdv ct : Value} (X : K.In h) (G : h.Ns mainGlobals mg)
    (hb : ∀ (kV doc pm : Value) (an : Option Addr) (cdv ct : Value) (us : List Value), us.length = ps.length → bindArgs (PySem.W.fnOf m q (defArgs st) (defBody st) (defScope st) .none kV doc pm an cdv ct) ⟨us, []⟩ = pure (ps.zip us))
    (a : PySem.W.nsIn K mainGlobals x = some (some (.ref C))) (i : PySem.W.findIn K (.ref C) m = some (some (.ref f))) (t : PySem.W.typeIn K (.ref f) = some (.type "function"))
    (l : K.lookup f = some ⟨oc, od, .func (PySem.W.fnOf m q (defArgs st) (defBody st) (defScope st) .none kV doc pm an cdv ct), osl⟩) (c : PySem.W.codeIn K cdv q = true) (k : PySem.W.keepIn K (.ref f) = true) : DefM K mg x m q st ps := by
  have F := fun_mk (st := st) l c k
  exact ⟨C, f, _, PySem.W.mg_of X G a, i, t, k, F, F.binds hb⟩
/-- an own exception class x with an __init__ that keeps f and calls y's -/
def OexF (K : PySem.W.Frag) (mg : Str → Option Value) (x y f : Str) : Prop := ∃ C D, mg x = some (.ref C) ∧ mg y = some (.ref D) ∧ OexC K C ∧ PySem.W.findIn K (.ref C) f = some none ∧
  PySem.W.findCls K (.ref D) (.type "type") "__init__" = some (.val (.builtin "ValueError.__init__")) ∧ ClX.CRead K D (.type "type")
section
variable {X : Cx} {x : Str} {D : Addr} {e : Expr} {es : List Expr} {ta : TA} {p1 p2 pos : Pos}
/-- Base.__init__(self, ..), Base an own exception class without an __init__ of its own -/
theorem pe_oinit {pl : Sem Bool} (hg : Gl X x) (hm : X.mg x = some (.ref D)) (r : ClX.CRead X.K D (.type "type")) (v : PySem.W.findCls X.K (.ref D) (.type "type") "__init__" = some (.val (.builtin "ValueError.__init__"))) (ha : PA X (e :: es) ta)
    (hc : eval (.Call (.Attribute (.Name x p1) "__init__" p2) (e :: es) [] pos) X.env = (do
      let ov ← eval (.Name x p1) X.env
      standAt p2.atName
      let (f, first) ← holding [ov] (getMethod ov "__init__" pl)
      callWith pos f first (backTo pos (starEach (e :: es) X.env)) (backToKw pos (keywordEach [] X.env))) := by rfl)
    (hdb : (x == ("__debug__" : Str)) = false := by decide) (he : starEach (e :: es) X.env = (false, eval e X.env) :: starEach es X.env := by rfl) (hpl : (backTo pos (starEach es X.env)).any (·.1) = false := by rfl) :
    PE X (.Call (.Attribute (.Name x p1) "__init__" p2) (e :: es) [] pos) (tVeI X.K ta) := by
  refine ⟨fun pins s σ H Q I h => ?_⟩
  refine PySem.W.methodCall_KW (ld_glob I hg hm ?_ hdb) hc
  refine PySem.W.method_cls I.kIn r.ga (PySem.W.cls_value I.kIn r.rd v (by decide +kernel) ?_)
  show wpAny _ _ (callWith pos (Value.builtin "ValueError.__init__") [] (backTo pos (starEach (e :: es) X.env)) []) _ _ _
  refine PyProof.Rows.callWith_method1 (thn (ha.run pos pins _ σ H _ (I.tok _) h) fun us s1 ⟨vs, H1, I1, r1, a, C, ws, ev, hl, T, ea, q⟩ => ?_) he hpl
  subst ev
  cases r1 with
  | @cons _ u0 _ ur ra rw' =>
    obtain rfl : u0 = Value.ref a := ra
    have hlen : ur.length ≤ sizeLine := by
      rw [← Paired.length rw', sizeLine_eq]
      omega
    exact oinit_ok T I1 ea hlen fun s' J => ⟨.non, H1, J, rfl, q⟩
end
/-- an own exception class without an __init__ of its own or above -/
def ExE (K : PySem.W.Frag) (mg : Str → Option Value) (x : Str) : Prop := ∃ C, mg x = some (.ref C) ∧ PySem.W.excIn K C [.type "ValueError", .type "Exception", .type "BaseException", .type "object"] "ValueError.__new__" = true
section
variable {X : Cx} {x : Str} {ps : List Str} {k j : Nat} {sp : Sp} {e : Expr} {es : List Expr} {t : TA} {p pos : Pos} {E : L2.St → XK}
/-- x(e, ..), x may raise -/
theorem pe_fnS (F : Fn X.prog X.w X.K X.mg X.base (L2.CX X.prog X.w) k x ps sp) (hr : Room j X.A) (hx : ∀ σ, PassesAt (L2.CX X.prog X.w) X σ (E σ)) (ha : PA X (e :: es) t) (hj : k ≤ j := by decide) (hg : Gl X x := by rfl)
    (hdb : (x == ("__debug__" : Str)) = false := by decide) (he : starEach (e :: es) X.env = (false, eval e X.env) :: starEach es X.env := by rfl) (hpl : (backTo pos (starEach es X.env)).any (·.1) = false := by rfl) :
    PE X (.Call (.Name x p) (e :: es) [] pos) (tCallS sp E t) := by
  obtain ⟨f, fd, a, b, c, d⟩ := F
  exact pe_callS d (hr.mono hj) hg a b c hx ha hdb he hpl
/-- isinstance(e, c), e the exception in hand: of the class at D -/
def rIsEX (K : PySem.W.Frag) (D a : Addr) (cls : Value) (d : Option Addr) : List V → Hp → VK → Prop := fun xs H Q => cls = .ref D ∧ d = none ∧ rIsE K D a xs H Q
theorem call_isEX {a D : Addr} {oe : Obj} {cls : Value} {d : Option Addr} {pn : List (Addr × Obj)} (C : ExcC X.K D) (hz : Zc cls d oe) (hf : ∃ vs, oe.data = .fields vs) : CallR (X.suite a ((a, oe) :: pn)) (.builtin "isinstance") (rIsEX X.K D a cls d) := by
  intro pins s σ H xs us Q I r ⟨e1, e2, h⟩
  subst e1 e2
  exact call_isE C hz hf pins s σ H xs us Q I r h
end
section
variable {K : PySem.W.Frag} {X : Cx} {pins : List (Addr × Obj)} {a D : Addr} {oe : Obj} {cls : Value} {d : Option Addr} {pn : List (Addr × Obj)} {f : Str} {e : Expr} {te : TE} {pos : Pos}
/-- the exception that the suite holds, its dict at dd -/
theorem instD {s : Shared} {σ : L2.St} {H : Hp} {dd : Addr} {fs : List (Str × V)} (I : Inv (X.suite a ((a, oe) :: pn)) pins σ H s) (hz : Zc cls d oe) (hf : ∃ vs, oe.data = .fields vs) (ec : cls = .ref D) (ed : d = some dd) (ea : H dd = some (.xd fs)) :
    ∃ (od : Obj) (mA : Str → Option Value), PySem.W.InstAt s.heap a oe D (some od) ∧ (∀ name, PySem.W.lookIn name od = some (mA name)) ∧ ∀ g, RelO (fs.lookup g) (mA g) := by
  subst ec
  subst ed
  obtain ⟨ha, _⟩ := I.pin (a, oe) (List.mem_append_left _ List.mem_cons_self)
  obtain ⟨vs, hd⟩ := hf
  have hx : ObjOk X.prog X.w H s.heap dd (.xd fs) := I.hok dd _ ea
  obtain ⟨mA, hns, hr⟩ := hx
  obtain ⟨od, ho, hl⟩ := lookIn_ns hns
  exact ⟨od, mA, ⟨ha, hz.1, by unfold PySem.W.notCls; rw [hd] <;> rfl, by rw [hz.2]; exact ho⟩, hl, hr⟩
/-- isinstance(e, c), e the exception in hand: of the class at D, with a dict -/
def rIsED (K : PySem.W.Frag) (D a : Addr) (cls : Value) (d : Option Addr) : List V → Hp → VK → Prop := fun xs H Q => cls = .ref D ∧ ∃ (dd : Addr) (fs : List (Str × V)), d = some dd ∧ H dd = some (.xd fs) ∧ rIsE K D a xs H Q
theorem call_isED (C : ExcC X.K D) (hz : Zc cls d oe) (hf : ∃ vs, oe.data = .fields vs) : CallR (X.suite a ((a, oe) :: pn)) (.builtin "isinstance") (rIsED X.K D a cls d) := by
  intro pins s σ H xs us Q I r ⟨e1, dd, fs, e2, ea, c, cv, b, ex, hcv, e, q⟩
  subst ex
  cases r with
  | cons rx rr =>
    cases rr with
    | cons rt rr =>
      cases rr
      cases rx
      have ec := hcv _ rt
      subst ec
      obtain ⟨od, mA, J, hl, hr⟩ := instD I hz hf e1 e2 ea
      obtain ⟨cdD, hcD, _⟩ := PySem.W.any_some C.hd
      exact PySem.W.kia_one (PySem.W.kitx_exc (by rw [hcD]; rfl) C.hg C.hk C.hs C.ha C.hn C.ht C.hm) I.kIn J e (fun z => nomatch z) fun tk => ⟨.bl b, H, I.kept (t' := tk) fun _ _ z => z, rfl, q⟩
/-- e.f, e the exception that the suite holds -/
def tXf (D a : Addr) (cls : Value) (d : Option Addr) (f : Str) (te : TE) : TE := fun σ H Q => te σ H fun x H1 => x = .ref a ∧ cls = .ref D ∧ ∃ (dd : Addr) (fs : List (Str × V)) (v : V), d = some dd ∧ H1 dd = some (.xd fs) ∧ fs.lookup f = some v ∧ Q v H1
theorem pe_xf (C : ExcC X.K D) (hno : PySem.W.findIn X.K (.ref D) f = some none) (hz : Zc cls d oe) (hf : ∃ vs, oe.data = .fields vs) (he : PE (X.suite a ((a, oe) :: pn)) e te)
    (hb : attributeBase e f X.env (eval e X.env) = eval e X.env := by rfl) : PE (X.suite a ((a, oe) :: pn)) (.Attribute e f pos) (tXf D a cls d f te) := by
  refine ⟨fun pins s σ H Q I h => ?_⟩
  refine attr_of hb (thn (he.run pins s σ H _ I h) fun u s1 hh => ?_)
  obtain ⟨x, H1, I1, rx, ex, e1, dd, fs, v, e2, ea, lk, q⟩ := hh
  subst ex
  obtain rfl : u = Value.ref a := rx
  obtain ⟨od, mA, J, hl, hr⟩ := instD I1 hz hf e1 e2 ea
  obtain ⟨u, hu, ru⟩ := RelO.some_of (v := v) (o := mA f) (by rw [← lk]; exact hr f)
  exact HandSPX.exc_get I1.kIn J C.hg C.hk C.hs (PySem.W.findObj_own C.hd hno rfl (by rw [hl, hu])) (handed_of ru) ⟨v, H1, I1.tok _, ru, q⟩
end
end Lk

namespace Lk
open PySem PySem.Spec PyProof.Rows L2
theorem textAt : ∀ {us : List Value} {xs : List Str}, StrsAre us xs → ∀ (i : Nat) (v : Value), us[i]? = some v → ∃ t, v = .str (xs.getD i Str.empty) t
  | _, _, .nil, i, v, h => by simp at h
  | _, _, .cons n t hr, 0, v, h => by
    obtain rfl := Option.some.inj h
    exact ⟨t, rfl⟩
  | _, _, .cons n t hr, i + 1, v, h => by
    obtain ⟨t', e⟩ := textAt hr i v (by simpa using h)
    exact ⟨t', by rw [e]; rfl⟩
/-! ### sets of texts -/
def keyOfS (e : Int × Value) : Str := match e.2 with | .str k _ => k | _ => Str.empty
def GoodS (w : World) (e : Int × Value) : Prop := ∃ k tk, e.2 = Value.str k tk ∧ e.1 = hashStr w k

/-- the set of ints at a: S its members, n their number; its table rises and can be walked -/
def SetRS (w : World) (h : Heap) (a : Addr) (S : Str → Bool) (n : Nat) : Prop :=
  ∃ o es ep t, h.get? a = some o ∧ o.ExactSet ∧ o.data = .set es ep t ∧ (∀ e ∈ es.toList, GoodS w e) ∧ (es.toList.map keyOfS).Nodup ∧ (∀ k, S k = true ↔ k ∈ es.toList.map keyOfS) ∧
    es.size < scanBound ∧ t.fits es.size = true ∧ es.size = n ∧ Ris t.place.toList ∧ (w.params.followText "set-order" = true ∨ t.led = true)

section
variable {P : Program} {w : World} {h h' : Heap} {a : Addr} {S : Str → Bool} {n : Nat}

theorem SetRS.at (R : SetRS w h a S n) (k : ∀ o, h.get? a = some o → h'.get? a = some o) : SetRS w h' a S n := by
  obtain ⟨o, es, ep, t, ho, r⟩ := R
  exact ⟨o, es, ep, t, k o ho, r⟩
theorem SetRS.lt (R : SetRS w h a S n) : a < h.objs.size := by
  obtain ⟨o, es, ep, t, ho, r⟩ := R
  exact Heap.lt_size ho
theorem SetRS.congr {S' : Str → Bool} (R : SetRS w h a S n) (e : ∀ k, S' k = S k) : SetRS w h a S' n := by
  have q : S' = S := funext e
  rw [q]; exact R
theorem goodS_elems {l : List (Int × Value)} (g : ∀ e ∈ l, GoodS w e) : ElemsOf (PySem.strKind P w) l := fun e he => by
  obtain ⟨k, tk, h1, h2⟩ := g e he
  exact ⟨⟨k, by rw [h1]; exact PySem.strKind_is P w k tk, h2⟩, by rw [h1] <;> rfl⟩
theorem goodS_is {e : Int × Value} (g : GoodS w e) (k : Str) : (PySem.strKind P w).is k e.2 = true ↔ keyOfS e = k := by
  obtain ⟨k0, tk, h1, _⟩ := g
  unfold keyOfS
  rw [h1]
  show ((k0 == k) = true) ↔ k0 = k
  exact beq_iff_eq
theorem goodS_mem {l : List (Int × Value)} (g : ∀ e ∈ l, GoodS w e) (k : Str) : k ∈ l.map keyOfS ↔ ∃ e ∈ l, (PySem.strKind P w).is k e.2 = true := by
  rw [List.mem_map]
  constructor
  · rintro ⟨e, he, q⟩
    exact ⟨e, he, (goodS_is (g e he) k).2 q⟩
  · rintro ⟨e, he, q⟩
    exact ⟨e, he, (goodS_is (g e he) k).1 q⟩
theorem SetRS.setOf (R : SetRS w h a S n) : h.SetOf (PySem.strKind P w) a S n := by
  obtain ⟨o, es, ep, t, ho, hx, hd, g, nd, hm, hb, hf, hn, _⟩ := R
  exact ⟨o, es, ep, t, ho, hx, hd, goodS_elems g, fun k => (hm k).trans (goodS_mem g k), hb, hf, hn⟩
end

section
variable {P : Program} {w : World} {A : Around} {E : Value → Shared → Prop} {s : Shared} {a : Addr} {S : Str → Bool} {n : Nat}

/-! ### add -/
theorem store_at {h : Heap} {a : Addr} {o : Obj} {es es' : Array (Int × Value)} {ep : Nat} {t t' : SetTable} (ho : h.get? a = some o) (hd : o.data = .set es ep t) :
    (h.update a (Obj.putSet es' t')).get? a = some { o with data := .set es' (ep + 1) t' } := by
  have q := Heap.get?_update_self (Obj.putSet es' t') ho (by rw [putSet_of es' t' hd]; rfl)
  rw [putSet_of es' t' hd] at q
  exact q

theorem setRS_add_tail {g : Bool → Sem Unit} (hg : ∀ (b : Bool) (s₁ : Shared) (Q' : Unit → Shared → Prop), Q' () s₁ → wpAny (model P w) A (g b) Q' E s₁)
    {o : Obj} {es : Array (Int × Value)} {ep : Nat} {t : SetTable} (ho : s.heap.get? a = some o) (hex : o.ExactSet) (hd : o.data = .set es ep t)
    {es1 : Array (Int × Value)} {t2 : SetTable} {S' : Str → Bool} (g1 : ∀ e ∈ es1.toList, GoodS w e) (nd1 : (es1.toList.map keyOfS).Nodup) (m1 : ∀ k, S' k = true ↔ k ∈ es1.toList.map keyOfS)
    (hb1 : es1.size < scanBound) (hf2 : t2.fits es1.size = true) (hr : Ris t2.place.toList) (hl : w.params.followText "set-order" = true ∨ t2.led = true) {wasDummy : Bool} {R : Option Bool → Shared → Prop}
    (hR : ∀ h', Heap.SameBut a s.heap h' → SetRS w h' a S' es1.size → R (some true) { s with heap := h' }) :
    wpAny (model P w) A (do
        storeSet a es1 t2
        if (!wasDummy && t2.tooFull) = true then do
            g (relayAll t2 es1 (SetTable.grown es1.size)).2.2
            storeSet a (relayAll t2 es1 (SetTable.grown es1.size)).1 (relayAll t2 es1 (SetTable.grown es1.size)).2.1
            pure (some true)
          else pure (some true)) R E s := by
  refine wpAny_bind (wpAny_storeSet_of ho hd ?_ (fits_of_scanBound hb1))
  have ho1 := store_at (es' := es1) (t' := t2) ho hd
  have sb1 := Heap.SameBut.update s.heap a (Obj.putSet es1 t2)
  split
  · have pm := relayAll_perm t2 es1 (SetTable.grown es1.size)
    have hf3 := relayAll_fits t2 es1 (SetTable.grown es1.size)
    have hr3 := relayAll_ris t2 es1 (SetTable.grown es1.size)
    have hl3 := relayAll_led t2 es1 (SetTable.grown es1.size)
    generalize relayAll t2 es1 (SetTable.grown es1.size) = Z at pm hf3 hr3 hl3 ⊢
    obtain ⟨es2, t3, gave⟩ := Z
    dsimp only at pm hf3 hr3 hl3 ⊢
    have hsz : es2.size = es1.size := by rw [← Array.length_toList, pm.length_eq, Array.length_toList]
    have hb2 : es2.size < scanBound := by rw [hsz]; exact hb1
    refine wpAny_bind (hg _ _ _ ?_)
    refine wpAny_bind (wpAny_storeSet_of ho1 rfl ?_ (fits_of_scanBound hb2))
    have ho2 := store_at (es' := es2) (t' := t3) ho1 rfl
    refine wpAny_pure (hR _ (sb1.trans (Heap.SameBut.update _ a _)) ?_)
    exact ⟨_, es2, _, t3, ho2, hex, rfl, fun e he => g1 e (pm.mem_iff.mp he), (pm.map keyOfS).nodup_iff.mpr nd1, fun k => (m1 k).trans (pm.map keyOfS).mem_iff.symm, hb2, hf3, hsz, hr3,
      hl.imp id fun z => by rw [hl3]; exact z⟩
  · exact wpAny_pure (hR _ sb1 ⟨_, es1, _, t2, ho1, hex, rfl, g1, nd1, m1, hb1, hf2, rfl, hr, hl⟩)

theorem setRS_add_hashed {k : Str} {tk : Tok} {Q : Bool → Shared → Prop} (R : SetRS w s.heap a S n) (room : n + 1 < scanBound)
    (hQ : ∀ h', Heap.SameBut a s.heap h' → SetRS w h' a (fun j => S j || decide (j = k)) (if S k = true then n else n + 1) → Q (!S k) { s with heap := h' }) :
    wpAny (model P w) A (setAddHashed a (.str k tk) ((PySem.strKind P w).hash k)) Q E s := by
  obtain ⟨o, es, ep, t, ho, hex, hd, g, nd, hm, hb, hf, hn, hr, hl⟩ := R
  have hkey : (PySem.strKind P w).is k (.str k tk) = true := PySem.strKind_is P w k tk
  have hsc : (Value.str k tk).scannable = true := rfl
  have hel : ElemsOf (PySem.strKind P w) es.toList := goodS_elems g
  unfold setAddHashed setAddHashedIn
  refine wpAny_holding (wpAny_bind (wpAny_setState_of ho hd hf ?_))
  dsimp only
  rw [byScan_of hsc hb hel]
  simp only [↓reduceIte]
  unfold setAddByScan
  refine wpAny_bind ?_
  refine wpAny_bind (wpAny_rule ?_)
  refine wpAny_bind (wpAny_setScan_of hkey ho hd hf hel ?_)
  cases hfi : List.findIdx? (fun e => (PySem.strKind P w).is k e.2) es.toList with
  | some j =>
    dsimp only
    obtain ⟨hj, pj, _⟩ := List.findIdx?_eq_some_iff_getElem.mp hfi
    have hSk : S k = true := (hm k).2 ((goodS_mem (P := P) (w := w) g k).2 ⟨es.toList[j], List.getElem_mem hj, pj⟩)
    refine wpAny_pure (wpAny_pure ?_)
    have q := hQ s.heap (Heap.SameBut.refl a s.heap) ⟨o, es, ep, t, ho, hex, hd, g, nd, fun i => by
      rw [Bool.or_eq_true, decide_eq_true_eq, ← hm i]
      exact ⟨fun z => z.elim id (fun e => e ▸ hSk), .inl⟩, hb, hf, by rw [if_pos hSk]; exact hn, hr, hl⟩
    rw [hSk] at q
    exact q
  | none =>
    dsimp only
    have hnk : k ∉ es.toList.map keyOfS := fun z => by
      obtain ⟨e, he, q⟩ := (goodS_mem (P := P) (w := w) g k).1 z
      have c := List.findIdx?_eq_none_iff.mp hfi e he
      rw [q] at c
      cases c
    have hSk : S k = false := by
      cases q : S k with
      | false => rfl
      | true => exact absurd ((hm k).1 q) hnk
    have hgw : ∀ (b : Bool) {s₁ : Shared} {Q' : Unit → Shared → Prop}, Q' () s₁ → wpAny (model P w) A (match b with | true => rule "set.scan.the-table-gave-way" | false => pure ()) Q' E s₁ :=
      fun b s₁ Q' q => by cases b <;> first | exact wpAny_pure q | exact wpAny_rule q
    have pm := layNew_perm t es ((PySem.strKind P w).hash k) (.str k tk)
    have hf1 := layNew_fits t es ((PySem.strKind P w).hash k) (.str k tk)
    have hr1 := layNew_ris t es ((PySem.strKind P w).hash k) (.str k tk) hr
    have hl1 := layNew_led t es ((PySem.strKind P w).hash k) (.str k tk)
    generalize layNew t es ((PySem.strKind P w).hash k) (.str k tk) = Z at pm hf1 hr1 hl1 ⊢
    obtain ⟨es1, t1, wasDummy, gave⟩ := Z
    dsimp only at pm hf1 hr1 hl1 ⊢
    rw [Array.toList_push] at pm
    have pc : es1.toList.Perm (((PySem.strKind P w).hash k, Value.str k tk) :: es.toList) := pm.trans (List.perm_append_singleton _ _)
    have pk : (es1.toList.map keyOfS).Perm (k :: es.toList.map keyOfS) := pc.map keyOfS
    have g1 : ∀ e ∈ es1.toList, GoodS w e := fun e he => by
      rcases List.mem_cons.mp (pc.mem_iff.mp he) with z | z
      · rw [z]; exact ⟨k, tk, rfl, rfl⟩
      · exact g e z
    have nd1 : (es1.toList.map keyOfS).Nodup := pk.nodup_iff.mpr (List.nodup_cons.mpr ⟨hnk, nd⟩)
    have m1 : ∀ i, (S i || decide (i = k)) = true ↔ i ∈ es1.toList.map keyOfS := fun i => by
      rw [Bool.or_eq_true, decide_eq_true_eq, hm i, pk.mem_iff, List.mem_cons]
      exact Or.comm
    have hsz : es1.size = n + 1 := by rw [← Array.length_toList, pc.length_eq, List.length_cons, Array.length_toList, hn]
    have hb1 : es1.size < scanBound := by rw [hsz]; exact room
    have hled : w.params.followText "set-order" = true ∨ t1.led = true := hl.imp id fun z => by rw [hl1]; exact z
    have fin : ∀ h', Heap.SameBut a s.heap h' → SetRS w h' a (fun j => S j || decide (j = k)) es1.size → Q true { s with heap := h' } := fun h' sb r => by
      have q := hQ h' sb
      rw [hSk] at q
      rw [hsz] at r
      exact q r
    refine wpAny_bind (hgw _ ?_)
    split
    · refine wpAny_bind ?_
      rw [hashByValue_scannable 8 hsc]
      refine wpAny_pure ?_
      refine setRS_add_tail ?_ ho hex hd g1 nd1 m1 hb1 ?_ ?_ ?_ ?_
      · intro b s₁ Q' q; cases b <;> first | exact wpAny_pure q | exact wpAny_rule q
      · first | (split <;> first | exact hf1 | exact SetTable.fits_plain_off hf1) | exact hf1
      · first | (split <;> exact hr1) | exact hr1
      · first | (split <;> exact hled) | exact hled
      · intro h' sb r; dsimp only; exact wpAny_pure (fin h' sb r)
    · refine wpAny_bind (wpAny_pure ?_)
      simp only [↓reduceIte]
      refine setRS_add_tail ?_ ho hex hd g1 nd1 m1 hb1 hf1 hr1 hled ?_
      · intro b s₁ Q' q; cases b <;> first | exact wpAny_pure q | exact wpAny_rule q
      · intro h' sb r; dsimp only; exact wpAny_pure (fin h' sb r)

end
theorem setRS_new_at {w : World} {h : Heap} {a : Addr} {ns : List Str} (ho : h.get? a = some { cls := .type "set", dict := none, data := .set #[] 0 (.fresh 0 0 (!w.params.followText "set-order")) }) : SetRS w h a (fun j => decide (j ∈ ns.take 0)) 0 :=
  ⟨_, #[], 0, _, ho, ⟨rfl, rfl, rfl⟩, rfl, (fun e he => by simp at he), (by simp), (fun k => by simp), (by decide), (by rfl), rfl, List.Pairwise.nil, by
    show _ ∨ (!w.params.followText "set-order") = true
    cases w.params.followText "set-order"
    · exact .inr rfl
    · exact .inl rfl⟩
section
variable {P : Program} {w : World} {A : Around} {E : Value → Shared → Prop} {s : Shared}
theorem set_update_texts {I : Addr} {fp wr : List Addr} {G : Array GenState → Array GenState → Prop} {n : Nat} {Pv : Nat → Value → Prop} {St : Nat → Shared → Prop} {R : Result → Shared → Prop}
    (W : WalksS P w A.in1 I fp wr G n Pv St) (S : Addr) (hSf : S ∉ fp) (ns : List Str) (hn : n = ns.length) (hb : ns.length + 1 < scanBound) (hval : ∀ i v, Pv i v → ∃ k t, ns[i]? = some k ∧ v = .str k t) :
    ∀ (k i : Nat) (s : Shared), n - i = k → i ≤ n → St i s → (∃ c, c ≤ i ∧ SetRS w s.heap S (fun j => decide (j ∈ ns.take i)) c) →
      (∀ s' c, Moved (S :: wr) G s s' → c ≤ n → SetRS w s'.heap S (fun j => decide (j ∈ ns)) c → R (.ok (.ret .none)) s') →
      codeAny (model P w) A (.builtin "set.update.loop" ⟨[.ref S, .ref I], []⟩) R s := by
  have hSw : S ∉ wr := fun h => hSf (W.sub _ h)
  have hsub : ∀ b ∈ wr, b ∈ S :: wr := fun b hb => List.mem_cons_of_mem _ hb
  intro k
  induction k with
  | zero =>
    intro i s hk' hi hst ⟨c, hc, hS⟩ hR
    have hin : i = n := by omega
    subst hin
    refine codeAny_builtin F.entry_set_update_loop ?_
    rw [Around.under_plainId F.plain_set_update_loop _]
    show wpAny _ A.in1 (pyNext (.ref I) >>= _) _ _ s
    refine wpAny_bind (W.done s _ _ hst fun s' hm => ?_)
    show wpAny _ A.in1 (ret Value.none) _ _ s'
    have e : ns.take i = ns := List.take_of_length_le (by omega)
    rw [e] at hS
    exact wpAny_pure (hR s' c (hm.mono hsub) hc (hS.at fun o e => hm.heap S o hSw e))
  | succ k ih =>
    intro i s hk' hi hst ⟨c, hc, hS⟩ hR
    have hlt : i < n := by omega
    refine codeAny_builtin F.entry_set_update_loop ?_
    rw [Around.under_plainId F.plain_set_update_loop _]
    show wpAny _ A.in1 (pyNext (.ref I) >>= _) _ _ s
    refine wpAny_bind (W.item i s _ _ hlt hst fun v s' hP hst' hm => ?_)
    obtain ⟨z, t, hz, rfl⟩ := hval i v hP
    have hS' : SetRS w s'.heap S (fun j => decide (j ∈ ns.take i)) c := hS.at fun o e => hm.heap S o hSw e
    show wpAny _ A.in1 (holding [Value.str z t] (setAdd S (.str z t)) >>= _) _ _ s'
    refine wpAny_bind (wpAny_holding ?_)
    unfold setAdd
    refine wpAny_holding ?_
    refine wpAny_bind ((PySem.strKind P w).pyHash (k := z) (PySem.strKind_is _ _ _ _) ?_)
    refine setRS_add_hashed (s := { s' with toks := s'.toks + 1 }) hS' (by omega) fun h' hsb hS2 => ?_
    have hS3 : SetRS w h' S (fun j => decide (j ∈ ns.take (i + 1))) (if decide (z ∈ ns.take i) = true then c else c + 1) := hS2.congr fun j => by
      rw [List.take_add_one, hz]
      simp [List.mem_append]
    have hc3 : (if decide (z ∈ ns.take i) = true then c else c + 1) ≤ i + 1 := by
      split <;> omega
    refine wpAny_pure ⟨plainId_quiet F.plain_set_update_loop _, ih (i + 1) _ (by omega) hlt (W.frame _ s' _ _ hst' (Nat.le_succ _) fun b hb o e => ?_) ⟨_, hc3, hS3⟩ fun s'' c2 hm'' hc'' hS'' => ?_⟩
    · rw [hsb.2 b (fun h : b = S => hSf (by rw [← h]; exact hb))]; exact e
    · refine hR s'' c2 (Moved.trans W.gtrans ((hm.mono hsub).then_heap (Nat.le_succ _) fun b o hb e => ?_) hm'') hc'' hS''
      rw [hsb.2 b (fun h : b = S => hb (by rw [h]; exact List.mem_cons_self))]; exact e
set_option maxRecDepth 100000 in
set_option maxHeartbeats 3200000 in
theorem call_set_listT {l : Addr} {items : Array Value} (ns : List Str) {Q : Value → Shared → Prop} (hh : A.handled = none) (hl : s.heap.IsList l items) (hit : StrsAre items.toList ns) (hb : ns.length + 1 < scanBound)
    (h : ∀ (h' : Heap) (tk c : Nat), SetRS w h' s.heap.objs.size (fun j => decide (j ∈ ns)) c → c ≤ ns.length → (∀ b o, s.heap.get? b = some o → h'.get? b = some o) → Q (.ref s.heap.objs.size) { s with heap := h', toks := tk }) :
    wpAny (model P w) A (call (.type "set") [.ref l]) Q E s := by
  have hisz : items.size = ns.length := by
    have q := StrsAre.length hit
    rw [Array.length_toList] at q
    exact q
  obtain ⟨c, tl, hmro⟩ := F.called_set.mro
  have hmade := F.called_set.made
  have hsub := F.called_set.sub
  refine wpAny_call (codeAny_of_tree ?_)
  show wpAny _ _ (callAny (.type "set") _) _ _ _
  refine wpAny_pure ⟨Code.quiet_builtin _ (by decide +kernel), codeAny_builtin F.entry_type_call ?_⟩
  rw [Around.under_plain (weight_type_call_type "set" [.ref l] []) rfl]
  have h1 := F.called_set.notType
  have h2 := F.called_set.canCreate
  have hct := F.typeCall_set_1 (.ref l)
  repeat (any_goals (first | assumption | wp_step))

  refine codeAny_mono (code_set_led1 (.ref l) (E := E) (Q₁ := fun obj s₁ => obj = .ref s.heap.objs.size ∧ s₁ = { s with heap := s.heap.push { cls := .type "set", dict := none, data := .set #[] 0 (.fresh 0 0 (!w.params.followText "set-order")) } }) ⟨rfl, rfl⟩) fun r s₁ hr => ?_
  cases r with
  | error e => exact hr
  | ok fl =>
    cases fl with
    | ret obj =>
      obtain ⟨rfl, rfl⟩ := hr
      have hS : (s.heap.push { cls := .type "set", dict := none, data := .set #[] 0 (.fresh 0 0 (!w.params.followText "set-order")) }).get? s.heap.objs.size = some { cls := .type "set", dict := none, data := .set #[] 0 (.fresh 0 0 (!w.params.followText "set-order")) } := Heap.get?_push_size _ rfl
      have hT : Shared.TypeIs { s with heap := s.heap.push { cls := .type "set", dict := none, data := .set #[] 0 (.fresh 0 0 (!w.params.followText "set-order")) } } (.ref s.heap.objs.size) "set" := ⟨_, hS, rfl⟩
      have hli := F.called_set.init.lookup
      have hbi := F.called_set.init.bind (.ref s.heap.objs.size)
      repeat (any_goals (first | assumption | wp_step))

      refine codeAny_mono (codeAny_call_builtin (R := wants (fun r s₂ => r = .none ∧ ∃ h' tk c, s₂ = { s with heap := h', toks := tk } ∧ SetRS w h' s.heap.objs.size (fun j => decide (j ∈ ns)) c ∧ c ≤ ns.length ∧
          (∀ b o, s.heap.get? b = some o → h'.get? b = some o)) E) F.called_set.init.plain F.entry_set_init (check_set_init_1 hT ?_)) fun r₂ s₂ hr₂ => ?_
      · obtain ⟨ol, hol, hcl, nl, hdl⟩ := hl
        obtain ⟨ocls, odict, odata, oslots⟩ := ol
        simp only at hcl hdl
        subst hcl; subst hdl
        have hol' : (s.heap.push { cls := .type "set", dict := none, data := .set #[] 0 (.fresh 0 0 (!w.params.followText "set-order")) }).get? l = some { cls := .type "list", dict := odict, data := .seq items nl, slots := oslots } := Heap.get?_push_of_some _ hol
        have hsls := F.sub_list_set
        have hslf := F.sub_list_frozenset
        have hne : (Value.type "list" == Value.type "dict") = false := by decide
        have hl1 : (s.heap.push { cls := .type "set", dict := none, data := .set #[] 0 (.fresh 0 0 (!w.params.followText "set-order")) }).IsList l items := ⟨_, hol', rfl, nl, rfl⟩
        unfold Builtin.«set.__init__» noKeywords Builtin.Frozenset.updateFrom
        generalize hPI : pyIter = PI
        wp_walk
        subst hPI

        refine wpAny_pyIter_list hl1 ?_
        refine wpAny_bind (wpAny_runValue ?_)
        have hlS : l < s.heap.objs.size := Heap.lt_size hol
        have hh3 : A.in1.in1.in1.handled = none := by simp [hh]
        have hz1 : (s.heap.push { cls := .type "set", dict := none, data := .set #[] 0 (.fresh 0 0 (!w.params.followText "set-order")) }).objs.size = s.heap.objs.size + 1 := Heap.size_push ..
        have hneI : l ≠ (s.heap.push { cls := .type "set", dict := none, data := .set #[] 0 (.fresh 0 0 (!w.params.followText "set-order")) }).objs.size := by
          rw [Heap.size_push]; exact Nat.ne_of_lt (Nat.lt_succ_of_lt hlS)
        have hSf : s.heap.objs.size ∉ [(s.heap.push { cls := .type "set", dict := none, data := .set #[] 0 (.fresh 0 0 (!w.params.followText "set-order")) }).objs.size, l] := by
          rw [Heap.size_push]; simp only [List.mem_cons, List.mem_singleton, List.not_mem_nil, or_false, not_or]
          exact ⟨Nat.ne_of_lt (Nat.lt_succ_self _), Nat.ne_of_gt hlS⟩
        have hval : ∀ (i : Nat) (v : Value), items[i]? = some v → ∃ k t, ns[i]? = some k ∧ v = .str k t := fun i v hv => by
          have hi : i < ns.length := by rw [← hisz]; exact (Array.getElem?_eq_some_iff.mp hv).1
          obtain ⟨t, e⟩ := textAt hit i v (by rw [Array.getElem?_toList]; exact hv)
          refine ⟨ns[i], t, List.getElem?_eq_getElem hi, ?_⟩
          rw [e, List.getD_eq_getElem?_getD, List.getElem?_eq_getElem hi] <;> rfl
        refine set_update_texts ((Walks.list hh3 _ l hneI items).toS) s.heap.objs.size
          hSf ns hisz hb hval (items.size - 0) 0 _ (by omega) (Nat.zero_le _)
          ⟨⟨_, Heap.get?_push_size _ rfl, rfl, rfl⟩, (hl1.push _)⟩ ?hS0 ?hR
        case hS0 =>
          have hget : ((s.heap.push { cls := .type "set", dict := none, data := .set #[] 0 (.fresh 0 0 (!w.params.followText "set-order")) }).push { cls := .type "list_iterator", data := .fields #[.ref l, .int 0 0] }).get? s.heap.objs.size
              = some { cls := .type "set", dict := none, data := .set #[] 0 (.fresh 0 0 (!w.params.followText "set-order")) } := Heap.get?_push_of_some _ hS
          exact ⟨0, Nat.le_refl 0, setRS_new_at hget⟩
        case hR =>
          intro s' c' hm hc' hS'
          obtain ⟨h', g2, d', tk', os'⟩ := s'
          have eg : g2 = s.gens := hm.gens
          have ed : d' = s.drawn := hm.drawn
          have eo : os' = s.os := hm.os
          subst eg; subst ed; subst eo
          show wpAny _ _ _ _ _ _
          refine wpAny_pure ?_
          show wpAny _ _ (ret Value.none) _ _ _
          rw [hisz] at hc'
          refine wpAny_pure ⟨rfl, h', tk', c', rfl, hS', hc', fun b o e => ?_⟩
          have hb0 : b < s.heap.objs.size := Heap.lt_size e
          have hb1 : b ≠ s.heap.objs.size := Nat.ne_of_lt hb0
          have hb2 : b ≠ (s.heap.push { cls := .type "set", dict := none, data := .set #[] 0 (.fresh 0 0 (!w.params.followText "set-order")) }).objs.size := by
            rw [Heap.size_push]; exact Nat.ne_of_lt (Nat.lt_succ_of_lt hb0)
          exact hm.heap b o (by simp only [List.mem_cons, List.mem_singleton, List.not_mem_nil, or_false, not_or]; exact ⟨hb1, hb2⟩) (Heap.get?_push_of_some _ (Heap.get?_push_of_some _ e))

      · cases r₂ with
        | error e => exact hr₂
        | ok fl₂ =>
          cases fl₂ with
          | ret r =>
            obtain ⟨rfl, h', tk, c', rfl, hS', hc', hk'⟩ := hr₂
            repeat (any_goals (first | assumption | wp_step))
            exact h _ _ _ hS' hc' hk'
          | _ => exact hr₂.elim
    | _ => exact hr.elim

end
end Lk

namespace Lk
open PySem PySem.Spec PyProof.Rows L2
/-! ### set(xs), sorted(s): texts -/
section
variable {P : Program} {w : World} {A : Around} {E : Value → Shared → Prop} {s : Shared} {a : Addr}
theorem keysS_of : ∀ (l : List Value), (∀ v ∈ l, ∃ k tk, v = Value.str k tk) → ∃ ks : List Str, StrsAre l ks ∧ ks = l.map fun v => match v with | .str k _ => k | _ => Str.empty
  | [], _ => ⟨[], .nil, rfl⟩
  | v :: l, h => by
    obtain ⟨k, tk, rfl⟩ := h v List.mem_cons_self
    obtain ⟨ks, h1, h2⟩ := keysS_of l fun u hu => h u (List.mem_cons_of_mem _ hu)
    exact ⟨k :: ks, .cons k tk h1, by rw [h2]; rfl⟩
theorem sorted_setS {S : Str → Bool} {n : Nat} {Q : Value → Shared → Prop} (R : SetRS w s.heap a S n) (hh : A.handled = none)
    (hQ : ∀ s' p (out : Array Value) (c : Nat) (ns : List Str), (∀ b o, s.heap.get? b = some o → s'.heap.get? b = some o) → s'.gens = s.gens → s'.os = s.os → s.heap.objs.size ≤ p →
      s'.heap.get? p = some (seqObj "list" out c) → StrsAre out.toList ns → sortedS ns = true → ns.Nodup → (∀ k, k ∈ ns ↔ S k = true) → ns.length = n → Q (.ref p) s') :
    wpAny (model P w) A (call (.builtin "sorted") [.ref a]) Q E s := by
  obtain ⟨o, es, ep, t, ho, hex, hd, g, nd, hm, hb, hf, hn, hr, hl⟩ := R
  refine PySem.Calls.call_function_entry PyProof.Rows.kind_sorted PyProof.Rows.plain_sorted PyProof.Rows.entry_sorted (PyProof.Rows.args_sorted1 _) ?_
  unfold Builtin.«sorted»
  refine wpAny_bind (m := checkCount "sorted" 1 1 _) (wpAny_pure ?_)
  refine wpAny_bind (collect_set (A := A.in1) hh ⟨o, ho, hex.1, hd⟩ hf hb hr hl fun s1 vs k1 hz g1 o1 pm => ?_)
  have hvl : vs.length = n := by rw [pm.length_eq, List.length_map, Array.length_toList]; exact hn
  obtain ⟨ks, hS, ek⟩ := keysS_of vs fun v hv => by
    obtain ⟨e, he, q⟩ := List.mem_map.mp (pm.mem_iff.mp hv)
    obtain ⟨k, tk, h1, _⟩ := g e he
    exact ⟨k, tk, by rw [← q]; exact h1⟩
  have pk : ks.Perm (es.toList.map keyOfS) := by
    have q := pm.map (fun v => match v with | .str k _ => k | _ => Str.empty)
    rw [List.map_map] at q
    rw [ek]
    exact q
  have hsz : vs.length ≤ sizeLine := by
    have h4 : n < 4096 := by rw [← hn]; exact hb
    rw [hvl, sizeLine_eq]
    omega
  refine wpAny_bind (wpAny_newList ?_ hsz)
  have hoL : (s1.heap.push (seqObj "list" vs.toArray 0)).get? s1.heap.objs.size = some (seqObj "list" vs.toArray 0) := Heap.get?_push_size _ rfl
  refine wpAny_bind (wpAny_holding (wpAny_call_entry PyProof.Rows.slot_list_sort ⟨_, hoL, rfl⟩ PyProof.Rows.entry_list_sort
    (list_sort_treeKAny strKind_oneLt (s := { s1 with heap := s1.heap.push (seqObj "list" vs.toArray 0) }) hoL hS.keysOf (fun v₁ v₂ rest e => keyKind_strs (by rw [← e]; exact hS)) hsz fun st' hp hs => ⟨_, rfl, ?_⟩)
    (PyProof.Rows.args_list_sort _)))
  obtain ⟨ys, q1, q2, q3⟩ := sorted_out_str hS hp hs
  obtain ⟨c, hc⟩ := PyProof.Rows.sortedHeap_at (vs := vs) (out := (arrOf st').map (·.2)) hoL
  have pn : ys.Perm (es.toList.map keyOfS) := q2.trans pk
  refine wpAny_pure ⟨_, rfl, hQ _ s1.heap.objs.size _ c ys (fun b u e => ?_) g1 o1 hz hc q1 q3 (pn.nodup_iff.mpr nd) (fun k => by rw [pn.mem_iff, ← hm k]) ?_⟩
  · have q := k1 b u e
    have hlt := Heap.lt_size q
    show (PyProof.Rows.sortedHeap (s1.heap.push (seqObj "list" vs.toArray 0)) s1.heap.objs.size vs _).get? b = some u
    rw [PyProof.Rows.sortedHeap_old (Nat.ne_of_lt hlt) (by rw [size_push']; exact Nat.lt_succ_of_lt hlt)]
    exact Heap.get?_push_of_some _ q
  · rw [pn.length_eq, List.length_map, Array.length_toList]; exact hn
end
/-- the set of the texts xs at a -/
def SetSO (w : World) (a : Addr) (xs : List Str) : HO := .ext fun h => ∃ c, SetRS w h a (fun j => decide (j ∈ xs)) c
section
variable {X : Cx}
theorem setSO_new {w : World} {P : Program} {H : Hp} {h : Heap} {a : Addr} {xs : List Str} {c : Nat} (R : SetRS w h a (fun j => decide (j ∈ xs)) c) : ObjOk P w H h a (SetSO w a xs) := by
  have ⟨o, _, _, _, ho, _⟩ := R
  exact ⟨⟨c, R⟩, ⟨o, ho⟩, fun h1 h2 ⟨c, p⟩ k => ⟨c, SetRS.at p k⟩⟩
/-- set(xs), xs a list of texts -/
def rSetS (K : PySem.W.Frag) (w : World) : List V → Hp → VK → Prop := fun vs H Q => ∃ (l : Addr) (xs : List Str), vs = [V.ref l] ∧ SqL K H l (xs.map V.str) ∧ xs.length + 1 < 4096 ∧ ∀ a, H a = none → Q (.ref a) (upd H a (SetSO w a xs))
theorem cr_setS (hc : X.calm = true) : CallR X (.type "set") (rSetS X.K X.w) := by
  intro pins s σ H vs us Q I r h
  obtain ⟨l, xs, rfl, hl, hb, q⟩ := h
  rw [Vals.ref1 r]
  obtain ⟨its, rv, pl, hz⟩ := I.list hl
  have hn : H s.heap.objs.size = none := I.hok.fresh (Nat.le_refl _)
  refine call_set_listT (P := X.prog) (w := X.w) xs (I.ok.hd hc) pl.isList (by simpa using rv.strs) hb fun h' tk c R hc k => ?_
  exact ⟨.ref s.heap.objs.size, upd H s.heap.objs.size (SetSO X.w s.heap.objs.size xs), I.laid (t' := tk) k (Nat.le_refl _) (setSO_new R), rfl, q _ hn⟩
/-- sorted(s), s a set of texts -/
def rSortedSS (w : World) : List V → Hp → VK → Prop := fun vs H Q => ∃ (a : Addr) (xs : List Str), vs = [V.ref a] ∧ H a = some (SetSO w a xs) ∧
  ∀ (ys : List Str) (p : Addr), sortedS ys = true → ys.Nodup → (∀ k, k ∈ ys ↔ k ∈ xs) → H p = none → Q (.ref p) (upd H p (.lst (ys.map V.str)))
theorem cr_sortedSS (hc : X.calm = true) : CallR X (.builtin "sorted") (rSortedSS X.w) := by
  intro pins s σ H vs us Q I r h
  obtain ⟨a, xs, rfl, ha, q⟩ := h
  have R0 : ∃ c, SetRS X.w s.heap a (fun j => decide (j ∈ xs)) c := (I.hok a _ ha).1
  obtain ⟨n, R⟩ := R0
  have hb : n < 4096 := by
    obtain ⟨o, es, ep, t, ho, hex, hd, g, nd, hm, hb, hf, hn, hr, hl⟩ := R
    rw [← hn]
    exact hb
  rw [Vals.ref1 r]
  refine sorted_setS R (I.ok.hd hc) fun s' p out c ns k g o hp hg hi hs nd hm hl => ?_
  have hlen : (ns.map V.str).length ≤ sizeLine := by rw [List.length_map, hl, sizeLine_eq]; omega
  have hn : H p = none := I.hok.fresh hp
  have J : Inv X pins σ (upd H p (.lst (ns.map V.str))) { s with heap := s'.heap, gens := s'.gens, drawn := s'.drawn, toks := s'.toks } :=
    I.call (ch := []) (Un.laid k hp hn) (I.hok.laid k hp ⟨hlen, out.toList, c, vals_of_strs hi, hg⟩) (by rw [g]; exact I.bare) (fun _ z => nomatch z)
  have e : s' = { s with heap := s'.heap, gens := s'.gens, drawn := s'.drawn, toks := s'.toks } := by
    cases s'
    cases s
    cases o
    rfl
  rw [e]
  exact ⟨.ref p, _, J, rfl, q ns p hs nd (fun k => by rw [hm k, decide_eq_true_eq]) hn⟩
end
end Lk

namespace Lk
open PySem PySem.Spec PyProof.Rows L2
/-! ### enumerate(text) -/
/-- the signs of a text, each in a new pair -/
def IteS (x : Str) : It := ⟨fun i _ => i < x.cps.size, fun i H v H' => ∃ (T : Addr) (c : Nat), v = .ref T ∧ H T = none ∧ x.cps[i]? = some c ∧ H' = upd H T (.tup [.int (i : Nat), .str ⟨#[c]⟩]), fun i _ => x.cps.size ≤ i⟩
theorem draws_str {prog : Program} {w : World} {A : Around} (hh : A.handled = none) (it : Addr) (x : Str) (t : Tok) {ty : String} (hty : ty = "str_ascii_iterator" ∨ ty = "str_iterator") :
    Draws prog w A it [it] x.cps.size (fun i v => ∃ c u, x.cps[i]? = some c ∧ v = .str ⟨#[c]⟩ u) (fun i h => h.IsStrIter it ty x t i) := by
  rcases hty with e | e
  · rw [e]; exact Draws.strAscii hh it x t
  · rw [e]; exact Draws.strWide hh it x t
theorem turn_enumS {P : Program} {w : World} {K : PySem.W.Frag} {elts : List Expr} {kk : Nat} {tpos : Pos} (e it : Addr) (x : Str) (t : Tok) (ty : String) (hty : ty = "str_ascii_iterator" ∨ ty = "str_iterator") :
    Turn P w K (.Tuple elts kk tpos) (IteS x) [e, it] e (fun i h => (∃ old, IsEnum h e it ((i : Nat) : Int) old) ∧ h.IsStrIter it ty x t i ∧ e ≠ it) where
  mem := by simp
  obj := fun i h st b hb => by
    obtain ⟨⟨old, he⟩, ⟨o, ho, hc, hd⟩, _⟩ := st
    have e' : b = e ∨ b = it := by simpa using hb
    rcases e' with z | z
    · rw [z]; exact ⟨_, he, fun v q => nomatch q⟩
    · rw [z]; exact ⟨o, ho, fun v q => by rw [hd] at q; cases q⟩
  keep := fun i h h' st k => let ⟨⟨old, he⟩, ⟨o, ho, r⟩, hne⟩ := st; ⟨⟨old, k e (by simp) _ he⟩, ⟨o, k it (by simp) o ho, r⟩, hne⟩
  item := by
    intro X hP hw hK hc i pins s σ H E I hf st hg
    subst hP hw hK
    obtain ⟨⟨old, he⟩, hit, hne⟩ := st
    have hel : e < s.heap.objs.size := Heap.lt_size he
    have hil : it < s.heap.objs.size := by obtain ⟨_, q, _⟩ := hit; exact Heap.lt_size q
    have hh : X.A.in1.handled = none := by simp [I.ok.hd hc]
    refine wpAny_pyNext_enum_itemD (draws_str hh it x t hty) he hit hg hne (by simpa using hne) fun u h' tk hu ho hit' hT hsz hk => ?_
    obtain ⟨c, v, hcx, rfl⟩ := hu
    refine ⟨_, rfl, wpAny_letOwnedTupleGo_enum (s := { s with heap := h', toks := tk + 1 }) ho fun h'' he' sb => ?_⟩
    have hT2 : h''.get? s.heap.objs.size = some { cls := .type "tuple", data := .seq #[.int i tk, .str ⟨#[c]⟩ v] } := (sb.2 _ (Nat.ne_of_gt hel)).trans hT
    have new : ObjOk X.prog X.w (upd H s.heap.objs.size (.tup [.int (i : Nat), .str ⟨#[c]⟩])) h'' s.heap.objs.size (.tup [.int (i : Nat), .str ⟨#[c]⟩]) :=
      ⟨by show 2 ≤ sizeLine; decide, [.int i tk, .str ⟨#[c]⟩ v], .cons ⟨_, rfl⟩ (.cons ⟨_, rfl⟩ .nil), ⟨_, hT2, rfl, _, rfl⟩⟩
    have I1 : Inv X pins σ (upd H s.heap.objs.size (.tup [.int (i : Nat), .str ⟨#[c]⟩])) { s with heap := h'', toks := tk + 1 } :=
      I.turnedNew (ch := [e, it]) (fun b ob hb q => (sb.2 b (fun z => hb (by simp [z]))).trans (hk b ob (fun z => hb (by simp [z])) (fun z => hb (by simp [z])) q)) hf (Nat.le_refl _) new
    have hit'' : h''.IsStrIter it ty x t (i + 1) := by
      obtain ⟨o, q, r⟩ := hit'
      exact ⟨o, (sb.2 it (Ne.symm hne)).trans q, r⟩
    refine ⟨.ref s.heap.objs.size, _, I1, rfl, ⟨_, c, rfl, I.hok.fresh (Nat.le_refl _), hcx, rfl⟩, ⟨⟨.str ⟨#[c]⟩ v, ?_⟩, hit'', hne⟩, fun b hb => ?_⟩
    · have e1 : ((i + 1 : Nat) : Int) = (i : Int) + 1 := by omega
      rw [e1]; exact he'
    · have hb' : b < s.heap.objs.size := by
        have e' : b = e ∨ b = it := by simpa using hb
        rcases e' with z | z
        · rw [z]; exact hel
        · rw [z]; exact hil
      rw [upd_ne (Nat.ne_of_lt hb')]
      exact (hf b hb).1
  done := by
    intro X hP hw hK hc i pins s σ H E I hf st hg
    subst hP hw hK
    obtain ⟨⟨old, he⟩, hit, hne⟩ := st
    obtain ⟨f0, f1, f2, f3, f4, f5⟩ := hf it (by simp)
    have hh : X.A.in1.handled = none := by simp [I.ok.hd hc]
    have hxn : x.cps[i]? = none := Array.getElem?_eq_none hg
    unfold pyNext
    refine wpAny_bind (wpAny_attempt (wpAny_callSpecial?_slot (name := Str.ofString "__next__") ⟨_, he, rfl⟩ F.slot_enumerate_next
      (wpAny_call_entry F.slot_enumerate_next ⟨_, he, rfl⟩ F.entry_enumerate_next ?_ (F.args_enumerate_next_1 _))))
    show wpAny _ _ (field (.ref e) 2 >>= _) _ _ _
    refine wpAny_bind (wpAny_field he rfl (x := .ref it) rfl ?_)
    rcases hty with z | z
    · rw [z] at hit
      refine wpAny_bind (wpAny_nextOf_ascii_end hh hit hxn fun h' x' he' hx' => ?_)
      obtain ⟨o, ho, hcl⟩ := hx'
      exact wpAny_bind (wpAny_isInstance (T := "StopIteration") (b := true) ⟨o, ho, hcl⟩ isSubtype_stop (wpAny_pure ⟨rfl, I.turned (t' := s.toks) (fun b o hb q => he' b o hb q) f0 f1 f3 f4 f5⟩))
    · rw [z] at hit
      refine wpAny_bind (wpAny_nextOf_wide_end hh hit hxn fun h' x' he' hx' => ?_)
      obtain ⟨o, ho, hcl⟩ := hx'
      exact wpAny_bind (wpAny_isInstance (T := "StopIteration") (b := true) ⟨o, ho, hcl⟩ isSubtype_stop (wpAny_pure ⟨rfl, I.turned (t' := s.toks) (fun b o hb q => he' b o hb q) f0 f1 f3 f4 f5⟩))
  self := fun A i s Q E st h => let ⟨⟨_, he⟩, _⟩ := st; wpAny_pyIter_enum he h
def iEnumS (ta : TA) : TI := fun σ H R => ta σ H fun vs H1 => ∃ x, vs = [.str x] ∧ R (IteS x) H1
theorem strIter_ty (x : Str) : strIterType x = "str_ascii_iterator" ∨ strIterType x = "str_iterator" := by
  unfold strIterType
  split
  · exact .inl rfl
  · exact .inr rfl
theorem pi_enumS {X : Cx} {e : Expr} {ta : TA} {p pos tpos : Pos} {elts : List Expr} {kk : Nat} (hg : Gl X "enumerate") (hm : X.mg "enumerate" = none) (ha : PA X [e] ta) (hs : starEach [e] X.env = [(false, eval e X.env)] := by rfl) :
    PI X (.Tuple elts kk tpos) (.Call (.Name "enumerate" p) [e] [] pos) (iEnumS ta) := by
  refine ⟨fun pins s σ H R I h => ?_⟩
  refine Call_ (ld_blt I hg hm boot_enumerate (PyProof.Rows.callWith_type1 (thn (ha.run pos pins s σ H _ I h) fun us s1 ⟨vs, H1, I1, r1, q1⟩ => ?_) hs rfl))
  obtain ⟨x, ex, q⟩ := q1
  subst ex
  cases r1 with
  | cons r rr =>
    cases rr
    obtain ⟨t, rfl⟩ := r
    refine call_enumerate_str fun h' he hit hsz hk => wpAny_pyIter_enum he ?_
    have I2 : Inv X pins σ H1 { s1 with heap := h' } := I1.kept (t' := s1.toks) hk
    refine ⟨s1.heap.objs.size + 1, [s1.heap.objs.size + 1, s1.heap.objs.size], _, _, H1, rfl, I2, turn_enumS (s1.heap.objs.size + 1) s1.heap.objs.size x t (strIterType x) (strIter_ty x), ⟨⟨.none, he⟩, hit, Nat.succ_ne_self _⟩, fun b hb => ?_, q⟩
    have e' : b = s1.heap.objs.size + 1 ∨ b = s1.heap.objs.size := by simpa using hb
    have hle : s1.heap.objs.size ≤ b := by
      rcases e' with z | z
      · rw [z]; exact Nat.le_add_right _ _
      · rw [z]; exact Nat.le_refl _
    exact I1.fpOk hle (I1.hok.fresh hle)
theorem walk_enumS (l : List Nat) : Walk (IteS (S l)) l.length (fun _ => True) (fun i H v H' => ∃ (T : Addr) (c : Nat), v = .ref T ∧ H T = none ∧ l[i]? = some c ∧ H' = upd H T (.tup [.int (i : Nat), vS [c]])) :=
  ⟨fun i H hi _ => by show i < (S l).cps.size; simpa [SX.S] using hi,
   fun H _ => by show (S l).cps.size ≤ l.length; simp [SX.S],
   fun i H x H' _ _ y => by
    obtain ⟨T, c, h1, h2, h3, h4⟩ := y
    exact ⟨T, c, h1, h2, by simpa [SX.S] using h3, h4⟩⟩
end Lk

namespace Lk
open PySem PySem.Spec PyProof.Rows L2
/-! ### the text by places -/
def topS (i : Nat) : Stmt := PySem.Challenge.pw_likefolds_k09_whole_turned_about_and_oth.main.body.getD i (.Pass ⟨0, 0, 0, 0⟩)
abbrev s_lies_well : Stmt := topS 1
theorem sc_lies_well : FnScope ["strip", "crease", "reach"] ["strip", "crease"] (defScope s_lies_well) := ⟨rfl, rfl, rfl, by decide +kernel, rfl, by decide +kernel, by decide +kernel⟩
abbrev s_creases : Stmt := topS 2
theorem sc_creases : FnScope ["strip", "crease"] ["strip"] (defScope s_creases) := ⟨rfl, rfl, rfl, by decide +kernel, rfl, by decide +kernel, by decide +kernel⟩
abbrev s_left_of : Stmt := topS 3
theorem sc_left_of : FnScope ["strip", "crease"] ["strip", "crease"] (defScope s_left_of) := ⟨rfl, rfl, rfl, by decide +kernel, rfl, by decide +kernel, by decide +kernel⟩
abbrev s_least : Stmt := topS 5
theorem sc_least : FnScope ["strip", "some"] ["strip"] (defScope s_least) := ⟨rfl, rfl, rfl, by decide +kernel, rfl, by decide +kernel, by decide +kernel⟩
abbrev s_all_of : Stmt := topS 6
theorem sc_all_of : FnScope ["strip", "found", "rows", "here", "crease", "there"] ["strip"] (defScope s_all_of) := ⟨rfl, rfl, rfl, by decide +kernel, rfl, by decide +kernel, by decide +kernel⟩
abbrev s_comes_to : Stmt := topS 7
theorem sc_comes_to : FnScope ["strip"] ["strip"] (defScope s_comes_to) := ⟨rfl, rfl, rfl, by decide +kernel, rfl, by decide +kernel, by decide +kernel⟩
abbrev s_best_row : Stmt := topS 8
theorem sc_best_row : FnScope ["strip", "shortest", "best", "here", "found", "crease", "rest", "many", "length", "row"] ["strip", "shortest"] (defScope s_best_row) := ⟨rfl, rfl, rfl, by decide +kernel, rfl, by decide +kernel, by decide +kernel⟩
abbrev s_fewest_folds : Stmt := topS 9
theorem sc_fewest_folds : FnScope ["strip"] ["strip"] (defScope s_fewest_folds) := ⟨rfl, rfl, rfl, by decide +kernel, rfl, by decide +kernel, by decide +kernel⟩
abbrev s_most_folds : Stmt := topS 10
theorem sc_most_folds : FnScope ["strip"] ["strip"] (defScope s_most_folds) := ⟨rfl, rfl, rfl, by decide +kernel, rfl, by decide +kernel, by decide +kernel⟩
abbrev s__law_bag : Stmt := topS 12
theorem sc__law_bag : FnScope ["script", "k", "cell", "seed"] ["script", "k"] (defScope s__law_bag) := ⟨rfl, rfl, rfl, by decide +kernel, rfl, by decide +kernel, by decide +kernel⟩
abbrev s__law_take : Stmt := topS 13
theorem sc__law_take : FnScope ["bag", "count", "found"] ["bag", "count"] (defScope s__law_take) := ⟨rfl, rfl, rfl, by decide +kernel, rfl, by decide +kernel, by decide +kernel⟩
abbrev s__law_of : Stmt := topS 14
theorem sc__law_of : FnScope ["bag", "some"] ["bag", "some"] (defScope s__law_of) := ⟨rfl, rfl, rfl, by decide +kernel, rfl, by decide +kernel, by decide +kernel⟩
abbrev s__law_any_text : Stmt := topS 15
theorem sc__law_any_text : FnScope ["bag", "most", "signs", "turn"] ["bag", "most", "signs"] (defScope s__law_any_text) := ⟨rfl, rfl, rfl, by decide +kernel, rfl, by decide +kernel, by decide +kernel⟩
abbrev s__law_grown : Stmt := topS 16
theorem sc__law_grown : FnScope ["bag", "text", "most", "turn", "many"] ["bag", "text", "most"] (defScope s__law_grown) := ⟨rfl, rfl, rfl, by decide +kernel, rfl, by decide +kernel, by decide +kernel⟩
abbrev s__law_strip : Stmt := topS 17
theorem sc__law_strip : FnScope ["bag", "most", "way"] ["bag", "most"] (defScope s__law_strip) := ⟨rfl, rfl, rfl, by decide +kernel, rfl, by decide +kernel, by decide +kernel⟩
abbrev s__law_called : Stmt := topS 21
theorem sc__law_called : FnScope ["text", "signs", "sign"] ["text", "signs"] (defScope s__law_called) := ⟨rfl, rfl, rfl, by decide +kernel, rfl, by decide +kernel, by decide +kernel⟩
abbrev s_law : Stmt := topS 23
theorem sc_law : FnScope ["script", "k", "bag", "text", "back", "told", "one", "other", "both", "signs", "called", "alike", "last", "apart", "crease", "at", "sign"] ["script"] (defScope s_law) := ⟨rfl, rfl, rfl, by decide +kernel, rfl, by decide +kernel, by decide +kernel⟩
/-- what the top has written -/
structure Txt (K : PySem.W.Frag) (mg : Str → Option Value) : Prop where
  b_enumerate : mg "enumerate" = none
  b_len : mg "len" = none
  b_max : mg "max" = none
  b_min : mg "min" = none
  b_range : mg "range" = none
  b_set : mg "set" = none
  b_sorted : mg "sorted" = none
  b_zip : mg "zip" = none
  d_lies_well : Def K mg "lies_well" s_lies_well ["strip", "crease"]
  d_creases : Def K mg "creases" s_creases ["strip"]
  d_left_of : Def K mg "left_of" s_left_of ["strip", "crease"]
  d_least : Def K mg "least" s_least ["strip"]
  d_all_of : Def K mg "all_of" s_all_of ["strip"]
  d_comes_to : Def K mg "comes_to" s_comes_to ["strip"]
  d_best_row : Def K mg "best_row" s_best_row ["strip", "shortest"]
  d_fewest_folds : Def K mg "fewest_folds" s_fewest_folds ["strip"]
  d_most_folds : Def K mg "most_folds" s_most_folds ["strip"]
  d__law_bag : Def K mg "_law_bag" s__law_bag ["script", "k"]
  d__law_take : Def K mg "_law_take" s__law_take ["bag", "count"]
  d__law_of : Def K mg "_law_of" s__law_of ["bag", "some"]
  d__law_any_text : Def K mg "_law_any_text" s__law_any_text ["bag", "most", "signs"]
  d__law_grown : Def K mg "_law_grown" s__law_grown ["bag", "text", "most"]
  d__law_strip : Def K mg "_law_strip" s__law_strip ["bag", "most"]
  d__law_called : Def K mg "_law_called" s__law_called ["text", "signs"]
  d_law : Def K mg "law" s_law ["script"]
end Lk

namespace Lk
open PySem PySem.Spec PyProof.Rows L2
/-! ### the law's draws -/
/-- a bag stands at b -/
def Bag (H : Hp) (b : Addr) : Prop := ∃ x y : Int, H b = some (.lst [.int x, .int y]) ∧ 0 ≤ x ∧ 0 ≤ y ∧ y ≤ 2147483646
theorem Bag.same {H H' : Hp} {b : Addr} (h : Bag H b) (s : Same H H') : Bag H' b := by
  obtain ⟨x, y, h1, h2⟩ := h
  exact ⟨x, y, s _ _ h1, h2⟩
theorem Bag.but {H H' : Hp} {a b : Addr} (h : Bag H b) (n : b ≠ a) (s : But a H H') : Bag H' b := by
  obtain ⟨x, y, h1, h2⟩ := h
  exact ⟨x, y, s _ _ n h1, h2⟩
theorem Bag.upd {H : Hp} {b p : Addr} {o : HO} (h : Bag H b) (n : b ≠ p) : Bag (L2.upd H p o) b := by
  obtain ⟨x, y, h1, h2⟩ := h
  exact ⟨x, y, by rw [upd_ne n]; exact h1, h2⟩
theorem Bag.ne {H : Hp} {b p : Addr} (h : Bag H b) (n : H p = none) : b ≠ p := by
  obtain ⟨x, y, h1, _⟩ := h
  exact ne_of_none h1 n
def sp_bag (K : PySem.W.Frag) : Sp := fun vs H Q _ => ∃ (a : Addr) (ns : List Int) (k : Int), vs = [.ref a, .int k] ∧ SqL K H a (ns.map V.int) ∧ 0 ≤ k ∧ k ≤ 100 ∧ ∀ p H', H p = none → Same H H' → Bag H' p → Q (.ref p) H'
section
variable {P : Program} {w : World} {K : PySem.W.Frag} {mg : Str → Option Value} {base : Heap}
theorem pA : (0 : Int) < 2147483629 := by decide
theorem pB : (0 : Int) < 2147483645 := by decide
theorem pC : (0 : Int) < 2147483647 := by decide
theorem pD : (0 : Int) < 32749 := by decide
theorem pow60 : (0 : Int) < 10 ^ (60 : Int).toNat := by decide +kernel
theorem ok__law_bag (T : Txt K mg) : Fn P w K mg base CX0 1 "_law_bag" ["script", "k"] (sp_bag K) := by
  refine T.d__law_bag.fn fun f fd F => F.ok sc__law_bag (fun vs H Q E h => ?_) (fun cdv A outer s H vs Q E hr h => ?_)
  · obtain ⟨a, ns, k, rfl, _⟩ := h
    rfl
  · obtain ⟨a, ns, k, rfl, hS, k0, k1, q⟩ := h
    refine ⟨_, pss_cons (ps_set (i := 2) sc__law_bag.nd rfl (.inl rfl) pe_int)
      (C8.pss_cut (ps_if (pt_cmpR op_lt (pv 1) (pe_callB call_len_seq (by rfl) T.b_len PySem.boot_len (pa_cons (pv 0) pa_nil)) (nomark _))
          (pss_one (ps_set (i := 2) sc__law_bag.nd rfl (.inl rfl) (pe_op op_mod (pe_ix ix_list (pv 0) (pv 1) (fun _ _ => rfl)) (pe_op op_pow pe_int pe_int)))) pss_nil)
      (pss_cons (ps_set (i := 3) sc__law_bag.nd rfl (.inl rfl) (pe_op op_add pe_int (pe_op op_mod (pe_op op_add (pe_op op_add (pe_op op_add (pe_op op_mul (pe_op op_mod (pv 2) pe_int) pe_int) (pe_op op_mul (pe_op op_mul pe_int (pv 1)) (pv 1))) (pe_op op_mul pe_int (pv 1))) pe_int) pe_int)))
      (pss_cons (ps_if (pt_cmpR op_lt (pv 2) (pe_op op_pow pe_int pe_int) (nomark _)) (pss_one (ps_ret (pe_lst (pa_cons pe_int (pa_cons (pv 3) pa_nil))))) pss_nil)
      (pss_one (ps_ret (pe_lst (pa_cons (pv 2) (pa_cons (pv 3) pa_nil)))))))), ?_⟩
    refine ⟨fun σ' H' => H' = H ∧ ∃ z : Int, 0 ≤ z ∧ σ' = [some (.ref a), some (.int k), some (.int z), none], ?_, ?_⟩
    · refine ⟨_, rfl, .ref a, rfl, a, ns.map V.int, rfl, .inl hS, _, _, rfl, rfl, _, rfl, ite2 (fun c => ?_) (fun _ => ?_)⟩
      · have c' : k < ((ns.map V.int).length : Int) := of_decide_eq_true c
        rw [List.length_map] at c'
        have hk : k.toNat < ns.length := by omega
        refine ⟨.ref a, rfl, _, rfl, a, ns.map V.int, k, .int ns[k.toNat], rfl, rfl, hS, ?_, _, _, rfl, rfl, ⟨by decide, by decide, by decide⟩, _, _, rfl, rfl, pow60, rfl, _, Int.emod_nonneg _ (Int.ne_of_gt pow60), rfl⟩
        refine at_of (j := k.toNat) (by omega) ?_
        rw [List.getElem?_map, List.getElem?_eq_getElem hk]
        rfl
      · exact ⟨rfl, 0, Int.le_refl 0, rfl⟩
    · rintro σ' H' ⟨rfl, z, hz, rfl⟩
      have e1 := Int.emod_nonneg z (show (2147483629 : Int) ≠ 0 by decide)
      have e2 := Int.emod_lt_of_pos z (show (0 : Int) < 2147483629 by decide)
      have e3 : ∀ y : Int, 0 ≤ y % 2147483645 ∧ y % 2147483645 < 2147483645 := fun y => ⟨Int.emod_nonneg y (by decide), Int.emod_lt_of_pos y (by decide)⟩
      refine ⟨_, rfl, _, _, rfl, rfl, pA, _, _, rfl, rfl, .inl ⟨by omega, by omega⟩, _, rfl, _, _, rfl, rfl, .inl ⟨by decide, by decide⟩, _, rfl, _, _, rfl, rfl, .inl ⟨by omega, by omega⟩, _, _, rfl, rfl, _, rfl, _, _, rfl, rfl, .inl ⟨by decide, by decide⟩, _, _, rfl, rfl, _, _, rfl, rfl, _, _, rfl, rfl, pB, _, _, rfl, rfl, ?_⟩
      dsimp only
      generalize hy : z % 2147483629 * 16807 + 40009 * k * k + 7919 * k + 1009 = y
      obtain ⟨y0, y1⟩ := e3 y
      refine ⟨_, rfl, _, _, rfl, rfl, ⟨by decide, by decide, by decide⟩, _, _, rfl, rfl, _, rfl, ite2 (fun c => ?_) (fun _ => ?_)⟩
      · refine ⟨_, rfl, (by show 2 ≤ sizeLine; decide), fun p hp => ?_⟩
        exact q p _ hp (Same.upd hp) ⟨0, 1 + y % 2147483645, upd_same, by omega, by omega, by omega⟩
      · refine ⟨_, rfl, _, rfl, (by show 2 ≤ sizeLine; decide), fun p hp => ?_⟩
        exact q p _ hp (Same.upd hp) ⟨z, 1 + y % 2147483645, upd_same, hz, by omega, by omega⟩
/-- a draw below c -/
def sp_take : Sp := fun vs H Q _ => ∃ (b : Addr) (c : Int), vs = [.ref b, .int c] ∧ Bag H b ∧ 1 ≤ c ∧ c ≤ 100000 ∧ ∀ r H', But b H H' → Bag H' b → 0 ≤ r → r < c → Q (.int r) H'
theorem ok__law_take (T : Txt K mg) : Fn P w K mg base CX0 1 "_law_take" ["bag", "count"] sp_take := by
  refine T.d__law_take.fn fun f fd F => F.ok sc__law_take (fun vs H Q E h => ?_) (fun cdv A outer s H vs Q E hr h => ?_)
  · obtain ⟨b, c, rfl, _⟩ := h
    rfl
  · obtain ⟨b, c, rfl, ⟨x, y, hb, x0, y0, y1⟩, c0, c1, q⟩ := h
    have hS : SqL K H b [.int x, .int y] := SqL.of hb
    have a0 : atI [V.int x, .int y] 0 = some (.int x) := rfl
    have a1 : atI [V.int x, .int y] 1 = some (.int y) := rfl
    refine ⟨_, pss_cons (ps_if (pt_cmpR op_gt (pe_ix ix_list (pv 0) pe_int (fun _ _ => rfl)) pe_int (nomark _))
        (pss_cons (ps_set (i := 2) sc__law_take.nd rfl (.inl rfl) (pe_op op_mod (pe_ix ix_list (pv 0) pe_int (fun _ _ => rfl)) (pv 1)))
        (pss_cons (ps_asg (pe_op op_fdiv (pe_ix ix_list (pv 0) pe_int (fun _ _ => rfl)) (pv 1)) (pg_sub (pv 0) pe_int set_list))
        (pss_one (ps_ret (pv 2))))) pss_nil)
      (pss_cons (ps_asg (pe_op op_mod (pe_op op_mul (pe_ix ix_list (pv 0) pe_int (fun _ _ => rfl)) pe_int) pe_int) (pg_sub (pv 0) pe_int set_list))
      (pss_one (ps_ret (pe_op op_mod (pe_op op_fdiv (pe_op op_mod (pe_op op_mul (pe_op op_fdiv (pe_ix ix_list (pv 0) pe_int (fun _ _ => rfl)) pe_int)
        (pe_op op_add (pe_op op_mod (pe_ix ix_list (pv 0) pe_int (fun _ _ => rfl)) pe_int) pe_int)) pe_int) pe_int) (pv 1))))), ?_⟩
    refine ⟨.ref b, rfl, b, _, 0, _, rfl, rfl, hS, a0, _, _, rfl, rfl, _, rfl, ite2 (fun _ => ?_) (fun _ => ?_)⟩
    · refine ⟨.ref b, rfl, b, _, 0, _, rfl, rfl, hS, a0, _, rfl, _, _, rfl, rfl, (by show 0 < c; omega), ?_⟩
      refine ⟨.ref b, rfl, b, _, 0, _, rfl, rfl, hS, a0, _, rfl, _, _, rfl, rfl, ⟨by omega, by omega⟩, ?_⟩
      refine ⟨.ref b, rfl, b, _, 0, 0, rfl, rfl, hb, rfl, _, rfl, ?_⟩
      refine q _ _ (fun a o n e => ?_) ⟨x / c, y, upd_same, Int.ediv_nonneg x0 (by omega), y0, y1⟩ (Int.emod_nonneg _ (by omega)) (Int.emod_lt_of_pos _ (by omega))
      rw [upd_ne n]
      exact e
    · refine ⟨.ref b, rfl, b, _, 1, _, rfl, rfl, hS, a1, _, _, rfl, rfl, .inr ⟨by decide, by decide⟩, _, _, rfl, rfl, pC, ?_⟩
      refine ⟨.ref b, rfl, b, _, 1, 1, rfl, rfl, hb, rfl, ?_⟩
      dsimp only
      have z0 := Int.emod_nonneg (y * 48271) (show (2147483647 : Int) ≠ 0 by decide)
      have z1 := Int.emod_lt_of_pos (y * 48271) (show (0 : Int) < 2147483647 by decide)
      generalize y * 48271 % 2147483647 = z at z0 z1 ⊢
      have hb' : (upd H b (.lst [.int x, .int z])) b = some (.lst [.int x, .int z]) := upd_same
      have hS' : SqL K (upd H b (.lst [.int x, .int z])) b [.int x, .int z] := SqL.of hb'
      have a1' : atI [V.int x, .int z] 1 = some (.int z) := rfl
      have d0 : 0 ≤ z / 13 := Int.ediv_nonneg z0 (by decide)
      have d1 : z / 13 ≤ z := Int.ediv_le_self _ z0
      refine ⟨.ref b, rfl, b, _, 1, _, rfl, rfl, hS', a1', _, _, rfl, rfl, ⟨by decide, by decide⟩, .ref b, rfl, b, _, 1, _, rfl, rfl, hS', a1', _, _, rfl, rfl, pD, _, _, rfl, rfl, _, _, rfl, rfl, .inl ⟨by omega, by omega⟩, _, _, rfl, rfl, pA, _, _, rfl, rfl, ⟨by decide, by decide⟩, _, rfl, _, _, rfl, rfl, (by show 0 < c; omega), ?_⟩
      refine q _ _ (fun a o n e => ?_) ⟨x, z, hb', x0, z0, by omega⟩ (Int.emod_nonneg _ (by omega)) (Int.emod_lt_of_pos _ (by omega))
      rw [upd_ne n]
      exact e
/-- a sign of a text; an item of a list -/
def sp_of (K : PySem.W.Frag) : Sp := fun vs H Q _ => (∃ (b : Addr) (l : List Nat), vs = [.ref b, vS l] ∧ Bag H b ∧ l ≠ [] ∧ l.length ≤ 1000 ∧ ∀ c H', But b H H' → Bag H' b → c ∈ l → Q (vS [c]) H') ∨
  ∃ (b a : Addr) (xs : List V), vs = [.ref b, .ref a] ∧ Bag H b ∧ SqL K H a xs ∧ a ≠ b ∧ xs ≠ [] ∧ xs.length ≤ 1000 ∧ ∀ x H', But b H H' → Bag H' b → x ∈ xs → Q x H'
theorem ok__law_of (T : Txt K mg) : Fn P w K mg base CX0 2 "_law_of" ["bag", "some"] (sp_of K) := by
  have GT := ok__law_take (P := P) (w := w) (base := base) T
  refine T.d__law_of.fn fun f fd F => F.ok sc__law_of (fun vs H Q E h => ?_) (fun cdv A outer s H vs Q E hr h => ?_)
  · rcases h with ⟨b, l, rfl, _⟩ | ⟨b, a, xs, rfl, _⟩ <;> rfl
  · refine ⟨_, pss_one (ps_ret (pe_ix ix_seq (pv 1) (pe_fn GT hr (pa_cons (pv 0) (pa_cons (pe_callB call_len (by rfl) T.b_len PySem.boot_len (pa_cons (pv 1) pa_nil)) pa_nil))) (fun _ _ => rfl))), ?_⟩
    rcases h with ⟨b, l, rfl, hb, hn, hl, q⟩ | ⟨b, a, xs, rfl, hb, hS, na, hn, hl, q⟩
    · have hp := List.length_pos_iff.mpr hn
      have hz : (S l).length ≤ sizeLine := by rw [S_len]; exact Nat.le_trans hl (by decide)
      refine ⟨_, rfl, .ref b, rfl, _, rfl, vS l, l.length, rfl, ⟨hz, (S_len l).symm⟩, b, _, rfl, hb, by omega, by omega, fun r H' bt hb' r0 r1 => ?_⟩
      have hr' : r.toNat < l.length := by omega
      refine .inr (.inr ⟨S l, r, l[r.toNat], rfl, rfl, hz, ?_, ?_⟩)
      · have e : ((r.toNat : Nat) : Int) = r := by omega
        exact (congrArg (atI l) e.symm).trans (atI_nat (List.getElem?_eq_getElem hr'))
      · exact q _ _ bt hb' (List.getElem_mem hr')
    · have hp := List.length_pos_iff.mpr hn
      refine ⟨_, rfl, .ref b, rfl, _, rfl, .ref a, xs.length, rfl, .inl ⟨xs, hS, rfl⟩, b, _, rfl, hb, by omega, by omega, fun r H' bt hb' r0 r1 => ?_⟩
      have hr' : r.toNat < xs.length := by omega
      refine .inl ⟨a, xs, r, xs[r.toNat], rfl, rfl, bt.seq na hS, at_of (j := r.toNat) (by omega) (List.getElem?_eq_getElem hr'), ?_⟩
      exact q _ _ bt hb' (List.getElem_mem hr')
end
end Lk

namespace Lk
open PySem PySem.Spec PyProof.Rows L2
/-! ### texts drawn -/
open Fo
section
variable {P : Program} {w : World} {K : PySem.W.Frag} {mg : Str → Option Value} {base : Heap}
theorem Sg.one {c : Nat} (h : 97 ≤ c ∧ c ≤ 100) : Sg [c] := fun x hx => by
  rw [List.mem_singleton.mp hx]
  exact h
def sp_any : Sp := fun vs H Q _ => ∃ (b : Addr) (m k : Int), vs = [.ref b, .int m, .int k] ∧ Bag H b ∧ 1 ≤ m ∧ m ≤ 100 ∧ 1 ≤ k ∧ k ≤ 4 ∧ ∀ (l : List Nat) H', But b H H' → Bag H' b → 1 ≤ l.length → (l.length : Int) ≤ m → Sg l → Q (vS l) H'
theorem abcd_take {k : Int} (h1 : 1 ≤ k) (h2 : k ≤ 4) : cutL [97, 98, 99, 100] none (some k) ≠ [] ∧ (cutL [97, 98, 99, 100] none (some k)).length ≤ 4 ∧ Sg (cutL [97, 98, 99, 100] none (some k)) := by
  rw [cut_to _ (by omega)]
  have : k.toNat = 1 ∨ k.toNat = 2 ∨ k.toNat = 3 ∨ k.toNat = 4 := by omega
  rcases this with e | e | e | e <;> rw [e] <;> refine ⟨by decide, by decide, fun c hc => ?_⟩ <;> simp at hc <;> omega
theorem ok__law_any_text (T : Txt K mg) : Fn P w K mg base CX0 3 "_law_any_text" ["bag", "most", "signs"] sp_any := by
  have GT := ok__law_take (P := P) (w := w) (base := base) T
  have GO := ok__law_of (P := P) (w := w) (base := base) T
  refine T.d__law_any_text.fn fun f fd F => F.ok sc__law_any_text (fun vs H Q E h => ?_) (fun cdv A outer s H vs Q E hr h => ?_)
  · obtain ⟨b, m, k, rfl, _⟩ := h
    rfl
  · obtain ⟨b, m, k, rfl, hb, m1, m2, k1, k2, q⟩ := h
    refine ⟨_, pss_one (ps_ret (pe_joinS pe_str (pe_lc (own := [("turn", 3)]) (g := gName 3) (tt := tYes) rfl sc__law_any_text.nd (pi_range1 rfl T.b_range (pa_cons (pe_op op_add pe_int (pe_fn GT hr (pa_cons (pv 0) (pa_cons (pv 1) pa_nil)))) pa_nil))
      (blkOk_by (own := [("turn", 3)]) (N := ["bag", "most", "signs", "turn"]) (sc := defScope s__law_any_text) (by decide +kernel)) (fun _ _ _ _ _ => pg_name (i := 3) sc__law_any_text.nd rfl (Or.inl rfl)) (fun _ _ _ _ _ => pts_nil)
      (fun _ _ _ _ _ => pe_fn GO hr (pa_cons (pv 0) (pa_cons (pe_slice sl_S pe_str po_none (po_some (pv 2))) pa_nil)))))), ?_⟩
    obtain ⟨n1, n2, n3⟩ := abcd_take k1 k2
    refine ⟨⟨S [], rfl⟩, _, rfl, _, rfl, b, m, rfl, hb, m1, by omega, fun r H' bt hb' r0 r1 => ?_⟩
    refine ⟨1, r, rfl, rfl, 1 + r, rfl, by omega, by omega, fun D hD => ?_⟩
    have nDb : b ≠ D := hb'.ne hD
    have fD : H D = none := bt.free nDb.symm hD
    refine lc_range (lo := 0) (n := (1 + r).toNat) (fun i H2 => But b H (H2) ∧ Bag H2 b ∧ ∃ ys : List (List Nat), H2 D = some (.lst (ys.map vS)) ∧ ys.length = i ∧ (∀ y ∈ ys, y.length = 1) ∧ Sg ys.flatten)
      ⟨?_, ?_, [], upd_same, rfl, (fun y hy => nomatch hy), (fun c hc => nomatch hc)⟩ ?_ ?_
    · exact bt.same (Same.upd hD)
    · exact hb'.same (Same.upd hD)
    · rintro i H2 hi ⟨bt2, hb2, ys, hys, el, e1, e2⟩
      refine ⟨rfl, .ref b, rfl, .int k, rfl, k, rfl, [97, 98, 99, 100], rfl, by decide, ?_⟩
      refine .inl ⟨b, _, rfl, hb2, n1, by omega, fun c H3 bt3 hb3 hc => ?_⟩
      refine ⟨ys.map vS, bt3 _ _ nDb.symm hys, ?_, ?_⟩
      · rw [List.length_map, el]
        exact small1000 (by omega)
      · refine ⟨(bt2.trans bt3).upd2 fD, hb3.upd nDb, ys ++ [[c]], ?_, ?_, ?_, ?_⟩
        · rw [upd_same, List.map_append]
          rfl
        · rw [List.length_append, el]
          rfl
        · intro y hy
          rcases List.mem_append.mp hy with hy | hy
          · exact e1 y hy
          · rw [List.mem_singleton.mp hy]
            rfl
        · rw [List.flatten_append]
          exact e2.app (by simpa using Sg.one (n3 c hc))
    · rintro H2 ⟨bt2, hb2, ys, hys, el, e1, e2⟩
      have efl : ys.flatten.length = ys.length := by
        rw [List.length_flatten]
        clear e2 hys el
        induction ys with
        | nil => rfl
        | cons y r ih =>
          rw [List.map_cons, List.sum_cons, ih fun z hz => e1 z (List.mem_cons_of_mem _ hz), e1 y (List.mem_cons_self ..), List.length_cons]
          omega
      have esum : (ys.map (·.length)).sum = ys.length := by rw [← List.length_flatten, efl]
      refine ⟨[], D, ys, rfl, rfl, .inl (SqL.of hys), by rw [esum, el]; simp only [List.length_nil, Nat.mul_zero]; omega, ?_⟩
      rw [joinL_flat]
      exact q ys.flatten H2 bt2 hb2 (by omega) (by omega) e2
/-- text, or what is unfolded of it at its ends -/
def sp_grown : Sp := fun vs H Q _ => ∃ (b : Addr) (l : List Nat) (m : Int), vs = [.ref b, vS l, .int m] ∧ Bag H b ∧ 1 ≤ l.length ∧ l.length ≤ 100 ∧ Sg l ∧ m ≤ 100 ∧
  ∀ (r : List Nat) H', But b H H' → Bag H' b → Up r l → Sg r → ((r.length : Int) ≤ m ∨ r = l) → Q (vS r) H'
theorem ok__law_grown (T : Txt K mg) : Fn P w K mg base CX0 3 "_law_grown" ["bag", "text", "most"] sp_grown := by
  have GT := ok__law_take (P := P) (w := w) (base := base) T
  have GO := ok__law_of (P := P) (w := w) (base := base) T
  refine T.d__law_grown.fn fun f fd F => F.ok sc__law_grown (fun vs H Q E h => ?_) (fun cdv A outer s H vs Q E hr h => ?_)
  · obtain ⟨b, l, m, rfl, _⟩ := h
    rfl
  · obtain ⟨b, l, m, rfl, hb, l1, l2, sg, hm, q⟩ := h
    refine ⟨_, pss_cons (ps_for PassesOwn.never rfl (pi_range1 rfl T.b_range (pa_cons (pe_fn GT hr (pa_cons (pv 0) (pa_cons pe_int pa_nil))) pa_nil)) (pg_name (i := 3) sc__law_grown.nd rfl (.inl rfl))
        (pss_cons (ps_set (i := 4) sc__law_grown.nd rfl (.inl rfl) (pe_op op_add pe_int (pe_fn GT hr (pa_cons (pv 0) (pa_cons (pe_callB call_lenS (by rfl) T.b_len PySem.boot_len (pa_cons (pv 1) pa_nil)) pa_nil)))))
        (pss_one (ps_if (pt_cmpR op_le (pe_op op_add (pe_callB call_lenS (by rfl) T.b_len PySem.boot_len (pa_cons (pv 1) pa_nil)) (pv 4)) (pv 2) (nomark _))
          (pss_one (ps_set (i := 1) sc__law_grown.nd rfl (.inl rfl) (pe_fn GO hr (pa_cons (pv 0) (pa_cons (pe_lst (pa_cons (pe_op op_catS (pe_revS (pe_slice sl_S (pv 1) po_none (po_some (pv 4)))) (pv 1))
            (pa_cons (pe_op op_catS (pv 1) (pe_revS (pe_slice sl_S (pv 1) (po_some (pe_un un_neg (pv 4))) po_none))) pa_nil))) pa_nil))))) pss_nil))))
      (pss_one (ps_ret (pv 1))), ?_⟩
    refine ⟨.ref b, rfl, b, 9, rfl, hb, by decide, by decide, fun r H1 bt1 hb1 r0 r1 => ⟨r, rfl, by omega, by omega, ?_⟩⟩
    refine for_range (lo := 0) (n := r.toNat) (fun i σ H2 => But b H H2 ∧ Bag H2 b ∧ ∃ (t : List Nat) (v3 v4 : Option V), σ = [some (.ref b), some (vS t), some (.int m), v3, v4] ∧ Up t l ∧ Sg t ∧ ((t.length : Int) ≤ m ∨ t = l) ∧ 1 ≤ t.length ∧ t.length ≤ 100)
      ⟨bt1, hb1, l, none, none, rfl, .refl l, sg, .inr rfl, l1, l2⟩ ?_ ?_
    · rintro i σ H2 hi ⟨bt2, hb2, t, v3, v4, rfl, up, st, ht, t1, t2⟩
      refine ⟨.ref b, rfl, vS t, rfl, t, rfl, by omega, b, _, rfl, hb2, by omega, by omega, fun z H3 bt3 hb3 z0 z1 => ?_⟩
      refine ⟨_, _, rfl, rfl, ?_⟩
      have hz : 1 ≤ (1 + z).toNat ∧ (1 + z).toNat ≤ t.length := by omega
      refine ⟨_, rfl, t, rfl, by omega, _, rfl, _, _, rfl, rfl, _, rfl, _, _, rfl, rfl, _, rfl, ite2 (fun c => ?_) (fun _ => ?_)⟩
      · have c' : (t.length : Int) + (1 + z) ≤ m := of_decide_eq_true c
        have ln1 : (cutL t none (some (1 + z))).length ≤ 1000000 := Nat.le_trans (cut_len _ _ _) (by omega)
        have ln2 : (cutL t (some (-(1 + z))) none).length ≤ 1000000 := Nat.le_trans (cut_len _ _ _) (by omega)
        refine ⟨.ref b, rfl, vS t, rfl, _, rfl, _, rfl, t, rfl, by omega, _, rfl, big ln1, vS t, rfl, _, _, rfl, rfl, ?_, vS t, rfl, vS t, rfl, _, rfl, _, rfl, _, rfl, t, rfl, by omega, _, rfl, big ln2, _, _, rfl, rfl, ?_, ?_, fun p hp => ?_⟩
        · have := cut_len t none (some (1 + z))
          rw [List.length_reverse]
          omega
        · have := cut_len t (some (-(1 + z))) none
          rw [List.length_reverse]
          omega
        · show 2 ≤ sizeLine
          decide
        · have npb : b ≠ p := hb3.ne hp
          have fp : H p = none := (bt2.trans bt3).free npb.symm hp
          refine .inr ⟨b, p, _, rfl, hb3.upd npb, SqL.of upd_same, npb.symm, by simp, by show 2 ≤ 1000; decide, fun x H4 bt4 hb4 hx => ?_⟩
          have fin : ∀ u : List Nat, Up u t → Sg u → u.length = t.length + (1 + z).toNat → (But b H H4 ∧ Bag H4 b ∧ ∃ (t' : List Nat) (v3' v4' : Option V), ([some (V.ref b), some (vS u), some (.int m), some (.int (0 + (i : Int))), some (.int (1 + z))] : L2.St) = [some (.ref b), some (vS t'), some (.int m), v3', v4'] ∧ Up t' l ∧ Sg t' ∧ ((t'.length : Int) ≤ m ∨ t' = l) ∧ 1 ≤ t'.length ∧ t'.length ≤ 100) := fun u hu su hl => by
            refine ⟨?_, hb4, u, _, _, rfl, hu.trans up, su, .inl (by omega), by omega, by omega⟩
            exact ((bt2.trans bt3).upd2 fp).trans bt4
          rcases List.mem_cons.mp hx with e | hx
          · subst e
            rw [cut_to _ (by omega)]
            exact fin _ (up_left hz.1 hz.2) ((st.take _).rev.app st) (by rw [List.length_append, List.length_reverse, List.length_take]; omega)
          · have e := List.mem_singleton.mp hx
            subst e
            rw [cut_neg _ (by omega) (by omega)]
            have e2 : ((t.length : Int) + -(1 + z)).toNat = t.length - (1 + z).toNat := by omega
            rw [e2]
            exact fin _ (up_right hz.1 hz.2) (st.app (st.drop _).rev) (by rw [List.length_append, List.length_reverse, List.length_drop]; omega)
      · exact ⟨bt2.trans bt3, hb3, t, _, _, rfl, up, st, ht, t1, t2⟩
    · rintro σ H2 ⟨bt2, hb2, t, v3, v4, rfl, up, st, ht, t1, t2⟩
      exact ⟨_, rfl, q t H2 bt2 hb2 up st ht⟩
/-- any strip of at most so many cells -/
def sp_strip : Sp := fun vs H Q _ => ∃ (b : Addr) (m : Int), vs = [.ref b, .int m] ∧ Bag H b ∧ 5 ≤ m ∧ m ≤ 100 ∧ ∀ (r : List Nat) H', But b H H' → Bag H' b → 1 ≤ r.length → (r.length : Int) ≤ m → Sg r → Q (vS r) H'
theorem ok__law_strip (T : Txt K mg) : Fn P w K mg base CX0 4 "_law_strip" ["bag", "most"] sp_strip := by
  have GT := ok__law_take (P := P) (w := w) (base := base) T
  have GA := ok__law_any_text (P := P) (w := w) (base := base) T
  have GG := ok__law_grown (P := P) (w := w) (base := base) T
  refine T.d__law_strip.fn fun f fd F => F.ok sc__law_strip (fun vs H Q E h => ?_) (fun cdv A outer s H vs Q E hr h => ?_)
  · obtain ⟨b, m, rfl, _⟩ := h
    rfl
  · obtain ⟨b, m, rfl, hb, m1, m2, q⟩ := h
    refine ⟨_, pss_cons (ps_set (i := 2) sc__law_strip.nd rfl (.inl rfl) (pe_fn GT hr (pa_cons (pv 0) (pa_cons pe_int pa_nil))))
      (pss_cons (ps_if (pt_cmpR op_eq (pv 2) pe_int (nomark _)) (pss_one (ps_ret (pe_fn GA hr (pa_cons (pv 0) (pa_cons (pv 1) (pa_cons (pe_op op_add pe_int (pe_fn GT hr (pa_cons (pv 0) (pa_cons pe_int pa_nil)))) pa_nil)))))) pss_nil)
      (pss_one (ps_ret (pe_fn GG hr (pa_cons (pv 0) (pa_cons (pe_fn GA hr (pa_cons (pv 0) (pa_cons (pe_ix ix_list (pe_lst (pa_cons pe_int (pa_cons pe_int (pa_cons pe_int (pa_cons pe_int pa_nil))))) (pv 2) (fun _ _ => rfl))
        (pa_cons (pe_ix ix_list (pe_lst (pa_cons pe_int (pa_cons pe_int (pa_cons pe_int (pa_cons pe_int pa_nil))))) (pv 2) (fun _ _ => rfl)) pa_nil)))) (pa_cons (pv 1) pa_nil))))))), ?_⟩
    refine ⟨.ref b, rfl, b, 4, rfl, hb, by decide, by decide, fun r H1 bt1 hb1 r0 r1 => ?_⟩
    refine ⟨_, rfl, rfl, _, rfl, ite2 (fun c => ?_) (fun _ => ?_)⟩
    · refine ⟨.ref b, rfl, .int m, rfl, _, rfl, b, 3, rfl, hb1, by decide, by decide, fun z H2 bt2 hb2 z0 z1 => ?_⟩
      refine ⟨_, _, rfl, rfl, b, m, _, rfl, hb2, by omega, by omega, by omega, by omega, fun l H3 bt3 hb3 l1 l2 sg => ?_⟩
      exact q l H3 ((bt1.trans bt2).trans bt3) hb3 l1 l2 sg
    · refine ⟨.ref b, rfl, .ref b, rfl, (by show 4 ≤ sizeLine; decide), fun p hp => ?_⟩
      have npb : b ≠ p := hb1.ne hp
      have hr4 : r = 0 ∨ r = 1 ∨ r = 2 ∨ r = 3 := by omega
      obtain ⟨u, eu, u1, u2⟩ : ∃ u : Int, atI [V.int 1, .int 3, .int 5, .int 4] r = some (.int u) ∧ 1 ≤ u ∧ u ≤ 5 := by
        rcases hr4 with e | e | e | e <;> subst e
        · exact ⟨1, rfl, by decide, by decide⟩
        · exact ⟨3, rfl, by decide, by decide⟩
        · exact ⟨5, rfl, by decide, by decide⟩
        · exact ⟨4, rfl, by decide, by decide⟩
      obtain ⟨u', eu', u1', u2'⟩ : ∃ u : Int, atI [V.int 2, .int 2, .int 3, .int 4] r = some (.int u) ∧ 1 ≤ u ∧ u ≤ 4 := by
        rcases hr4 with e | e | e | e <;> subst e
        · exact ⟨2, rfl, by decide, by decide⟩
        · exact ⟨2, rfl, by decide, by decide⟩
        · exact ⟨3, rfl, by decide, by decide⟩
        · exact ⟨4, rfl, by decide, by decide⟩
      refine ⟨_, rfl, p, _, r, _, rfl, rfl, SqL.of upd_same, eu, (by show 4 ≤ sizeLine; decide), fun p2 hp2 => ?_⟩
      have npb2 : b ≠ p2 := (hb1.upd npb).ne hp2
      refine ⟨_, rfl, p2, _, r, _, rfl, rfl, SqL.of upd_same, eu', b, _, _, rfl, (hb1.upd npb).upd npb2, u1, by omega, u1', u2', fun l H2 bt2 hb2 l1 l2 sg => ?_⟩
      refine ⟨.int m, rfl, b, l, m, rfl, hb2, l1, by omega, sg, m2, fun t H3 bt3 hb3 up st ht => ?_⟩
      have fp : H p = none := bt1.free npb.symm hp
      have fp2 : H p2 = none := (bt1.upd2 fp).free npb2.symm hp2
      refine q t H3 ((((bt1.upd2 fp).upd2 fp2).trans bt2).trans bt3) hb3 ?_ ?_ st
      · obtain ⟨x, c1, c2⟩ := up
        have := c1.len
        have := c2.len
        omega
      · rcases ht with ht | ht
        · exact ht
        · subst ht
          omega
end
end Lk

namespace Lk
open PySem PySem.Spec PyProof.Rows L2
/-! ### creases -/
open Fo
section
variable {P : Program} {w : World} {K : PySem.W.Frag} {mg : Str → Option Value} {base : Heap}
def sp_lies : Sp := fun vs H Q _ => ∃ (l : List Nat) (c : Nat), vs = [vS l, vI c] ∧ l.length ≤ 1000 ∧ 1 ≤ c ∧ c < l.length ∧ Q (.bl (decide (Lies l c))) H
def sp_creases : Sp := fun vs H Q _ => ∃ (l : List Nat), vs = [vS l] ∧ l.length ≤ 1000 ∧ ∀ p, H p = none → Q (.ref p) (upd H p (.lst ((creases l).map vI)))
def sp_left : Sp := fun vs H Q _ => ∃ (l : List Nat) (c : Nat), vs = [vS l, vI c] ∧ l.length ≤ 1000 ∧ c ≤ l.length ∧ Q (vS (left l c)) H
/-! ### the program's -/
theorem ok_lies_well (T : Txt K mg) : Fn P w K mg base CX0 1 "lies_well" ["strip", "crease"] sp_lies := by
  refine T.d_lies_well.fn fun f fd F => F.ok sc_lies_well (fun vs H Q E h => ?_) (fun cdv A outer s H vs Q E hr h => ?_)
  · obtain ⟨l, c, rfl, _⟩ := h
    rfl
  · obtain ⟨l, c, rfl, hl, c1, c2, q⟩ := h
    refine ⟨_, pss_cons (ps_set (i := 2) sc_lies_well.nd rfl (.inl rfl) (pe_callB (call_min2 rfl) (by rfl) T.b_min (by decide +kernel) (pa_cons (pv 1) (pa_cons (pe_op op_sub (pe_callB call_lenS (by rfl) T.b_len PySem.boot_len (pa_cons (pv 0) pa_nil)) (pv 1)) pa_nil))))
      (pss_one (ps_ret (pe_cmpR op_eq (pe_slice sl_S (pv 0) (po_some (pe_op op_sub (pv 1) (pv 2))) (po_some (pv 1))) (pe_revS (pe_slice sl_S (pv 0) (po_some (pv 1)) (po_some (pe_op op_add (pv 1) (pv 2))))) (nomark _)))), ?_⟩
    refine ⟨_, rfl, _, rfl, l, rfl, by omega, _, rfl, _, _, rfl, rfl, _, _, rfl, ?_⟩
    have em : (if (l.length : Int) - (c : Int) < (c : Int) then (l.length : Int) - (c : Int) else (c : Int)) = ((min c (l.length - c) : Nat) : Int) := by split <;> omega
    rw [em]
    have hr1 : min c (l.length - c) ≤ c := Nat.min_le_left _ _
    have hr2 : min c (l.length - c) ≤ l.length - c := Nat.min_le_right _ _
    have main := lies_rev_iff c1 c2
    generalize min c (l.length - c) = r at hr1 hr2 main ⊢
    refine ⟨vS l, rfl, _, rfl, _, rfl, _, _, rfl, rfl, _, rfl, _, rfl, _, rfl, l, rfl, by omega, vS l, rfl, _, rfl, _, rfl, _, rfl, _, rfl, _, _, rfl, rfl, _, rfl, l, rfl, by omega, _, rfl, big (Nat.le_trans (cut_len _ _ _) (by omega)), rfl, ?_⟩
    rw [vS_dec]
    have e1 : cutL l (some ((c : Int) - (r : Int))) (some (c : Int)) = (l.drop (c - r)).take (c - (c - r)) := by
      rw [cut_mid _ (by omega) (by omega) (by omega)]
      congr 1
      · omega
      · congr 1
        omega
    have e2 : cutL l (some (c : Int)) (some ((c : Int) + (r : Int))) = (l.drop c).take (c + r - c) := by
      rw [cut_mid _ (by omega) (by omega) (by omega)]
      congr 1
    rw [e1, e2, decide_eq_decide.mpr main]
    exact q
theorem ok_creases (T : Txt K mg) : Fn P w K mg base CX0 2 "creases" ["strip"] sp_creases := by
  have GL := ok_lies_well (P := P) (w := w) (base := base) T
  refine T.d_creases.fn fun f fd F => F.ok sc_creases (fun vs H Q E h => ?_) (fun cdv A outer s H vs Q E hr h => ?_)
  · obtain ⟨l, rfl, _⟩ := h
    rfl
  · obtain ⟨l, rfl, hl, q⟩ := h
    refine ⟨_, pss_one (ps_ret (pe_lc (own := [("crease", 1)]) (g := gName 1) rfl sc_creases.nd (pi_range2 rfl T.b_range (pa_cons pe_int (pa_cons (pe_callB call_lenS (by rfl) T.b_len PySem.boot_len (pa_cons (pv 0) pa_nil)) pa_nil)))
      (blkOk_by (own := [("crease", 1)]) (N := ["strip", "crease"]) (sc := defScope s_creases) (by decide +kernel)) (fun _ _ _ _ _ => pg_name (i := 1) sc_creases.nd rfl (Or.inl rfl))
      (fun _ _ _ _ _ => pts_one (pt_val (pe_fn GL hr (pa_cons (pv 0) (pa_cons (pv 1) pa_nil))))) (fun _ _ _ _ _ => pv 1))), ?_⟩
    refine ⟨_, rfl, l, rfl, by omega, _, _, rfl, ⟨by decide, by decide, by omega, by omega⟩, fun D hD => ?_⟩
    refine lc_range (lo := 1) (n := ((l.length : Int) - 1).toNat) (fun i H2 => H2 = upd H D (.lst ((crTo l i).map vI))) rfl ?_ ?_
    · rintro i H2 hi rfl
      refine ⟨rfl, vS l, rfl, .int (1 + (i : Int)), rfl, l, 1 + i, congrArg (fun z => [vS l, V.int z]) (by omega), hl, by omega, by omega, ?_⟩
      by_cases e : Lies l (1 + i)
      · rw [decide_eq_true e]
        refine ⟨_, rfl, iteT ?_⟩
        refine ⟨_, rfl, _, upd_same, ?_, ?_⟩
        · rw [List.length_map]
          have := crTo_len l i
          exact small1000 (by omega)
        · rw [upd_upd, crTo_yes e, List.map_append]
          rfl
      · rw [decide_eq_false e]
        refine ⟨_, rfl, iteF ?_⟩
        rw [crTo_no e]
    · rintro H2 rfl
      have e : ((l.length : Int) - 1).toNat = l.length - 1 := by omega
      rw [e, crTo_all]
      exact q D hD
theorem ok_left_of (T : Txt K mg) : Fn P w K mg base CX0 1 "left_of" ["strip", "crease"] sp_left := by
  refine T.d_left_of.fn fun f fd F => F.ok sc_left_of (fun vs H Q E h => ?_) (fun cdv A outer s H vs Q E hr h => ?_)
  · obtain ⟨l, c, rfl, _⟩ := h
    rfl
  · obtain ⟨l, c, rfl, hl, hc, q⟩ := h
    refine ⟨_, pss_one (ps_ret (pe_ifExp (pt_cmpR op_le (pe_op op_mul pe_int (pv 1)) (pe_callB call_lenS (by rfl) T.b_len PySem.boot_len (pa_cons (pv 0) pa_nil)) (nomark _))
      (pe_slice sl_S (pv 0) (po_some (pv 1)) po_none) (pe_slice sl_S (pv 0) po_none (po_some (pv 1))))), ?_⟩
    refine ⟨_, rfl, _, _, rfl, rfl, .inl ⟨by decide, by decide⟩, _, rfl, l, rfl, by omega, _, _, rfl, rfl, _, rfl, ite2 (fun k => ?_) (fun k => ?_)⟩
    · have c' : 2 * (c : Int) ≤ (l.length : Int) := of_decide_eq_true k
      refine ⟨_, rfl, _, rfl, _, rfl, l, rfl, by omega, ?_⟩
      rw [cut_from _ (by omega), Int.toNat_natCast]
      unfold left at q
      rw [if_pos (by omega)] at q
      exact q
    · have c' : ¬ 2 * (c : Int) ≤ (l.length : Int) := fun z => k (decide_eq_true z)
      refine ⟨_, rfl, _, rfl, _, rfl, l, rfl, by omega, ?_⟩
      rw [cut_to _ (by omega), Int.toNat_natCast]
      unfold left at q
      rw [if_neg (by omega)] at q
      exact q
end
end Lk

namespace Lk
open PySem PySem.Spec PyProof.Rows L2
/-! ### least strips, all that come -/
open Fo
section
variable {P : Program} {w : World} {K : PySem.W.Frag} {mg : Str → Option Value} {base : Heap}
def sp_least : Sp := fun vs H Q _ => ∃ (l : List Nat), vs = [vS l] ∧ l.length ≤ 1000 ∧ ∀ H', Same H H' → Q (vS (least l)) H'
theorem ok_least (T : Txt K mg) : Fn P w K mg base CX0 3 "least" ["strip"] sp_least := by
  have GC := ok_creases (P := P) (w := w) (base := base) T
  have GL := ok_left_of (P := P) (w := w) (base := base) T
  refine T.d_least.fn fun f fd F => F.ok sc_least (fun vs H Q E h => ?_) (fun cdv A outer s H vs Q E hr h => ?_)
  · obtain ⟨l, rfl, _⟩ := h
    rfl
  · obtain ⟨l, rfl, hl, q⟩ := h
    refine ⟨_, pss_cons (ps_set (i := 1) sc_least.nd rfl (.inl rfl) (pe_fn GC hr (pa_cons (pv 0) pa_nil)))
      (pss_cons (ps_while PassesOwn.never (pt_truth (pv 1) (by intro _; rfl))
        (pss_cons (ps_set (i := 0) sc_least.nd rfl (.inl rfl) (pe_fn GL hr (pa_cons (pv 0) (pa_cons (pe_ix ix_list (pv 1) pe_int (fun _ _ => rfl)) pa_nil))))
        (pss_one (ps_set (i := 1) sc_least.nd rfl (.inl rfl) (pe_fn GC hr (pa_cons (pv 0) pa_nil))))))
      (pss_one (ps_ret (pe_callB (call_minS rfl) (by rfl) T.b_min (by decide +kernel) (pa_cons (pv 0) (pa_cons (pe_revS (pv 0)) pa_nil)))))), ?_⟩
    refine ⟨_, rfl, l, rfl, hl, fun p hp => ?_⟩
    refine ⟨fun m σ H' => ∃ (t : L) (p : Addr), σ = [some (vS t), some (.ref p)] ∧ H' p = some (.lst ((creases t).map vI)) ∧ Same H H' ∧ Comes l t ∧ m = t.length,
      ⟨l.length, l, p, rfl, upd_same, Same.upd hp, .refl l, rfl⟩, ?_⟩
    rintro m σ H' ⟨t, p', rfl, hp', sm, ct, rfl⟩
    have lt := ct.len
    refine ⟨_, rfl, _, .inl ⟨_, SqL.of hp', rfl⟩, ?_⟩
    cases ec : creases t with
    | nil =>
      refine iteF ?_
      have nt : NF t := nf_iff.mpr ec
      refine ⟨_, rfl, _, rfl, t, rfl, big (by omega), _, _, rfl, ?_⟩
      have e : (if t.reverse < t then t.reverse else t) = least l := (least_of ct nt).symm
      rw [e]
      exact q H' sm
    | cons c r =>
      refine iteT ?_
      have hc : Cr t c := mem_creases.mp (by rw [ec]; exact List.mem_cons_self ..)
      rw [ec] at hp'
      refine ⟨fun σ' H2 => ∃ m', m' < t.length ∧ ∃ (t : L) (p : Addr), σ' = [some (vS t), some (.ref p)] ∧ H2 p = some (.lst ((creases t).map vI)) ∧ Same H H2 ∧ Comes l t ∧ m' = t.length, fun _ _ z => z, ?_⟩
      refine ⟨_, rfl, _, rfl, p', _, 0, vI c, rfl, rfl, SqL.of hp', atI_nat (j := 0) rfl, t, c, rfl, by omega, Nat.le_of_lt hc.2.1, ?_⟩
      have ll := left_len hc
      refine ⟨_, rfl, left t c, rfl, by omega, fun p2 hp2 => ?_⟩
      exact ⟨_, ll.1, left t c, p2, rfl, upd_same, Same.upd' sm hp2, ct.trans (.one hc), rfl⟩
/-- all strips that come of one, longer ones behind -/
def sp_all_of : Sp := fun vs H Q _ => ∃ (l : List Nat), vs = [vS l] ∧ l.length ≤ 100 ∧ ∀ H' p (xs : List L), H p = none → Same H H' → H' p = some (.lst (xs.map vS)) → xs.Nodup → (∀ t, t ∈ xs ↔ Comes l t) → xs.Pairwise (fun a b => a.length ≤ b.length) → Q (.ref p) H'
theorem n_bound {l : L} {fs : List L} (hl : l.length ≤ 100) (nd : fs.Nodup) (rc : ∀ t ∈ fs, Rch nxtF [l] t) : fs.length ≤ 10201 := by
  have h := found_le nd fun t ht => rch_comes.mp (rc t ht)
  have : (l.length + 1) * (l.length + 1) ≤ 101 * 101 := Nat.mul_le_mul (by omega) (by omega)
  omega
theorem ok_all_of (T : Txt K mg) : Fn P w K mg base CX0 3 "all_of" ["strip"] sp_all_of := by
  have GC := ok_creases (P := P) (w := w) (base := base) T
  have GL := ok_left_of (P := P) (w := w) (base := base) T
  refine T.d_all_of.fn fun f fd F => F.ok sc_all_of (fun vs H Q E h => ?_) (fun cdv A outer s H vs Q E hr h => ?_)
  · obtain ⟨l, rfl, _⟩ := h
    rfl
  · obtain ⟨l, rfl, hl, q⟩ := h
    have hu := hu_of hr
    refine ⟨_, pss_cons (ps_par (i := 1) (j := 2) (by rfl) sc_all_of.nd rfl rfl (by decide) rfl rfl (pa_cons (pe_disp (pps_cons (pv 0) pe_bl pps_nil) (by rfl) (by rfl) (fun z => by cases z) (by decide)) (pa_cons (pe_lst (pa_cons (pv 0) pa_nil)) pa_nil)) (by rfl))
      (pss_cons (ps_while PassesOwn.never (pt_truth (pv 2) (by intro _; rfl))
        (pss_cons (ps_set (i := 3) sc_all_of.nd rfl (.inl rfl) (pe_bm0 PySem.F.plainAttrs_list PySem.F.slot_list_pop PySem.F.type_list_pop mt_pop (pv 2)))
        (pss_one (ps_for PassesOwn.never rfl (pi_list (pe_fn GC hr (pa_cons (pv 3) pa_nil))) (pg_name (i := 4) sc_all_of.nd rfl (.inl rfl))
          (pss_cons (ps_set (i := 5) sc_all_of.nd rfl (.inl rfl) (pe_fn GL hr (pa_cons (pv 3) (pa_cons (pv 4) pa_nil))))
          (pss_one (ps_if (pt_cmp (pc_dnotin hu (pv 5) (pv 1))) (pss_cons (ps_dput hu (pv 1) (pv 5) pe_bl rfl)
            (pss_one (ps_expr (pe_bm PySem.F.plainAttrs_list PySem.F.slot_list_append PySem.F.type_list_append mt_append (pv 2) (pa_cons (pv 5) pa_nil))))) pss_nil)))))))
      (pss_one (ps_ret (pe_sortLen rfl T.b_sorted T.b_len (pa_cons (pv 1) pa_nil))))), ?_⟩
    intro d hd
    refine ⟨_, rfl, upd_same, [(Sum.inr (S l), .bl true)], rfl, (by show 1 ≤ 15; decide), ?_⟩
    have ed : upd (upd H d (.dK [])) d (.dK (mergeK [] [(Sum.inr (S l), V.bl true)])) = upd H d (.dK (kvF [l])) := upd_upd
    rw [ed]
    refine ⟨_, rfl, (by show 1 ≤ sizeLine; decide), fun r hrn => ?_⟩
    have ndr : d ≠ r := ne_of_none upd_same hrn
    have hrH : H r = none := by rw [upd_ne ndr.symm] at hrn; exact hrn
    refine ⟨_, _, rfl, ?_⟩
    refine ⟨fun m σ H' => ∃ (fs rs : List L) (v3 v4 v5 : Option V), σ = [some (vS l), some (.ref d), some (.ref r), v3, v4, v5] ∧ Same H H' ∧ H' d = some (.dK (kvF fs)) ∧ H' r = some (.lst (rs.map vS)) ∧ Dfs nxtF [l] fs rs ∧ rs.length ≤ fs.length ∧ m = 2 * (10201 - fs.length) + rs.length,
      ⟨_, [l], [l], none, none, none, rfl, Same.upd2 (Same.upd hd) hrH, by rw [upd_ne ndr, upd_same], upd_same, Dfs.start (by simp), Nat.le_refl _, rfl⟩, ?_⟩
    rintro m σ H' ⟨fs, rs, v3, v4, v5, rfl, sm, ed', er, D, hrf, rfl⟩
    refine ⟨_, rfl, _, .inl ⟨_, SqL.of er, rfl⟩, ?_⟩
    have nb := n_bound hl D.nd D.rc
    rcases List.eq_nil_or_concat rs with e | ⟨rs0, here, e⟩
    · subst e
      refine iteF ?_
      refine ⟨_, rfl, d, kvF fs, fs.map S, rfl, Rd.of ed', kvF_keys fs, fun y hy => ?_, fun ys p hys hlen hp => ?_⟩
      · obtain ⟨t, ht, rfl⟩ := List.mem_map.mp hy
        have := (rch_comes.mp (D.rc t ht)).len
        rw [S_len]
        exact big (by omega)
      · obtain ⟨zs, rfl, hz⟩ := perm_S hys
        refine q _ p zs (sm.free hp) (Same.upd' sm hp) (by rw [upd_same, map_vS]) (hz.symm.nodup D.nd) (fun t => ?_) ?_
        · rw [hz.mem_iff, D.done, rch_comes]
        · rw [List.pairwise_map] at hlen
          refine hlen.imp fun {a b} hab => ?_
          rw [S_len, S_len] at hab
          exact hab
    · rw [List.concat_eq_append] at e
      subst e
      have hne : ((rs0 ++ [here]).map vS).isEmpty = false := by rw [List.map_append]; cases rs0 <;> rfl
      rw [hne]
      refine iteT ?_
      refine ⟨fun σ' H2 => ∃ m', m' < 2 * (10201 - fs.length) + (rs0 ++ [here]).length ∧ ∃ (fs rs : List L) (v3 v4 v5 : Option V), σ' = [some (vS l), some (.ref d), some (.ref r), v3, v4, v5] ∧ Same H H2 ∧ H2 d = some (.dK (kvF fs)) ∧ H2 r = some (.lst (rs.map vS)) ∧ Dfs nxtF [l] fs rs ∧ rs.length ≤ fs.length ∧ m' = 2 * (10201 - fs.length) + rs.length, fun _ _ z => z, ?_⟩
      have hhere : Comes l here := rch_comes.mp (D.rc here (D.sub here (by simp)))
      have hlh := hhere.len
      refine ⟨_, rfl, .inl ⟨rfl, _, SqL.of er⟩, r, _, vS here, rfl, rfl, er, ?_, ?_⟩
      · rw [List.length_map, List.length_append, List.map_append]
        simp
      · have edl : ((rs0 ++ [here]).map vS).dropLast = rs0.map vS := by rw [List.map_append]; simp
        rw [edl]
        refine ⟨_, rfl, here, rfl, by omega, fun cp hcp => ?_⟩
        have ncr : r ≠ cp := ne_of_none upd_same hcp
        have hcp' : H' cp = none := by rw [upd_ne ncr.symm] at hcp; exact hcp
        have ncd : d ≠ cp := ne_of_none ed' hcp'
        refine ⟨cp, rfl, ⟨_, SqL.of upd_same⟩, ?_⟩
        refine for_list (K := K) (a := cp) (xs := (creases here).map vI) (fun i σ H3 => ∃ (fs' rs' : List L) (v4 v5 : Option V), σ = [some (vS l), some (.ref d), some (.ref r), some (vS here), v4, v5] ∧ Same H H3 ∧ H3 d = some (.dK (kvF fs')) ∧ H3 r = some (.lst (rs'.map vS)) ∧ H3 cp = some (.lst ((creases here).map vI)) ∧
            DfsIn nxtF [l] fs' rs' here i ∧ rs'.length ≤ fs'.length ∧ 2 * (10201 - fs'.length) + rs'.length < 2 * (10201 - fs.length) + (rs0 ++ [here]).length)
          ⟨fs, rs0, v4, v5, rfl, ?_, ?_, ?_, upd_same, D.pop, (by rw [List.length_append] at hrf; simp only [List.length_singleton] at hrf; omega), ?_⟩ ?_ ?_ ?_
        · exact Same.upd2 (Same.upd2 sm hrH) (sm.free hcp')
        · rw [upd_ne ncd, upd_ne ndr]
          exact ed'
        · rw [upd_ne ncr, upd_same]
        · rw [List.length_append]
          simp
        · rintro i σ H3 _ ⟨fs', rs', v4, v5, _, _, _, _, e5, _⟩
          exact SqL.of e5
        · rintro i x σ H3 hx ⟨fs', rs', v4, v5, rfl, sm3, e1, e2, e3, DI, hrf', hm⟩
          obtain ⟨c, hc, rfl⟩ : ∃ c, (creases here)[i]? = some c ∧ x = vI c := by
            rw [List.getElem?_map] at hx
            cases e : (creases here)[i]? with
            | none => rw [e] at hx; cases hx
            | some c => rw [e] at hx; exact ⟨c, rfl, (Option.some.inj hx).symm⟩
          have hcr : Cr here c := mem_creases.mp (List.mem_of_getElem? hc)
          have hnx : (nxtF here)[i]? = some (left here c) := by
            unfold nxtF
            rw [List.getElem?_map, hc]
            rfl
          have nb' := n_bound hl DI.nd DI.rc
          refine ⟨_, rfl, _, rfl, here, c, rfl, by omega, Nat.le_of_lt hcr.2.1, ?_⟩
          refine ⟨_, rfl, _, rfl, d, _, rfl, DGet.k (k := Sum.inr (S (left here c))) e1, _, rfl, ?_⟩
          rw [valV_kvF]
          by_cases hmem : left here c ∈ fs'
          · rw [if_pos hmem]
            refine iteF ?_
            exact ⟨fs', rs', _, _, rfl, sm3, e1, e2, e3, DI.old hnx hmem, hrf', hm⟩
          · rw [if_neg hmem]
            refine iteT ?_
            have hd3 : H d = none := hd
            refine ⟨_, rfl, _, rfl, d, _, rfl, DPut.k (k := Sum.inr (S (left here c))) e1 (by rw [kvF_len]; exact Nat.lt_of_le_of_lt nb' (by decide)), ?_⟩
            rw [putK_kvF hmem]
            refine ⟨_, rfl, .inl ⟨rfl, _, SqL.of (by rw [upd_ne ndr.symm]; exact e2)⟩, _, rfl, r, _, _, rfl, rfl, (by rw [upd_ne ndr.symm]; exact e2), ?_, ?_⟩
            · rw [List.length_map]
              exact Nat.lt_of_le_of_lt (Nat.le_trans hrf' nb') (by decide)
            · have D2 := DI.new hnx hmem
              have nb2 := n_bound hl D2.nd D2.rc
              rw [List.length_append] at nb2
              refine ⟨fs' ++ [left here c], rs' ++ [left here c], _, _, rfl, Same.upd2 (Same.upd2 sm3 hd) hrH, ?_, ?_, ?_, D2, (by rw [List.length_append, List.length_append]; omega), ?_⟩
              · rw [upd_ne ndr, upd_same]
              · rw [upd_same, List.map_append]
                rfl
              · rw [upd_ne ncr.symm, upd_ne ncd.symm]
                exact e3
              · rw [List.length_append, List.length_append]
                simp only [List.length_singleton] at nb2 ⊢
                omega
        · rintro σ H3 ⟨fs', rs', v4, v5, rfl, sm3, e1, e2, e3, DI, hrf', hm⟩
          exact ⟨_, hm, fs', rs', _, _, _, rfl, sm3, e1, e2, DI.skip (by unfold nxtF; rw [List.length_map, List.length_map]; exact Nat.le_refl _), hrf', rfl⟩
end
end Lk

namespace Lk
open PySem PySem.Spec PyProof.Rows L2
/-! ### all that come, in order -/
open Fo
section
variable {P : Program} {w : World} {K : PySem.W.Frag} {mg : Str → Option Value} {base : Heap}
/-- all strips that come, in order -/
def AllOf (l : L) (xs : List L) : Prop := Srt xs ∧ xs.Nodup ∧ ∀ t, t ∈ xs ↔ Comes l t
theorem AllOf.uniq {l : L} {xs ys : List L} (h : AllOf l xs) (k : AllOf l ys) : xs = ys := srt_uniq h.1 k.1 h.2.1 k.2.1 fun t => (h.2.2 t).trans (k.2.2 t).symm
def sp_comes : Sp := fun vs H Q _ => ∃ (l : List Nat), vs = [vS l] ∧ l.length ≤ 100 ∧ Sg l ∧ ∀ H' p (xs : List L), H p = none → Same H H' → H' p = some (.lst (xs.map vS)) → AllOf l xs → Q (.ref p) H'
theorem ok_comes_to (T : Txt K mg) : Fn P w K mg base CX0 4 "comes_to" ["strip"] sp_comes := by
  have GA := ok_all_of (P := P) (w := w) (base := base) T
  refine T.d_comes_to.fn fun f fd F => F.ok sc_comes_to (fun vs H Q E h => ?_) (fun cdv A outer s H vs Q E hr h => ?_)
  · obtain ⟨l, rfl, _⟩ := h
    rfl
  · obtain ⟨l, rfl, hl, sg, q⟩ := h
    refine ⟨_, pss_one (ps_ret (pe_callB cr_sortedSA (by rfl) T.b_sorted (by decide +kernel) (pa_cons (pe_fn GA hr (pa_cons (pv 0) pa_nil)) pa_nil))), ?_⟩
    refine ⟨_, rfl, l, rfl, hl, fun H1 p xs hp sm e nd hm pw => ?_⟩
    refine ⟨p, xs.map S, rfl, SqL.of (by rw [map_vS]; exact e), fun ys p2 hys hs hp2 => ?_⟩
    obtain ⟨zs, rfl, hz⟩ := perm_S hys
    exact q _ p2 zs (sm.free hp2) (Same.upd' sm hp2) (by rw [upd_same, map_vS]) ⟨srt_of hs, hz.symm.nodup nd, fun t => by rw [hz.mem_iff, hm]⟩
end
end Lk

namespace Lk
open PySem PySem.Spec PyProof.Rows L2
/-! ### best_row, folded_row -/
open Fo
section
variable {P : Program} {w : World} {K : PySem.W.Frag} {mg : Str → Option Value} {base : Heap}
theorem Same.of_but {r : Addr} {H H4 H3 : Hp} (s : Same H H4) (n : H r = none) (e : But r H4 H3) : Same H H3 := fun a o q => e a o (ne_of_none q n) (s a o q)
/-- what is found at r: pairs of a length and a row -/
structure FoundAt (H0 H : Hp) (r : Addr) (zs : List (Addr × Addr × List Nat)) : Prop where
  at_ : H r = some (.lst (zs.map fun z => V.ref z.1))
  tup : ∀ z ∈ zs, H z.1 = some (.tup [.int (z.2.2.length : Int), .ref z.2.1])
  row : ∀ z ∈ zs, H z.2.1 = some (.lst (z.2.2.map vI)) ∧ H0 z.2.1 = none ∧ z.2.1 ≠ r
theorem FoundAt.same {H0 H H' : Hp} {r : Addr} {zs : List (Addr × Addr × List Nat)} (f : FoundAt H0 H r zs) (s : Same H H') : FoundAt H0 H' r zs :=
  ⟨s _ _ f.at_, fun z hz => s _ _ (f.tup z hz), fun z hz => ⟨s _ _ (f.row z hz).1, (f.row z hz).2⟩⟩
/-- best rows known -/
def Known (few : Bool) (H0 H : Hp) (kvs : List (Key × V)) (ts : List L) : Prop := ∀ t ∈ ts, ∃ p, valV kvs (Sum.inr (S t) : Key) = some (.ref p) ∧ H0 p = none ∧ H p = some (.lst ((best few t).map vI))
theorem filt_take9 {α : Type} (p : α → Bool) (xs : List α) (i : Nat) (u : α) (h : xs[i]? = some u) : (xs.take (i + 1)).filter p = (xs.take i).filter p ++ (if p u then [u] else []) := by
  rw [List.take_add_one, h, List.filter_append]
  congr 1
  by_cases hp : p u <;> simp [hp]
def sp_best : Sp := fun vs H Q _ => ∃ (l : L) (few : Bool), vs = [vS l, .bl few] ∧ l.length ≤ 100 ∧ ∀ H' p, H p = none → Same H H' → H' p = some (.lst ((best few l).map vI)) → Q (.ref p) H'
theorem ok_best_row (T : Txt K mg) : Fn P w K mg base CX0 4 "best_row" ["strip", "shortest"] sp_best := by
  have G_all_of := ok_all_of (P := P) (w := w) (base := base) T
  have G_creases := ok_creases (P := P) (w := w) (base := base) T
  have G_left_of := ok_left_of (P := P) (w := w) (base := base) T
  refine T.d_best_row.fn fun f fd F => F.ok sc_best_row (fun vs H Q E h => ?_) (fun cdv A outer s H vs Q E hr h => ?_)
  · obtain ⟨l, few, rfl, _⟩ := h
    rfl
  · obtain ⟨l, few, rfl, hl, q⟩ := h
    have hu := hu_of hr
    refine ⟨_, pss_cons (ps_set (i := 2) sc_best_row.nd rfl (.inl rfl) pe_dnewK)
    (pss_cons (ps_for PassesOwn.never rfl (pi_list (pe_fn G_all_of hr (pa_cons (pv 0) pa_nil))) (pg_name (i := 3) sc_best_row.nd rfl (.inl rfl))
      (pss_cons (ps_set (i := 4) sc_best_row.nd rfl (.inl rfl) (pe_lst pa_nil))
      (pss_cons (ps_for PassesOwn.never rfl (pi_list (pe_fn G_creases hr (pa_cons (pv 3) pa_nil))) (pg_name (i := 5) sc_best_row.nd rfl (.inl rfl))
        (pss_cons (ps_set (i := 6) sc_best_row.nd rfl (.inl rfl) (pe_dget hu (pv 2) (pe_fn G_left_of hr (pa_cons (pv 3) (pa_cons (pv 5) pa_nil))) (fun _ _ => rfl)))
        (pss_one (ps_expr (pe_bm PySem.F.plainAttrs_list PySem.F.slot_list_append PySem.F.type_list_append mt_append (pv 4) (pa_cons (pe_tup (pa_cons (pe_op op_add (pe_callB call_len_seq (by rfl) T.b_len PySem.boot_len (pa_cons (pv 6) pa_nil)) pe_int) (pa_cons (pe_op op_cat (pe_lst (pa_cons (pv 5) pa_nil)) (pv 6)) pa_nil))) pa_nil))))))
      (pss_one (ps_if (pt_not (pt_truth (pv 4) (by intro _; rfl)))
        (pss_one (ps_dput hu (pv 2) (pv 3) (pe_lst pa_nil) rfl))
        (pss_cons (ps_set (i := 7) sc_best_row.nd rfl (.inr rfl) (pe_ifExp (pt_val (pv 1)) (pe_callB (cr_min rfl) (by rfl) T.b_min (by decide +kernel) (pa_cons (pe_lc (own := [("length", 8), ("row", 9)]) (g := gTup K 2 (gCons (gName 8) (gCons (gName 9) gNil))) (tt := tYes)  rfl sc_best_row.nd (pi_list (pv 4)) (blkOk_by (own := [("length", 8), ("row", 9)]) (N := ["strip", "shortest", "best", "here", "found", "crease", "rest", "many", "length", "row"]) (sc := defScope s_best_row) (by decide +kernel)) (fun _ _ _ _ _ => pg_tup rfl (pgs_cons (pg_name (i := 8) sc_best_row.nd rfl (Or.inl rfl)) (pgs_cons (pg_name (i := 9) sc_best_row.nd rfl (Or.inl rfl)) pgs_nil))) (fun _ _ _ _ _ => pts_nil) (fun _ _ _ _ _ => (pv 8))) pa_nil)) (pe_callB (cr_max rfl) (by rfl) T.b_max (by decide +kernel) (pa_cons (pe_lc (own := [("length", 8), ("row", 9)]) (g := gTup K 2 (gCons (gName 8) (gCons (gName 9) gNil))) (tt := tYes)  rfl sc_best_row.nd (pi_list (pv 4)) (blkOk_by (own := [("length", 8), ("row", 9)]) (N := ["strip", "shortest", "best", "here", "found", "crease", "rest", "many", "length", "row"]) (sc := defScope s_best_row) (by decide +kernel)) (fun _ _ _ _ _ => pg_tup rfl (pgs_cons (pg_name (i := 8) sc_best_row.nd rfl (Or.inl rfl)) (pgs_cons (pg_name (i := 9) sc_best_row.nd rfl (Or.inl rfl)) pgs_nil))) (fun _ _ _ _ _ => pts_nil) (fun _ _ _ _ _ => (pv 8))) pa_nil))))
        (pss_one (ps_dput hu (pv 2) (pv 3) (pe_callB (cr_minLL rfl hr.units) (by rfl) T.b_min (by decide +kernel) (pa_cons (pe_lc (own := [("length", 8), ("row", 9)]) (g := gTup K 2 (gCons (gName 8) (gCons (gName 9) gNil)))  rfl sc_best_row.nd (pi_list (pv 4)) (blkOk_by (own := [("length", 8), ("row", 9)]) (N := ["strip", "shortest", "best", "here", "found", "crease", "rest", "many", "length", "row"]) (sc := defScope s_best_row) (by decide +kernel)) (fun _ _ _ _ _ => pg_tup rfl (pgs_cons (pg_name (i := 8) sc_best_row.nd rfl (Or.inl rfl)) (pgs_cons (pg_name (i := 9) sc_best_row.nd rfl (Or.inl rfl)) pgs_nil))) (fun _ _ _ _ _ => pts_one (pt_cmpR op_eqI (pv 8) (pv 7) (nomark _))) (fun _ _ _ _ _ => (pv 9))) pa_nil)) rfl))))))))
    (pss_one (ps_ret (pe_dget hu (pv 2) (pv 0) (fun _ _ => rfl))))), ?_⟩
    intro d hd
    refine ⟨_, rfl, l, rfl, hl, fun H2 lp xs hlp sm2 hxs nd hmem pw => ?_⟩
    have ndl : d ≠ lp := fun z => by rw [← z, upd_same] at hlp; cases hlp
    have hd2 := sm2 _ _ upd_same
    have smH : Same H H2 := (Same.upd hd).trans sm2
    have nxl : xs.length ≤ 10201 := by
      have h1 := found_le nd fun t ht => (hmem t).mp ht
      have : (l.length + 1) * (l.length + 1) ≤ 101 * 101 := Nat.mul_le_mul (by omega) (by omega)
      omega
    refine ⟨lp, rfl, ⟨_, SqL.of hxs⟩, ?_⟩
    refine for_it (wk_list (K := K) vS xs) (fun i σ H' => Same H H' ∧ H' lp = some (.lst (xs.map vS)) ∧ ∃ (kvs : List (Key × V)) (v3 v4 v5 v6 v7 v8 v9 : Option V), σ = [some (vS l), some (.bl few), some (.ref d), v3, v4, v5, v6, v7, v8, v9] ∧ H' d = some (.dK kvs) ∧ kvs.length ≤ i ∧ Known few H H' kvs (xs.take i))
      ⟨smH, hxs, [], none, none, none, none, none, none, none, rfl, hd2, Nat.le_refl _, fun t ht => by simp at ht⟩ (fun i σ H' _ h => SqL.of h.2.1) ?_ ?_
    · rintro i x σ _ H' hi ⟨sm, hx, kvs, v3, v4, v5, v6, v7, v8, v9, rfl, hdk, hkl, kn⟩ ⟨rfl, here, hh, rfl⟩
      have hin : i < xs.length := (List.getElem?_eq_some_iff.mp hh).1
      have hcome := (hmem here).mp (List.mem_of_getElem? hh)
      have hhl := hcome.len
      have hbefore : ∀ c, Cr here c → left here c ∈ xs.take i := fun c hc => by
        have h1 : left here c ∈ xs := (hmem _).mpr (hcome.trans (.one hc))
        have h2 := (left_len hc).1
        have h1' : left here c ∈ xs.take i ++ xs.drop i := by
          rw [List.take_append_drop]
          exact h1
        rcases List.mem_append.mp h1' with h3 | h3
        · exact h3
        · exfalso
          have hp := pw
          rw [← List.take_append_drop i xs] at hp
          have hp2 := (List.pairwise_append.mp hp).2.1
          have ed : xs.drop i = here :: xs.drop (i + 1) := by
            rw [List.drop_eq_getElem_cons hin]
            congr 1
            exact (List.getElem?_eq_some_iff.mp hh).2
          rw [ed] at hp2 h3
          rcases List.mem_cons.mp h3 with h3 | h3
          · rw [h3] at h2
            exact Nat.lt_irrefl _ h2
          · have := (List.pairwise_cons.mp hp2).1 _ h3
            omega
      -- found = []
      refine ⟨Nat.zero_le _, fun r hr0 => ?_⟩
      have hrH : H r = none := sm.free hr0
      have ndr : d ≠ r := ne_of_none hdk hr0
      have nlr : lp ≠ r := ne_of_none hx hr0
      refine ⟨_, rfl, here, rfl, by omega, fun cp hcp => ?_⟩
      have ncr : r ≠ cp := ne_of_none upd_same hcp
      have hcp' : H' cp = none := by rw [upd_ne ncr.symm] at hcp; exact hcp
      obtain ⟨H4, eH4⟩ : ∃ H4, H4 = upd (upd H' r (.lst [])) cp (.lst ((creases here).map vI)) := ⟨_, rfl⟩
      have hdc : d ≠ cp := ne_of_none hdk hcp'
      have hlc : lp ≠ cp := ne_of_none hx hcp'
      have d4 : H4 d = some (.dK kvs) := by rw [eH4, upd_ne hdc, upd_ne ndr]; exact hdk
      have l4 : H4 lp = some (.lst (xs.map vS)) := by rw [eH4, upd_ne hlc, upd_ne nlr]; exact hx
      have r4 : H4 r = some (.lst []) := by rw [eH4, upd_ne ncr, upd_same]
      have c4 : H4 cp = some (.lst ((creases here).map vI)) := by rw [eH4, upd_same]
      have sm' : Same H' H4 := by rw [eH4]; exact Same.upd' (Same.upd hr0) hcp
      have kn4 : Known few H H4 kvs (xs.take i) := fun t ht => by
        obtain ⟨p, p1, p2, p3⟩ := kn t ht
        exact ⟨p, p1, p2, sm' _ _ p3⟩
      have knr : ∀ t ∈ xs.take i, ∀ p, valV kvs (Sum.inr (S t) : Key) = some (.ref p) → p ≠ r := fun t ht p hp e => by
        obtain ⟨p', p1, p2, p3⟩ := kn t ht
        rw [p1] at hp
        have e2 : p' = p := V.ref.inj (Option.some.inj hp)
        rw [e2, e, hr0] at p3
        cases p3
      rw [← eH4]
      clear eH4
      refine ⟨cp, rfl, ⟨_, SqL.of c4⟩, ?_⟩
      refine for_it (wk_list (K := K) vI (creases here)) (fun j σ H3 => But r H4 H3 ∧ ∃ (zs : List (Addr × Addr × List Nat)) (v5 v6 : Option V), σ = [some (vS l), some (.bl few), some (.ref d), some (vS here), some (.ref r), v5, v6, v7, v8, v9] ∧ FoundAt H H3 r zs ∧ zs.map (·.2.2) = ((creases here).take j).map fun c => c :: best few (left here c))
        ⟨But.refl _ _, [], v5, v6, rfl, ⟨r4, (fun _ z => nomatch z), (fun _ z => nomatch z)⟩, rfl⟩ (fun j σ H3 _ h => SqL.of (h.1 _ _ ncr.symm c4)) ?_ ?_
      · rintro j x σ _ H3 hj ⟨bt, zs, v5, v6, rfl, fo, hz⟩ ⟨rfl, c, hc, rfl⟩
        have hcr : Cr here c := mem_creases.mp (List.mem_of_getElem? hc)
        obtain ⟨p, p1, p2, p3⟩ := kn4 (left here c) (hbefore c hcr)
        have p4 := bt _ _ (knr _ (hbefore c hcr) p p1) p3
        have d3 := bt _ _ ndr d4
        have bl := best_len few (left here c)
        have ll := left_len hcr
        have zl : zs.length ≤ 1000 := by
          have := congrArg List.length hz
          rw [List.length_map, List.length_map, List.length_take] at this
          have h5 := creases_len here
          omega
        refine ⟨_, rfl, _, rfl, _, rfl, here, c, rfl, by omega, Nat.le_of_lt hcr.2.1, d, .ref p, rfl, p1 ▸ DGet.k (k := Sum.inr (S (left here c))) d3, ?_⟩
        refine ⟨_, rfl, .inl ⟨rfl, _, SqL.of fo.at_⟩, _, rfl, p, _, rfl, .inl (SqL.of p4), _, _, rfl, rfl, _, rfl, (by show 1 ≤ sizeLine; decide), fun q1 hq1 => ?_⟩
        have hp1 := ne_of_none p4 hq1
        refine ⟨_, rfl, q1, p, _, _, rfl, rfl, upd_same, by rw [upd_ne hp1]; exact p4, ?_, fun q2 hq2 => ?_⟩
        · rw [List.length_map]
          exact big (show 1 + _ ≤ 1000000 by omega)
        refine ⟨(by show 2 ≤ sizeLine; decide), fun q3 hq3 => ?_⟩
        have sA := Same.upd' (o := .tup [.int (((best few (left here c)).map vI).length + 1), .ref q2]) (Same.upd' (o := .lst ([vI c] ++ (best few (left here c)).map vI)) (Same.upd (o := .lst [vI c]) hq1) hq2) hq3
        have n23 : q2 ≠ q3 := ne_of_none upd_same hq3
        have f3 := fo.same sA
        have s3H : Same H H3 := Same.of_but (sm.trans sm') hrH bt
        have hq2H : H q2 = none := (s3H.trans (Same.upd hq1)).free hq2
        have hq2r : q2 ≠ r := fun z => by
          have := (Same.upd (o := .lst [vI c]) hq1) _ _ fo.at_
          rw [z, this] at hq2
          cases hq2
        have hq3r : q3 ≠ r := fun z => by
          have := (Same.upd' (o := .lst ([vI c] ++ (best few (left here c)).map vI)) (Same.upd (o := .lst [vI c]) hq1) hq2) _ _ fo.at_
          rw [z, this] at hq3
          cases hq3
        refine ⟨r, _, _, rfl, rfl, f3.at_, by rw [List.length_map]; exact small1000 (by omega), ?_⟩
        refine ⟨fun a o n e => by rw [upd_ne n]; exact sA _ _ (bt a o n e), zs ++ [(q3, q2, c :: best few (left here c))], _, _, rfl, ⟨by rw [upd_same, List.map_append]; rfl, fun z hz' => ?_, fun z hz' => ?_⟩, ?_⟩
        · rcases List.mem_append.mp hz' with hz' | hz'
          · have := f3.tup z hz'
            rw [upd_ne fun e => by rw [e, f3.at_] at this; cases this]
            exact this
          · rw [List.mem_singleton.mp hz']
            show (upd _ r _) q3 = _
            rw [upd_ne hq3r, upd_same, List.length_map, List.length_cons]
            rfl
        · rcases List.mem_append.mp hz' with hz' | hz'
          · obtain ⟨h1, h2, h3⟩ := f3.row z hz'
            exact ⟨by rw [upd_ne h3]; exact h1, h2, h3⟩
          · rw [List.mem_singleton.mp hz']
            refine ⟨?_, hq2H, hq2r⟩
            show (upd _ r _) q2 = _
            rw [upd_ne hq2r, upd_ne n23, upd_same]
            rfl
        · rw [List.map_append, hz, List.take_add_one, hc, List.map_append]
          rfl
      · rintro σ H3 ⟨bt, zs, v5, v6, rfl, fo, hz⟩
        rw [List.take_length] at hz
        have hzc : zs.map (·.2.2) = cands few here := hz
        have s3H : Same H H3 := Same.of_but (sm.trans sm') hrH bt
        have d3 := bt _ _ ndr d4
        have l3 := bt _ _ nlr l4
        have kn3 : Known few H H3 kvs (xs.take i) := fun t ht => by
          obtain ⟨p, p1, p2, p3⟩ := kn4 t ht
          exact ⟨p, p1, p2, bt _ _ (knr t ht p p1) p3⟩
        have hdH : H d = none := hd
        have zl : zs.length ≤ 1000 := by
          have := congrArg List.length hz
          rw [List.length_map, List.length_map] at this
          have h5 := creases_len here
          omega
        clear bt kn4 c4 r4 l4 d4 sm'
        -- the end of a turn
        have fin : ∀ (H5 : Hp) (p : Addr), Same H3 H5 → H p = none → H5 p = some (.lst ((best few here).map vI)) → Known few H (upd H5 d (.dK (putK kvs (Sum.inr (S here) : Key) (.ref p)))) (putK kvs (Sum.inr (S here) : Key) (.ref p)) (xs.take (i + 1)) := fun H5 p s5 hp hp5 t ht => by
          have d5 := s5 _ _ d3
          rw [List.take_add_one, hh] at ht
          have nep : ∀ a ys, H5 a = some (.lst ys) → (upd H5 d (.dK (putK kvs (Sum.inr (S here) : Key) (.ref p)))) a = some (.lst ys) := fun a ys e => by
            rw [upd_ne fun z => by rw [z, d5] at e; cases e]
            exact e
          by_cases e : t = here
          · subst e
            exact ⟨p, by rw [valV_put, if_pos rfl], hp, nep _ _ hp5⟩
          · rcases List.mem_append.mp ht with ht | ht
            · obtain ⟨p', p1, p2, p3⟩ := kn3 t ht
              exact ⟨p', by rw [valV_put, if_neg fun z => e (inrS.mp z)]; exact p1, p2, nep _ _ (s5 _ _ p3)⟩
            · exact absurd (by simpa using ht) e
        have klen : ∀ v, (putK kvs (Sum.inr (S here) : Key) v).length ≤ i + 1 := fun v => by
          unfold putK
          split
          · rw [List.length_map]; omega
          · rw [List.length_append]; simp only [List.length_singleton]; omega
        have kls : kvs.length < sizeLine := Nat.lt_of_le_of_lt (show _ ≤ 10201 by omega) (by decide)
        refine ⟨_, rfl, _, .inl ⟨_, SqL.of fo.at_, rfl⟩, ?_⟩
        cases zs with
        | nil =>
          refine iteT ?_
          have hcz : creases here = [] := List.map_eq_nil_iff.mp hz.symm
          refine ⟨Nat.zero_le _, fun p hp => ?_⟩
          have hb := best_nil few hcz
          refine ⟨_, rfl, _, rfl, d, _, rfl, DPut.k (k := Sum.inr (S here)) (by rw [upd_ne (ne_of_none d3 hp)]; exact d3) kls, ?_⟩
          have s5 := Same.upd (o := .lst []) hp
          refine ⟨Same.upd2 (s3H.trans s5) hdH, by rw [upd_ne ndl.symm, upd_ne (ne_of_none l3 hp)]; exact l3, _, _, _, _, _, _, _, _, rfl, upd_same, klen _, fin _ p s5 (s3H.free hp) (by rw [upd_same, hb]; rfl)⟩
        | cons z0 zr =>
          refine iteF ?_
          have hcz : creases here ≠ [] := fun e => by rw [e] at hz; cases hz
          generalize hzs : z0 :: zr = zs at fo hz hzc zl ⊢
          have zpos : 0 < zs.length := by rw [← hzs]; exact Nat.zero_lt_succ _
          -- many
          refine ⟨_, rfl, _, rfl, ?_⟩
          refine ite2 (fun hf => ?_) (fun hf => ?_)
          all_goals
            refine ⟨_, rfl, r, rfl, ⟨_, SqL.of fo.at_⟩, fun D hD => ?_⟩
            have hDH : H D = none := s3H.free hD
            refine it_gen (wk_list (K := K) (fun z : Addr × Addr × List Nat => V.ref z.1) zs) (fun j H6 => Same H3 H6 ∧ H6 D = some (.lst (((zs.take j).map fun z => (z.2.2.length : Int)).map V.int))) ⟨Same.upd hD, by rw [upd_same]; rfl⟩ (fun j H6 _ h => SqL.of (fo.same h.1).at_) ?_ ?_
            · rintro j x _ H6 hj ⟨s6, eD⟩ ⟨rfl, z, hz9, rfl⟩
              have hzm := List.mem_of_getElem? hz9
              refine ⟨z.1, _, rfl, SqT.of ((fo.same s6).tup z hzm), rfl, _, _, rfl, _, _, rfl, rfl, rfl, _, rfl, _, eD, ?_, Same.upd2 s6 hD, ?_⟩
              · rw [List.length_map, List.length_map, List.length_take]
                exact Nat.lt_of_le_of_lt (show _ ≤ 1000 by omega) (by decide)
              · rw [upd_same, List.take_add_one, hz9, List.map_append, List.map_append]
                rfl
            rintro H6 ⟨s6, eD⟩
            rw [List.take_length] at eD
            refine ⟨D, _, rfl, SqL.of eD, by rw [List.length_map]; exact zpos, fun m hm hle => ?_⟩
            obtain ⟨zm, hzm, rfl⟩ := List.mem_map.mp hm
            have hch : ∀ r, r ∈ (cands few here).filter (fun x => decide (x.length = zm.2.2.length)) → (∀ x ∈ (cands few here).filter (fun x => decide (x.length = zm.2.2.length)), ¬ x < r) → r = best few here := fun r h3 h4 => by
              refine Best.uniq (best_choice ⟨zm.2.2, ?_, rfl⟩ (fun x hx9 => ?_) h3 h4) (best_best few hcz)
              · rw [← hzc]
                exact List.mem_map.mpr ⟨zm, hzm, rfl⟩
              · rw [← hzc] at hx9
                obtain ⟨zx, hzx, rfl⟩ := List.mem_map.mp hx9
                have := hle _ (List.mem_map.mpr ⟨zx, hzx, rfl⟩)
                first
                  | rw [if_pos hf]; omega
                  | rw [if_neg hf]; omega
            have hzm2 : zm.2.2 ∈ (cands few here).filter (fun x => decide (x.length = zm.2.2.length)) := List.mem_filter.mpr ⟨by rw [← hzc]; exact List.mem_map.mpr ⟨zm, hzm, rfl⟩, decide_eq_true rfl⟩
            generalize zm.2.2.length = m at hch hzm2 ⊢
            clear hle hm hf eD
            -- min of the rows
            refine ⟨_, rfl, r, rfl, ⟨_, SqL.of (fo.same s6).at_⟩, fun D2 hD2 => ?_⟩
            refine it_gen (wk_list (K := K) (fun z : Addr × Addr × List Nat => V.ref z.1) zs) (fun j H7 => Same H3 H7 ∧ H7 D2 = some (.lst (((zs.take j).filter fun z => decide (z.2.2.length = m)).map fun z => V.ref z.2.1))) ⟨Same.upd' s6 hD2, by rw [upd_same]; rfl⟩ (fun j H7 _ h => SqL.of (fo.same h.1).at_) ?_ ?_
            · rintro j x _ H7 hj ⟨s7, eD⟩ ⟨rfl, z, hz9, rfl⟩
              have hzm9 := List.mem_of_getElem? hz9
              refine ⟨z.1, _, rfl, SqT.of ((fo.same s7).tup z hzm9), rfl, _, _, rfl, _, _, rfl, rfl, rfl, _, rfl, _, rfl, _, _, rfl, rfl, _, rfl, ?_⟩
              rw [filt_take9 _ _ _ _ hz9]
              dsimp only
              by_cases ec : z.2.2.length = m
              · rw [show decide ((z.2.2.length : Int) = (m : Int)) = true from decide_eq_true (by omega), decide_eq_true ec]
                refine iteT ?_
                refine ⟨_, rfl, _, eD, ?_, Same.upd2 s7 (s6.free hD2), ?_⟩
                · rw [List.length_map]
                  exact Nat.lt_of_le_of_lt (Nat.le_trans (List.length_filter_le ..) (Nat.le_trans (by rw [List.length_take]; exact Nat.min_le_right _ _) zl)) (by decide)
                · rw [upd_same, List.map_append]
                  rfl
              · rw [show decide ((z.2.2.length : Int) = (m : Int)) = false from decide_eq_false (by omega), decide_eq_false ec]
                refine iteF ⟨s7, ?_⟩
                rw [eD]
                simp
            rintro H7 ⟨s7, eD⟩
            rw [List.take_length] at eD
            have hfm : (cands few here).filter (fun x => decide (x.length = m)) = (zs.filter fun z => decide (z.2.2.length = m)).map (·.2.2) := by
              rw [← hzc, List.filter_map]
              rfl
            have f7 := fo.same s7
            refine ⟨D2, (zs.filter fun z => decide (z.2.2.length = m)).map (·.2.1), (zs.filter fun z => decide (z.2.2.length = m)).map (·.2.2), rfl, SqL.of (by rw [eD, List.map_map]; rfl), ⟨by rw [List.length_map, List.length_map], fun k b c hb hc9 => ?_⟩, ?_, fun k b c hb hc9 hmin => ?_⟩
            · rw [List.getElem?_map] at hb hc9
              cases ew : (zs.filter fun z => decide (z.2.2.length = m))[k]? with
              | none => rw [ew] at hb; cases hb
              | some w =>
                rw [ew] at hb hc9
                rw [← Option.some.inj hb, ← Option.some.inj hc9]
                exact SqL.of (f7.row w (List.mem_filter.mp (List.mem_of_getElem? ew)).1).1
            · rw [← hfm]
              intro e
              rw [e] at hzm2
              cases hzm2
            · rw [List.getElem?_map] at hb hc9
              cases ew : (zs.filter fun z => decide (z.2.2.length = m))[k]? with
              | none => rw [ew] at hb; cases hb
              | some w =>
                rw [ew] at hb hc9
                have hb' : w.2.1 = b := Option.some.inj hb
                have hc' : w.2.2 = c := Option.some.inj hc9
                have hwm := List.mem_of_getElem? ew
                obtain ⟨g1, g2, _⟩ := f7.row w (List.mem_filter.mp hwm).1
                have hcb : c = best few here := hch c (by rw [hfm, ← hc']; exact List.mem_map.mpr ⟨w, hwm, rfl⟩) (by rw [hfm]; exact hmin)
                rw [hb'] at g1 g2
                rw [hc', hcb] at g1
                refine ⟨_, rfl, _, rfl, d, _, rfl, DPut.k (k := Sum.inr (S here)) (s7 _ _ d3) kls, ?_⟩
                exact ⟨Same.upd2 (s3H.trans s7) hdH, by rw [upd_ne ndl.symm]; exact s7 _ _ l3, _, _, _, _, _, _, _, _, rfl, upd_same, klen _, fin _ b s7 g2 g1⟩
    · rintro σ H' ⟨sm, hx, kvs, v3, v4, v5, v6, v7, v8, v9, rfl, hdk, hkl, kn⟩
      rw [List.take_length] at kn
      obtain ⟨p, p1, p2, p3⟩ := kn l ((hmem l).mpr (.refl l))
      exact ⟨_, rfl, _, rfl, d, .ref p, rfl, p1 ▸ DGet.k (k := Sum.inr (S l)) hdk, q H' p p2 sm p3⟩
def sp_folds (few : Bool) : Sp := fun vs H Q _ => ∃ (l : L), vs = [vS l] ∧ l.length ≤ 100 ∧ ∀ H' p, H p = none → Same H H' → H' p = some (.lst ((best few l).map vI)) → Q (.ref p) H'
theorem ok_fewest_folds (T : Txt K mg) : Fn P w K mg base CX0 5 "fewest_folds" ["strip"] (sp_folds true) := by
  have G_best_row := ok_best_row (P := P) (w := w) (base := base) T
  refine T.d_fewest_folds.fn fun f fd F => F.ok sc_fewest_folds (fun vs H Q E h => ?_) (fun cdv A outer s H vs Q E hr h => ?_)
  · obtain ⟨l, rfl, _⟩ := h
    rfl
  · obtain ⟨l, rfl, hl, q⟩ := h
    refine ⟨_, pss_one (ps_ret (pe_fn G_best_row hr (pa_cons (pv 0) (pa_cons pe_bl pa_nil)))), ?_⟩
    exact ⟨_, rfl, l, true, rfl, hl, q⟩
theorem ok_most_folds (T : Txt K mg) : Fn P w K mg base CX0 5 "most_folds" ["strip"] (sp_folds false) := by
  have G_best_row := ok_best_row (P := P) (w := w) (base := base) T
  refine T.d_most_folds.fn fun f fd F => F.ok sc_most_folds (fun vs H Q E h => ?_) (fun cdv A outer s H vs Q E hr h => ?_)
  · obtain ⟨l, rfl, _⟩ := h
    rfl
  · obtain ⟨l, rfl, hl, q⟩ := h
    refine ⟨_, pss_one (ps_ret (pe_fn G_best_row hr (pa_cons (pv 0) (pa_cons pe_bl pa_nil)))), ?_⟩
    exact ⟨_, rfl, l, false, rfl, hl, q⟩
theorem rowOk_snoc {s t u : L} {r : List Nat} {c : Nat} (h : RowOk s r t) (hc : Cr t c) (e : left t c = u) : RowOk s (r ++ [c]) u := by
  induction r generalizing s with
  | nil => rw [show s = t from h]; exact ⟨hc, e⟩
  | cons d r ih => exact ⟨h.1, ih h.2⟩
def sp_folded_row (K : PySem.W.Frag) : Sp := fun vs H Q _ => ∃ (l t : L) (r : List Nat) (a : Addr), vs = [vS l, .ref a] ∧ l.length ≤ 1000 ∧ SqL K H a (r.map vI) ∧ RowOk l r t ∧ ∀ H', Same H H' → Q (vS t) H'
end
end Lk

namespace Lk
open PySem PySem.Spec PyProof.Rows L2
/-! ### of every law -/
open Fo
theorem same_but {b : Addr} {H H1 H2 : Hp} (s : Same H H1) (n : H b = none) (e : But b H1 H2) : Same H H2 := fun a o q => e a o (ne_of_none q n) (s a o q)
def sp_law (K : PySem.W.Frag) : Sp := fun vs H Q _ => ∃ (a : Addr) (ns : List Int), vs = [.ref a] ∧ SqL K H a (ns.map V.int) ∧ ns.length ≤ 63 ∧ ∀ H', Q (.bl true) H'
theorem map_get {α : Type} {f : α → V} {xs : List α} {i : Nat} {x : V} (h : (xs.map f)[i]? = some x) : ∃ u, xs[i]? = some u ∧ x = f u := ym_of h
theorem cutV_to {α : Type} (f : α → V) (xs : List α) (n : Nat) : cutV (xs.map f) none (some (n : Int)) = (xs.take n).map f := by
  unfold cutV
  rw [HT.sIx_none, HT.sIx_nat, List.drop_zero, Nat.sub_zero, List.length_map, List.map_take]
  by_cases h : n ≤ xs.length
  · rw [Nat.min_eq_left h]
  · rw [Nat.min_eq_right (by omega), List.take_of_length_le (by rw [List.length_map]; exact Nat.le_refl _), List.take_of_length_le (by rw [List.length_map]; omega)]
/-- x if c else y, both constants -/
theorem ite_tC {c : Bool} {σ : L2.St} {H : Hp} {Q : VK} {x y : V} (h : ∀ v, v = x ∨ v = y → Q v H) : if c = true then tC x σ H Q else tC y σ H Q := by
  cases c
  · exact h y (.inr rfl)
  · exact h x (.inl rfl)
theorem ite_pick {c : Bool} {σ : L2.St} {H : Hp} {Q : VK} {x y v : V} (hv : v = if c = true then x else y) (h : Q v H) : if c = true then tC x σ H Q else tC y σ H Q := by
  subst hv
  cases c
  · exact h
  · exact h
section
variable {X : Cx} {x : Str} {ps : List Str} {k j : Nat} {sp : Sp} {p pos : Pos}
/-- x(), nothing raised -/
theorem pe_fn0 (F : Fn X.prog X.w X.K X.mg X.base CX0 k x ps sp) (hr : Room j X.A) (hj : k ≤ j := by decide) (hg : Gl X x := by rfl) (hdb : (x == ("__debug__" : Str)) = false := by decide) :
    PE X (.Call (.Name x p) [] [] pos) (fun _ H Q => sp [] H Q E0) := by
  obtain ⟨f, fd, a, b, c, d⟩ := F
  have z := pe_call0 (E := E0) (p := p) (pos := pos) d (hr.mono hj) hg a b c .nil pass0 hdb
  exact ⟨fun pins s σ H Q I h => z.run pins s σ H Q I h⟩
end
end Lk

namespace Lk
open PySem PySem.Spec PyProof.Rows L2
/-! ### other signs -/
open Fo
def subst (sg : L) (c : Nat) : Nat := sg.getD (c - 97) 0
theorem flat_one (l : L) : (l.map fun c => [c]).flatten = l := by
  induction l with
  | nil => rfl
  | cons c l ih => rw [List.map_cons, List.flatten_cons, ih]; rfl
theorem occ_sign : ∀ j, j < 4 → Builtin.Str.occurrences ("abcd" : Str) (S [97 + j]) 0 ("abcd" : Str).length 1 = [j] := by decide +kernel
/-- what a comprehension over xs has laid at D before turn i -/
def PF {α : Type} (H0 : Hp) (D : Addr) (xs : List α) (p : α → Bool) (h : α → V) (i : Nat) (H : Hp) : Prop := Same H0 H ∧ H D = some (.lst (((xs.take i).filter p).map h))
theorem PF.init {α : Type} {H0 : Hp} {D : Addr} {xs : List α} {p : α → Bool} {h : α → V} (hD : H0 D = none) : PF H0 D xs p h 0 (upd H0 D (.lst [])) := ⟨Same.upd hD, upd_same⟩
theorem PF.acc {α : Type} {H0 H H4 : Hp} {D : Addr} {xs : List α} {p : α → Bool} {h : α → V} {i : Nat} {u : α} (f : PF H0 D xs p h i H) (hu : xs[i]? = some u) (hp : p u = true) (s : Same H H4) (hD : H0 D = none) (hl : xs.length ≤ 5000) :
    ∃ acc, H4 D = some (.lst acc) ∧ acc.length < sizeLine ∧ PF H0 D xs p h (i + 1) (upd H4 D (.lst (acc ++ [h u]))) := by
  refine ⟨_, s _ _ f.2, ?_, ?_, ?_⟩
  · rw [List.length_map]
    have h1 := List.length_filter_le p (xs.take i)
    rw [List.length_take] at h1
    rw [sizeLine_eq]
    omega
  · intro c o e
    rw [upd_ne (ne_of_none e hD)]
    exact s _ _ (f.1 _ _ e)
  · rw [upd_same, List.take_add_one, hu, List.filter_append, List.map_append]
    have e : (Option.toList (some u)).filter p = [u] := List.filter_cons_of_pos (p := p) hp
    rw [e]
    rfl
theorem PF.rej {α : Type} {H0 H H4 : Hp} {D : Addr} {xs : List α} {p : α → Bool} {h : α → V} {i : Nat} {u : α} (f : PF H0 D xs p h i H) (hu : xs[i]? = some u) (hp : p u = false) (s : Same H H4) : PF H0 D xs p h (i + 1) H4 := by
  refine ⟨f.1.trans s, ?_⟩
  rw [s _ _ f.2, List.take_add_one, hu, List.filter_append]
  have e : (Option.toList (some u)).filter p = [] := List.filter_cons_of_neg (p := p) (by rw [hp]; decide)
  rw [e, List.append_nil]
theorem PF.done {α : Type} {H0 H : Hp} {D : Addr} {xs : List α} {p : α → Bool} {h : α → V} (f : PF H0 D xs p h xs.length H) : H D = some (.lst ((xs.filter p).map h)) := by
  have := f.2
  rw [List.take_length] at this
  exact this
section
variable {P : Program} {w : World} {K : PySem.W.Frag} {mg : Str → Option Value} {base : Heap}
theorem ok__law_called (T : Txt K mg) : Fn P w K mg base CX0 1 "_law_called" ["text", "signs"] (fun vs H Q _ => ∃ (l sg : L), vs = [vS l, vS sg] ∧ l.length ≤ 1000 ∧ Fo.Sg l ∧ sg.length = 4 ∧ ∀ H', Same H H' → Q (vS (l.map (subst sg))) H') := by

  refine T.d__law_called.fn fun f fd F => F.ok sc__law_called (fun vs H Q E h => ?_) (fun cdv A outer s H vs Q E hr h => ?_)
  · obtain ⟨l, sg, rfl, _⟩ := h
    rfl
  · obtain ⟨l, sg, rfl, hl, hs, h4, q⟩ := h
    refine ⟨_, pss_one (ps_ret (pe_joinS pe_str (pe_lc (own := [("sign", 2)]) (g := gName 2) (tt := tYes)  rfl sc__law_called.nd (pi_str (pv 0)) (blkOk_by (own := [("sign", 2)]) (N := ["text", "signs", "sign"]) (sc := defScope s__law_called) (by decide +kernel)) (fun _ _ _ _ _ => pg_name (i := 2) sc__law_called.nd rfl (Or.inl rfl)) (fun _ _ _ _ _ => pts_nil) (fun _ _ _ _ _ => (pe_ix ix_S (pv 1) (pe_m1 PySem.F.slot_str_index PySem.F.type_str_index mt_sindex pe_str (pv 2)) (fun _ _ => rfl)))))), ?_⟩
    refine ⟨⟨S [], rfl⟩, _, rfl, S l, rfl, fun D hD => ?_⟩
    refine lc_str (l := l) (fun i H2 => H2 = upd H D (.lst (((l.take i).map fun c => [subst sg c]).map vS))) rfl ?_ ?_
    · rintro i c H2 hc rfl
      have hcs := hs c (List.mem_of_getElem? hc)
      refine ⟨rfl, _, rfl, ⟨_, rfl⟩, _, rfl, "abcd", S [c], c - 97, [], rfl, rfl, ?_, ?_⟩
      · have := occ_sign (c - 97) (by omega)
        rw [show 97 + (c - 97) = c by omega] at this
        exact this
      · refine ⟨sg, ((c - 97 : Nat) : Int), sg[c - 97], rfl, rfl, by omega, atI_nat (List.getElem?_eq_getElem (by omega)), ?_⟩
        refine ⟨_, upd_same, ?_, ?_⟩
        · rw [List.length_map, List.length_map, List.length_take]
          exact small1000 (by omega)
        · rw [upd_upd, List.take_add_one, hc, List.map_append, List.map_append]
          have e : subst sg c = sg[c - 97] := by
            unfold subst
            rw [List.getD_eq_getElem?_getD, List.getElem?_eq_getElem (by omega)]
            rfl
          show _ = upd H D (.lst (_ ++ [vS [subst sg c]]))
          rw [e]
    · rintro H2 rfl
      rw [List.take_length]
      have e1 : ((l.map fun c => [subst sg c]).map (·.length)).sum = l.length := by
        have := flat_one (l.map (subst sg))
        rw [List.map_map] at this
        rw [← List.length_flatten]
        show ((l.map ((fun c => [c]) ∘ subst sg)).flatten).length = _
        rw [this, List.length_map]
      refine ⟨[], D, l.map fun c => [subst sg c], rfl, rfl, .inl (SqL.of upd_same), by rw [e1]; simp only [List.length_nil, Nat.mul_zero]; omega, ?_⟩
      rw [joinL_flat]
      have e2 : (l.map fun c => [subst sg c]).flatten = l.map (subst sg) := by
        have := flat_one (l.map (subst sg))
        rw [List.map_map] at this
        exact this
      rw [e2]
      exact q _ (Same.upd hD)
end
end Lk

namespace Lk
open PySem PySem.Spec PyProof.Rows L2
/-! ### the law -/
open Fo
theorem both_rev1 {s t : L} (h : Comes s t ∨ Comes s t.reverse) : Comes s.reverse t ∨ Comes s.reverse t.reverse := by
  rcases h with h | h
  · obtain ⟨u, h1, h2 | h2⟩ := h.al (s' := s.reverse) (.inr rfl)
    · exact .inl (h2 ▸ h1)
    · exact .inr (h2 ▸ h1)
  · obtain ⟨u, h1, h2 | h2⟩ := h.al (s' := s.reverse) (.inr rfl)
    · exact .inr (h2 ▸ h1)
    · rw [List.reverse_reverse] at h2
      exact .inl (h2 ▸ h1)
theorem both_rev {s t : L} : (Comes s t ∨ Comes s t.reverse) ↔ (Comes s.reverse t ∨ Comes s.reverse t.reverse) :=
  ⟨both_rev1, fun h => by have := both_rev1 h; rw [List.reverse_reverse] at this; exact this⟩
/-- all that come, and these turned about -/
def BothOf (l : L) (zs : List L) : Prop := Srt zs ∧ zs.Nodup ∧ ∀ t, t ∈ zs ↔ Comes l t ∨ Comes l t.reverse
theorem BothOf.uniq {l : L} {xs ys : List L} (h : BothOf l xs) (k : BothOf l.reverse ys) : ys = xs := srt_uniq k.1 h.1 k.2.1 h.2.1 fun t => (k.2.2 t).trans (both_rev.symm.trans (h.2.2 t).symm)
theorem bothOf_of {l : L} {xs : List L} {ys : List Str} (hx : AllOf l xs) (h1 : sortedS ys = true) (h2 : ys.Nodup) (h3 : ∀ k, k ∈ ys ↔ k ∈ (xs ++ xs.map List.reverse).map S) : ∃ zs, ys = zs.map S ∧ BothOf l zs := by
  have e : ys = (ys.map fun y => y.cps.toList).map S := by
    rw [List.map_map]
    conv => lhs; rw [← List.map_id ys]
    exact List.map_congr_left fun y _ => (S_of y).symm
  refine ⟨ys.map fun y => y.cps.toList, e, ?_, ?_, fun t => ?_⟩
  · rw [e] at h1
    exact srt_of h1
  · rw [e] at h2
    exact List.Pairwise.of_map S (fun _ _ hne e => hne (congrArg S e)) h2
  · have : t ∈ (ys.map fun y => y.cps.toList) ↔ S t ∈ ys := by
      constructor
      · intro h
        obtain ⟨y, hy, rfl⟩ := List.mem_map.mp h
        rw [S_of]
        exact hy
      · intro h
        exact List.mem_map.mpr ⟨S t, h, rfl⟩
    rw [this, h3, List.mem_map]
    constructor
    · rintro ⟨u, hu, eu⟩
      have eu := S_inj.mp eu
      subst eu
      rcases List.mem_append.mp hu with hu | hu
      · exact .inl ((hx.2.2 u).mp hu)
      · obtain ⟨v, hv, rfl⟩ := List.mem_map.mp hu
        rw [List.reverse_reverse]
        exact .inr ((hx.2.2 v).mp hv)
    · rintro (h | h)
      · exact ⟨t, List.mem_append_left _ ((hx.2.2 t).mpr h), rfl⟩
      · exact ⟨t, List.mem_append_right _ (List.mem_map.mpr ⟨t.reverse, (hx.2.2 _).mpr h, List.reverse_reverse t⟩), rfl⟩
theorem both_lst (xs : List L) : xs.map vS ++ (xs.filter fun _ => true).map (fun t => vS t.reverse) = ((xs ++ xs.map List.reverse).map S).map V.str := by
  rw [map_vS, List.map_append, List.filter_eq_self.mpr (fun _ _ => rfl), List.map_map]
  rfl
theorem BothOf.sm {l : L} {zs : List L} (b : BothOf l zs) (sg : Fo.Sg l) : ∀ t ∈ zs, Sm t := fun t ht => by
  rcases (b.2.2 t).mp ht with h | h
  · exact Lk.Sg.sm (sg.comes h)
  · have := (Lk.Sg.sm (sg.comes h))
    exact fun c hc => this c (List.mem_reverse.mpr hc)
theorem sg_cases {l : L} (sg : Fo.Sg l) {f : Nat → Nat} (hf : ∀ a ∈ [97, 98, 99, 100], ∀ b ∈ [97, 98, 99, 100], f a = f b → a = b) : ∀ a ∈ l, ∀ b ∈ l, f a = f b → a = b := fun a ha b hb => by
  have h : ∀ c ∈ l, c ∈ [97, 98, 99, 100] := fun c hc => by
    have := sg c hc
    have : c = 97 ∨ c = 98 ∨ c = 99 ∨ c = 100 := by omega
    rcases this with rfl | rfl | rfl | rfl <;> decide
  exact hf a (h a ha) b (h b hb)
theorem sg_map {l : L} (sg : Fo.Sg l) {f : Nat → Nat} (hf : ∀ a ∈ [97, 98, 99, 100], f a ∈ [97, 98, 99, 100]) : Fo.Sg (l.map f) := fun c hc => by
  obtain ⟨d, hd, rfl⟩ := List.mem_map.mp hc
  have := sg d hd
  have h : d ∈ [97, 98, 99, 100] := by
    have : d = 97 ∨ d = 98 ∨ d = 99 ∨ d = 100 := by omega
    rcases this with rfl | rfl | rfl | rfl <;> decide
  have h2 := hf d h
  simp only [List.mem_cons, List.not_mem_nil, or_false] at h2
  omega
theorem map_inj_on {f : Nat → Nat} : ∀ {t u : L}, (∀ a ∈ t, ∀ b ∈ u, f a = f b → a = b) → t.map f = u.map f → t = u
  | [], [], _, _ => rfl
  | [], _ :: _, _, h => by cases h
  | _ :: _, [], _, h => by cases h
  | a :: t, b :: u, hf, h => by
    obtain ⟨h1, h2⟩ := List.cons.inj h
    rw [hf a (List.mem_cons_self ..) b (List.mem_cons_self ..) h1, map_inj_on (fun x hx y hy => hf x (List.mem_cons_of_mem _ hx) y (List.mem_cons_of_mem _ hy)) h2]
/-- all that come of a strip called otherwise -/
theorem allOf_map {l : L} {f : Nat → Nat} (hf : ∀ a ∈ l, ∀ b ∈ l, f a = f b → a = b) {xs zs : List L} (ax : AllOf l xs) (hz : zs.Perm (xs.map (List.map f))) (hs : Srt zs) : AllOf (l.map f) zs := by
  refine ⟨hs, ?_, fun t => ?_⟩
  · refine hz.symm.nodup ?_
    refine List.pairwise_map.mpr ?_
    refine List.Pairwise.imp_of_mem (fun {t u} ht hu hne e => hne ?_) ax.2.1
    exact map_inj_on (fun a ha b hb => hf a (((ax.2.2 t).mp ht).mem ha) b (((ax.2.2 u).mp hu).mem hb)) e
  · rw [hz.mem_iff, List.mem_map]
    constructor
    · rintro ⟨u, hu, rfl⟩
      exact comes_map ((ax.2.2 u).mp hu)
    · intro h
      obtain ⟨u, hu, rfl⟩ := comes_map_inv h hf
      exact ⟨u, (ax.2.2 u).mpr hu, rfl⟩
theorem other_signs {sgn : V} (h : sgn ∈ [V.str "bcda", V.str "dcba", V.str "badc", V.str "acbd"]) : ∃ g : L, sgn = vS g ∧ g.length = 4 ∧ (∀ a ∈ [97, 98, 99, 100], ∀ b ∈ [97, 98, 99, 100], subst g a = subst g b → a = b) ∧ ∀ a ∈ [97, 98, 99, 100], subst g a ∈ [97, 98, 99, 100] := by
  simp only [List.mem_cons, List.not_mem_nil, or_false] at h
  rcases h with rfl | rfl | rfl | rfl
  · exact ⟨[98, 99, 100, 97], rfl, rfl, by decide, by decide⟩
  · exact ⟨[100, 99, 98, 97], rfl, rfl, by decide, by decide⟩
  · exact ⟨[98, 97, 100, 99], rfl, rfl, by decide, by decide⟩
  · exact ⟨[97, 99, 98, 100], rfl, rfl, by decide, by decide⟩
theorem cut_a {u : L} (n : NF u) (h : 1 ≤ u.length) : cutL u none (some 1) ≠ cutL u (some 1) (some 2) := by
  rw [cut_to _ (by decide)]
  intro e
  by_cases h2 : 2 ≤ u.length
  · rw [cut_mid _ (by decide) (by decide) (by omega)] at e
    have e0 := congrArg (fun t : L => t[0]?) e
    simp only [List.getElem?_take, List.getElem?_drop] at e0
    exact (nf_ends n h2).1 (by simpa using e0)
  · have e0 := congrArg List.length e
    unfold cutL at e0
    rw [List.length_take, List.length_take, List.length_drop] at e0
    have h1 : u.length = 1 := by omega
    rw [h1] at e0
    revert e0
    decide
theorem cut_b {u : L} (n : NF u) (h : 1 ≤ u.length) : cutL u (some (-2)) (some (-1)) ≠ cutL u (some (-1)) none := by
  rw [cut_neg _ (by decide) (by omega)]
  intro e
  by_cases h2 : 2 ≤ u.length
  · unfold cutL at e
    have e1 : HT.sIx u.length 0 (some (-2)) = u.length - 2 := by
      show (if (-2 : Int) < 0 then ((-2 : Int) + (u.length : Int)).toNat else min (-2 : Int).toNat u.length) = _
      rw [if_pos (by decide)]
      omega
    have e2 : HT.sIx u.length u.length (some (-1)) = u.length - 1 := by
      show (if (-1 : Int) < 0 then ((-1 : Int) + (u.length : Int)).toNat else min (-1 : Int).toNat u.length) = _
      rw [if_pos (by decide)]
      omega
    rw [e1, e2] at e
    have e0 := congrArg (fun t : L => t[0]?) e
    simp only [List.getElem?_take, List.getElem?_drop] at e0
    rw [if_pos (show 0 < u.length - 1 - (u.length - 2) by omega), Nat.add_zero, Nat.add_zero, show ((u.length : Int) + -1).toNat = u.length - 1 by omega] at e0
    exact (nf_ends n h2).2 e0
  · have e0 := congrArg List.length e
    unfold cutL at e0
    rw [List.length_take, List.length_drop, List.length_drop] at e0
    have h1 : u.length = 1 := by omega
    rw [h1] at e0
    revert e0
    decide
/-- no like neighbours, the last one known -/
structure ApIn (l A : L) (j : Nat) : Prop where
  len : A.length ≤ j
  sg : Fo.Sg A
  ap : ∀ i, i + 1 < A.length → A[i]? ≠ A[i + 1]?
  zero : j = 0 → A = []
  last : 0 < j → 0 < A.length ∧ A[A.length - 1]? = l[j - 1]?
theorem ApIn.yes {l A : L} {j c : Nat} (h : ApIn l A j) (hc : l[j]? = some c) (sc : 97 ≤ c ∧ c ≤ 100) (hn : 0 < j → l[j - 1]? ≠ some c) : ApIn l (A ++ [c]) (j + 1) := by
  refine ⟨?_, ?_, fun i hi => ?_, fun z => absurd z (by omega), fun _ => ?_⟩
  · rw [List.length_append]
    have := h.len
    show _ + 1 ≤ _
    omega
  · intro d hd
    rcases List.mem_append.mp hd with hd | hd
    · exact h.sg d hd
    · rw [List.mem_singleton.mp hd]
      exact sc
  · rw [List.length_append] at hi
    have hi' : i + 1 < A.length + 1 := hi
    by_cases hlt : i + 1 < A.length
    · rw [List.getElem?_append_left (by omega), List.getElem?_append_left hlt]
      exact h.ap i hlt
    · have e : i = A.length - 1 := by omega
      have hA : 0 < A.length := by omega
      have hj : 0 < j := by
        by_cases z : j = 0
        · rw [h.zero z] at hA
          exact absurd hA (by decide)
        · omega
      rw [List.getElem?_append_left (by omega), e, (h.last hj).2, List.getElem?_append_right (by omega), show A.length - 1 + 1 - A.length = 0 by omega]
      exact hn hj
  · rw [List.length_append]
    refine ⟨by show 0 < _ + 1; omega, ?_⟩
    show (A ++ [c])[A.length + 1 - 1]? = _
    rw [Nat.add_sub_cancel, List.getElem?_append_right (Nat.le_refl _), Nat.sub_self, Nat.add_sub_cancel, hc]
    rfl
theorem ApIn.no {l A : L} {j : Nat} (h : ApIn l A j) (hj : 0 < j) (e : l[j - 1]? = l[j]?) : ApIn l A (j + 1) :=
  ⟨Nat.le_succ_of_le h.len, h.sg, h.ap, fun z => absurd z (by omega), fun _ => ⟨(h.last hj).1, by rw [(h.last hj).2, Nat.add_sub_cancel, e]⟩⟩
section
variable {P : Program} {w : World} {K : PySem.W.Frag} {mg : Str → Option Value} {base : Heap}
theorem ok_law (T : Txt K mg) {f : Addr} {fd : FuncData} (F : Fun K "law" "law" s_law f fd) : FnOk P w K mg base CX0 60 f fd ["script"] (sp_law K) := by
  have G__law_bag := ok__law_bag (P := P) (w := w) (base := base) T
  have G__law_called := ok__law_called (P := P) (w := w) (base := base) T
  have G__law_of := ok__law_of (P := P) (w := w) (base := base) T
  have G__law_strip := ok__law_strip (P := P) (w := w) (base := base) T
  have G_comes_to := ok_comes_to (P := P) (w := w) (base := base) T
  have G_creases := ok_creases (P := P) (w := w) (base := base) T
  have G_fewest_folds := ok_fewest_folds (P := P) (w := w) (base := base) T
  have G_least := ok_least (P := P) (w := w) (base := base) T
  have G_most_folds := ok_most_folds (P := P) (w := w) (base := base) T
  refine F.ok sc_law (fun vs H Q E h => ?_) (fun cdv A outer s H vs Q E hr h => ?_)
  · obtain ⟨a, ns, rfl, _⟩ := h
    rfl
  · obtain ⟨a, ns, rfl, hS, hlen, q⟩ := h
    refine ⟨_, pss_cons (ps_for PassesOwn.never rfl (pi_range1 rfl T.b_range (pa_cons (pe_op op_add (pe_callB (call_min2 rfl) (by rfl) T.b_min (by decide +kernel) (pa_cons (pe_callB call_len_seq (by rfl) T.b_len PySem.boot_len (pa_cons (pv 0) pa_nil)) (pa_cons pe_int pa_nil))) pe_int) pa_nil)) (pg_name (i := 1) sc_law.nd rfl (.inl rfl))
      (pss_cons (ps_set (i := 2) sc_law.nd rfl (.inl rfl) (pe_fn G__law_bag hr (pa_cons (pv 0) (pa_cons (pv 1) pa_nil))))
      (pss_cons (ps_set (i := 3) sc_law.nd rfl (.inr rfl) (pe_fn G__law_strip hr (pa_cons (pv 2) (pa_cons pe_int pa_nil))))
      (pss_cons (ps_par (i := 4) (j := 5) (by rfl) sc_law.nd rfl rfl (by decide) rfl rfl (pa_cons (pe_revS (pv 3)) (pa_cons (pe_fn G_creases hr (pa_cons (pv 3) pa_nil)) pa_nil)) (by rfl))
      (pss_cons (ps_if (pt_cmpR (op_neLI hr.units) (pe_fn G_creases hr (pa_cons (pv 4) pa_nil)) (pe_lc (own := [("crease", 14)]) (g := gName 14) (tt := tYes)  rfl sc_law.nd (pi_list (pe_revL (pv 5))) (blkOk_by (own := [("crease", 14)]) (N := ["script", "k", "bag", "text", "back", "told", "one", "other", "both", "signs", "called", "alike", "last", "apart", "crease", "at", "sign"]) (sc := defScope s_law) (by decide +kernel)) (fun _ _ _ _ _ => pg_name (i := 14) sc_law.nd rfl (Or.inl rfl)) (fun _ _ _ _ _ => pts_nil) (fun _ _ _ _ _ => (pe_op op_sub (pe_callB call_lenS (by rfl) T.b_len PySem.boot_len (pa_cons (pv 3) pa_nil)) (pv 14)))) (nomark _))
        (pss_one (ps_ret pe_bl))
        pss_nil)
      (pss_cons (ps_if (pt_cmpR (op_neLI hr.units) (pe_lc (own := [("crease", 14)]) (g := gName 14)  rfl sc_law.nd (pi_list (pv 5)) (blkOk_by (own := [("crease", 14)]) (N := ["script", "k", "bag", "text", "back", "told", "one", "other", "both", "signs", "called", "alike", "last", "apart", "crease", "at", "sign"]) (sc := defScope s_law) (by decide +kernel)) (fun _ _ _ _ _ => pg_name (i := 14) sc_law.nd rfl (Or.inl rfl)) (fun _ _ _ _ _ => pts_one (pt_cmpR op_neS (pe_ix ix_S (pv 3) (pe_op op_sub (pv 14) pe_int) (fun _ _ => rfl)) (pe_ix ix_S (pv 3) (pv 14) (fun _ _ => rfl)) (nomark _))) (fun _ _ _ _ _ => (pv 14))) (pe_lst pa_nil) (nomark _))
        (pss_one (ps_ret pe_bl))
        pss_nil)
      (pss_cons (ps_for PassesOwn.never rfl (pi_zip (by rfl) T.b_zip (pa_cons (pe_fn G_fewest_folds hr (pa_cons (pv 3) pa_nil)) (pa_cons (pe_fn G_fewest_folds hr (pa_cons (pv 4) pa_nil)) pa_nil))) (pg_tup rfl (pgs_cons (pg_name (i := 6) sc_law.nd rfl (.inl rfl)) (pgs_cons (pg_name (i := 7) sc_law.nd rfl (.inl rfl)) pgs_nil)))
        (pss_one (ps_if (PW.pt (pw_or (pt_not (pt_chain op_lt op_lt pe_int (pv 6) (pe_callB call_lenS (by rfl) T.b_len PySem.boot_len (pa_cons (pv 3) pa_nil)))) (pw_or1 (pt_not (pt_chain op_lt op_lt pe_int (pv 7) (pe_callB call_lenS (by rfl) T.b_len PySem.boot_len (pa_cons (pv 3) pa_nil)))))))
          (pss_one (ps_ret pe_bl))
          pss_nil)))
      (pss_cons (ps_if (PW.pt (pw_or (pt_cmpR op_neI (pe_callB call_len_seq (by rfl) T.b_len PySem.boot_len (pa_cons (pe_fn G_fewest_folds hr (pa_cons (pv 4) pa_nil)) pa_nil)) (pe_callB call_len_seq (by rfl) T.b_len PySem.boot_len (pa_cons (pe_fn G_fewest_folds hr (pa_cons (pv 3) pa_nil)) pa_nil)) (nomark _)) (pw_or1 (pt_cmpR op_neI (pe_callB call_len_seq (by rfl) T.b_len PySem.boot_len (pa_cons (pe_fn G_most_folds hr (pa_cons (pv 4) pa_nil)) pa_nil)) (pe_callB call_len_seq (by rfl) T.b_len PySem.boot_len (pa_cons (pe_fn G_most_folds hr (pa_cons (pv 3) pa_nil)) pa_nil)) (nomark _)))))
        (pss_one (ps_ret pe_bl))
        pss_nil)
      (pss_cons (ps_set (i := 8) sc_law.nd rfl (.inl rfl) (pe_callB (cr_sortedSS rfl) (by rfl) T.b_sorted (by decide +kernel) (pa_cons (pe_callTy (cr_setS rfl) (by rfl) T.b_set (by decide +kernel) (pa_cons (pe_op op_cat (pe_fn G_comes_to hr (pa_cons (pv 3) pa_nil)) (pe_lc (own := [("one", 6)]) (g := gName 6) (tt := tYes)  rfl sc_law.nd (pi_list (pe_fn G_comes_to hr (pa_cons (pv 3) pa_nil))) (blkOk_by (own := [("one", 6)]) (N := ["script", "k", "bag", "text", "back", "told", "one", "other", "both", "signs", "called", "alike", "last", "apart", "crease", "at", "sign"]) (sc := defScope s_law) (by decide +kernel)) (fun _ _ _ _ _ => pg_name (i := 6) sc_law.nd rfl (Or.inl rfl)) (fun _ _ _ _ _ => pts_nil) (fun _ _ _ _ _ => (pe_revS (pv 6))))) pa_nil)) pa_nil)))
      (pss_cons (ps_if (pt_cmpR (op_neLS hr.units) (pe_callB (cr_sortedSS rfl) (by rfl) T.b_sorted (by decide +kernel) (pa_cons (pe_callTy (cr_setS rfl) (by rfl) T.b_set (by decide +kernel) (pa_cons (pe_op op_cat (pe_fn G_comes_to hr (pa_cons (pv 4) pa_nil)) (pe_lc (own := [("one", 6)]) (g := gName 6) (tt := tYes)  rfl sc_law.nd (pi_list (pe_fn G_comes_to hr (pa_cons (pv 4) pa_nil))) (blkOk_by (own := [("one", 6)]) (N := ["script", "k", "bag", "text", "back", "told", "one", "other", "both", "signs", "called", "alike", "last", "apart", "crease", "at", "sign"]) (sc := defScope s_law) (by decide +kernel)) (fun _ _ _ _ _ => pg_name (i := 6) sc_law.nd rfl (Or.inl rfl)) (fun _ _ _ _ _ => pts_nil) (fun _ _ _ _ _ => (pe_revS (pv 6))))) pa_nil)) pa_nil)) (pv 8) (nomark _))
        (pss_one (ps_ret pe_bl))
        pss_nil)
      (pss_cons (ps_set (i := 9) sc_law.nd rfl (.inr rfl) (pe_fn G__law_of hr (pa_cons (pv 2) (pa_cons (pe_lst (pa_cons pe_str (pa_cons pe_str (pa_cons pe_str (pa_cons pe_str pa_nil))))) pa_nil))))
      (pss_cons (ps_set (i := 7) sc_law.nd rfl (.inl rfl) (pe_fn G__law_called hr (pa_cons (pv 3) (pa_cons (pv 9) pa_nil))))
      (pss_cons (ps_if (PW.pt (pw_or (pt_cmpR (op_neLI hr.units) (pe_fn G_creases hr (pa_cons (pv 7) pa_nil)) (pv 5) (nomark _)) (pw_or (pt_cmpR (op_neLI hr.units) (pe_fn G_fewest_folds hr (pa_cons (pv 7) pa_nil)) (pe_fn G_fewest_folds hr (pa_cons (pv 3) pa_nil)) (nomark _)) (pw_or1 (pt_cmpR (op_neLI hr.units) (pe_fn G_most_folds hr (pa_cons (pv 7) pa_nil)) (pe_fn G_most_folds hr (pa_cons (pv 3) pa_nil)) (nomark _))))))
        (pss_one (ps_ret pe_bl))
        pss_nil)
      (pss_cons (ps_set (i := 10) sc_law.nd rfl (.inl rfl) (pe_fn G__law_called hr (pa_cons (pe_fn G_least hr (pa_cons (pv 3) pa_nil)) (pa_cons (pv 9) pa_nil))))
      (pss_cons (ps_if (pt_cmpR op_notinTS (pe_fn G_least hr (pa_cons (pv 7) pa_nil)) (pe_tup (pa_cons (pv 10) (pa_cons (pe_revS (pv 10)) pa_nil))) (by with_unfolding_all rfl))
        (pss_one (ps_ret pe_bl))
        pss_nil)
      (pss_cons (ps_if (pt_cmpR (op_neLS hr.units) (pe_fn G_comes_to hr (pa_cons (pv 7) pa_nil)) (pe_callB cr_sortedSA (by rfl) T.b_sorted (by decide +kernel) (pa_cons (pe_lc (own := [("one", 6)]) (g := gName 6) (tt := tYes)  rfl sc_law.nd (pi_list (pe_fn G_comes_to hr (pa_cons (pv 3) pa_nil))) (blkOk_by (own := [("one", 6)]) (N := ["script", "k", "bag", "text", "back", "told", "one", "other", "both", "signs", "called", "alike", "last", "apart", "crease", "at", "sign"]) (sc := defScope s_law) (by decide +kernel)) (fun _ _ _ _ _ => pg_name (i := 6) sc_law.nd rfl (Or.inl rfl)) (fun _ _ _ _ _ => pts_nil) (fun _ _ _ _ _ => (pe_fn G__law_called hr (pa_cons (pv 6) (pa_cons (pv 9) pa_nil))))) pa_nil)) (nomark _))
        (pss_one (ps_ret pe_bl))
        pss_nil)
      (pss_cons (ps_set (i := 11) sc_law.nd rfl (.inr rfl) (pe_fn G__law_called hr (pa_cons (pv 3) (pa_cons pe_str pa_nil))))
      (pss_cons (ps_if (pt_cmpR (op_neLI hr.units) (pe_lc (own := [("crease", 14)]) (g := gName 14)  rfl sc_law.nd (pi_list (pv 5)) (blkOk_by (own := [("crease", 14)]) (N := ["script", "k", "bag", "text", "back", "told", "one", "other", "both", "signs", "called", "alike", "last", "apart", "crease", "at", "sign"]) (sc := defScope s_law) (by decide +kernel)) (fun _ _ _ _ _ => pg_name (i := 14) sc_law.nd rfl (Or.inl rfl)) (fun _ _ _ _ _ => pts_one (pt_cmpR (r := rInLI K true) op_notinLI (pv 14) (pe_fn G_creases hr (pa_cons (pv 11) pa_nil)) (by with_unfolding_all rfl))) (fun _ _ _ _ _ => (pv 14))) (pe_lst pa_nil) (nomark _))
        (pss_one (ps_ret pe_bl))
        pss_nil)
      (pss_cons (ps_set (i := 12) sc_law.nd rfl (.inl rfl) (pe_fn G_least hr (pa_cons (pv 3) pa_nil)))
      (pss_cons (ps_if (PW.pt (pw_or (pt_cmpR op_eqS (pe_slice sl_S (pv 12) po_none (po_some pe_int)) (pe_slice sl_S (pv 12) (po_some pe_int) (po_some pe_int)) (nomark _)) (pw_or1 (PW.pt (pw_and (pt_cmpR op_eqS (pe_slice sl_S (pv 12) (po_some (pe_un un_neg pe_int)) (po_some (pe_un un_neg pe_int))) (pe_slice sl_S (pv 12) (po_some (pe_un un_neg pe_int)) po_none) (nomark _)) (pw_and1 (pt_cmpR op_gt (pe_callB call_lenS (by rfl) T.b_len PySem.boot_len (pa_cons (pv 12) pa_nil)) pe_int (nomark _))))))))
        (pss_one (ps_ret pe_bl))
        pss_nil)
      (pss_cons (ps_set (i := 13) sc_law.nd rfl (.inl rfl) (pe_joinS pe_str (pe_lc (own := [("at", 15), ("sign", 16)]) (g := gTup K 2 (gCons (gName 15) (gCons (gName 16) gNil)))  rfl sc_law.nd (pi_enumS (by rfl) T.b_enumerate (pa_cons (pv 3) pa_nil)) (blkOk_by (own := [("at", 15), ("sign", 16)]) (N := ["script", "k", "bag", "text", "back", "told", "one", "other", "both", "signs", "called", "alike", "last", "apart", "crease", "at", "sign"]) (sc := defScope s_law) (by decide +kernel)) (fun _ _ _ _ _ => pg_tup rfl (pgs_cons (pg_name (i := 15) sc_law.nd rfl (Or.inl rfl)) (pgs_cons (pg_name (i := 16) sc_law.nd rfl (Or.inl rfl)) pgs_nil))) (fun _ _ _ _ _ => pts_one (PW.pt (pw_or (pt_cmpR op_eqI (pv 15) pe_int (nomark _)) (pw_or1 (pt_cmpR op_neS (pe_ix ix_S (pv 3) (pe_op op_sub (pv 15) pe_int) (fun _ _ => rfl)) (pv 16) (nomark _)))))) (fun _ _ _ _ _ => (pv 16)))))
      (pss_one (ps_if (PW.pt (pw_or (pt_cmpR (op_neLI hr.units) (pe_fn G_creases hr (pa_cons (pv 13) pa_nil)) (pe_lst pa_nil) (nomark _)) (pw_or (pt_cmpR op_neS (pe_fn G_least hr (pa_cons (pv 13) pa_nil)) (pe_callB (call_minS rfl) (by rfl) T.b_min (by decide +kernel) (pa_cons (pv 13) (pa_cons (pe_revS (pv 13)) pa_nil))) (nomark _)) (pw_or1 (pt_cmpR (op_neLI hr.units) (pe_fn G_fewest_folds hr (pa_cons (pv 13) pa_nil)) (pe_lst pa_nil) (nomark _))))))
        (pss_one (ps_ret pe_bl))
        pss_nil)))))))))))))))))))))))
    (pss_one (ps_ret pe_bl)), ?_⟩
    refine ⟨_, rfl, a, _, rfl, .inl hS, _, _, rfl, _, _, rfl, rfl, _, rfl, ?_, ?_, ?_⟩
    · split <;> (try rw [List.length_map]) <;> omega
    · split <;> (try rw [List.length_map]) <;> omega
    refine for_range (lo := 0) (n := _) (fun i σ H' => Same H H' ∧ ∃ v1 v2 v3 v4 v5 v6 v7 v8 v9 v10 v11 v12 v13 : Option V, σ = [some (.ref a), v1, v2, v3, v4, v5, v6, v7, v8, v9, v10, v11, v12, v13, none, none, none]) ⟨Same.refl H, none, none, none, none, none, none, none, none, none, none, none, none, none, rfl⟩ ?_ ?_
    · rintro i σ H1 hi ⟨sm1, v1, v2, v3, v4, v5, v6, v7, v8, v9, v10, v11, v12, v13, rfl⟩
      have hi' : i ≤ 20 := by
        revert hi
        split <;> omega
      refine ⟨_, rfl, _, rfl, a, ns, _, rfl, sm1.seq hS, by omega, by omega, fun b H2 hb2 sm2 bag2 => ?_⟩
      have smb : Same H H2 := sm1.trans sm2
      have fb : H b = none := sm1.free hb2
      -- text
      refine ⟨_, rfl, b, 20, rfl, bag2, by decide, by decide, fun l H3 bt3 bag3 l1 l2 sg => ?_⟩
      have sm3 := same_but smb fb bt3
      have l20 : l.length ≤ 20 := by omega
      -- back, told
      refine ⟨_, rfl, l, rfl, big (by omega), _, rfl, l, rfl, by omega, fun pt hpt => ?_⟩
      have smt := Same.upd' (o := .lst ((creases l).map vI)) sm3 hpt
      have et : (upd H3 pt (.lst ((creases l).map vI))) pt = some (.lst ((creases l).map vI)) := upd_same
      have bagt := bag3.upd (bag3.ne hpt) (o := .lst ((creases l).map vI))
      generalize upd H3 pt (.lst ((creases l).map vI)) = H4 at smt et bagt ⊢
      have npt : H pt = none := sm3.free hpt
      have nptb : pt ≠ b := (bag3.ne hpt).symm
      -- the creases of it turned about
      refine ⟨_, _, rfl, ?_⟩
      refine ⟨_, rfl, l.reverse, rfl, by rw [List.length_reverse]; omega, fun p1 hp1 => ?_⟩
      have s1 := Same.upd (o := .lst ((creases l.reverse).map vI)) hp1
      refine ⟨_, rfl, pt, (creases l).map vI, rfl, SqL.of (s1 _ _ et), fun p2 hp2 => ⟨p2, rfl, ⟨_, SqL.of upd_same⟩, fun D hD => ?_⟩⟩
      have s2 := Same.upd' (o := .lst ((creases l).map vI).reverse) s1 hp2
      have e2 : (upd (upd H4 p1 (.lst ((creases l.reverse).map vI))) p2 (.lst ((creases l).map vI).reverse)) p2 = some (.lst ((creases l).reverse.map vI)) := by rw [upd_same, List.map_reverse]
      have e1 : (upd (upd H4 p1 (.lst ((creases l.reverse).map vI))) p2 (.lst ((creases l).map vI).reverse)) p1 = some (.lst ((creases l.reverse).map vI)) := by rw [upd_ne (ne_of_none upd_same hp2)]; exact upd_same
      generalize upd (upd H4 p1 (.lst ((creases l.reverse).map vI))) p2 (.lst ((creases l).map vI).reverse) = H5 at s2 e1 e2 hD ⊢
      have cl := creases_len l
      refine it_gen (wk_list (K := K) vI (creases l).reverse) (PF H5 D (creases l).reverse (fun _ => true) fun c => vI (l.length - c)) (PF.init hD) (fun j H6 _ z => SqL.of (z.1 _ _ e2)) ?_ ?_
      · rintro j x H6 H' hj pf ⟨rfl, c, hc, rfl⟩
        have cc : c ∈ creases l := List.mem_reverse.mp (List.mem_of_getElem? hc)
        have hcl := (mem_creases.mp cc).2.1
        refine ⟨rfl, _, rfl, l, rfl, by omega, _, rfl, _, _, rfl, rfl, ?_⟩
        have e : V.int ((l.length : Int) - (c : Int)) = vI (l.length - c) := congrArg V.int (by omega)
        dsimp only
        rw [e]
        exact pf.acc hc rfl (Same.refl _) hD (by rw [List.length_reverse]; omega)
      · rintro H6 pf
        have e3 : ((creases l).reverse.filter (fun _ => true)).map (fun c => vI (l.length - c)) = (creases l.reverse).map vI := by
          rw [List.filter_eq_self.mpr (fun _ _ => rfl), creases_rev, List.map_map]
          rfl
        refine ⟨p1, D, creases l.reverse, creases l.reverse, rfl, rfl, SqL.of (pf.1 _ _ e1), SqL.of (by rw [pf.done, e3]), _, rfl, iteNS rfl ?_⟩
        have s3 := s2.trans pf.1
        have sm6 := smt.trans s3
        have et6 := s3 _ _ et
        have bag6 := bagt.same s3
        clear pf e1 e2 e3
        -- like on like
        refine ⟨_, rfl, pt, rfl, ⟨_, SqL.of et6⟩, fun D2 hD2 => ?_⟩
        refine it_gen (wk_list (K := K) vI (creases l)) (PF H6 D2 (creases l) (fun _ => false) vI) (PF.init hD2) (fun j H7 _ z => SqL.of (z.1 _ _ et6)) ?_ ?_
        · rintro j x H7 H' hj pf ⟨rfl, c, hc, rfl⟩
          have hcr := mem_creases.mp (List.mem_of_getElem? hc)
          have hcl := hcr.2.1
          have hc1 := hcr.1
          have hlk := crease_like hcr
          rw [List.getElem?_eq_getElem (by omega), List.getElem?_eq_getElem hcl] at hlk
          have hlk := Option.some.inj hlk
          have i1 : (c : Int) - 1 = ((c - 1 : Nat) : Int) := by omega
          refine ⟨rfl, _, rfl, _, rfl, _, _, rfl, rfl, l, _, l[c - 1], rfl, rfl, by omega, (congrArg (atI l) i1).trans (atI_nat (List.getElem?_eq_getElem (by omega))), _, rfl, _, rfl, l, _, l[c], rfl, rfl, by omega, atI_nat (List.getElem?_eq_getElem hcl), [l[c - 1]], [l[c]], rfl, rfl, _, rfl, ?_⟩
          refine iteNS (by rw [hlk]) ?_
          exact pf.rej hc rfl (Same.refl _)
        · rintro H7 pf
          have eD := pf.done
          rw [List.filter_eq_nil_iff.mpr (fun _ _ => by decide)] at eD
          refine ⟨(by show 0 ≤ sizeLine; decide), fun z hz => ⟨D2, z, [], [], rfl, rfl, SqL.of (by rw [upd_ne (ne_of_none eD hz)]; exact eD), SqL.of upd_same, _, rfl, iteF ?_⟩⟩
          have s4 := Same.upd' (o := .lst []) pf.1 hz
          have sm7 := sm6.trans s4
          have et7 := s4 _ _ et6
          have bag7 := bag6.same s4
          clear pf eD
          generalize upd H7 z (.lst []) = H8 at sm7 et7 bag7 ⊢
          clear s4
          -- two rows of fewest folds
          have lr : l.reverse.length = l.length := List.length_reverse
          refine ⟨_, rfl, l, rfl, by omega, fun H9 q1 hq1 sm9 e9 => ⟨_, rfl, l.reverse, rfl, by omega, fun H10 q2 hq2 sm10 e10 => ?_⟩⟩
          refine ⟨q1, q2, _, _, rfl, SqL.of (sm10 _ _ e9), SqL.of e10, ?_⟩
          refine RZ.for_zipL (by rw [List.length_map, List.length_map, best_rev true l.length l (Nat.le_refl _)]) (fun j σ H' => Same H10 H' ∧ ∃ v6 v7 : Option V, σ = [some (.ref a), some (.int (0 + (i : Int))), some (.ref b), some (vS l), some (vS l.reverse), some (.ref pt), v6, v7, v8, v9, v10, v11, v12, v13, none, none, none])
            ⟨Same.refl _, v6, v7, rfl⟩ (fun j σ H' h => ⟨SqL.of (h.1 _ _ (sm10 _ _ e9)), SqL.of (h.1 _ _ e10)⟩) ?_ ?_
          · rintro j x y T σ H11 hx hy ⟨sm11, v6, v7, rfl⟩ hT
            obtain ⟨c, hc, rfl⟩ := map_get hx
            obtain ⟨c2, hc2, rfl⟩ := map_get hy
            obtain ⟨u, hu, _⟩ := best_ok true l
            have b1 := row_pos hu c (List.mem_of_getElem? hc)
            obtain ⟨u2, hu2, _⟩ := best_ok true l.reverse
            have b2 := row_pos hu2 c2 (List.mem_of_getElem? hc2)
            refine ⟨T, _, rfl, SqT.of upd_same, rfl, _, _, rfl, _, _, rfl, rfl, ?_⟩
            refine ⟨_, rfl, _, _, rfl, rfl, _, rfl, ite2 (fun _ => ?_) (fun z => absurd (decide_eq_true (show (0 : Int) < (c : Int) by omega)) z)⟩
            refine ⟨_, rfl, l, rfl, by omega, _, _, rfl, rfl, _, rfl, iteNS (show (c : Int) < (l.length : Int) by omega) ?_⟩
            refine ⟨_, rfl, _, _, rfl, rfl, _, rfl, ite2 (fun _ => ?_) (fun z => absurd (decide_eq_true (show (0 : Int) < (c2 : Int) by omega)) z)⟩
            refine ⟨_, rfl, l, rfl, by omega, _, _, rfl, rfl, _, rfl, iteNS (show (c2 : Int) < (l.length : Int) by omega) ?_⟩
            exact ⟨Same.upd' sm11 hT, _, _, rfl⟩
          · rintro σ H11 ⟨sm11, v6, v7, rfl⟩
            have hb1 := best_rev true l.length l (Nat.le_refl _)
            have hb2 := best_rev false l.length l (Nat.le_refl _)
            refine ⟨_, rfl, l.reverse, rfl, by omega, fun H12 q3 hq3 sm12 e12 => ⟨q3, _, rfl, .inl (SqL.of e12), _, rfl, l, rfl, by omega, fun H13 q4 hq4 sm13 e13 => ⟨q4, _, rfl, .inl (SqL.of e13), _, _, rfl, rfl, _, rfl, iteNS (by rw [List.length_map, List.length_map, hb1]) ?_⟩⟩⟩
            refine ⟨_, rfl, l.reverse, rfl, by omega, fun H14 q5 hq5 sm14 e14 => ⟨q5, _, rfl, .inl (SqL.of e14), _, rfl, l, rfl, by omega, fun H15 q6 hq6 sm15 e15 => ⟨q6, _, rfl, .inl (SqL.of e15), _, _, rfl, rfl, _, rfl, iteNS (by rw [List.length_map, List.length_map, hb2]) ?_⟩⟩⟩
            have s5 := ((((((sm9.trans sm10).trans sm11).trans sm12).trans sm13).trans sm14).trans sm15)
            have sm16 := sm7.trans s5
            have et16 := s5 _ _ et7
            have bag16 := bag7.same s5
            clear s5 sm9 sm10 sm11 sm12 sm13 sm14 sm15 e9 e10 e12 e13 e14 e15
            -- all that come, turned about too
            refine ⟨_, rfl, l, rfl, by omega, sg, fun H16 p1 xs hp1 sm17 ex ax => ?_⟩
            refine ⟨_, rfl, l, rfl, by omega, sg, fun H17 p2 xs2 hp2 sm18 ex2 ax2 => ⟨p2, rfl, ⟨_, SqL.of ex2⟩, fun D3 hD3 => ?_⟩⟩
            obtain rfl := ax.uniq ax2
            have xl : xs.length ≤ 441 := by
              have h1 := found_le ax.2.1 fun t ht => (ax.2.2 t).mp ht
              have : (l.length + 1) * (l.length + 1) ≤ 21 * 21 := Nat.mul_le_mul (by omega) (by omega)
              omega
            refine it_gen (wk_list (K := K) vS xs) (PF H17 D3 xs (fun _ => true) fun t => vS t.reverse) (PF.init hD3) (fun j H7 _ z => SqL.of (z.1 _ _ ex2)) ?_ ?_
            · rintro j x H18 H' hj pf ⟨rfl, t, ht, rfl⟩
              have tl := ((ax.2.2 t).mp (List.mem_of_getElem? ht)).len
              refine ⟨rfl, _, rfl, t, rfl, big (by omega), ?_⟩
              exact pf.acc ht rfl (Same.refl _) hD3 (by omega)
            · rintro H18 pf
              refine ⟨p1, D3, xs.map vS, _, rfl, rfl, pf.1 _ _ (sm18 _ _ ex), pf.done, ?_, fun p3 hp3 => ?_⟩
              · rw [List.length_map, List.length_map]
                have := List.length_filter_le (fun _ => true) xs
                exact big (by omega)
              have r1 := Same.upd' (o := .lst (xs.map vS ++ (xs.filter fun _ => true).map fun t => vS t.reverse)) pf.1 hp3
              refine ⟨p3, (xs ++ xs.map List.reverse).map S, rfl, SqL.of (by rw [upd_same, both_lst]), by rw [List.length_map, List.length_append, List.length_map]; omega, fun p4 hp4 => ?_⟩
              have r2 := Same.upd' (o := SetSO w p4 ((xs ++ xs.map List.reverse).map S)) r1 hp4
              refine ⟨p4, _, rfl, upd_same, fun ys p5 hs nd hm hp5 => ?_⟩
              obtain ⟨zs, rfl, bz⟩ := bothOf_of ax hs nd hm
              have r3 := Same.upd' (o := .lst ((zs.map S).map V.str)) r2 hp5
              have ez : (upd (upd (upd H18 p3 (.lst (xs.map vS ++ (xs.filter fun _ => true).map fun t => vS t.reverse))) p4 (SetSO w p4 ((xs ++ xs.map List.reverse).map S))) p5 (.lst ((zs.map S).map V.str))) p5 = some (.lst (zs.map vS)) := by rw [upd_same, map_vS]
              have sgr : Fo.Sg l.reverse := Fo.Sg.rev sg
              refine ⟨_, rfl, l.reverse, rfl, by omega, sgr, fun H20 g1 ws hg1 sm20 ew aw => ?_⟩
              refine ⟨_, rfl, l.reverse, rfl, by omega, sgr, fun H21 g2 ws2 hg2 sm21 ew2 aw2 => ⟨g2, rfl, ⟨_, SqL.of ew2⟩, fun D4 hD4 => ?_⟩⟩
              obtain rfl := aw.uniq aw2
              have wl : ws.length ≤ 441 := by
                have h1 := found_le aw.2.1 fun t ht => (aw.2.2 t).mp ht
                have : (l.reverse.length + 1) * (l.reverse.length + 1) ≤ 21 * 21 := Nat.mul_le_mul (by omega) (by omega)
                omega
              refine it_gen (wk_list (K := K) vS ws) (PF H21 D4 ws (fun _ => true) fun t => vS t.reverse) (PF.init hD4) (fun j H7 _ z => SqL.of (z.1 _ _ ew2)) ?_ ?_
              · rintro j x H22 H' hj pf2 ⟨rfl, t, ht, rfl⟩
                have tl := ((aw.2.2 t).mp (List.mem_of_getElem? ht)).len
                refine ⟨rfl, _, rfl, t, rfl, big (by omega), ?_⟩
                exact pf2.acc ht rfl (Same.refl _) hD4 (by omega)
              · rintro H22 pf2
                refine ⟨g1, D4, ws.map vS, _, rfl, rfl, pf2.1 _ _ (sm21 _ _ ew), pf2.done, ?_, fun g3 hg3 => ?_⟩
                · rw [List.length_map, List.length_map]
                  have := List.length_filter_le (fun _ => true) ws
                  exact big (by omega)
                have u1 := Same.upd' (o := .lst (ws.map vS ++ (ws.filter fun _ => true).map fun t => vS t.reverse)) pf2.1 hg3
                refine ⟨g3, (ws ++ ws.map List.reverse).map S, rfl, SqL.of (by rw [upd_same, both_lst]), by rw [List.length_map, List.length_append, List.length_map]; omega, fun g4 hg4 => ?_⟩
                have u2 := Same.upd' (o := SetSO w g4 ((ws ++ ws.map List.reverse).map S)) u1 hg4
                refine ⟨g4, _, rfl, upd_same, fun ys2 g5 hs2 nd2 hm2 hg5 => ?_⟩
                obtain ⟨zs2, rfl, bz2⟩ := bothOf_of aw hs2 nd2 hm2
                have u3 := Same.upd' (o := .lst ((zs2.map S).map V.str)) u2 hg5
                obtain rfl := bz.uniq bz2
                have s6 := (sm20.trans sm21).trans u3
                refine ⟨_, rfl, g5, p5, zs2, zs2, rfl, rfl, SqL.of (by rw [upd_same, map_vS]), SqL.of (s6 _ _ ez), bz.sm sg, bz.sm sg, _, rfl, iteNS rfl ?_⟩
                have s7 := (sm17.trans sm18).trans (r3.trans s6)
                have sm23 := sm16.trans s7
                have et23 := s7 _ _ et16
                have bag23 := bag16.same s7
                -- other signs
                refine ⟨_, rfl, (by show 4 ≤ sizeLine; decide), fun p6 hp6 => .inr ⟨b, p6, _, rfl, bag23.upd (bag23.ne hp6), SqL.of upd_same, (bag23.ne hp6).symm, by simp, by show 4 ≤ 1000; decide, fun sgn H24 bt24 bag24 hsg => ?_⟩⟩
                have sm24 := same_but (Same.upd' sm23 hp6) fb bt24
                have et24 := bt24 _ _ nptb (Same.upd hp6 _ _ et23)
                obtain ⟨g, rfl, g4, gi, gs⟩ := other_signs hsg
                have hf := sg_cases sg gi
                have sgm := sg_map sg gs
                have ml : (l.map (subst g)).length = l.length := List.length_map ..
                refine ⟨_, rfl, _, rfl, l, g, rfl, by omega, sg, g4, fun H25 sm25 => ?_⟩
                -- creases, fewest, most
                refine ⟨_, rfl, l.map (subst g), rfl, by omega, fun k1 hk1 => ⟨_, rfl, k1, pt, creases (l.map (subst g)), creases l, rfl, rfl, SqL.of upd_same, SqL.of (Same.upd hk1 _ _ (sm25 _ _ et24)), _, rfl, iteNS (creases_map hf) ?_⟩⟩
                have sm26 := Same.upd (o := .lst ((creases (l.map (subst g))).map vI)) hk1
                refine ⟨_, rfl, l.map (subst g), rfl, by omega, fun H27 k2 hk2 sm27 e27 => ⟨_, rfl, l, rfl, by omega, fun H28 k3 hk3 sm28 e28 => ⟨k2, k3, _, _, rfl, rfl, SqL.of (sm28 _ _ e27), SqL.of e28, _, rfl, iteNS (best_map true l.length l (Nat.le_refl _) hf) ?_⟩⟩⟩
                refine ⟨_, rfl, l.map (subst g), rfl, by omega, fun H29 k4 hk4 sm29 e29 => ⟨_, rfl, l, rfl, by omega, fun H30 k5 hk5 sm30 e30 => ⟨k4, k5, _, _, rfl, rfl, SqL.of (sm30 _ _ e29), SqL.of e30, _, rfl, iteNS (best_map false l.length l (Nat.le_refl _) hf) ?_⟩⟩⟩
                -- the least strip
                have lle : (least l).length ≤ l.length := least_len l
                have lsg : Fo.Sg (least l) := Fo.Sg.least sg
                refine ⟨_, rfl, l, rfl, by omega, fun H31 sm31 => ⟨_, rfl, least l, g, rfl, by omega, lsg, g4, fun H32 sm32 => ?_⟩⟩
                refine ⟨_, rfl, l.map (subst g), rfl, by omega, fun H33 sm33 => ⟨_, rfl, _, rfl, (least l).map (subst g), rfl, big (by rw [List.length_map]; omega), (by show 2 ≤ sizeLine; decide), fun tp htp => ⟨tp, least (l.map (subst g)), [(least l).map (subst g), ((least l).map (subst g)).reverse], rfl, rfl, SqT.of upd_same, _, rfl, ?_⟩⟩⟩
                refine iteNS ?_ ?_
                · rcases least_map hf with e | e
                  · rw [e]; exact List.mem_cons_self ..
                  · rw [e]; exact List.mem_cons_of_mem _ (List.mem_cons_self ..)
                have s8 := ((((((sm25.trans sm26).trans sm27).trans sm28).trans sm29).trans sm30).trans sm31).trans (sm32.trans (Same.upd' (o := .tup ([(least l).map (subst g), ((least l).map (subst g)).reverse].map vS)) sm33 htp))
                -- all that come
                refine ⟨_, rfl, l.map (subst g), rfl, by omega, sgm, fun H34 p8 xs8 hp8 sm34 e8 a8 => ?_⟩
                refine ⟨_, rfl, l, rfl, by omega, sg, fun H35 p9 xs9 hp9 sm35 e9 a9 => ⟨p9, rfl, ⟨_, SqL.of e9⟩, fun D5 hD5 => ?_⟩⟩
                have xl9 : xs9.length ≤ 441 := by
                  have h1 := found_le a9.2.1 fun t ht => (a9.2.2 t).mp ht
                  have : (l.length + 1) * (l.length + 1) ≤ 21 * 21 := Nat.mul_le_mul (by omega) (by omega)
                  omega
                refine it_gen (wk_list (K := K) vS xs9) (PF H35 D5 xs9 (fun _ => true) fun t => vS (t.map (subst g))) (PF.init hD5) (fun j H7 _ z => SqL.of (z.1 _ _ e9)) ?_ ?_
                · rintro j x H36 H' hj pf ⟨rfl, t, ht, rfl⟩
                  have ct := (a9.2.2 t).mp (List.mem_of_getElem? ht)
                  have tl := ct.len
                  refine ⟨rfl, _, rfl, _, rfl, t, g, rfl, by omega, sg.comes ct, g4, fun H37 sm37 => ?_⟩
                  exact pf.acc ht rfl sm37 hD5 (by omega)
                · rintro H36 pf
                  have eD := pf.done
                  rw [List.filter_eq_self.mpr (fun _ _ => rfl)] at eD
                  refine ⟨D5, (xs9.map (List.map (subst g))).map S, rfl, SqL.of (by rw [eD, map_vS, List.map_map]; rfl), fun ys p10 hys hs hp10 => ?_⟩
                  obtain ⟨zs, rfl, hz⟩ := perm_S hys
                  obtain rfl := a8.uniq (allOf_map hf a9 hz (srt_of hs))
                  have sz : ∀ t ∈ xs8, Sm t := fun t ht => Lk.Sg.sm (sgm.comes ((a8.2.2 t).mp ht))
                  have s9 := Same.upd' (o := .lst ((xs8.map S).map V.str)) (sm35.trans pf.1) hp10
                  refine ⟨p8, p10, xs8, xs8, rfl, rfl, SqL.of (s9 _ _ e8), SqL.of (by rw [upd_same, map_vS]), sz, sz, _, rfl, iteNS rfl ?_⟩
                  have sA := s8.trans (sm34.trans s9)
                  have sm38 := sm24.trans sA
                  have et38 := sA _ _ et24
                  -- two signs alike
                  refine ⟨_, rfl, l, [97, 97, 99, 100], rfl, by omega, sg, rfl, fun H39 sm39 => ?_⟩
                  have et39 := sm39 _ _ et38
                  have ml2 : (l.map (subst [97, 97, 99, 100])).length = l.length := List.length_map ..
                  refine ⟨_, rfl, pt, rfl, ⟨_, SqL.of et39⟩, fun D6 hD6 => ?_⟩
                  refine it_gen (wk_list (K := K) vI (creases l)) (PF H39 D6 (creases l) (fun _ => false) vI) (PF.init hD6) (fun j H7 _ z => SqL.of (z.1 _ _ et39)) ?_ ?_
                  · rintro j x H40 H' hj pf6 ⟨rfl, c, hc, rfl⟩
                    refine ⟨rfl, _, rfl, _, rfl, l.map (subst [97, 97, 99, 100]), rfl, by omega, fun k6 hk6 => ⟨k6, _, creases (l.map (subst [97, 97, 99, 100])), rfl, rfl, SqL.of upd_same, _, rfl, iteNS ⟨c, creases_map_sub c (List.mem_of_getElem? hc), rfl⟩ ?_⟩⟩
                    exact pf6.rej hc rfl (Same.upd hk6)
                  · rintro H40 pf6
                    have eD6 := pf6.done
                    rw [List.filter_eq_nil_iff.mpr (fun _ _ => by decide)] at eD6
                    refine ⟨(by show 0 ≤ sizeLine; decide), fun z6 hz6 => ⟨D6, z6, [], [], rfl, rfl, SqL.of (by rw [upd_ne (ne_of_none eD6 hz6)]; exact eD6), SqL.of upd_same, _, rfl, iteF ?_⟩⟩
                    have sm41 := sm38.trans (sm39.trans (Same.upd' (o := .lst []) pf6.1 hz6))
                    -- its ends
                    refine ⟨_, rfl, l, rfl, by omega, fun H42 sm42 => ?_⟩
                    have nl := least_nf l
                    have pl := least_pos l1
                    have ca := cut_a nl pl
                    have cb := cut_b nl pl
                    have ll := big (show (least l).length ≤ 1000000 by omega)
                    refine ⟨_, rfl, _, rfl, least l, rfl, by omega, _, rfl, _, rfl, _, rfl, least l, rfl, by omega, _, _, rfl, rfl, _, rfl, ite2 (fun z => absurd (of_decide_eq_true z) ca) (fun _ => ?_)⟩
                    refine ⟨_, rfl, _, rfl, _, rfl, _, rfl, _, rfl, least l, rfl, by omega, _, rfl, _, rfl, _, rfl, least l, rfl, by omega, _, _, rfl, rfl, _, rfl, ite2 (fun z => absurd (of_decide_eq_true z) cb) (fun _ => ?_)⟩
                    refine iteF ?_
                    -- like neighbours left out
                    refine ⟨⟨S [], rfl⟩, _, rfl, S l, rfl, fun D7 hD7 => ?_⟩
                    refine it_gen (walk_enumS l) (fun j H' => Same H42 H' ∧ ∃ A : L, H' D7 = some (.lst ((A.map fun c => [c]).map vS)) ∧ ApIn l A j) ⟨Same.upd hD7, [], upd_same, ⟨Nat.le_refl _, (fun c hc => nomatch hc), (fun i hi => absurd hi (by simp)), fun _ => rfl, fun z => absurd z (by decide)⟩⟩ (fun _ _ _ _ => trivial) ?_ ?_
                    · rintro j x H43 H' hj ⟨sm43, A, eA, ap⟩ ⟨T, c, rfl, hT, hc, rfl⟩
                      have nTD : D7 ≠ T := ne_of_none eA hT
                      have sc := sg c (List.mem_of_getElem? hc)
                      have yes : (0 < j → l[j - 1]? ≠ some c) → ∃ acc, (upd H43 T (.tup [V.int (j : Nat), vS [c]])) D7 = some (.lst acc) ∧ acc.length < sizeLine ∧ Same H42 (upd (upd H43 T (.tup [V.int (j : Nat), vS [c]])) D7 (.lst (acc ++ [vS [c]]))) ∧ ∃ A : L, (upd (upd H43 T (.tup [V.int (j : Nat), vS [c]])) D7 (.lst (acc ++ [vS [c]]))) D7 = some (.lst ((A.map fun c => [c]).map vS)) ∧ ApIn l A (j + 1) := fun hn => by
                        refine ⟨_, by rw [upd_ne nTD]; exact eA, ?_, ?_, A ++ [c], ?_, ap.yes hc sc hn⟩
                        · rw [List.length_map, List.length_map]
                          have := ap.len
                          exact small1000 (by omega)
                        · intro b o e
                          rw [upd_ne (ne_of_none e hD7)]
                          exact Same.upd' sm43 hT _ _ e
                        · rw [upd_same, List.map_append, List.map_append]
                          rfl
                      refine ⟨T, _, rfl, SqT.of upd_same, rfl, _, _, rfl, _, _, rfl, rfl, rfl, ?_⟩
                      refine ⟨_, rfl, _, _, rfl, rfl, _, rfl, ite2 (fun z => ?_) (fun z => ?_)⟩
                      · have z0 : (j : Int) = 0 := of_decide_eq_true z
                        exact iteT ⟨_, rfl, yes fun h => absurd h (by omega)⟩
                      · have z0 : ¬ (j : Int) = 0 := fun e => z (decide_eq_true e)
                        have i1 : (j : Int) - 1 = ((j - 1 : Nat) : Int) := by omega
                        have hl := List.getElem?_eq_getElem (l := l) (i := j - 1) (by omega)
                        refine ⟨_, rfl, _, rfl, _, _, rfl, rfl, l, _, l[j - 1], rfl, rfl, by omega, (congrArg (atI l) i1).trans (atI_nat hl), _, rfl, [l[j - 1]], [c], rfl, rfl, _, rfl, ?_⟩
                        by_cases e : l[j - 1] = c
                        · refine iteNS (by rw [e]) ?_
                          refine ⟨Same.upd' sm43 hT, A, by rw [upd_ne nTD]; exact eA, ap.no (by omega) (by rw [hl, hc, e])⟩
                        · refine ite2 (fun _ => ?_) (fun z2 => absurd (show (!decide ([l[j - 1]] = [c])) = true by rw [decide_eq_false (fun h => e (List.cons.inj h).1)]; rfl) z2)
                          exact ⟨_, rfl, yes fun _ h => e (by rw [hl] at h; exact Option.some.inj h)⟩
                    · rintro H43 ⟨sm43, A, eA, ap⟩
                      have nA := nf_apart ap.ap
                      have Al := ap.len
                      have e1 : ((A.map fun c => [c]).map (·.length)).sum = A.length := by
                        rw [← List.length_flatten, flat_one]
                      refine ⟨[], D7, A.map fun c => [c], rfl, rfl, .inl (SqL.of eA), by rw [e1]; simp only [List.length_nil, Nat.mul_zero]; omega, ?_⟩
                      rw [joinL_flat, flat_one]
                      have lea : least A = if A.reverse < A then A.reverse else A := nf_least nA
                      refine ⟨_, rfl, A, rfl, by omega, fun m1 hm1 => ⟨(by show 0 ≤ sizeLine; decide), fun m2 hm2 => ⟨m1, m2, creases A, [], rfl, rfl, SqL.of (by rw [upd_ne (ne_of_none upd_same hm2)]; exact upd_same), SqL.of upd_same, _, rfl, iteNS (nf_iff.mp nA) ?_⟩⟩⟩
                      have t1 := Same.upd' (o := .lst []) (Same.upd (o := .lst ((creases A).map vI)) hm1) hm2
                      refine ⟨_, rfl, A, rfl, by omega, fun H44 sm44 => ⟨_, rfl, _, rfl, A, rfl, big (by omega), A, A.reverse, rfl, _, _, rfl, rfl, _, rfl, iteNS lea ?_⟩⟩
                      refine ⟨_, rfl, A, rfl, by omega, fun H45 m3 hm3 sm45 e45 => ⟨(by show 0 ≤ sizeLine; decide), fun m4 hm4 => ⟨m3, m4, best true A, [], rfl, rfl, SqL.of (Same.upd hm4 _ _ e45), SqL.of upd_same, _, rfl, iteNS (best_nil true (nf_iff.mp nA)) ?_⟩⟩⟩
                      have sF := ((((sm41.trans sm42).trans sm43).trans t1).trans sm44).trans (Same.upd' (o := .lst []) sm45 hm4)
                      exact ⟨sF, _, _, _, _, _, _, _, _, _, _, _, _, _, rfl⟩
    · rintro σ H' ⟨sm, _⟩
      exact q _
end
end Lk
namespace Lk
open PySem PySem.Spec PyProof.Rows L2
/-! ### what the top has left -/
theorem txt_mk {K : PySem.W.Frag} {h : Heap} {mg : Str → Option Value} (X : K.In h) (G : h.Ns mainGlobals mg)
    (z_enumerate : PySem.W.nsIn K mainGlobals "enumerate" = some none)
    (z_len : PySem.W.nsIn K mainGlobals "len" = some none)
    (z_max : PySem.W.nsIn K mainGlobals "max" = some none)
    (z_min : PySem.W.nsIn K mainGlobals "min" = some none)
    (z_range : PySem.W.nsIn K mainGlobals "range" = some none)
    (z_set : PySem.W.nsIn K mainGlobals "set" = some none)
    (z_sorted : PySem.W.nsIn K mainGlobals "sorted" = some none)
    (z_zip : PySem.W.nsIn K mainGlobals "zip" = some none)
    {f1 : Addr} {od_f1 an_f1 : Option Addr} {sl_f1 : Array (Option Value)} {oc_f1 kV_f1 dc_f1 pm_f1 cd_f1 ct_f1 : Value} (a_f1 : PySem.W.nsIn K mainGlobals "lies_well" = some (some (.ref f1))) (l_f1 : K.lookup f1 = some ⟨oc_f1, od_f1, .func (PySem.W.fnOf "lies_well" "lies_well" (defArgs s_lies_well) (defBody s_lies_well) (defScope s_lies_well) .none kV_f1 dc_f1 pm_f1 an_f1 cd_f1 ct_f1), sl_f1⟩) (c_f1 : PySem.W.codeIn K cd_f1 "lies_well" = true) (k_f1 : PySem.W.keepIn K (.ref f1) = true)
    {f2 : Addr} {od_f2 an_f2 : Option Addr} {sl_f2 : Array (Option Value)} {oc_f2 kV_f2 dc_f2 pm_f2 cd_f2 ct_f2 : Value} (a_f2 : PySem.W.nsIn K mainGlobals "creases" = some (some (.ref f2))) (l_f2 : K.lookup f2 = some ⟨oc_f2, od_f2, .func (PySem.W.fnOf "creases" "creases" (defArgs s_creases) (defBody s_creases) (defScope s_creases) .none kV_f2 dc_f2 pm_f2 an_f2 cd_f2 ct_f2), sl_f2⟩) (c_f2 : PySem.W.codeIn K cd_f2 "creases" = true) (k_f2 : PySem.W.keepIn K (.ref f2) = true)
    {f3 : Addr} {od_f3 an_f3 : Option Addr} {sl_f3 : Array (Option Value)} {oc_f3 kV_f3 dc_f3 pm_f3 cd_f3 ct_f3 : Value} (a_f3 : PySem.W.nsIn K mainGlobals "left_of" = some (some (.ref f3))) (l_f3 : K.lookup f3 = some ⟨oc_f3, od_f3, .func (PySem.W.fnOf "left_of" "left_of" (defArgs s_left_of) (defBody s_left_of) (defScope s_left_of) .none kV_f3 dc_f3 pm_f3 an_f3 cd_f3 ct_f3), sl_f3⟩) (c_f3 : PySem.W.codeIn K cd_f3 "left_of" = true) (k_f3 : PySem.W.keepIn K (.ref f3) = true)
    {f5 : Addr} {od_f5 an_f5 : Option Addr} {sl_f5 : Array (Option Value)} {oc_f5 kV_f5 dc_f5 pm_f5 cd_f5 ct_f5 : Value} (a_f5 : PySem.W.nsIn K mainGlobals "least" = some (some (.ref f5))) (l_f5 : K.lookup f5 = some ⟨oc_f5, od_f5, .func (PySem.W.fnOf "least" "least" (defArgs s_least) (defBody s_least) (defScope s_least) .none kV_f5 dc_f5 pm_f5 an_f5 cd_f5 ct_f5), sl_f5⟩) (c_f5 : PySem.W.codeIn K cd_f5 "least" = true) (k_f5 : PySem.W.keepIn K (.ref f5) = true)
    {f6 : Addr} {od_f6 an_f6 : Option Addr} {sl_f6 : Array (Option Value)} {oc_f6 kV_f6 dc_f6 pm_f6 cd_f6 ct_f6 : Value} (a_f6 : PySem.W.nsIn K mainGlobals "all_of" = some (some (.ref f6))) (l_f6 : K.lookup f6 = some ⟨oc_f6, od_f6, .func (PySem.W.fnOf "all_of" "all_of" (defArgs s_all_of) (defBody s_all_of) (defScope s_all_of) .none kV_f6 dc_f6 pm_f6 an_f6 cd_f6 ct_f6), sl_f6⟩) (c_f6 : PySem.W.codeIn K cd_f6 "all_of" = true) (k_f6 : PySem.W.keepIn K (.ref f6) = true)
    {f7 : Addr} {od_f7 an_f7 : Option Addr} {sl_f7 : Array (Option Value)} {oc_f7 kV_f7 dc_f7 pm_f7 cd_f7 ct_f7 : Value} (a_f7 : PySem.W.nsIn K mainGlobals "comes_to" = some (some (.ref f7))) (l_f7 : K.lookup f7 = some ⟨oc_f7, od_f7, .func (PySem.W.fnOf "comes_to" "comes_to" (defArgs s_comes_to) (defBody s_comes_to) (defScope s_comes_to) .none kV_f7 dc_f7 pm_f7 an_f7 cd_f7 ct_f7), sl_f7⟩) (c_f7 : PySem.W.codeIn K cd_f7 "comes_to" = true) (k_f7 : PySem.W.keepIn K (.ref f7) = true)
    {f8 : Addr} {od_f8 an_f8 : Option Addr} {sl_f8 : Array (Option Value)} {oc_f8 kV_f8 dc_f8 pm_f8 cd_f8 ct_f8 : Value} (a_f8 : PySem.W.nsIn K mainGlobals "best_row" = some (some (.ref f8))) (l_f8 : K.lookup f8 = some ⟨oc_f8, od_f8, .func (PySem.W.fnOf "best_row" "best_row" (defArgs s_best_row) (defBody s_best_row) (defScope s_best_row) .none kV_f8 dc_f8 pm_f8 an_f8 cd_f8 ct_f8), sl_f8⟩) (c_f8 : PySem.W.codeIn K cd_f8 "best_row" = true) (k_f8 : PySem.W.keepIn K (.ref f8) = true)
    {f9 : Addr} {od_f9 an_f9 : Option Addr} {sl_f9 : Array (Option Value)} {oc_f9 kV_f9 dc_f9 pm_f9 cd_f9 ct_f9 : Value} (a_f9 : PySem.W.nsIn K mainGlobals "fewest_folds" = some (some (.ref f9))) (l_f9 : K.lookup f9 = some ⟨oc_f9, od_f9, .func (PySem.W.fnOf "fewest_folds" "fewest_folds" (defArgs s_fewest_folds) (defBody s_fewest_folds) (defScope s_fewest_folds) .none kV_f9 dc_f9 pm_f9 an_f9 cd_f9 ct_f9), sl_f9⟩) (c_f9 : PySem.W.codeIn K cd_f9 "fewest_folds" = true) (k_f9 : PySem.W.keepIn K (.ref f9) = true)
    {f10 : Addr} {od_f10 an_f10 : Option Addr} {sl_f10 : Array (Option Value)} {oc_f10 kV_f10 dc_f10 pm_f10 cd_f10 ct_f10 : Value} (a_f10 : PySem.W.nsIn K mainGlobals "most_folds" = some (some (.ref f10))) (l_f10 : K.lookup f10 = some ⟨oc_f10, od_f10, .func (PySem.W.fnOf "most_folds" "most_folds" (defArgs s_most_folds) (defBody s_most_folds) (defScope s_most_folds) .none kV_f10 dc_f10 pm_f10 an_f10 cd_f10 ct_f10), sl_f10⟩) (c_f10 : PySem.W.codeIn K cd_f10 "most_folds" = true) (k_f10 : PySem.W.keepIn K (.ref f10) = true)
    {f12 : Addr} {od_f12 an_f12 : Option Addr} {sl_f12 : Array (Option Value)} {oc_f12 kV_f12 dc_f12 pm_f12 cd_f12 ct_f12 : Value} (a_f12 : PySem.W.nsIn K mainGlobals "_law_bag" = some (some (.ref f12))) (l_f12 : K.lookup f12 = some ⟨oc_f12, od_f12, .func (PySem.W.fnOf "_law_bag" "_law_bag" (defArgs s__law_bag) (defBody s__law_bag) (defScope s__law_bag) .none kV_f12 dc_f12 pm_f12 an_f12 cd_f12 ct_f12), sl_f12⟩) (c_f12 : PySem.W.codeIn K cd_f12 "_law_bag" = true) (k_f12 : PySem.W.keepIn K (.ref f12) = true)
    {f13 : Addr} {od_f13 an_f13 : Option Addr} {sl_f13 : Array (Option Value)} {oc_f13 kV_f13 dc_f13 pm_f13 cd_f13 ct_f13 : Value} (a_f13 : PySem.W.nsIn K mainGlobals "_law_take" = some (some (.ref f13))) (l_f13 : K.lookup f13 = some ⟨oc_f13, od_f13, .func (PySem.W.fnOf "_law_take" "_law_take" (defArgs s__law_take) (defBody s__law_take) (defScope s__law_take) .none kV_f13 dc_f13 pm_f13 an_f13 cd_f13 ct_f13), sl_f13⟩) (c_f13 : PySem.W.codeIn K cd_f13 "_law_take" = true) (k_f13 : PySem.W.keepIn K (.ref f13) = true)
    {f14 : Addr} {od_f14 an_f14 : Option Addr} {sl_f14 : Array (Option Value)} {oc_f14 kV_f14 dc_f14 pm_f14 cd_f14 ct_f14 : Value} (a_f14 : PySem.W.nsIn K mainGlobals "_law_of" = some (some (.ref f14))) (l_f14 : K.lookup f14 = some ⟨oc_f14, od_f14, .func (PySem.W.fnOf "_law_of" "_law_of" (defArgs s__law_of) (defBody s__law_of) (defScope s__law_of) .none kV_f14 dc_f14 pm_f14 an_f14 cd_f14 ct_f14), sl_f14⟩) (c_f14 : PySem.W.codeIn K cd_f14 "_law_of" = true) (k_f14 : PySem.W.keepIn K (.ref f14) = true)
    {f15 : Addr} {od_f15 an_f15 : Option Addr} {sl_f15 : Array (Option Value)} {oc_f15 kV_f15 dc_f15 pm_f15 cd_f15 ct_f15 : Value} (a_f15 : PySem.W.nsIn K mainGlobals "_law_any_text" = some (some (.ref f15))) (l_f15 : K.lookup f15 = some ⟨oc_f15, od_f15, .func (PySem.W.fnOf "_law_any_text" "_law_any_text" (defArgs s__law_any_text) (defBody s__law_any_text) (defScope s__law_any_text) .none kV_f15 dc_f15 pm_f15 an_f15 cd_f15 ct_f15), sl_f15⟩) (c_f15 : PySem.W.codeIn K cd_f15 "_law_any_text" = true) (k_f15 : PySem.W.keepIn K (.ref f15) = true)
    {f16 : Addr} {od_f16 an_f16 : Option Addr} {sl_f16 : Array (Option Value)} {oc_f16 kV_f16 dc_f16 pm_f16 cd_f16 ct_f16 : Value} (a_f16 : PySem.W.nsIn K mainGlobals "_law_grown" = some (some (.ref f16))) (l_f16 : K.lookup f16 = some ⟨oc_f16, od_f16, .func (PySem.W.fnOf "_law_grown" "_law_grown" (defArgs s__law_grown) (defBody s__law_grown) (defScope s__law_grown) .none kV_f16 dc_f16 pm_f16 an_f16 cd_f16 ct_f16), sl_f16⟩) (c_f16 : PySem.W.codeIn K cd_f16 "_law_grown" = true) (k_f16 : PySem.W.keepIn K (.ref f16) = true)
    {f17 : Addr} {od_f17 an_f17 : Option Addr} {sl_f17 : Array (Option Value)} {oc_f17 kV_f17 dc_f17 pm_f17 cd_f17 ct_f17 : Value} (a_f17 : PySem.W.nsIn K mainGlobals "_law_strip" = some (some (.ref f17))) (l_f17 : K.lookup f17 = some ⟨oc_f17, od_f17, .func (PySem.W.fnOf "_law_strip" "_law_strip" (defArgs s__law_strip) (defBody s__law_strip) (defScope s__law_strip) .none kV_f17 dc_f17 pm_f17 an_f17 cd_f17 ct_f17), sl_f17⟩) (c_f17 : PySem.W.codeIn K cd_f17 "_law_strip" = true) (k_f17 : PySem.W.keepIn K (.ref f17) = true)
    {f21 : Addr} {od_f21 an_f21 : Option Addr} {sl_f21 : Array (Option Value)} {oc_f21 kV_f21 dc_f21 pm_f21 cd_f21 ct_f21 : Value} (a_f21 : PySem.W.nsIn K mainGlobals "_law_called" = some (some (.ref f21))) (l_f21 : K.lookup f21 = some ⟨oc_f21, od_f21, .func (PySem.W.fnOf "_law_called" "_law_called" (defArgs s__law_called) (defBody s__law_called) (defScope s__law_called) .none kV_f21 dc_f21 pm_f21 an_f21 cd_f21 ct_f21), sl_f21⟩) (c_f21 : PySem.W.codeIn K cd_f21 "_law_called" = true) (k_f21 : PySem.W.keepIn K (.ref f21) = true)
    {f23 : Addr} {od_f23 an_f23 : Option Addr} {sl_f23 : Array (Option Value)} {oc_f23 kV_f23 dc_f23 pm_f23 cd_f23 ct_f23 : Value} (a_f23 : PySem.W.nsIn K mainGlobals "law" = some (some (.ref f23))) (l_f23 : K.lookup f23 = some ⟨oc_f23, od_f23, .func (PySem.W.fnOf "law" "law" (defArgs s_law) (defBody s_law) (defScope s_law) .none kV_f23 dc_f23 pm_f23 an_f23 cd_f23 ct_f23), sl_f23⟩) (c_f23 : PySem.W.codeIn K cd_f23 "law" = true) (k_f23 : PySem.W.keepIn K (.ref f23) = true)
    : Txt K mg :=
  { b_enumerate := PySem.W.mg_none_of X G z_enumerate,
    b_len := PySem.W.mg_none_of X G z_len,
    b_max := PySem.W.mg_none_of X G z_max,
    b_min := PySem.W.mg_none_of X G z_min,
    b_range := PySem.W.mg_none_of X G z_range,
    b_set := PySem.W.mg_none_of X G z_set,
    b_sorted := PySem.W.mg_none_of X G z_sorted,
    b_zip := PySem.W.mg_none_of X G z_zip,
    d_lies_well := def_mk X G (fun _ _ _ _ _ _ us hl => match us, hl with | [_, _], _ => rfl) a_f1 l_f1 c_f1 k_f1,
    d_creases := def_mk X G (fun _ _ _ _ _ _ us hl => match us, hl with | [_], _ => rfl) a_f2 l_f2 c_f2 k_f2,
    d_left_of := def_mk X G (fun _ _ _ _ _ _ us hl => match us, hl with | [_, _], _ => rfl) a_f3 l_f3 c_f3 k_f3,
    d_least := def_mk X G (fun _ _ _ _ _ _ us hl => match us, hl with | [_], _ => rfl) a_f5 l_f5 c_f5 k_f5,
    d_all_of := def_mk X G (fun _ _ _ _ _ _ us hl => match us, hl with | [_], _ => rfl) a_f6 l_f6 c_f6 k_f6,
    d_comes_to := def_mk X G (fun _ _ _ _ _ _ us hl => match us, hl with | [_], _ => rfl) a_f7 l_f7 c_f7 k_f7,
    d_best_row := def_mk X G (fun _ _ _ _ _ _ us hl => match us, hl with | [_, _], _ => rfl) a_f8 l_f8 c_f8 k_f8,
    d_fewest_folds := def_mk X G (fun _ _ _ _ _ _ us hl => match us, hl with | [_], _ => rfl) a_f9 l_f9 c_f9 k_f9,
    d_most_folds := def_mk X G (fun _ _ _ _ _ _ us hl => match us, hl with | [_], _ => rfl) a_f10 l_f10 c_f10 k_f10,
    d__law_bag := def_mk X G (fun _ _ _ _ _ _ us hl => match us, hl with | [_, _], _ => rfl) a_f12 l_f12 c_f12 k_f12,
    d__law_take := def_mk X G (fun _ _ _ _ _ _ us hl => match us, hl with | [_, _], _ => rfl) a_f13 l_f13 c_f13 k_f13,
    d__law_of := def_mk X G (fun _ _ _ _ _ _ us hl => match us, hl with | [_, _], _ => rfl) a_f14 l_f14 c_f14 k_f14,
    d__law_any_text := def_mk X G (fun _ _ _ _ _ _ us hl => match us, hl with | [_, _, _], _ => rfl) a_f15 l_f15 c_f15 k_f15,
    d__law_grown := def_mk X G (fun _ _ _ _ _ _ us hl => match us, hl with | [_, _, _], _ => rfl) a_f16 l_f16 c_f16 k_f16,
    d__law_strip := def_mk X G (fun _ _ _ _ _ _ us hl => match us, hl with | [_, _], _ => rfl) a_f17 l_f17 c_f17 k_f17,
    d__law_called := def_mk X G (fun _ _ _ _ _ _ us hl => match us, hl with | [_, _], _ => rfl) a_f21 l_f21 c_f21 k_f21,
    d_law := def_mk X G (fun _ _ _ _ _ _ us hl => match us, hl with | [_], _ => rfl) a_f23 l_f23 c_f23 k_f23 }
theorem all_mk {l : PySem.W.OpenLaw} {w : World} {K : PySem.W.Frag} {mg : Str → Option Value} {fa : Addr} (T : Txt K mg) (hfa : mg "law" = some (.ref fa)) :
    ∃ fd : FuncData, (∀ (s : Shared) (v : Value), BindsTo s fd ⟨[v], []⟩ [("script", v)]) ∧ ∀ base : Heap, K.In base → base.Ns mainGlobals mg → FnOk l.prog w K mg base CX0 60 fa fd ["script"] (sp_law K) := by
  obtain ⟨f, fd, a, F, b, bt⟩ := T.d_law.ex
  have e := hfa.symm.trans a
  cases e
  exact ⟨fd, fun s v => bt s [v] rfl, fun base _ _ => ok_law T F⟩
end Lk
open PySem PySem.W PyProof.Rows
set_option maxRecDepth 100000 in
set_option maxHeartbeats 0 in
theorem PySem.Challenge.cw_likefolds_k09_whole_turned_about_and_oth_holds : PySem.Challenge.rw_likefolds_k09_whole_turned_about_and_oth.Holds := by
  w_on; o_law; k_head; (case hw => w_witness2)
  k_fill
  refine L2.walk_of (l := PySem.Challenge.rw_likefolds_k09_whole_turned_about_and_oth) (n := 63) (k := 60) (x := "script") (CX := fun _ => L2.CX0) (sp := fun w => Lk.sp_law _) rfl (by decide) rfl ⟨rfl, by decide, by decide⟩ (fun w h Y => PySem.W.kIn_of Y) ?F (fun _ _ a ns hl _ hS => ⟨a, ns, rfl, hS, hl, fun _ => rfl⟩) (fun _ _ _ _ _ h => h)
  case F =>
    intro w mg fa h KX G hmg
    refine Lk.all_mk ?T hmg
    refine' Lk.txt_mk KX G ?z_enumerate ?z_len ?z_max ?z_min ?z_range ?z_set ?z_sorted ?z_zip ?a_f1 ?l_f1 ?c_f1 ?k_f1 ?a_f2 ?l_f2 ?c_f2 ?k_f2 ?a_f3 ?l_f3 ?c_f3 ?k_f3 ?a_f5 ?l_f5 ?c_f5 ?k_f5 ?a_f6 ?l_f6 ?c_f6 ?k_f6 ?a_f7 ?l_f7 ?c_f7 ?k_f7 ?a_f8 ?l_f8 ?c_f8 ?k_f8 ?a_f9 ?l_f9 ?c_f9 ?k_f9 ?a_f10 ?l_f10 ?c_f10 ?k_f10 ?a_f12 ?l_f12 ?c_f12 ?k_f12 ?a_f13 ?l_f13 ?c_f13 ?k_f13 ?a_f14 ?l_f14 ?c_f14 ?k_f14 ?a_f15 ?l_f15 ?c_f15 ?k_f15 ?a_f16 ?l_f16 ?c_f16 ?k_f16 ?a_f17 ?l_f17 ?c_f17 ?k_f17 ?a_f21 ?l_f21 ?c_f21 ?k_f21 ?a_f23 ?l_f23 ?c_f23 ?k_f23
    (case z_enumerate => k_is)
    (case z_len => k_is)
    (case z_max => k_is)
    (case z_min => k_is)
    (case z_range => k_is)
    (case z_set => k_is)
    (case z_sorted => k_is)
    (case z_zip => k_is)
    (case a_f1 => k_is)
    (case l_f1 => k_is)
    (case c_f1 => k_is)
    (case k_f1 => k_is)
    (case a_f2 => k_is)
    (case l_f2 => k_is)
    (case c_f2 => k_is)
    (case k_f2 => k_is)
    (case a_f3 => k_is)
    (case l_f3 => k_is)
    (case c_f3 => k_is)
    (case k_f3 => k_is)
    (case a_f5 => k_is)
    (case l_f5 => k_is)
    (case c_f5 => k_is)
    (case k_f5 => k_is)
    (case a_f6 => k_is)
    (case l_f6 => k_is)
    (case c_f6 => k_is)
    (case k_f6 => k_is)
    (case a_f7 => k_is)
    (case l_f7 => k_is)
    (case c_f7 => k_is)
    (case k_f7 => k_is)
    (case a_f8 => k_is)
    (case l_f8 => k_is)
    (case c_f8 => k_is)
    (case k_f8 => k_is)
    (case a_f9 => k_is)
    (case l_f9 => k_is)
    (case c_f9 => k_is)
    (case k_f9 => k_is)
    (case a_f10 => k_is)
    (case l_f10 => k_is)
    (case c_f10 => k_is)
    (case k_f10 => k_is)
    (case a_f12 => k_is)
    (case l_f12 => k_is)
    (case c_f12 => k_is)
    (case k_f12 => k_is)
    (case a_f13 => k_is)
    (case l_f13 => k_is)
    (case c_f13 => k_is)
    (case k_f13 => k_is)
    (case a_f14 => k_is)
    (case l_f14 => k_is)
    (case c_f14 => k_is)
    (case k_f14 => k_is)
    (case a_f15 => k_is)
    (case l_f15 => k_is)
    (case c_f15 => k_is)
    (case k_f15 => k_is)
    (case a_f16 => k_is)
    (case l_f16 => k_is)
    (case c_f16 => k_is)
    (case k_f16 => k_is)
    (case a_f17 => k_is)
    (case l_f17 => k_is)
    (case c_f17 => k_is)
    (case k_f17 => k_is)
    (case a_f21 => k_is)
    (case l_f21 => k_is)
    (case c_f21 => k_is)
    (case k_f21 => k_is)
    (case a_f23 => k_is)
    (case l_f23 => k_is)
    (case c_f23 => k_is)
    (case k_f23 => k_is)
#print axioms PySem.Challenge.cw_likefolds_k09_whole_turned_about_and_oth_holds
