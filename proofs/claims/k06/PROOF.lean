import PyProof.Rows.All
import Wide.All
import OpenK.AllK
import Wide.FinOn
import HandS.ForMost
import HandS.More
import HandS.Style
import HandS.Codes
import HandS.IsInst
import PyProof.Rows.SortShellAny
import PyProof.Rows.StrRev
import PyProof.Rows.StrMeet
import HandS.DictComp
import HandS.Comp
import HandS.Dict
import HandS.Iter
import HandS.List
import HandS.Walk
import HandS.IsInst
import HandS.Flow
import KE.DataMinMax
import PyProof.StrOps2
import HandS.ExcIs
import HandS.ExcInit
import HandS.ClsMeth
import HandS.ExcOwn
import KE.KExcIs
import HandS.Conv
import HandS.Text
import HandS.Exc
import HandS.WordsExc
import KE.KSortKey
import PyProof.Rows.CallKwBuiltin
import PyProof.Draws
import PyProof.EnumMake
import PyProof.EnumFor
import KE.GoesMore
import KE.GoesZip
import PyProof.SumAny
import PyProof.SumWalk
import PyProof.ListOps
import PyProof.TupleOfSeq
import HandS.SortInts
import HandS.Replace
import HandS.Zip
import PySem.Challenge.RW_likefolds_k06_whole_what_lies_on_what
set_option Elab.async false
set_option linter.all false
set_option maxRecDepth 100000
set_option maxHeartbeats 4000000
/-! The mathematics of strips: folding, confluence, least strips. Plain lists of numbers. -/
namespace Fo
abbrev L := List Nat
/-- cells of the shorter side lie on like signs -/
def Lies (s : L) (c : Nat) : Prop := ∀ i, i < c → c + i < s.length → s[c - 1 - i]? = s[c + i]?
instance (s : L) (c : Nat) : Decidable (Lies s c) :=
  decidable_of_iff (∀ i, i < s.length → (i < c → c + i < s.length → s[c - 1 - i]? = s[c + i]?)) (by
    constructor
    · intro h i h1 h2
      exact h i (by omega) h1 h2
    · intro h i _ h1 h2
      exact h i h1 h2)
def Cr (s : L) (c : Nat) : Prop := 1 ≤ c ∧ c < s.length ∧ Lies s c
instance (s : L) (c : Nat) : Decidable (Cr s c) := by unfold Cr; infer_instance
def left (s : L) (c : Nat) : L := if 2 * c ≤ s.length then s.drop c else s.take c
def creases (s : L) : List Nat := (List.range' 1 (s.length - 1)).filter fun c => decide (Lies s c)
theorem mem_creases {s : L} {c : Nat} : c ∈ creases s ↔ Cr s c := by
  unfold creases Cr
  rw [List.mem_filter, List.mem_range'_1, decide_eq_true_eq]
  constructor
  · rintro ⟨⟨h1, h2⟩, h3⟩
    exact ⟨h1, by omega, h3⟩
  · rintro ⟨h1, h2, h3⟩
    exact ⟨⟨h1, by omega⟩, h3⟩
theorem left_len {s : L} {c : Nat} (h : Cr s c) : (left s c).length < s.length ∧ 1 ≤ (left s c).length := by
  obtain ⟨h1, h2, _⟩ := h
  unfold left
  split
  · rw [List.length_drop]; omega
  · rw [List.length_take]; omega
/-- t comes of s by folds -/
inductive Comes : L → L → Prop
  | refl (s : L) : Comes s s
  | step {s t : L} {c : Nat} : Cr s c → Comes (left s c) t → Comes s t
theorem Comes.trans {s t u : L} (a : Comes s t) (b : Comes t u) : Comes s u := by
  induction a with
  | refl => exact b
  | step h _ ih => exact .step h (ih b)
theorem Comes.one {s : L} {c : Nat} (h : Cr s c) : Comes s (left s c) := .step h (.refl _)
theorem Comes.len {s t : L} (a : Comes s t) : t.length ≤ s.length := by
  induction a with
  | refl => exact Nat.le_refl _
  | step h _ ih => have := (left_len h).1; omega
theorem Comes.pos {s t : L} (a : Comes s t) (h : 1 ≤ s.length) : 1 ≤ t.length := by
  induction a with
  | refl => exact h
  | step hc _ ih => exact ih (left_len hc).2
theorem left_mem {s : L} {c x : Nat} (h : x ∈ left s c) : x ∈ s := by
  unfold left at h
  split at h
  · exact List.mem_of_mem_drop h
  · exact List.mem_of_mem_take h
theorem Comes.mem {s t : L} (a : Comes s t) {x : Nat} (h : x ∈ t) : x ∈ s := by
  induction a with
  | refl => exact h
  | step _ _ ih => exact left_mem (ih h)
/-- least: no crease -/
def NF (s : L) : Prop := ∀ c, ¬ Cr s c
theorem nf_iff {s : L} : NF s ↔ creases s = [] := by
  constructor
  · intro h
    apply List.eq_nil_iff_forall_not_mem.mpr
    intro c hc
    exact h c (mem_creases.mp hc)
  · intro h c hc
    have := mem_creases.mpr hc
    rw [h] at this
    cases this
theorem nf_comes {s t : L} (h : NF s) (a : Comes s t) : t = s := by
  cases a with
  | refl => rfl
  | step h' _ => exact absurd h' (h _)

/-! ### turned about -/
theorem get_rev {s : L} {i : Nat} (h : i < s.length) : s.reverse[i]? = s[s.length - 1 - i]? := List.getElem?_reverse h
theorem cr_rev {s : L} {c : Nat} (h : Cr s c) : Cr s.reverse (s.length - c) := by
  obtain ⟨h1, h2, h3⟩ := h
  refine ⟨by omega, by rw [List.length_reverse]; omega, fun i hi hj => ?_⟩
  rw [List.length_reverse] at hj
  rw [get_rev (by omega), get_rev (by omega)]
  have := h3 i (by omega) (by omega)
  have e1 : s.length - 1 - (s.length - c - 1 - i) = c + i := by omega
  have e2 : s.length - 1 - (s.length - c + i) = c - 1 - i := by omega
  rw [e1, e2, this]
theorem cr_rev_iff {s : L} {c : Nat} (h1 : 1 ≤ c) (h2 : c < s.length) : Cr s.reverse c ↔ Cr s (s.length - c) := by
  constructor
  · intro h
    have := cr_rev h
    rw [List.reverse_reverse, List.length_reverse] at this
    exact this
  · intro h
    have := cr_rev h
    have e : s.length - (s.length - c) = c := by omega
    rw [e] at this
    exact this
theorem left_rev {s : L} {c : Nat} (h : Cr s c) : left s.reverse (s.length - c) = (left s c).reverse ∨ left s.reverse (s.length - c) = left s c := by
  obtain ⟨h1, h2, h3⟩ := h
  unfold left
  rw [List.length_reverse]
  by_cases hm : 2 * c = s.length
  · right
    rw [if_pos (by omega), if_pos (by omega)]
    apply List.ext_getElem?
    intro i
    rw [List.getElem?_drop, List.getElem?_drop]
    by_cases hi : c + i < s.length
    · have := h3 i (by omega) hi
      rw [get_rev (by omega), ← this]
      congr 1
      omega
    · rw [List.getElem?_eq_none (by rw [List.length_reverse]; omega), List.getElem?_eq_none (by omega)]
  · left
    by_cases hc : 2 * c ≤ s.length
    · rw [if_pos hc, if_neg (by omega), List.reverse_drop]
    · rw [if_neg hc, if_pos (by omega), List.reverse_take]
theorem left_rev_ne {s : L} {c : Nat} (h2 : c < s.length) (hm : 2 * c ≠ s.length) : left s.reverse (s.length - c) = (left s c).reverse := by
  unfold left
  rw [List.length_reverse]
  by_cases hc : 2 * c ≤ s.length
  · rw [if_pos hc, if_neg (by omega), List.reverse_drop]
  · rw [if_neg hc, if_pos (by omega), List.reverse_take]
theorem nf_rev {s : L} (h : NF s) : NF s.reverse := fun c hc => by
  have := cr_rev hc
  rw [List.reverse_reverse] at this
  exact h _ this
/-- alike: the same, or turned about -/
def Al (s t : L) : Prop := t = s ∨ t = s.reverse
theorem Al.refl (s : L) : Al s s := .inl rfl
theorem Al.symm {s t : L} (h : Al s t) : Al t s := by
  rcases h with rfl | rfl
  · exact .inl rfl
  · exact .inr (List.reverse_reverse _).symm
theorem Al.trans {s t u : L} (a : Al s t) (b : Al t u) : Al s u := by
  rcases a with rfl | rfl
  · exact b
  · rcases b with rfl | rfl
    · exact .inr rfl
    · exact .inl (List.reverse_reverse _)
theorem Al.rev {s t : L} (h : Al s t) : Al s t.reverse := h.trans (.inr rfl)
theorem Al.len {s t : L} (h : Al s t) : t.length = s.length := by
  rcases h with rfl | rfl
  · rfl
  · exact List.length_reverse
theorem Al.nf {s t : L} (h : Al s t) (n : NF s) : NF t := by
  rcases h with rfl | rfl
  · exact n
  · exact nf_rev n
theorem Al.mem {s t : L} (h : Al s t) {x : Nat} : x ∈ t ↔ x ∈ s := by
  rcases h with rfl | rfl
  · exact Iff.rfl
  · exact List.mem_reverse
/-- what is alike comes to alike -/
theorem Comes.al {s t s' : L} (a : Comes s t) : Al s s' → ∃ t', Comes s' t' ∧ Al t t' := by
  induction a generalizing s' with
  | refl s => exact fun h => ⟨s', .refl _, h⟩
  | @step s t c h _ ih =>
    intro e
    rcases e with rfl | rfl
    · obtain ⟨t', h1, h2⟩ := ih (.inl rfl)
      exact ⟨t', .step h h1, h2⟩
    · rcases left_rev h with e | e
      · obtain ⟨t', h1, h2⟩ := ih (.inr rfl)
        exact ⟨t', .step (cr_rev h) (by rw [e]; exact h1), h2⟩
      · obtain ⟨t', h1, h2⟩ := ih (.inl rfl)
        exact ⟨t', .step (cr_rev h) (by rw [e]; exact h1), h2⟩

/-! ### to and fro -/
/-- r is m turned about again and again, cut somewhere behind the first whole one -/
structure TF (m r : L) : Prop where
  len : m.length ≤ r.length
  a : ∀ i, i < m.length → r[i]? = m[i]?
  b : ∀ i, m.length ≤ i → i < 2 * m.length → i < r.length → r[i]? = r[2 * m.length - 1 - i]?
  c : ∀ i, 2 * m.length ≤ i → i < r.length → r[i]? = r[i - 2 * m.length]?
theorem TF.comes {m : L} (hm : 1 ≤ m.length) : ∀ (n : Nat) {m r : L}, r.length ≤ n → 1 ≤ m.length → TF m r → ∃ t, Comes r t ∧ Al m t := by
  intro n
  induction n with
  | zero =>
    intro m r h h1 t
    have := t.len
    omega
  | succ n ih =>
    intro m r hn h1 t
    have hl := t.len
    by_cases he : r.length = m.length
    · refine ⟨r, .refl _, .inl ?_⟩
      apply List.ext_getElem?
      intro i
      by_cases hi : i < m.length
      · exact t.a i hi
      · rw [List.getElem?_eq_none (by omega), List.getElem?_eq_none (by omega)]
    · have hc : Cr r m.length := by
        refine ⟨h1, by omega, fun i hi hj => ?_⟩
        have := t.b (m.length + i) (by omega) (by omega) hj
        rw [this]
        congr 1
        omega
      by_cases h2 : 2 * m.length ≤ r.length
      · have e : left r m.length = r.drop m.length := by unfold left; rw [if_pos h2]
        have t' : TF m.reverse (r.drop m.length) := by
          refine ⟨by rw [List.length_reverse, List.length_drop]; omega, fun i hi => ?_, fun i h3 h4 h5 => ?_, fun i h3 h4 => ?_⟩
          · rw [List.length_reverse] at hi
            rw [List.getElem?_drop, get_rev hi, ← t.a _ (by omega), t.b _ (by omega) (by omega) (by omega)]
            congr 1
            omega
          · rw [List.length_reverse] at h3 h4
            rw [List.length_drop] at h5
            rw [List.length_reverse, List.getElem?_drop, List.getElem?_drop, t.c _ (by omega) (by omega), t.b _ (by omega : m.length ≤ m.length + (2 * m.length - 1 - i)) (by omega) (by omega)]
            congr 1
            omega
          · rw [List.length_reverse] at h3
            rw [List.length_drop] at h4
            rw [List.length_reverse, List.getElem?_drop, List.getElem?_drop, t.c _ (by omega) (by omega)]
            congr 1
            omega
        obtain ⟨u, c1, c2⟩ := ih (by rw [List.length_drop]; omega) (by rw [List.length_reverse]; exact h1) t'
        refine ⟨u, .step hc (by rw [e]; exact c1), Al.trans (.inr rfl) c2⟩
      · have e : left r m.length = r.take m.length := by unfold left; rw [if_neg h2]
        refine ⟨r.take m.length, .step hc (by rw [e]; exact .refl _), .inl ?_⟩
        apply List.ext_getElem?
        intro i
        by_cases hi : i < m.length
        · rw [List.getElem?_take_of_lt hi, t.a i hi]
        · rw [List.getElem?_eq_none (by rw [List.length_take]; omega), List.getElem?_eq_none (by omega)]
theorem TF.to {m r : L} (hm : 1 ≤ m.length) (t : TF m r) : ∃ u, Comes r u ∧ Al m u := TF.comes hm r.length (Nat.le_refl _) hm t

/-! ### two creases -/
theorem loc {s : L} {c d : Nat} (hc : Cr s c) (hd : Cr s d) (hcd : c < d) : ∃ v w, Comes (left s c) v ∧ Comes (left s d) w ∧ Al v w := by
  obtain ⟨c1, c2, c3⟩ := hc
  obtain ⟨d1, d2, d3⟩ := hd
  by_cases h2d : 2 * d ≤ s.length
  · -- both keep the right
    have e1 : left s c = s.drop c := by unfold left; rw [if_pos (by omega)]
    have e2 : left s d = s.drop d := by unfold left; rw [if_pos h2d]
    rw [e1, e2]
    have k : Cr (s.drop c) (d - c) := by
      refine ⟨by omega, by rw [List.length_drop]; omega, fun i hi hj => ?_⟩
      rw [List.length_drop] at hj
      rw [List.getElem?_drop, List.getElem?_drop]
      have := d3 i (by omega) (by omega)
      have q1 : c + (d - c - 1 - i) = d - 1 - i := by omega
      have q2 : c + (d - c + i) = d + i := by omega
      rw [q1, q2, this]
    have e3 : left (s.drop c) (d - c) = s.drop d := by
      unfold left
      rw [if_pos (by rw [List.length_drop]; omega), List.drop_drop]
      congr 1
      omega
    exact ⟨s.drop d, s.drop d, .step k (by rw [e3]; exact .refl _), .refl _, .refl _⟩
  · have e2 : left s d = s.take d := by unfold left; rw [if_neg h2d]
    rw [e2]
    by_cases h2c : 2 * c ≤ s.length
    · have e1 : left s c = s.drop c := by unfold left; rw [if_pos h2c]
      rw [e1]
      -- the middle part
      have hb : ((s.drop c).take (d - c)).length = d - c := by rw [List.length_take, List.length_drop]; omega
      have mid : ∀ i, i < d - c → ((s.drop c).take (d - c))[i]? = s[c + i]? := fun i hi => by
        rw [List.getElem?_take_of_lt hi, List.getElem?_drop]
      generalize hm : (s.drop c).take (d - c) = m at hb mid
      -- both come to the middle, or it turned about
      have A : ∃ v, Comes (s.drop c) v ∧ Al m v := by
        have k : Cr (s.drop c) (d - c) := by
          refine ⟨by omega, by rw [List.length_drop]; omega, fun i hi hj => ?_⟩
          rw [List.length_drop] at hj
          rw [List.getElem?_drop, List.getElem?_drop]
          have := d3 i (by omega) (by omega)
          have q1 : c + (d - c - 1 - i) = d - 1 - i := by omega
          have q2 : c + (d - c + i) = d + i := by omega
          rw [q1, q2, this]
        by_cases hh : 2 * (d - c) ≤ s.length - c
        · have e3 : left (s.drop c) (d - c) = s.drop d := by
            unfold left
            rw [if_pos (by rw [List.length_drop]; omega), List.drop_drop]
            congr 1
            omega
          have t : TF m.reverse (s.drop d) := by
            refine ⟨by rw [List.length_reverse, List.length_drop, hb]; omega, fun i hi => ?_, fun i h3 h4 h5 => ?_, fun i h3 h4 => ?_⟩
            · rw [List.length_reverse, hb] at hi
              rw [List.getElem?_drop, get_rev (by omega), mid _ (by omega), ← d3 i (by omega) (by omega)]
              congr 1
              omega
            · rw [List.length_reverse, hb] at h3 h4
              rw [List.length_drop] at h5
              rw [List.length_reverse, hb, List.getElem?_drop, List.getElem?_drop, ← d3 i (by omega) (by omega)]
              have q1 : d - 1 - i = c - 1 - (i - (d - c)) := by omega
              rw [q1, c3 _ (by omega) (by omega), ← d3 (2 * (d - c) - 1 - i) (by omega) (by omega)]
              congr 1
              omega
            · rw [List.length_reverse, hb] at h3
              rw [List.length_drop] at h4
              rw [List.length_reverse, hb, List.getElem?_drop, List.getElem?_drop, ← d3 i (by omega) (by omega)]
              have q1 : d - 1 - i = c - 1 - (i - (d - c)) := by omega
              rw [q1, c3 _ (by omega) (by omega)]
              congr 1
              omega
          obtain ⟨u, q1, q2⟩ := t.to (by rw [List.length_reverse, hb]; omega)
          exact ⟨u, .step k (by rw [e3]; exact q1), Al.trans (.inr rfl) q2⟩
        · have e3 : left (s.drop c) (d - c) = m := by
            unfold left
            rw [if_neg (by rw [List.length_drop]; omega), hm]
          exact ⟨m, .step k (by rw [e3]; exact .refl _), .refl _⟩
      have B : ∃ w, Comes (s.take d) w ∧ Al m w := by
        have k : Cr (s.take d) c := by
          refine ⟨by omega, by rw [List.length_take]; omega, fun i hi hj => ?_⟩
          rw [List.length_take] at hj
          rw [List.getElem?_take_of_lt (by omega), List.getElem?_take_of_lt (by omega)]
          exact c3 i hi (by omega)
        by_cases hh : 2 * c ≤ d
        · have e3 : left (s.take d) c = m := by
            unfold left
            rw [if_pos (by rw [List.length_take]; omega), ← hm, List.drop_take]
          exact ⟨m, .step k (by rw [e3]; exact .refl _), .refl _⟩
        · have e3 : left (s.take d) c = s.take c := by
            unfold left
            rw [if_neg (by rw [List.length_take]; omega), List.take_take]
            congr 1
            omega
          have pr : ∀ i, i < c → (s.take c).reverse[i]? = s[c + i]? := fun i hi => by
            rw [get_rev (by rw [List.length_take]; omega), List.length_take, List.getElem?_take_of_lt (by omega), ← c3 i hi (by omega)]
            congr 1
            omega
          have hlr : (s.take c).reverse.length = c := by rw [List.length_reverse, List.length_take]; omega
          have t : TF m (s.take c).reverse := by
            refine ⟨by rw [hlr, hb]; omega, fun i hi => ?_, fun i h3 h4 h5 => ?_, fun i h3 h4 => ?_⟩
            · rw [hb] at hi
              rw [pr i (by omega), mid i hi]
            · rw [hb] at h3 h4
              rw [hlr] at h5
              rw [hb, pr i h5, pr _ (by omega)]
              have q1 : c + i = d + (i - (d - c)) := by omega
              rw [q1, ← d3 _ (by omega) (by omega)]
              congr 1
              omega
            · rw [hb] at h3
              rw [hlr] at h4
              rw [hb, pr i h4, pr _ (by omega)]
              have q1 : c + i = d + (i - (d - c)) := by omega
              rw [q1, ← d3 _ (by omega) (by omega)]
              have q2 : d - 1 - (i - (d - c)) = c - 1 - (i - 2 * (d - c)) := by omega
              rw [q2, c3 _ (by omega) (by omega)]
          obtain ⟨u, q1, q2⟩ := t.to (by omega)
          obtain ⟨u', q3, q4⟩ := q1.al (s' := s.take c) (.inr (List.reverse_reverse _).symm)
          exact ⟨u', .step k (by rw [e3]; exact q3), q2.trans q4⟩
      obtain ⟨v, v1, v2⟩ := A
      obtain ⟨w, w1, w2⟩ := B
      exact ⟨v, w, v1, w1, v2.symm.trans w2⟩
    · -- both keep the left
      have e1 : left s c = s.take c := by unfold left; rw [if_neg h2c]
      rw [e1]
      have k : Cr (s.take d) c := by
        refine ⟨by omega, by rw [List.length_take]; omega, fun i hi hj => ?_⟩
        rw [List.length_take] at hj
        rw [List.getElem?_take_of_lt (by omega), List.getElem?_take_of_lt (by omega)]
        exact c3 i hi (by omega)
      have e3 : left (s.take d) c = s.take c := by
        unfold left
        rw [if_neg (by rw [List.length_take]; omega), List.take_take]
        congr 1
        omega
      exact ⟨s.take c, s.take c, .refl _, .step k (by rw [e3]; exact .refl _), .refl _⟩

/-! ### the least strip -/
theorem has_nf : ∀ (n : Nat) (s : L), s.length ≤ n → ∃ t, Comes s t ∧ NF t := by
  intro n
  induction n with
  | zero =>
    intro s h
    exact ⟨s, .refl _, fun c hc => by have := hc.1; have := hc.2.1; omega⟩
  | succ n ih =>
    intro s h
    by_cases hs : ∃ c, Cr s c
    · obtain ⟨c, hc⟩ := hs
      have := (left_len hc).1
      obtain ⟨t, h1, h2⟩ := ih (left s c) (by omega)
      exact ⟨t, .step hc h1, h2⟩
    · exact ⟨s, .refl _, fun c hc => hs ⟨c, hc⟩⟩
theorem uniq_aux : ∀ (n : Nat) (s : L), s.length ≤ n → ∀ t u, Comes s t → NF t → Comes s u → NF u → Al t u := by
  intro n
  induction n with
  | zero =>
    intro s h t u a _ b _
    have hs : NF s := fun c hc => by have := hc.1; have := hc.2.1; omega
    rw [nf_comes hs a, nf_comes hs b]
    exact .refl _
  | succ n ih =>
    intro s h t u a nt b nu
    cases a with
    | refl => rw [nf_comes nt b]; exact .refl _
    | @step _ _ c hc a =>
      cases b with
      | refl => exact absurd hc (nu c)
      | @step _ _ d hd b =>
        have lc := (left_len hc).1
        have ld := (left_len hd).1
        have key : ∃ v w, Comes (left s c) v ∧ Comes (left s d) w ∧ Al v w := by
          rcases Nat.lt_trichotomy c d with g | g | g
          · exact loc hc hd g
          · subst g
            exact ⟨_, _, .refl _, .refl _, .refl _⟩
          · obtain ⟨v, w, h1, h2, h3⟩ := loc hd hc g
            exact ⟨w, v, h2, h1, h3.symm⟩
        obtain ⟨v, w, h1, h2, h3⟩ := key
        obtain ⟨x, x1, x2⟩ := has_nf w.length w (Nat.le_refl _)
        obtain ⟨x', y1, y2⟩ := x1.al h3.symm
        have p1 : Al t x' := ih (left s c) (by omega) t x' a nt (h1.trans y1) (y2.nf x2)
        have p2 : Al x u := ih (left s d) (by omega) x u (h2.trans x1) x2 b nu
        exact (p1.trans y2.symm).trans p2
/-- whatever is folded first: the same, or turned about -/
theorem uniq {s t u : L} (a : Comes s t) (nt : NF t) (b : Comes s u) (nu : NF u) : Al t u := uniq_aux s.length s (Nat.le_refl _) t u a nt b nu
end Fo


namespace Fo
/-- r comes to l, or to it turned about -/
def Up (r l : L) : Prop := ∃ t, Comes r t ∧ Al l t
theorem Up.refl (l : L) : Up l l := ⟨l, .refl l, .refl l⟩
theorem Up.trans {a b c : L} (h : Up a b) (k : Up b c) : Up a c := by
  obtain ⟨t, t1, t2⟩ := h
  obtain ⟨u, u1, u2⟩ := k
  obtain ⟨v, v1, v2⟩ := u1.al t2
  exact ⟨v, t1.trans v1, u2.trans v2⟩
theorem unf_left {l : L} {k : Nat} (h1 : 1 ≤ k) (h2 : k ≤ l.length) : Cr ((l.take k).reverse ++ l) k ∧ left ((l.take k).reverse ++ l) k = l := by
  have hl : ((l.take k).reverse).length = k := by rw [List.length_reverse, List.length_take]; omega
  refine ⟨⟨h1, by rw [List.length_append, hl]; omega, fun i hi hj => ?_⟩, ?_⟩
  · rw [List.length_append, hl] at hj
    rw [List.getElem?_append_left (by omega), List.getElem?_append_right (by omega), hl, get_rev (by rw [List.length_take]; omega), List.length_take, List.getElem?_take_of_lt (by omega)]
    congr 1
    omega
  · unfold left
    rw [if_pos (by rw [List.length_append, hl]; omega), List.drop_append_of_le_length (by omega), List.drop_of_length_le (by omega), List.nil_append]
theorem unf_right {l : L} {k : Nat} (h1 : 1 ≤ k) (h2 : k ≤ l.length) : Cr (l ++ (l.drop (l.length - k)).reverse) l.length ∧ (k < l.length → left (l ++ (l.drop (l.length - k)).reverse) l.length = l) ∧ Al l (left (l ++ (l.drop (l.length - k)).reverse) l.length) := by
  have hl : ((l.drop (l.length - k)).reverse).length = k := by rw [List.length_reverse, List.length_drop]; omega
  refine ⟨⟨by omega, by rw [List.length_append, hl]; omega, fun i hi hj => ?_⟩, fun hk => ?_, ?_⟩
  · rw [List.length_append, hl] at hj
    rw [List.getElem?_append_left (by omega), List.getElem?_append_right (by omega), get_rev (by rw [List.length_drop]; omega), List.length_drop, List.getElem?_drop]
    congr 1
    omega
  · unfold left
    rw [if_neg (by rw [List.length_append, hl]; omega), List.take_append_of_le_length (by omega), List.take_length]
  · unfold left
    by_cases hk : k = l.length
    · rw [if_pos (by rw [List.length_append, hl]; omega), List.drop_append_of_le_length (by omega), List.drop_length, List.nil_append]
      right
      congr 1
      rw [hk, Nat.sub_self, List.drop_zero]
    · rw [if_neg (by rw [List.length_append, hl]; omega), List.take_append_of_le_length (by omega), List.take_length]
      exact .refl _
theorem up_left {l : L} {k : Nat} (h1 : 1 ≤ k) (h2 : k ≤ l.length) : Up ((l.take k).reverse ++ l) l := by
  obtain ⟨a, b⟩ := unf_left h1 h2
  exact ⟨l, .step a (by rw [b]; exact .refl _), .refl _⟩
theorem up_right {l : L} {k : Nat} (h1 : 1 ≤ k) (h2 : k ≤ l.length) : Up (l ++ (l.drop (l.length - k)).reverse) l := by
  obtain ⟨a, _, b⟩ := unf_right h1 h2
  exact ⟨_, .one a, b⟩
/-- all signs are a, b, c or d -/
def Sg (l : L) : Prop := ∀ c ∈ l, 97 ≤ c ∧ c ≤ 100
theorem Sg.rev {l : L} (h : Sg l) : Sg l.reverse := fun c hc => h c (List.mem_reverse.mp hc)
theorem Sg.app {l m : L} (h : Sg l) (k : Sg m) : Sg (l ++ m) := fun c hc => by
  rcases List.mem_append.mp hc with e | e
  · exact h c e
  · exact k c e
theorem Sg.take {l : L} (h : Sg l) (n : Nat) : Sg (l.take n) := fun c hc => h c (List.mem_of_mem_take hc)
theorem Sg.drop {l : L} (h : Sg l) (n : Nat) : Sg (l.drop n) := fun c hc => h c (List.mem_of_mem_drop hc)
theorem Sg.comes {s t : L} (h : Sg s) (a : Comes s t) : Sg t := fun c hc => h c (a.mem hc)

/-! ### the least strip, told -/
def nfAux : Nat → L → L
  | 0, s => s
  | n + 1, s => match creases s with
    | [] => s
    | c :: _ => nfAux n (left s c)
theorem nfAux_ok : ∀ (n : Nat) (s : L), s.length ≤ n → Comes s (nfAux n s) ∧ NF (nfAux n s)
  | 0, s, h => ⟨.refl s, fun c hc => by have := hc.1; have : c < s.length := hc.2.1; omega⟩
  | n + 1, s, h => by
    unfold nfAux
    cases e : creases s with
    | nil => exact ⟨.refl s, nf_iff.mpr e⟩
    | cons c r =>
      have hc : Cr s c := mem_creases.mp (by rw [e]; exact List.mem_cons_self ..)
      have := (left_len hc).1
      obtain ⟨a, b⟩ := nfAux_ok n (left s c) (by omega)
      exact ⟨.step hc a, b⟩
def nf (s : L) : L := nfAux s.length s
theorem nf_ok (s : L) : Comes s (nf s) ∧ NF (nf s) := nfAux_ok s.length s (Nat.le_refl _)
def minL (a b : L) : L := if b < a then b else a
theorem minL_comm (a b : L) : minL a b = minL b a := by
  unfold minL
  by_cases h1 : b < a
  · rw [if_pos h1, if_neg (List.lt_asymm h1)]
  · by_cases h2 : a < b
    · rw [if_neg h1, if_pos h2]
    · rw [if_neg h1, if_neg h2]
      exact List.le_antisymm (List.not_lt.mp h1) (List.not_lt.mp h2)
theorem minL_al (a : L) : Al a (minL a a.reverse) := by
  unfold minL
  split
  · exact .inr rfl
  · exact .inl rfl
theorem minL_of_al {a b : L} (h : Al a b) : minL a a.reverse = minL b b.reverse := by
  rcases h with rfl | rfl
  · rfl
  · rw [List.reverse_reverse, minL_comm]
def least (s : L) : L := minL (nf s) (nf s).reverse
theorem least_al (s : L) : Al (nf s) (least s) := minL_al _
theorem least_nf (s : L) : NF (least s) := (least_al s).nf (nf_ok s).2
theorem least_le (s : L) : minL (least s) (least s).reverse = least s := (minL_of_al (least_al s)).symm
theorem least_of {s t : L} (a : Comes s t) (n : NF t) : least s = minL t t.reverse := minL_of_al (uniq (nf_ok s).1 (nf_ok s).2 a n)
theorem al_least {s t : L} (a : Comes s t) (n : NF t) : Al (least s) t := (least_al s).symm.trans (uniq (nf_ok s).1 (nf_ok s).2 a n)
theorem least_comes {s t : L} (a : Comes s t) : least t = least s := by
  rw [least_of (a.trans (nf_ok t).1) (nf_ok t).2]
  rfl
theorem least_of_al {s t : L} (h : Al s t) : least s = least t := by
  obtain ⟨u, u1, u2⟩ := (nf_ok s).1.al h
  rw [least_of u1 (u2.nf (nf_ok s).2), ← minL_of_al u2]
  rfl
theorem least_up {r l : L} (h : Up r l) : least r = least l := by
  obtain ⟨t, a, b⟩ := h
  rw [← least_comes a, least_of_al b]
theorem least_rev (s : L) : least s.reverse = least s := (least_of_al (.inr rfl)).symm
/-- s comes to its least strip, or to it turned about -/
theorem to_least (s : L) : Up s (least s) := ⟨nf s, (nf_ok s).1, (least_al s).symm⟩
theorem nf_least {s : L} (h : NF s) : least s = minL s s.reverse := least_of (.refl s) h
theorem least_least (s : L) : least (least s) = least s := by rw [nf_least (least_nf s), least_le]
theorem least_mem {s : L} {x : Nat} (h : x ∈ least s) : x ∈ s := (nf_ok s).1.mem ((least_al s).mem.mp h)
theorem least_len (s : L) : (least s).length ≤ s.length := by rw [(least_al s).len]; exact (nf_ok s).1.len
theorem least_pos {s : L} (h : 1 ≤ s.length) : 1 ≤ (least s).length := by rw [(least_al s).len]; exact (nf_ok s).1.pos h
theorem Sg.least {s : L} (h : Sg s) : Sg (least s) := fun c hc => h c (least_mem hc)
end Fo

namespace Fo
theorem lies_rev_iff {l : L} {c : Nat} (h1 : 1 ≤ c) (h2 : c < l.length) :
    (l.drop (c - min c (l.length - c))).take (c - (c - min c (l.length - c))) = ((l.drop c).take (c + min c (l.length - c) - c)).reverse ↔ Lies l c := by
  generalize hr : min c (l.length - c) = r
  have hr1 : r ≤ c := by omega
  have hr2 : c + r ≤ l.length := by omega
  have e1 : c - (c - r) = r := by omega
  have e2 : c + r - c = r := by omega
  rw [e1, e2]
  have hl : ((l.drop c).take r).length = r := by rw [List.length_take, List.length_drop]; omega
  have A : ∀ i, i < r → ((l.drop (c - r)).take r)[i]? = l[c - r + i]? := fun i hi => by
    rw [List.getElem?_take_of_lt hi, List.getElem?_drop]
  have B : ∀ i, i < r → (((l.drop c).take r).reverse)[i]? = l[c + (r - 1 - i)]? := fun i hi => by
    rw [get_rev (by omega), hl, List.getElem?_take_of_lt (by omega), List.getElem?_drop]
  constructor
  · intro h i hi hj
    have hir : i < r := by omega
    have z := A (r - 1 - i) (by omega)
    rw [h, B (r - 1 - i) (by omega)] at z
    have q1 : c + (r - 1 - (r - 1 - i)) = c + i := by omega
    have q2 : c - r + (r - 1 - i) = c - 1 - i := by omega
    rw [q1, q2] at z
    exact z.symm
  · intro h
    apply List.ext_getElem?
    intro i
    by_cases hi : i < r
    · rw [A i hi, B i hi]
      have z := h (r - 1 - i) (by omega) (by omega)
      have q1 : c - 1 - (r - 1 - i) = c - r + i := by omega
      rw [q1] at z
      exact z
    · rw [List.getElem?_eq_none (by rw [List.length_take]; omega), List.getElem?_eq_none (by rw [List.length_reverse, hl]; omega)]
theorem range'_snoc (n : Nat) : List.range' 1 (n + 1) = List.range' 1 n ++ [1 + n] := by
  rw [List.range'_concat]
  simp
def crTo (l : L) (i : Nat) : List Nat := (List.range' 1 i).filter fun c => decide (Lies l c)
theorem crTo_all (l : L) : crTo l (l.length - 1) = creases l := rfl
theorem crTo_yes {l : L} {i : Nat} (h : Lies l (1 + i)) : crTo l (i + 1) = crTo l i ++ [1 + i] := by
  unfold crTo
  rw [range'_snoc, List.filter_append]
  simp [h]
theorem crTo_no {l : L} {i : Nat} (h : ¬ Lies l (1 + i)) : crTo l (i + 1) = crTo l i := by
  unfold crTo
  rw [range'_snoc, List.filter_append]
  simp [h]
theorem crTo_len (l : L) (i : Nat) : (crTo l i).length ≤ i := by
  unfold crTo
  exact Nat.le_trans (List.length_filter_le _ _) (by simp)
theorem creases_len (l : L) : (creases l).length ≤ l.length := Nat.le_trans (crTo_len l _) (by omega)
end Fo

namespace Fo
/-! ### going through all that is reached -/
section
variable (nxt : L → List L)
/-- what stands behind the turns of a walk: found, and still to be looked at -/
inductive Star : L → L → Prop
  | refl (s : L) : Star s s
  | step {s t u : L} : t ∈ nxt s → Star t u → Star s u
theorem Star.snoc {s t u : L} (a : Star nxt s t) (h : u ∈ nxt t) : Star nxt s u := by
  induction a with
  | refl s => exact .step h (.refl u)
  | step h' _ ih => exact .step h' (ih h)
def Rch (st : List L) (t : L) : Prop := ∃ s ∈ st, Star nxt s t
structure Dfs (st fs rs : List L) : Prop where
  nd : fs.Nodup
  rc : ∀ t ∈ fs, Rch nxt st t
  sub : ∀ t ∈ rs, t ∈ fs
  st : ∀ s ∈ st, s ∈ fs
  cl : ∀ t ∈ fs, t ∉ rs → ∀ u ∈ nxt t, u ∈ fs
/-- within a turn at here, j of its next ones seen -/
structure DfsIn (st fs rs : List L) (here : L) (j : Nat) : Prop where
  nd : fs.Nodup
  rc : ∀ t ∈ fs, Rch nxt st t
  sub : ∀ t ∈ rs, t ∈ fs
  st : ∀ s ∈ st, s ∈ fs
  mem : here ∈ fs
  cl : ∀ t ∈ fs, t ∉ rs → t ≠ here → ∀ u ∈ nxt t, u ∈ fs
  did : ∀ u ∈ (nxt here).take j, u ∈ fs
variable {nxt}
theorem Dfs.start {st : List L} (h : st.Nodup) : Dfs nxt st st st :=
  ⟨h, fun t ht => ⟨t, ht, .refl t⟩, fun _ h => h, fun _ h => h, fun t h1 h2 => absurd h1 h2⟩
theorem Dfs.pop {st fs rs : List L} {here : L} (D : Dfs nxt st fs (rs ++ [here])) : DfsIn nxt st fs rs here 0 :=
  ⟨D.nd, D.rc, fun t ht => D.sub t (List.mem_append_left _ ht), D.st, D.sub here (List.mem_append_right _ (List.mem_singleton.mpr rfl)),
    fun t h1 h2 h3 => D.cl t h1 fun hm => (List.mem_append.mp hm).elim h2 fun z => h3 (List.mem_singleton.mp z), fun u hu => by simp at hu⟩
theorem DfsIn.old {st fs rs : List L} {here u : L} {j : Nat} (D : DfsIn nxt st fs rs here j) (hu : (nxt here)[j]? = some u) (hm : u ∈ fs) : DfsIn nxt st fs rs here (j + 1) := by
  refine ⟨D.nd, D.rc, D.sub, D.st, D.mem, D.cl, fun v hv => ?_⟩
  rw [List.take_add_one, hu] at hv
  rcases List.mem_append.mp hv with hv | hv
  · exact D.did v hv
  · have : v = u := by simpa using hv
    rw [this]
    exact hm
theorem DfsIn.new {st fs rs : List L} {here u : L} {j : Nat} (D : DfsIn nxt st fs rs here j) (hu : (nxt here)[j]? = some u) (hm : u ∉ fs) : DfsIn nxt st (fs ++ [u]) (rs ++ [u]) here (j + 1) := by
  have hnu : u ∈ nxt here := List.mem_of_getElem? hu
  refine ⟨?_, fun t ht => ?_, fun t ht => ?_, fun s hs => List.mem_append_left _ (D.st s hs), List.mem_append_left _ D.mem, fun t h1 h2 h3 v hv => ?_, fun v hv => ?_⟩
  · rw [List.nodup_append]
    refine ⟨D.nd, by simp, fun a ha b hb => ?_⟩
    rw [List.mem_singleton.mp hb]
    intro e
    rw [e] at ha
    exact hm ha
  · rcases List.mem_append.mp ht with ht | ht
    · exact D.rc t ht
    · rw [List.mem_singleton.mp ht]
      obtain ⟨s, hs, a⟩ := D.rc here D.mem
      exact ⟨s, hs, Star.snoc nxt a hnu⟩
  · rcases List.mem_append.mp ht with ht | ht
    · exact List.mem_append_left _ (D.sub t ht)
    · exact List.mem_append_right _ ht
  · rcases List.mem_append.mp h1 with h1 | h1
    · exact List.mem_append_left _ (D.cl t h1 (fun z => h2 (List.mem_append_left _ z)) h3 v hv)
    · exact absurd (List.mem_append_right _ h1) h2
  · rw [List.take_add_one, hu] at hv
    rcases List.mem_append.mp hv with hv | hv
    · exact List.mem_append_left _ (D.did v hv)
    · have : v = u := by simpa using hv
      rw [this]
      exact List.mem_append_right _ (List.mem_singleton.mpr rfl)
theorem DfsIn.skip {st fs rs : List L} {here : L} {j : Nat} (D : DfsIn nxt st fs rs here j) (hj : (nxt here).length ≤ j) : Dfs nxt st fs rs := by
  refine ⟨D.nd, D.rc, D.sub, D.st, fun t h1 h2 u hu => ?_⟩
  by_cases e : t = here
  · subst e
    exact D.did u (by rw [List.take_of_length_le hj]; exact hu)
  · exact D.cl t h1 h2 e u hu
theorem Dfs.done {st fs : List L} (D : Dfs nxt st fs []) (t : L) : t ∈ fs ↔ Rch nxt st t := by
  constructor
  · exact D.rc t
  · rintro ⟨s, hs, a⟩
    have h := D.st s hs
    clear hs
    induction a with
    | refl => exact h
    | @step s t u h1 _ ih => exact ih (D.cl s h (fun z => nomatch z) t h1)
end
/-! ### lists in order -/
def Srt (xs : List L) : Prop := xs.Pairwise fun a b => ¬ b < a
theorem srt_uniq {xs ys : List L} (h1 : Srt xs) (h2 : Srt ys) (n1 : xs.Nodup) (n2 : ys.Nodup) (h : ∀ t, t ∈ xs ↔ t ∈ ys) : xs = ys := by
  have hp : xs.Perm ys := (List.perm_ext_iff_of_nodup n1 n2).mpr h
  refine hp.eq_of_pairwise (le := fun a b => ¬ b < a) ?_ h1 h2
  intro a b _ _ h3 h4
  exact List.le_antisymm (List.not_lt.mp h3) (List.not_lt.mp h4)
/-- all strips that come of one -/
def nxtF (s : L) : List L := (creases s).map (left s)
theorem star_comes {s t : L} : Star nxtF s t ↔ Comes s t := by
  constructor
  · intro a
    induction a with
    | refl s => exact .refl s
    | step h _ ih =>
      obtain ⟨c, hc, rfl⟩ := List.mem_map.mp h
      exact .step (mem_creases.mp hc) ih
  · intro a
    induction a with
    | refl s => exact .refl s
    | step h _ ih => exact .step (List.mem_map.mpr ⟨_, mem_creases.mpr h, rfl⟩) ih
theorem rch_comes {s t : L} : Rch nxtF [s] t ↔ Comes s t := by
  constructor
  · rintro ⟨u, hu, a⟩
    rw [List.mem_singleton.mp hu] at a
    exact star_comes.mp a
  · intro a
    exact ⟨s, List.mem_singleton.mpr rfl, star_comes.mpr a⟩
def subs (l : L) : List L := (List.range (l.length + 1)).flatMap fun i => (List.range (l.length + 1)).map fun j => (l.drop i).take j
theorem mem_subs {l t : L} : t ∈ subs l ↔ ∃ i j, i ≤ l.length ∧ j ≤ l.length ∧ t = (l.drop i).take j := by
  unfold subs
  rw [List.mem_flatMap]
  constructor
  · rintro ⟨i, hi, h⟩
    obtain ⟨j, hj, e⟩ := List.mem_map.mp h
    have := List.mem_range.mp hi
    have := List.mem_range.mp hj
    exact ⟨i, j, by omega, by omega, e.symm⟩
  · rintro ⟨i, j, hi, hj, rfl⟩
    exact ⟨i, List.mem_range.mpr (by omega), List.mem_map.mpr ⟨j, List.mem_range.mpr (by omega), rfl⟩⟩
theorem subs_len (l : L) : (subs l).length = (l.length + 1) * (l.length + 1) := by
  unfold subs
  rw [List.length_flatMap]
  have : (List.map (fun i => ((List.range (l.length + 1)).map fun j => (l.drop i).take j).length) (List.range (l.length + 1))) = List.replicate (l.length + 1) (l.length + 1) := by
    rw [List.eq_replicate_iff]
    refine ⟨by simp, fun b hb => ?_⟩
    obtain ⟨i, _, e⟩ := List.mem_map.mp hb
    rw [← e]
    simp
  rw [this]
  simp
theorem comes_subs {l t : L} (a : Comes l t) : t ∈ subs l := by
  have gen : ∀ s t : L, Comes s t → (∃ i j, i ≤ l.length ∧ j ≤ l.length ∧ s = (l.drop i).take j) → ∃ i j, i ≤ l.length ∧ j ≤ l.length ∧ t = (l.drop i).take j := by
    intro s t a
    induction a with
    | refl => exact id
    | @step s t c hc _ ih =>
      rintro ⟨i, j, hi, hj, rfl⟩
      apply ih
      obtain ⟨c1, c2, _⟩ := hc
      rw [List.length_take, List.length_drop] at c2
      unfold left
      split
      · exact ⟨i + c, j - c, by omega, by omega, by rw [List.drop_take, List.drop_drop]⟩
      · exact ⟨i, min c j, hi, by omega, by rw [List.take_take]⟩
  rw [mem_subs]
  exact gen l t a ⟨0, l.length, by omega, by omega, by simp⟩
theorem found_le {l : L} {fs : List L} (nd : fs.Nodup) (h : ∀ t ∈ fs, Comes l t) : fs.length ≤ (l.length + 1) * (l.length + 1) := by
  rw [← subs_len]
  exact nd.length_le_of_subset fun t ht => comes_subs (h t ht)
end Fo

namespace Fo
/-! ### unfolding, all texts of a length -/
def waysL (n : Nat) : List (Nat × Nat) := (List.range' 1 n).map (fun m => (0, m)) ++ (List.range' 1 (n - 1)).map (fun m => (1, m))
def unfL (s : L) (w : Nat × Nat) : L := if w.1 = 0 then (s.take w.2).reverse ++ s else s ++ (s.drop (s.length - w.2)).reverse
theorem mem_ways {n : Nat} {w : Nat × Nat} : w ∈ waysL n ↔ (w.1 = 0 ∧ 1 ≤ w.2 ∧ w.2 ≤ n) ∨ (w.1 = 1 ∧ 1 ≤ w.2 ∧ w.2 < n) := by
  obtain ⟨e, m⟩ := w
  unfold waysL
  rw [List.mem_append, List.mem_map, List.mem_map]
  constructor
  · rintro (⟨k, hk, h⟩ | ⟨k, hk, h⟩)
    · rw [List.mem_range'_1] at hk
      injection h with h1 h2
      subst h1 h2
      exact .inl ⟨rfl, hk.1, by show k ≤ n; omega⟩
    · rw [List.mem_range'_1] at hk
      injection h with h1 h2
      subst h1 h2
      exact .inr ⟨rfl, hk.1, by show k < n; omega⟩
  · rintro (⟨h1, h2, h3⟩ | ⟨h1, h2, h3⟩)
    · exact .inl ⟨m, by rw [List.mem_range'_1]; have : m ≤ n := h3; have : 1 ≤ m := h2; omega, by rw [show e = 0 from h1]⟩
    · exact .inr ⟨m, by rw [List.mem_range'_1]; have : m < n := h3; have : 1 ≤ m := h2; omega, by rw [show e = 1 from h1]⟩
theorem unfL_len {s : L} {w : Nat × Nat} (h : w ∈ waysL s.length) : (unfL s w).length = s.length + w.2 := by
  unfold unfL
  rcases mem_ways.mp h with ⟨h1, h2, h3⟩ | ⟨h1, h2, h3⟩
  · rw [if_pos h1, List.length_append, List.length_reverse, List.length_take]
    omega
  · rw [if_neg (by omega), List.length_append, List.length_reverse, List.length_drop]
    omega
theorem unfL_cr {s : L} {w : Nat × Nat} (h : w ∈ waysL s.length) : ∃ c, Cr (unfL s w) c ∧ left (unfL s w) c = s := by
  unfold unfL
  rcases mem_ways.mp h with ⟨h1, h2, h3⟩ | ⟨h1, h2, h3⟩
  · rw [if_pos h1]
    exact ⟨_, unf_left h2 h3⟩
  · rw [if_neg (by omega)]
    obtain ⟨a, b, _⟩ := unf_right (l := s) h2 (by omega)
    exact ⟨_, a, b h3⟩
theorem cr_unfL {t : L} {c : Nat} (h : Cr t c) : ∃ w, w ∈ waysL (left t c).length ∧ unfL (left t c) w = t := by
  obtain ⟨h1, h2, h3⟩ := h
  by_cases hc : 2 * c ≤ t.length
  · have e : left t c = t.drop c := by unfold left; rw [if_pos hc]
    rw [e]
    refine ⟨(0, c), mem_ways.mpr (.inl ⟨rfl, h1, by show c ≤ _; rw [List.length_drop]; omega⟩), ?_⟩
    unfold unfL
    rw [if_pos rfl]
    have : ((t.drop c).take c).reverse = t.take c := by
      apply List.ext_getElem?
      intro i
      by_cases hi : i < c
      · rw [get_rev (by rw [List.length_take, List.length_drop]; omega), List.length_take, List.length_drop, List.getElem?_take_of_lt (by omega), List.getElem?_drop, List.getElem?_take_of_lt hi]
        have := h3 (c - 1 - i) (by omega) (by omega)
        rw [show c - 1 - (c - 1 - i) = i by omega] at this
        rw [this]
        congr 1
        omega
      · rw [List.getElem?_eq_none (by rw [List.length_reverse, List.length_take]; omega), List.getElem?_eq_none (by rw [List.length_take]; omega)]
    show ((t.drop c).take c).reverse ++ t.drop c = t
    rw [this, List.take_append_drop]
  · have e : left t c = t.take c := by unfold left; rw [if_neg hc]
    rw [e]
    have hl : (t.take c).length = c := by rw [List.length_take]; omega
    refine ⟨(1, t.length - c), mem_ways.mpr (.inr ⟨rfl, by show 1 ≤ t.length - c; omega, by show t.length - c < _; rw [hl]; omega⟩), ?_⟩
    unfold unfL
    rw [if_neg (by show ¬ (1 = 0); omega), hl]
    show t.take c ++ ((t.take c).drop (c - (t.length - c))).reverse = t
    have : ((t.take c).drop (c - (t.length - c))).reverse = t.drop c := by
      apply List.ext_getElem?
      intro i
      by_cases hi : i < t.length - c
      · rw [get_rev (by rw [List.length_drop, hl]; omega), List.length_drop, hl, List.getElem?_drop, List.getElem?_take_of_lt (by omega), List.getElem?_drop]
        have := h3 i (by omega) (by omega)
        rw [← this]
        congr 1
        omega
      · rw [List.getElem?_eq_none (by rw [List.length_reverse, List.length_drop, hl]; omega), List.getElem?_eq_none (by rw [List.length_drop]; omega)]
    rw [this, List.take_append_drop]
theorem unfL_mem {s : L} {w : Nat × Nat} {x : Nat} (h : x ∈ unfL s w) : x ∈ s := by
  unfold unfL at h
  split at h
  · rcases List.mem_append.mp h with h | h
    · exact List.mem_of_mem_take (List.mem_reverse.mp h)
    · exact h
  · rcases List.mem_append.mp h with h | h
    · exact h
    · exact List.mem_of_mem_drop (List.mem_reverse.mp h)
/-- no sign is lost by a fold -/
theorem Comes.mem2 {s t : L} (a : Comes s t) {x : Nat} (h : x ∈ s) : x ∈ t := by
  induction a with
  | refl => exact h
  | step hc _ ih =>
    obtain ⟨w, _, e⟩ := cr_unfL hc
    exact ih (unfL_mem (s := left _ _) (w := w) (by rw [e]; exact h))
theorem Comes.sg2 {s t : L} (a : Comes s t) (h : Sg t) : Sg s := fun c hc => h c (a.mem2 hc)
/-- the unfoldings of one strip, of at most m cells -/
def nxtO (m : Nat) (s : L) : List L := (waysL s.length).map fun w => if s.length + w.2 ≤ m then unfL s w else s
theorem star_over {m : Nat} {s t : L} (hs : s.length ≤ m) : Star (nxtO m) s t ↔ t.length ≤ m ∧ Comes t s := by
  constructor
  · intro a
    induction a with
    | refl s => exact ⟨hs, .refl s⟩
    | @step s t u h _ ih =>
      obtain ⟨w, hw, rfl⟩ := List.mem_map.mp h
      by_cases hm : s.length + w.2 ≤ m
      · rw [if_pos hm] at ih
        obtain ⟨i1, i2⟩ := ih (by rw [unfL_len hw]; exact hm)
        obtain ⟨c, c1, c2⟩ := unfL_cr hw
        exact ⟨i1, i2.trans (.step c1 (by rw [c2]; exact .refl s))⟩
      · rw [if_neg hm] at ih
        exact ih hs
  · rintro ⟨ht, a⟩
    induction a with
    | refl s => exact .refl s
    | @step t s c hc _ ih =>
      have hl := (left_len hc).1
      refine Star.snoc _ (ih hs (by omega)) ?_
      obtain ⟨w, hw, e⟩ := cr_unfL hc
      refine List.mem_map.mpr ⟨w, hw, ?_⟩
      have := unfL_len hw
      rw [e] at this
      rw [if_pos (by omega), e]
theorem rch_over {m : Nat} {st : List L} {t : L} (hst : ∀ s ∈ st, s.length ≤ m) : Rch (nxtO m) st t ↔ t.length ≤ m ∧ ∃ s ∈ st, Comes t s := by
  constructor
  · rintro ⟨s, hs, a⟩
    obtain ⟨h1, h2⟩ := (star_over (hst s hs)).mp a
    exact ⟨h1, s, hs, h2⟩
  · rintro ⟨h, s, hs, a⟩
    exact ⟨s, hs, (star_over (hst s hs)).mpr ⟨h, a⟩⟩
/-! all texts of a length -/
def sgs (k : Nat) : List Nat := [97, 98, 99, 100].take k
theorem sgs_sg {k c : Nat} (h : c ∈ sgs k) : 97 ≤ c ∧ c ≤ 100 := by
  have := List.mem_of_mem_take h
  simp at this
  omega
theorem sgs_nd (k : Nat) : (sgs k).Nodup := by
  unfold sgs
  exact List.Nodup.sublist (List.take_sublist ..) (by decide)
def txA (k : Nat) : Nat → List L
  | 0 => [[]]
  | n + 1 => (txA k n).flatMap fun t => (sgs k).map fun c => t ++ [c]
def txB (k : Nat) : Nat → List L
  | 0 => [[]]
  | n + 1 => (sgs k).flatMap fun c => (txB k n).map fun t => t ++ [c]
theorem snoc_cases {t : L} {n : Nat} (h : t.length = n + 1) : ∃ u c, t = u ++ [c] ∧ u.length = n := by
  refine ⟨t.dropLast, t.getLast (fun e => by rw [e] at h; simp at h), ?_, ?_⟩
  · rw [List.dropLast_concat_getLast]
  · rw [List.length_dropLast]; omega
theorem mem_txA {k : Nat} : ∀ {n : Nat} {t : L}, t ∈ txA k n ↔ t.length = n ∧ ∀ c ∈ t, c ∈ sgs k
  | 0, t => by
    unfold txA
    rw [List.mem_singleton]
    constructor
    · rintro rfl
      exact ⟨rfl, fun c hc => nomatch hc⟩
    · rintro ⟨h, _⟩
      exact List.length_eq_zero_iff.mp h
  | n + 1, t => by
    unfold txA
    rw [List.mem_flatMap]
    constructor
    · rintro ⟨u, hu, h⟩
      obtain ⟨c, hc, rfl⟩ := List.mem_map.mp h
      obtain ⟨h1, h2⟩ := mem_txA.mp hu
      refine ⟨by rw [List.length_append, h1]; rfl, fun x hx => ?_⟩
      rcases List.mem_append.mp hx with hx | hx
      · exact h2 x hx
      · rw [List.mem_singleton.mp hx]
        exact hc
    · rintro ⟨h1, h2⟩
      obtain ⟨u, c, rfl, hu⟩ := snoc_cases h1
      exact ⟨u, mem_txA.mpr ⟨hu, fun x hx => h2 x (List.mem_append_left _ hx)⟩, List.mem_map.mpr ⟨c, h2 c (by simp), rfl⟩⟩
theorem mem_txB {k : Nat} : ∀ {n : Nat} {t : L}, t ∈ txB k n ↔ t.length = n ∧ ∀ c ∈ t, c ∈ sgs k
  | 0, t => by
    unfold txB
    rw [List.mem_singleton]
    constructor
    · rintro rfl
      exact ⟨rfl, fun c hc => nomatch hc⟩
    · rintro ⟨h, _⟩
      exact List.length_eq_zero_iff.mp h
  | n + 1, t => by
    unfold txB
    rw [List.mem_flatMap]
    constructor
    · rintro ⟨c, hc, h⟩
      obtain ⟨u, hu, rfl⟩ := List.mem_map.mp h
      obtain ⟨h1, h2⟩ := mem_txB.mp hu
      refine ⟨by rw [List.length_append, h1]; rfl, fun x hx => ?_⟩
      rcases List.mem_append.mp hx with hx | hx
      · exact h2 x hx
      · rw [List.mem_singleton.mp hx]
        exact hc
    · rintro ⟨h1, h2⟩
      obtain ⟨u, c, rfl, hu⟩ := snoc_cases h1
      exact ⟨c, h2 c (by simp), List.mem_map.mpr ⟨u, mem_txB.mpr ⟨hu, fun x hx => h2 x (List.mem_append_left _ hx)⟩, rfl⟩⟩
theorem snoc_inj {u v : L} {c d : Nat} (h : u ++ [c] = v ++ [d]) : u = v ∧ c = d := by
  have := List.append_inj' h rfl
  exact ⟨this.1, by simpa using this.2⟩
theorem txA_nd (k : Nat) : ∀ n, (txA k n).Nodup
  | 0 => by simp [txA]
  | n + 1 => by
    unfold txA List.Nodup
    rw [List.pairwise_flatMap]
    refine ⟨fun t _ => ?_, (txA_nd k n).imp fun {a b} hab x hx y hy e => ?_⟩
    · rw [List.pairwise_map]
      exact (sgs_nd k).imp fun {a b} hab e => hab (snoc_inj e).2
    · obtain ⟨c, _, rfl⟩ := List.mem_map.mp hx
      obtain ⟨d, _, rfl⟩ := List.mem_map.mp hy
      exact hab (snoc_inj e).1
theorem txB_nd (k : Nat) : ∀ n, (txB k n).Nodup
  | 0 => by simp [txB]
  | n + 1 => by
    unfold txB List.Nodup
    rw [List.pairwise_flatMap]
    refine ⟨fun t _ => ?_, (sgs_nd k).imp fun {a b} hab x hx y hy e => ?_⟩
    · rw [List.pairwise_map]
      exact (txB_nd k n).imp fun {a b} hab e => hab (snoc_inj e).1
    · obtain ⟨c, _, rfl⟩ := List.mem_map.mp hx
      obtain ⟨d, _, rfl⟩ := List.mem_map.mp hy
      exact hab (snoc_inj e).2
theorem txAB (k n : Nat) : (txA k n).Perm (txB k n) := (List.perm_ext_iff_of_nodup (txA_nd k n) (txB_nd k n)).mpr fun t => mem_txA.trans mem_txB.symm
theorem sgs_le (k : Nat) : (sgs k).length ≤ 4 := by
  unfold sgs
  rw [List.length_take]
  exact Nat.min_le_right _ _
theorem sum_le {α : Type} (f : α → Nat) (b : Nat) : ∀ xs : List α, (∀ x ∈ xs, f x ≤ b) → (xs.map f).sum ≤ xs.length * b
  | [], _ => by simp
  | x :: r, h => by
    rw [List.map_cons, List.sum_cons, List.length_cons, Nat.add_mul]
    have := h x (List.mem_cons_self ..)
    have := sum_le f b r fun y hy => h y (List.mem_cons_of_mem _ hy)
    omega
theorem txA_len (k : Nat) : ∀ n, (txA k n).length ≤ 4 ^ n
  | 0 => by simp [txA]
  | n + 1 => by
    unfold txA
    rw [List.length_flatMap]
    have h := sum_le (fun t : L => ((sgs k).map fun c => t ++ [c]).length) 4 (txA k n) (fun t _ => by rw [List.length_map]; exact sgs_le k)
    have := txA_len k n
    rw [Nat.pow_succ]
    omega
theorem txB_len (k n : Nat) : (txB k n).length ≤ 4 ^ n := by
  rw [← (txAB k n).length_eq]
  exact txA_len k n
def upTo (n : Nat) : List L := (List.range n).flatMap (txA 4)
theorem upTo_len : ∀ n, (upTo n).length ≤ 4 ^ n
  | 0 => by simp [upTo]
  | n + 1 => by
    have e : upTo (n + 1) = upTo n ++ txA 4 n := by
      unfold upTo
      rw [List.range_succ, List.flatMap_append]
      simp
    rw [e, List.length_append]
    have := upTo_len n
    have := txA_len 4 n
    rw [Nat.pow_succ]
    omega
theorem sg_sgs {t : L} (h : Sg t) : ∀ c ∈ t, c ∈ sgs 4 := fun c hc => by
  have := h c hc
  have : c = 97 ∨ c = 98 ∨ c = 99 ∨ c = 100 := by omega
  rcases this with e | e | e | e <;> subst e <;> decide
theorem found_upTo {fs : List L} {m : Nat} (nd : fs.Nodup) (h : ∀ t ∈ fs, t.length ≤ m ∧ Sg t) : fs.length ≤ 4 ^ (m + 1) := by
  refine Nat.le_trans (nd.length_le_of_subset fun t ht => ?_) (upTo_len (m + 1))
  obtain ⟨h1, h2⟩ := h t ht
  exact List.mem_flatMap.mpr ⟨t.length, List.mem_range.mpr (by omega), mem_txA.mpr ⟨rfl, sg_sgs h2⟩⟩
end Fo

namespace Fo
/-! ### the best rows -/
/-- a stands ahead of b: fewer (more) folds, then the lower row -/
def Ahead (few : Bool) (a b : List Nat) : Prop := (if few then a.length < b.length else b.length < a.length) ∨ a.length = b.length ∧ a < b
instance (few : Bool) (a b : List Nat) : Decidable (Ahead few a b) := by unfold Ahead; infer_instance
theorem ahead_total {few : Bool} {a b : List Nat} (h1 : ¬ Ahead few a b) (h2 : ¬ Ahead few b a) : a = b := by
  unfold Ahead at h1 h2
  have e : a.length = b.length := by
    cases few <;> simp at h1 h2 <;> omega
  have n1 : ¬ a < b := fun z => h1 (.inr ⟨e, z⟩)
  have n2 : ¬ b < a := fun z => h2 (.inr ⟨e.symm, z⟩)
  exact List.le_antisymm (List.not_lt.mp n2) (List.not_lt.mp n1)
theorem ahead_trans {few : Bool} {a b c : List Nat} (h1 : Ahead few a b) (h2 : Ahead few b c) : Ahead few a c := by
  unfold Ahead at *
  rcases h1 with h1 | ⟨h1, h1'⟩ <;> rcases h2 with h2 | ⟨h2, h2'⟩
  · left; cases few <;> simp at * <;> omega
  · left; cases few <;> simp at * <;> omega
  · left; cases few <;> simp at * <;> omega
  · right; exact ⟨by omega, List.lt_trans h1' h2'⟩
theorem ahead_irrefl {few : Bool} (a : List Nat) : ¬ Ahead few a a := by
  unfold Ahead
  rintro (h | ⟨_, h⟩)
  · cases few <;> simp at h
  · exact List.lt_irrefl _ h
/-- r is the best of some -/
def Best (few : Bool) (cs : List (List Nat)) (r : List Nat) : Prop := r ∈ cs ∧ ∀ x ∈ cs, ¬ Ahead few x r
theorem Best.uniq {few : Bool} {cs : List (List Nat)} {r s : List Nat} (h : Best few cs r) (k : Best few cs s) : r = s := ahead_total (k.2 r h.1) (h.2 s k.1)
def pickB (few : Bool) : Option (List Nat) → List (List Nat) → Option (List Nat)
  | o, [] => o
  | none, x :: r => pickB few (some x) r
  | some y, x :: r => pickB few (some (if Ahead few x y then x else y)) r
theorem pickB_snoc (few : Bool) : ∀ (xs : List (List Nat)) (o : Option (List Nat)) (x : List Nat), pickB few o (xs ++ [x]) = some (match pickB few o xs with | none => x | some y => if Ahead few x y then x else y)
  | [], none, x => rfl
  | [], some y, x => rfl
  | z :: r, none, x => by
    show pickB few (some z) (r ++ [x]) = _
    rw [pickB_snoc few r (some z) x]
    rfl
  | z :: r, some y, x => by
    show pickB few (some (if Ahead few z y then z else y)) (r ++ [x]) = _
    rw [pickB_snoc few r _ x]
    rfl
theorem pickB_ok (few : Bool) (xs : List (List Nat)) (hne : xs ≠ []) : ∃ r, pickB few none xs = some r ∧ Best few xs r := by
  have gen : ∀ n, ∀ xs : List (List Nat), xs.length = n → xs ≠ [] → ∃ r, pickB few none xs = some r ∧ Best few xs r := by
    intro n
    induction n with
    | zero => intro xs h hne; exact absurd (List.length_eq_zero_iff.mp h) hne
    | succ n ih =>
      intro xs h hne
      obtain ⟨ys, x, rfl⟩ : ∃ ys x, xs = ys ++ [x] := ⟨xs.dropLast, xs.getLast hne, (List.dropLast_concat_getLast hne).symm⟩
      rw [pickB_snoc]
      by_cases hy : ys = []
      · subst hy
        exact ⟨x, rfl, by simp, fun z hz => by rw [show z = x by simpa using hz]; exact ahead_irrefl x⟩
      · obtain ⟨r, h1, h2, h3⟩ := ih ys (by rw [List.length_append] at h; simp at h; exact h) hy
        rw [h1]
        refine ⟨_, rfl, ?_, fun z hz => ?_⟩
        · show (if Ahead few x r then x else r) ∈ _
          split
          · exact List.mem_append_right _ (by simp)
          · exact List.mem_append_left _ h2
        · show ¬ Ahead few z (if Ahead few x r then x else r)
          rcases List.mem_append.mp hz with hz | hz
          · split
            · rename_i hx
              exact fun k => h3 z hz (ahead_trans k hx)
            · exact h3 z hz
          · rw [show z = x by simpa using hz]
            split
            · exact ahead_irrefl x
            · assumption
  exact gen xs.length xs rfl hne
/-- the best row that leads to an end -/
def bestN (few : Bool) : Nat → L → List Nat
  | 0, _ => []
  | n + 1, s => (pickB few none ((creases s).map fun c => c :: bestN few n (left s c))).getD []
theorem bestN_eq (few : Bool) : ∀ (n m : Nat) (s : L), s.length ≤ n → s.length ≤ m → bestN few n s = bestN few m s
  | 0, m, s, h, _ => by
    have e : s = [] := List.length_eq_zero_iff.mp (by omega)
    subst e
    cases m with
    | zero => rfl
    | succ m => rfl
  | n + 1, 0, s, _, h => by
    have e : s = [] := List.length_eq_zero_iff.mp (by omega)
    subst e
    rfl
  | n + 1, m + 1, s, h1, h2 => by
    unfold bestN
    congr 2
    apply List.map_congr_left
    intro c hc
    have := (left_len (mem_creases.mp hc)).1
    rw [bestN_eq few n m (left s c) (by omega) (by omega)]
def best (few : Bool) (s : L) : List Nat := bestN few s.length s
def cands (few : Bool) (s : L) : List (List Nat) := (creases s).map fun c => c :: best few (left s c)
theorem best_step (few : Bool) (s : L) : best few s = (pickB few none (cands few s)).getD [] := by
  unfold best cands
  cases h : s.length with
  | zero =>
    have e : s = [] := List.length_eq_zero_iff.mp h
    subst e
    rfl
  | succ n =>
    show (pickB few none ((creases s).map fun c => c :: bestN few n (left s c))).getD [] = _
    congr 2
    apply List.map_congr_left
    intro c hc
    have := (left_len (mem_creases.mp hc)).1
    show c :: bestN few n (left s c) = c :: bestN few (left s c).length (left s c)
    rw [bestN_eq few n (left s c).length (left s c) (by omega) (Nat.le_refl _)]
theorem best_nil (few : Bool) {s : L} (h : creases s = []) : best few s = [] := by
  rw [best_step]
  unfold cands
  rw [h]
  rfl
theorem best_best (few : Bool) {s : L} (h : creases s ≠ []) : Best few (cands few s) (best few s) := by
  obtain ⟨r, h1, h2⟩ := pickB_ok few (cands few s) (by unfold cands; intro e; exact h (List.map_eq_nil_iff.mp e))
  rw [best_step, h1]
  exact h2
/-- a row of folds, one after the other -/
def RowOk : L → List Nat → L → Prop
  | s, [], t => s = t
  | s, c :: r, t => Cr s c ∧ RowOk (left s c) r t
theorem RowOk.comes : ∀ {r : List Nat} {s t : L}, RowOk s r t → Comes s t
  | [], s, t, h => by rw [show s = t from h]; exact .refl t
  | c :: r, s, t, h => .step h.1 (RowOk.comes h.2)
theorem RowOk.len : ∀ {r : List Nat} {s t : L}, RowOk s r t → r.length + t.length ≤ s.length
  | [], s, t, h => by rw [show s = t from h]; simp
  | c :: r, s, t, h => by
    have := RowOk.len h.2
    have := (left_len h.1).1
    rw [List.length_cons]
    omega
theorem best_row (few : Bool) : ∀ (n : Nat) (s : L), s.length ≤ n → ∃ t, RowOk s (best few s) t ∧ NF t
  | n, s, h => by
    by_cases hc : creases s = []
    · rw [best_nil few hc]
      exact ⟨s, rfl, nf_iff.mpr hc⟩
    · obtain ⟨c, c1, c2⟩ := List.mem_map.mp (best_best few hc).1
      have hcr := mem_creases.mp c1
      have := (left_len hcr).1
      obtain ⟨t, t1, t2⟩ := best_row few (left s c).length (left s c) (Nat.le_refl _)
      rw [← c2]
      exact ⟨t, ⟨hcr, t1⟩, t2⟩
termination_by _ s _ => s.length
theorem best_ok (few : Bool) (s : L) : ∃ t, RowOk s (best few s) t ∧ NF t := best_row few s.length s (Nat.le_refl _)
theorem best_len (few : Bool) (s : L) : (best few s).length ≤ s.length := by
  obtain ⟨t, h, _⟩ := best_ok few s
  have := h.len
  omega
theorem row_lt : ∀ {r : List Nat} {s t : L}, RowOk s r t → ∀ c ∈ r, c < s.length
  | [], _, _, _, _, hc => nomatch hc
  | c :: r, s, t, h, x, hx => by
    rcases List.mem_cons.mp hx with rfl | hx
    · exact h.1.2.1
    · have := row_lt h.2 x hx
      have := (left_len h.1).1
      omega
/-- the program's choice: the shortest (longest), of these the lowest -/
theorem best_choice {few : Bool} {cs : List (List Nat)} {m : Nat} {r : List Nat} (h1 : ∃ x ∈ cs, x.length = m) (h2 : ∀ x ∈ cs, if few then m ≤ x.length else x.length ≤ m) (h3 : r ∈ cs.filter fun x => decide (x.length = m)) (h4 : ∀ x ∈ cs.filter fun x => decide (x.length = m), ¬ x < r) : Best few cs r := by
  obtain ⟨r1, r2⟩ := List.mem_filter.mp h3
  have r2 := of_decide_eq_true r2
  refine ⟨r1, fun x hx => ?_⟩
  unfold Ahead
  have := h2 x hx
  rintro (h | ⟨h, k⟩)
  · cases few <;> simp at this h <;> omega
  · exact h4 x (List.mem_filter.mpr ⟨hx, decide_eq_true (by omega)⟩) k
end Fo

namespace Fo
/-! ### to and fro words, words of one sign -/
theorem TF.take {m r : L} (t : TF m r) {n : Nat} (h : m.length ≤ n) : TF m (r.take n) := by
  refine ⟨by rw [List.length_take]; have := t.len; omega, fun i hi => ?_, fun i h1 h2 h3 => ?_, fun i h1 h2 => ?_⟩
  · rw [List.getElem?_take_of_lt (by omega)]
    exact t.a i hi
  · rw [List.length_take] at h3
    rw [List.getElem?_take_of_lt (by omega), List.getElem?_take_of_lt (by omega)]
    exact t.b i h1 h2 (by omega)
  · rw [List.length_take] at h2
    rw [List.getElem?_take_of_lt (by omega), List.getElem?_take_of_lt (by omega)]
    exact t.c i h1 (by omega)
theorem TF.least {m r : L} (hm : 1 ≤ m.length) (t : TF m r) : least r = least m := by
  obtain ⟨u, a, b⟩ := t.to hm
  rw [← least_comes a, least_of_al b]
/-- w, w turned about, w, .. -/
def tfw (w : L) : Nat → L
  | 0 => []
  | n + 1 => tfw w n ++ (if n % 2 = 0 then w else w.reverse)
theorem tfw_len (w : L) : ∀ n, (tfw w n).length = n * w.length
  | 0 => by simp [tfw]
  | n + 1 => by
    unfold tfw
    rw [List.length_append, tfw_len w n, Nat.add_mul]
    split <;> simp
theorem tfw_get (w : L) : ∀ (n i : Nat), i < n * w.length → (tfw w n)[i]? = if (i / w.length) % 2 = 0 then w[i % w.length]? else w[w.length - 1 - i % w.length]?
  | 0, i, h => by simp at h
  | n + 1, i, h => by
    have hw : 0 < w.length := by
      rcases Nat.eq_zero_or_pos w.length with e | e
      · rw [e] at h; simp at h
      · exact e
    unfold tfw
    by_cases hi : i < n * w.length
    · rw [List.getElem?_append_left (by rw [tfw_len]; exact hi)]
      exact tfw_get w n i hi
    · rw [List.getElem?_append_right (by rw [tfw_len]; omega), tfw_len]
      rw [Nat.add_mul, Nat.one_mul] at h
      have e1 : i / w.length = n := by
        rw [Nat.div_eq_iff hw]
        omega
      have e2 : i % w.length = i - n * w.length := by
        have h9 := Nat.div_add_mod i w.length
        rw [e1, Nat.mul_comm] at h9
        omega
      rw [e1, e2]
      by_cases hp : n % 2 = 0
      · rw [if_pos hp, if_pos hp]
      · rw [if_neg hp, if_neg hp, get_rev (by omega)]
theorem tfw_tf {w : L} (hw : 1 ≤ w.length) {n : Nat} (hn : 1 ≤ n) : TF w (tfw w n) := by
  refine ⟨by rw [tfw_len]; exact Nat.le_mul_of_pos_left _ hn, fun i hi => ?_, fun i h1 h2 h3 => ?_, fun i h1 h2 => ?_⟩
  · rw [tfw_get w n i (Nat.lt_of_lt_of_le hi (Nat.le_mul_of_pos_left _ hn)), Nat.div_eq_of_lt hi, Nat.mod_eq_of_lt hi]
    rfl
  · rw [tfw_len] at h3
    have hj : 2 * w.length - 1 - i < w.length := by omega
    rw [tfw_get w n i h3, tfw_get w n _ (by omega), Nat.div_eq_of_lt hj, Nat.mod_eq_of_lt hj]
    have e1 : i / w.length = 1 := by
      rw [Nat.div_eq_iff (by omega)]
      omega
    have e2 : i % w.length = i - w.length := by
      have h9 := Nat.div_add_mod i w.length
      rw [e1] at h9
      omega
    rw [e1, e2, if_neg (by decide), if_pos (by decide)]
    congr 1
    omega
  · rw [tfw_len] at h2
    rw [tfw_get w n i h2, tfw_get w n _ (by omega)]
    have e1 : i / w.length = (i - 2 * w.length) / w.length + 2 := by
      have : i = (i - 2 * w.length) + 2 * w.length := by omega
      rw [this, Nat.add_mul_div_right _ _ (by omega)]
      simp
    have e2 : i % w.length = (i - 2 * w.length) % w.length := by
      have : i = (i - 2 * w.length) + w.length * 2 := by omega
      rw [this, Nat.add_mul_mod_self_left]
      congr 1
      omega
    rw [e1, e2, Nat.add_mod_right]
theorem tfw_rev (w : L) {n : Nat} (h : n = 2 ∨ n = 3 ∨ n = 4) : (tfw w n).reverse = tfw w n ∨ (tfw w n).reverse = tfw w.reverse n := by
  rcases h with rfl | rfl | rfl
  · left; simp [tfw]
  · right; simp [tfw]
  · left; simp [tfw]
theorem tfw_least {w : L} (hw : 1 ≤ w.length) {n k : Nat} (h : n = 2 ∨ n = 3 ∨ n = 4) (hk : w.length ≤ k) : least ((tfw w n).take k) = least w ∧ least ((tfw w n).drop ((tfw w n).length - k)) = least w := by
  refine ⟨((tfw_tf hw (by omega)).take hk).least hw, ?_⟩
  have e : ((tfw w n).drop ((tfw w n).length - k)).reverse = (tfw w n).reverse.take k := by
    by_cases h2 : k ≤ (tfw w n).length
    · rw [List.reverse_drop]
      congr 1
      omega
    · rw [show (tfw w n).length - k = 0 by omega, List.drop_zero, List.take_of_length_le (by rw [List.length_reverse]; omega)]
  rw [← least_rev, e]
  rcases tfw_rev w h with h2 | h2
  · rw [h2]
    exact ((tfw_tf hw (by omega)).take hk).least hw
  · rw [h2]
    have := ((tfw_tf (w := w.reverse) (by rw [List.length_reverse]; exact hw) (n := n) (by omega)).take (n := k) (by rw [List.length_reverse]; exact hk)).least (by rw [List.length_reverse]; exact hw)
    rw [this, least_rev]
/-! one sign -/
theorem rep_cr {b n c : Nat} (h1 : 1 ≤ c) (h2 : c < n) : Cr (List.replicate n b) c := by
  refine ⟨h1, by rw [List.length_replicate]; exact h2, fun i hi hj => ?_⟩
  rw [List.length_replicate] at hj
  rw [List.getElem?_replicate, List.getElem?_replicate, if_pos (by omega), if_pos hj]
theorem rep_left {b n c : Nat} (h1 : 1 ≤ c) (h2 : c < n) : left (List.replicate n b) c = List.replicate (max c (n - c)) b := by
  unfold left
  rw [List.length_replicate]
  split
  · rw [List.drop_replicate]; congr 1; omega
  · rw [List.take_replicate]; congr 1; omega
theorem rep_creases (b n : Nat) : creases (List.replicate n b) = List.range' 1 (n - 1) := by
  unfold creases
  rw [List.length_replicate, List.filter_eq_self.mpr]
  intro c hc
  rw [List.mem_range'_1] at hc
  exact decide_eq_true (rep_cr (b := b) hc.1 (by omega)).2.2
theorem rep_least {b n : Nat} (h : 1 ≤ n) : least (List.replicate n b) = [b] := by
  have h1 : ∀ x ∈ least (List.replicate n b), x = b := fun x hx => List.eq_of_mem_replicate (least_mem hx)
  have h2 := List.eq_replicate_iff.mpr ⟨rfl, h1⟩
  have h3 := least_nf (List.replicate n b)
  have h4 := least_pos (s := List.replicate n b) (by rw [List.length_replicate]; exact h)
  rw [h2] at h3
  by_cases h5 : (least (List.replicate n b)).length ≤ 1
  · rw [h2, show (least (List.replicate n b)).length = 1 by omega]
    rfl
  · exact absurd (rep_cr (b := b) (Nat.le_refl 1) (by omega)) (h3 1)
/-- halvings -/
def halv : Nat → Nat → Nat
  | 0, _ => 0
  | k + 1, n => if n ≤ 1 then 0 else 1 + halv k ((n + 1) / 2)
theorem halv_eq : ∀ (j k n : Nat), n ≤ j → n ≤ k → halv j n = halv k n
  | 0, k, n, h, _ => by
    have : n = 0 := by omega
    subst this
    cases k <;> rfl
  | j + 1, 0, n, _, h => by
    have : n = 0 := by omega
    subst this
    rfl
  | j + 1, k + 1, n, h1, h2 => by
    unfold halv
    split
    · rfl
    · rw [halv_eq j k ((n + 1) / 2) (by omega) (by omega)]
def hv (n : Nat) : Nat := halv n n
theorem hv_step {n : Nat} (h : 2 ≤ n) : hv n = 1 + hv ((n + 1) / 2) := by
  unfold hv
  obtain ⟨k, rfl⟩ : ∃ k, n = k + 1 := ⟨n - 1, by omega⟩
  show (if k + 1 ≤ 1 then 0 else 1 + halv k ((k + 1 + 1) / 2)) = _
  rw [if_neg (by omega), halv_eq k ((k + 1 + 1) / 2) ((k + 1 + 1) / 2) (by omega) (Nat.le_refl _)]
theorem hv_one {n : Nat} (h : n ≤ 1) : hv n = 0 := by
  have : n = 0 ∨ n = 1 := by omega
  rcases this with rfl | rfl <;> rfl
theorem hv_mono : ∀ (k m n : Nat), n ≤ k → m ≤ n → hv m ≤ hv n
  | k, m, n, hk, h => by
    by_cases hm : m ≤ 1
    · rw [hv_one hm]; exact Nat.zero_le _
    · rw [hv_step (by omega : 2 ≤ m), hv_step (by omega : 2 ≤ n)]
      have := hv_mono ((n + 1) / 2) ((m + 1) / 2) ((n + 1) / 2) (Nat.le_refl _) (by omega)
      omega
termination_by _ _ n => n
theorem rep_few (b : Nat) : ∀ (k n : Nat), n ≤ k → (best true (List.replicate n b)).length = hv n
  | k, n, hk => by
    by_cases hn : n ≤ 1
    · rw [hv_one hn, best_nil true (by rw [rep_creases, show n - 1 = 0 by omega]; rfl)]
      rfl
    · have hne : creases (List.replicate n b) ≠ [] := by
        rw [rep_creases]
        intro e
        have := congrArg List.length e
        rw [List.length_range'] at this
        simp at this
        omega
      have hb := best_best true hne
      have cand : ∀ c, 1 ≤ c → c < n → (c :: best true (left (List.replicate n b) c)).length = 1 + hv (max c (n - c)) := fun c h1 h2 => by
        rw [rep_left h1 h2, List.length_cons, rep_few b (max c (n - c)) (max c (n - c)) (Nat.le_refl _)]
        omega
      rw [hv_step (by omega : 2 ≤ n)]
      apply Nat.le_antisymm
      · have hm : (n / 2) ∈ creases (List.replicate n b) := by rw [rep_creases, List.mem_range'_1]; omega
        have := hb.2 _ (List.mem_map.mpr ⟨n / 2, hm, rfl⟩)
        have hle : ¬ (n / 2 :: best true (left (List.replicate n b) (n / 2))).length < (best true (List.replicate n b)).length := fun z => this (.inl (by simpa using z))
        rw [cand (n / 2) (by omega) (by omega), show max (n / 2) (n - n / 2) = (n + 1) / 2 by omega] at hle
        omega
      · obtain ⟨c, hc, e⟩ := List.mem_map.mp hb.1
        rw [rep_creases, List.mem_range'_1] at hc
        rw [← e, cand c hc.1 (by omega)]
        have := hv_mono (max c (n - c)) ((n + 1) / 2) (max c (n - c)) (Nat.le_refl _) (by omega)
        omega
termination_by _ n => n
decreasing_by all_goals omega
theorem rep_most (b : Nat) : ∀ (k n : Nat), n ≤ k → best false (List.replicate n b) = List.replicate (n - 1) 1
  | k, n, hk => by
    by_cases hn : n ≤ 1
    · rw [best_nil false (by rw [rep_creases, show n - 1 = 0 by omega]; rfl), show n - 1 = 0 by omega]
      rfl
    · have hne : creases (List.replicate n b) ≠ [] := by
        rw [rep_creases]
        intro e
        have := congrArg List.length e
        rw [List.length_range'] at this
        simp at this
        omega
      have cand : ∀ c, 1 ≤ c → c < n → (c :: best false (left (List.replicate n b) c)) = c :: List.replicate (max c (n - c) - 1) 1 := fun c h1 h2 => by
        rw [rep_left h1 h2, rep_most b (max c (n - c)) (max c (n - c)) (Nat.le_refl _)]
      refine (best_best false hne).uniq ⟨?_, fun x hx => ?_⟩
      · refine List.mem_map.mpr ⟨1, by rw [rep_creases, List.mem_range'_1]; omega, ?_⟩
        rw [cand 1 (Nat.le_refl _) (by omega), show max 1 (n - 1) = n - 1 by omega]
        obtain ⟨j, hj⟩ : ∃ j, n - 1 = j + 1 := ⟨n - 2, by omega⟩
        rw [hj]
        rfl
      · obtain ⟨c, hc, rfl⟩ := List.mem_map.mp hx
        rw [rep_creases, List.mem_range'_1] at hc
        rw [cand c hc.1 (by omega)]
        unfold Ahead
        rw [List.length_cons, List.length_replicate, List.length_replicate]
        rintro (h | ⟨h1, h2⟩)
        · simp at h
          omega
        · obtain ⟨j, hj⟩ : ∃ j, n - 1 = j + 1 := ⟨n - 2, by omega⟩
          rw [hj, List.replicate_succ, List.cons_lt_cons_iff] at h2
          rcases h2 with h2 | ⟨h2, h3⟩
          · omega
          · rw [show max c (n - c) - 1 = j by omega] at h3
            exact List.lt_irrefl _ h3
termination_by _ n => n
decreasing_by all_goals omega
/-! all that comes, by computing -/
def comesL : Nat → L → List L
  | 0, s => [s]
  | n + 1, s => s :: (creases s).flatMap fun c => comesL n (left s c)
theorem mem_comesL : ∀ (n : Nat) {s t : L}, s.length ≤ n → (t ∈ comesL n s ↔ Comes s t)
  | 0, s, t, h => by
    have e : s = [] := List.length_eq_zero_iff.mp (by omega)
    subst e
    unfold comesL
    rw [List.mem_singleton]
    constructor
    · rintro rfl; exact .refl _
    · intro a
      have := a.len
      exact List.length_eq_zero_iff.mp (by simpa using this)
  | n + 1, s, t, h => by
    unfold comesL
    rw [List.mem_cons, List.mem_flatMap]
    constructor
    · rintro (rfl | ⟨c, hc, ht⟩)
      · exact .refl _
      · have hcr := mem_creases.mp hc
        have := (left_len hcr).1
        exact .step hcr ((mem_comesL n (by omega)).mp ht)
    · intro a
      cases a with
      | refl => exact .inl rfl
      | step hc b =>
        have := (left_len hc).1
        exact .inr ⟨_, mem_creases.mpr hc, (mem_comesL n (by omega)).mpr b⟩
theorem comes_dec (s t : L) : Comes s t ↔ t ∈ comesL s.length s := (mem_comesL s.length (Nat.le_refl _)).symm
end Fo

namespace Fo
/-! ### turned about, other signs -/
theorem creases_pw (s : L) : (creases s).Pairwise (· < ·) := by
  unfold creases
  exact List.Pairwise.sublist List.filter_sublist List.pairwise_lt_range'
theorem pw_uniq {xs ys : List Nat} (h1 : xs.Pairwise (· < ·)) (h2 : ys.Pairwise (· < ·)) (h : ∀ t, t ∈ xs ↔ t ∈ ys) : xs = ys := by
  have n1 : xs.Nodup := h1.imp fun {a b} hab => Nat.ne_of_lt hab
  have n2 : ys.Nodup := h2.imp fun {a b} hab => Nat.ne_of_lt hab
  have hp : xs.Perm ys := (List.perm_ext_iff_of_nodup n1 n2).mpr h
  exact hp.eq_of_pairwise (le := (· < ·)) (fun a b _ _ h3 h4 => absurd (Nat.lt_trans h3 h4) (Nat.lt_irrefl _)) h1 h2
theorem creases_rev (s : L) : creases s.reverse = (creases s).reverse.map fun c => s.length - c := by
  refine pw_uniq (creases_pw _) ?_ fun c => ?_
  · rw [List.pairwise_map, List.pairwise_reverse]
    refine (creases_pw s).imp_of_mem fun {a b} ha hb hab => ?_
    have := (mem_creases.mp hb).2.1
    omega
  · rw [mem_creases, List.mem_map]
    constructor
    · intro h
      have hc : c < s.length := by have := h.2.1; rw [List.length_reverse] at this; exact this
      exact ⟨s.length - c, List.mem_reverse.mpr (mem_creases.mpr ((cr_rev_iff h.1 hc).mp h)), by omega⟩
    · rintro ⟨d, hd, rfl⟩
      exact cr_rev (mem_creases.mp (List.mem_reverse.mp hd))
theorem crease_like {s : L} {c : Nat} (h : Cr s c) : s[c - 1]? = s[c]? := by
  have := h.2.2 0 h.1 (by have := h.2.1; omega)
  simpa using this
theorem row_pos : ∀ {r : List Nat} {s t : L}, RowOk s r t → ∀ c ∈ r, 1 ≤ c ∧ c < s.length
  | [], _, _, _, _, hc => nomatch hc
  | c :: r, s, t, h, x, hx => by
    rcases List.mem_cons.mp hx with rfl | hx
    · exact ⟨h.1.1, h.1.2.1⟩
    · obtain ⟨h1, h2⟩ := row_pos h.2 x hx
      have := (left_len h.1).1
      exact ⟨h1, by omega⟩
/-- the best row's length, by the candidates' lengths -/
theorem best_len_eq {few : Bool} {s t : L} (hs : creases s ≠ []) (ht : creases t ≠ []) (h1 : ∀ x ∈ cands few s, ∃ y ∈ cands few t, y.length = x.length) (h2 : ∀ y ∈ cands few t, ∃ x ∈ cands few s, x.length = y.length) : (best few s).length = (best few t).length := by
  obtain ⟨b1, b2⟩ := best_best few hs
  obtain ⟨c1, c2⟩ := best_best few ht
  obtain ⟨y, hy, ey⟩ := h1 _ b1
  obtain ⟨x, hx, ex⟩ := h2 _ c1
  have n1 := c2 y hy
  have n2 := b2 x hx
  unfold Ahead at n1 n2
  cases few <;> simp at n1 n2 <;> omega
theorem best_rev (few : Bool) : ∀ (n : Nat) (s : L), s.length ≤ n → (best few s.reverse).length = (best few s).length
  | n, s, hn => by
    by_cases hc : creases s = []
    · have hr : creases s.reverse = [] := by rw [creases_rev, hc]; rfl
      rw [best_nil few hc, best_nil few hr]
    · have hr : creases s.reverse ≠ [] := by
        rw [creases_rev]
        intro e
        exact hc (List.reverse_eq_nil_iff.mp (List.map_eq_nil_iff.mp e))
      have key : ∀ c, Cr s c → (best few (left s.reverse (s.length - c))).length = (best few (left s c)).length := fun c h => by
        have hl := (left_len h).1
        rcases left_rev h with e | e
        · rw [e, best_rev few (left s c).length (left s c) (Nat.le_refl _)]
        · rw [e]
      refine best_len_eq hr hc (fun x hx => ?_) (fun y hy => ?_)
      · obtain ⟨d, hd, rfl⟩ := List.mem_map.mp hx
        rw [creases_rev] at hd
        obtain ⟨c, h1, rfl⟩ := List.mem_map.mp hd
        have h1 := mem_creases.mp (List.mem_reverse.mp h1)
        exact ⟨c :: best few (left s c), List.mem_map.mpr ⟨c, mem_creases.mpr h1, rfl⟩, by rw [List.length_cons, List.length_cons, key c h1]⟩
      · obtain ⟨c, h1, rfl⟩ := List.mem_map.mp hy
        have h1 := mem_creases.mp h1
        exact ⟨_, List.mem_map.mpr ⟨s.length - c, mem_creases.mpr (cr_rev h1), rfl⟩, by rw [List.length_cons, List.length_cons, key c h1]⟩
termination_by _ s => s.length
/-! other signs -/
section
variable {f : Nat → Nat}
theorem lies_map {s : L} {c : Nat} (h : Lies s c) : Lies (s.map f) c := fun i h1 h2 => by
  rw [List.length_map] at h2
  rw [List.getElem?_map, List.getElem?_map, h i h1 h2]
theorem lies_map_inj {s : L} {c : Nat} (hc : c ≤ s.length) (hf : ∀ a ∈ s, ∀ b ∈ s, f a = f b → a = b) (h : Lies (s.map f) c) : Lies s c := fun i h1 h2 => by
  have := h i h1 (by rw [List.length_map]; exact h2)
  rw [List.getElem?_map, List.getElem?_map] at this
  have g1 : c - 1 - i < s.length := by omega
  rw [List.getElem?_eq_getElem g1, List.getElem?_eq_getElem h2] at this ⊢
  have e : f s[c - 1 - i] = f s[c + i] := Option.some.inj this
  rw [hf _ (List.getElem_mem g1) _ (List.getElem_mem h2) e]
theorem creases_map_sub {s : L} : ∀ c ∈ creases s, c ∈ creases (s.map f) := fun c hc => by
  obtain ⟨h1, h2, h3⟩ := mem_creases.mp hc
  exact mem_creases.mpr ⟨h1, by rw [List.length_map]; exact h2, lies_map h3⟩
theorem left_map (s : L) (c : Nat) : left (s.map f) c = (left s c).map f := by
  unfold left
  rw [List.length_map]
  split
  · rw [List.map_drop]
  · rw [List.map_take]
theorem creases_map {s : L} (hf : ∀ a ∈ s, ∀ b ∈ s, f a = f b → a = b) : creases (s.map f) = creases s := by
  refine pw_uniq (creases_pw _) (creases_pw _) fun c => ⟨fun h => ?_, creases_map_sub c⟩
  obtain ⟨h1, h2, h3⟩ := mem_creases.mp h
  rw [List.length_map] at h2
  exact mem_creases.mpr ⟨h1, h2, lies_map_inj (by omega) hf h3⟩
theorem best_map (few : Bool) : ∀ (n : Nat) (s : L), s.length ≤ n → (∀ a ∈ s, ∀ b ∈ s, f a = f b → a = b) → best few (s.map f) = best few s
  | n, s, hn, hf => by
    have hcm := creases_map hf
    by_cases hc : creases s = []
    · rw [best_nil few hc, best_nil few (by rw [hcm]; exact hc)]
    · refine (best_best few (by rw [hcm]; exact hc)).uniq ?_
      have e : cands few (s.map f) = cands few s := by
        unfold cands
        rw [hcm]
        apply List.map_congr_left
        intro c hc
        have hl := (left_len (mem_creases.mp hc)).1
        rw [left_map, best_map few (left s c).length (left s c) (Nat.le_refl _) fun a ha b hb => hf a (left_mem ha) b (left_mem hb)]
      rw [e]
      exact best_best few hc
termination_by _ s => s.length
decreasing_by all_goals exact hl
theorem comes_map {s t : L} (a : Comes s t) : Comes (s.map f) (t.map f) := by
  induction a with
  | refl s => exact .refl _
  | @step s t c hc _ ih =>
    refine .step (mem_creases.mp (creases_map_sub c (mem_creases.mpr hc))) ?_
    rw [left_map]
    exact ih
theorem comes_map_inv {s : L} : ∀ {u : L}, Comes (s.map f) u → (∀ a ∈ s, ∀ b ∈ s, f a = f b → a = b) → ∃ t, Comes s t ∧ u = t.map f := by
  intro u a
  generalize e : s.map f = v at a
  induction a generalizing s with
  | refl v => exact fun _ => ⟨s, .refl s, e.symm⟩
  | @step v u c hc _ ih =>
    intro hf
    subst e
    have h1 : Cr s c := mem_creases.mp (by rw [← creases_map hf]; exact mem_creases.mpr hc)
    obtain ⟨t, t1, t2⟩ := ih (s := left s c) (left_map s c).symm fun a ha b hb => hf a (left_mem ha) b (left_mem hb)
    exact ⟨t, .step h1 t1, t2⟩
theorem nf_map {s : L} (hf : ∀ a ∈ s, ∀ b ∈ s, f a = f b → a = b) (h : NF s) : NF (s.map f) := nf_iff.mpr (by rw [creases_map hf]; exact nf_iff.mp h)
/-- the least strip of a strip called otherwise -/
theorem least_map {s : L} (hf : ∀ a ∈ s, ∀ b ∈ s, f a = f b → a = b) : Al ((least s).map f) (least (s.map f)) := by
  obtain ⟨u, u1, u2⟩ := to_least s
  have hu : NF u := u2.nf (least_nf s)
  have h1 := comes_map (f := f) u1
  have h2 : NF (u.map f) := nf_map (fun a ha b hb => hf a (u1.mem ha) b (u1.mem hb)) hu
  have h3 : Al (least (s.map f)) (u.map f) := al_least h1 h2
  have h4 : Al ((least s).map f) (u.map f) := by
    rcases u2 with rfl | rfl
    · exact .refl _
    · rw [List.map_reverse]; exact .inr rfl
  exact h4.trans h3.symm
end
/-- no like neighbours: no crease -/
theorem nf_apart {s : L} (h : ∀ i, i + 1 < s.length → s[i]? ≠ s[i + 1]?) : NF s := fun c hc => by
  have h1 := crease_like hc
  have h2 := h (c - 1) (by have := hc.1; have := hc.2.1; omega)
  rw [show c - 1 + 1 = c by have := hc.1; omega] at h2
  exact h2 h1
/-- the first cells of a least strip are not doubled, nor the last -/
theorem nf_ends {s : L} (h : NF s) (hl : 2 ≤ s.length) : s[0]? ≠ s[1]? ∧ s[s.length - 2]? ≠ s[s.length - 1]? := by
  refine ⟨fun e => h 1 ⟨Nat.le_refl 1, by omega, fun i h1 h2 => ?_⟩, fun e => h (s.length - 1) ⟨by omega, by omega, fun i h1 h2 => ?_⟩⟩
  · have : i = 0 := by omega
    subst this
    exact e
  · have : i = 0 := by omega
    subst this
    rw [show s.length - 1 - 1 - 0 = s.length - 2 by omega]
    exact e
/-- equal neighbours left out -/
def apartL : L → L
  | [] => []
  | [a] => [a]
  | a :: b :: r => if a = b then apartL (b :: r) else a :: apartL (b :: r)
end Fo

namespace Fo
/-! what lies on what -/
def foldSp (m c s : Nat) : Nat := if 2 * c ≤ m then (if s < c then c - 1 - s else s - c) else (if s < c then s else 2 * c - 1 - s)
def newLen (m c : Nat) : Nat := if 2 * c ≤ m then m - c else c
def cellsOf (sp : Nat → Nat) (n q : Nat) : List Nat := (List.range n).filter fun k => decide (sp k = q)
theorem cells_pw (sp : Nat → Nat) (n q : Nat) : (cellsOf sp n q).Pairwise (· < ·) := List.Pairwise.filter _ List.pairwise_lt_range
theorem mem_cells {sp : Nat → Nat} {n q k : Nat} : k ∈ cellsOf sp n q ↔ k < n ∧ sp k = q := by
  unfold cellsOf
  rw [List.mem_filter, List.mem_range, decide_eq_true_eq]
structure SpOk (sp : Nat → Nat) (n m : Nat) : Prop where
  lt : ∀ k, k < n → sp k < m
  onto : ∀ q, q < m → ∃ k, k < n ∧ sp k = q
theorem SpOk.ne {sp : Nat → Nat} {n m q : Nat} (h : SpOk sp n m) (hq : q < m) : cellsOf sp n q ≠ [] := by
  obtain ⟨k, h1, h2⟩ := h.onto q hq
  intro e
  have := mem_cells.mpr ⟨h1, h2⟩
  rw [e] at this
  cases this
theorem SpOk.id (n : Nat) : SpOk (fun k => k) n n := ⟨fun _ h => h, fun q h => ⟨q, h, rfl⟩⟩
theorem SpOk.step {sp : Nat → Nat} {n m c : Nat} (h : SpOk sp n m) (h1 : 1 ≤ c) (h2 : c < m) : SpOk (fun k => foldSp m c (sp k)) n (newLen m c) := by
  refine ⟨fun k hk => ?_, fun q hq => ?_⟩
  · have := h.lt k hk
    unfold foldSp newLen
    split <;> split <;> omega
  · unfold newLen at hq
    by_cases hr : 2 * c ≤ m
    · rw [if_pos hr] at hq
      obtain ⟨k, k1, k2⟩ := h.onto (q + c) (by omega)
      refine ⟨k, k1, ?_⟩
      show foldSp m c (sp k) = q
      unfold foldSp
      rw [if_pos hr, k2, if_neg (by omega)]
      omega
    · rw [if_neg hr] at hq
      obtain ⟨k, k1, k2⟩ := h.onto q (by omega)
      refine ⟨k, k1, ?_⟩
      show foldSp m c (sp k) = q
      unfold foldSp
      rw [if_neg hr, k2, if_pos hq]
theorem lt_of_le_nd {xs : List Nat} (h : xs.Pairwise (· ≤ ·)) (n : xs.Nodup) : xs.Pairwise (· < ·) := (h.and n).imp fun {a b} z => Nat.lt_of_le_of_ne z.1 z.2
theorem cells_two {sp sp' : Nat → Nat} {n q p1 p2 : Nat} {xs : List Nat} (h1 : xs.Perm (cellsOf sp n p1 ++ cellsOf sp n p2)) (h2 : xs.Pairwise (· ≤ ·)) (hne : p1 ≠ p2) (h : ∀ k, k < n → (sp' k = q ↔ sp k = p1 ∨ sp k = p2)) : xs = cellsOf sp' n q := by
  have nd : (cellsOf sp n p1 ++ cellsOf sp n p2).Nodup := by
    refine List.pairwise_append.mpr ⟨(cells_pw sp n p1).imp Nat.ne_of_lt, (cells_pw sp n p2).imp Nat.ne_of_lt, fun a ha b hb e => ?_⟩
    subst e
    exact hne ((mem_cells.mp ha).2.symm.trans (mem_cells.mp hb).2)
  refine pw_uniq (lt_of_le_nd h2 (h1.symm.nodup nd)) (cells_pw sp' n q) fun k => ?_
  rw [h1.mem_iff, List.mem_append, mem_cells, mem_cells, mem_cells]
  constructor
  · rintro (⟨a, b⟩ | ⟨a, b⟩)
    · exact ⟨a, (h k a).mpr (.inl b)⟩
    · exact ⟨a, (h k a).mpr (.inr b)⟩
  · rintro ⟨a, b⟩
    rcases (h k a).mp b with z | z
    · exact .inl ⟨a, z⟩
    · exact .inr ⟨a, z⟩
theorem cells_one {sp sp' : Nat → Nat} {n q p1 : Nat} {xs : List Nat} (h1 : xs.Perm (cellsOf sp n p1)) (h2 : xs.Pairwise (· ≤ ·)) (h : ∀ k, k < n → (sp' k = q ↔ sp k = p1)) : xs = cellsOf sp' n q := by
  refine pw_uniq (lt_of_le_nd h2 (h1.symm.nodup ((cells_pw sp n p1).imp Nat.ne_of_lt))) (cells_pw sp' n q) fun k => ?_
  rw [h1.mem_iff, mem_cells, mem_cells]
  constructor
  · rintro ⟨a, b⟩
    exact ⟨a, (h k a).mpr b⟩
  · rintro ⟨a, b⟩
    exact ⟨a, (h k a).mp b⟩
/-- a row of folds: where each cell lies, how long the strip is -/
def spRow : List Nat → Nat → (Nat → Nat) → (Nat → Nat)
  | [], _, sp => sp
  | c :: r, m, sp => spRow r (newLen m c) fun k => foldSp m c (sp k)
theorem newLen_left {s : L} {c : Nat} (h : Cr s c) : newLen s.length c = (left s c).length := by
  have := h.2.1
  unfold newLen left
  split
  · rw [List.length_drop]
  · rw [List.length_take]; omega
/-- like lies on like -/
theorem left_at {s : L} {c i : Nat} (h : Cr s c) (hi : i < s.length) : (left s c)[foldSp s.length c i]? = s[i]? := by
  have h1 := h.1
  have h2 := h.2.1
  have hl := h.2.2
  unfold left foldSp
  by_cases hr : 2 * c ≤ s.length
  · rw [if_pos hr, if_pos hr, List.getElem?_drop]
    by_cases hc : i < c
    · rw [if_pos hc]
      have := hl (c - 1 - i) (by omega) (by omega)
      rw [show c - 1 - (c - 1 - i) = i by omega] at this
      exact this.symm
    · rw [if_neg hc, show c + (i - c) = i by omega]
  · rw [if_neg hr, if_neg hr]
    by_cases hc : i < c
    · rw [if_pos hc, List.getElem?_take, if_pos hc]
    · rw [if_neg hc, List.getElem?_take, if_pos (by omega)]
      have := hl (i - c) (by omega) (by omega)
      rw [show c - 1 - (i - c) = 2 * c - 1 - i by omega, show c + (i - c) = i by omega] at this
      exact this
theorem foldSp_near {m c a b : Nat} (h1 : a ≤ b + 1) (h2 : b ≤ a + 1) : foldSp m c a ≤ foldSp m c b + 1 ∧ foldSp m c b ≤ foldSp m c a + 1 := by
  unfold foldSp
  split <;> split <;> split <;> omega
/-- what is true of where the cells lie -/
structure Lay (l t : L) (sp : Nat → Nat) : Prop where
  ok : SpOk sp l.length t.length
  sign : ∀ k, k < l.length → t[sp k]? = l[k]?
  near : ∀ k, k + 1 < l.length → sp k ≤ sp (k + 1) + 1 ∧ sp (k + 1) ≤ sp k + 1
theorem Lay.start (l : L) : Lay l l fun k => k := ⟨SpOk.id _, fun _ _ => rfl, fun k _ => ⟨by omega, by omega⟩⟩
theorem Lay.step {l t : L} {sp : Nat → Nat} {c : Nat} (y : Lay l t sp) (h : Cr t c) : Lay l (left t c) fun k => foldSp t.length c (sp k) := by
  refine ⟨?_, fun k hk => ?_, fun k hk => ?_⟩
  · rw [← newLen_left h]
    exact y.ok.step h.1 h.2.1
  · show (left t c)[foldSp t.length c (sp k)]? = _
    rw [left_at h (y.ok.lt k hk)]
    exact y.sign k hk
  · obtain ⟨a, b⟩ := y.near k hk
    exact foldSp_near a b
theorem Lay.row {l : L} : ∀ {r : List Nat} {u t : L} {sp : Nat → Nat}, Lay l u sp → RowOk u r t → Lay l t (spRow r u.length sp)
  | [], u, t, sp, y, h => by
    have e : u = t := h
    subst e
    exact y
  | c :: r, u, t, sp, y, h => by
    have hc : Cr u c := h.1
    have := Lay.row (y.step hc) h.2
    rw [← newLen_left hc] at this
    exact this
def layersOf (n m : Nat) (sp : Nat → Nat) : List (List Nat) := (List.range m).map (cellsOf sp n)
theorem cells_id {n q : Nat} (h : q < n) : cellsOf (fun k => k) n q = [q] := by
  refine pw_uniq (cells_pw _ n q) (List.pairwise_singleton _ _) fun k => ?_
  rw [mem_cells, List.mem_singleton]
  constructor
  · exact fun z => z.2
  · rintro rfl
    exact ⟨h, rfl⟩
theorem layers_id (n : Nat) : layersOf n n (fun k => k) = (List.range n).map fun k => [k] := List.map_congr_left fun q hq => cells_id (List.mem_range.mp hq)
theorem layers_nd (sp : Nat → Nat) (n m : Nat) : ((layersOf n m sp).flatMap fun c => c).Nodup := by
  refine List.pairwise_flatMap.mpr ⟨fun c hc => ?_, ?_⟩
  · obtain ⟨q, _, rfl⟩ := List.mem_map.mp hc
    exact (cells_pw sp n q).imp Nat.ne_of_lt
  · refine List.pairwise_map.mpr ?_
    refine List.Pairwise.imp (fun {a b} hab x hx y hy e => ?_) (List.pairwise_lt_range (n := m))
    subst e
    have z1 := (mem_cells.mp hx).2
    have z2 := (mem_cells.mp hy).2
    omega
theorem layers_len (sp : Nat → Nat) (n m : Nat) : ((layersOf n m sp).flatMap fun c => c).length ≤ n := by
  have := (layers_nd sp n m).length_le_of_subset (l₂ := List.range n) fun k hk => by
    obtain ⟨c, hc, hk⟩ := List.mem_flatMap.mp hk
    obtain ⟨q, _, rfl⟩ := List.mem_map.mp hc
    exact List.mem_range.mpr (mem_cells.mp hk).1
  rw [List.length_range] at this
  exact this
theorem flat_lay (cs : List (List Nat)) : cs.flatMap (fun c => c) = cs.flatten := by
  rw [List.flatMap_def, List.map_id']
theorem layers_all {sp : Nat → Nat} {n m : Nat} (h : SpOk sp n m) {xs : List Nat} (h1 : xs.Perm ((layersOf n m sp).flatMap fun c => c)) (h2 : xs.Pairwise (· ≤ ·)) : xs = List.range n := by
  have nd : ((layersOf n m sp).flatMap fun c => c).Nodup := by
    refine List.pairwise_flatMap.mpr ⟨fun c hc => ?_, ?_⟩
    · obtain ⟨q, _, rfl⟩ := List.mem_map.mp hc
      exact (cells_pw sp n q).imp Nat.ne_of_lt
    · refine List.pairwise_map.mpr ?_
      refine List.Pairwise.imp (fun {a b} hab x hx y hy e => ?_) (List.pairwise_lt_range (n := m))
      subst e
      have z1 := (mem_cells.mp hx).2
      have z2 := (mem_cells.mp hy).2
      omega
  refine pw_uniq (lt_of_le_nd h2 (h1.symm.nodup nd)) List.pairwise_lt_range fun k => ?_
  rw [h1.mem_iff, List.mem_flatMap, List.mem_range]
  constructor
  · rintro ⟨c, hc, hk⟩
    obtain ⟨q, _, rfl⟩ := List.mem_map.mp hc
    exact (mem_cells.mp hk).1
  · intro hk
    exact ⟨cellsOf sp n (sp k), List.mem_map.mpr ⟨sp k, List.mem_range.mpr (h.lt k hk), rfl⟩, mem_cells.mpr ⟨hk, rfl⟩⟩
end Fo

/-! Infrastructure: a def of the text by its name (Def), its promise (Fn), calls by name. -/
namespace Lk
open PySem PySem.Spec PyProof.Rows L2
/-- the def x of the text stands under its name -/
structure Def (K : PySem.W.Frag) (mg : Str → Option Value) (x : Str) (st : Stmt) (ps : List Str) : Prop where
  ex : ∃ f fd, mg x = some (.ref f) ∧ Fun K x x st f fd ∧ Binds K fd ps [] ∧ ∀ (s : Shared) (us : List Value), us.length = ps.length → BindsTo s fd ⟨us, []⟩ (ps.zip us)
theorem def_mk {K : PySem.W.Frag} {h : Heap} {mg : Str → Option Value} {x : Str} {st : Stmt} {ps : List Str} {f : Addr} {oc : Value} {od an : Option Addr} {osl : Array (Option Value)} {kV doc pm cdv ct : Value} (X : K.In h) (G : h.Ns mainGlobals mg)
    (hb : ∀ (kV doc pm : Value) (an : Option Addr) (cdv ct : Value) (us : List Value), us.length = ps.length → bindArgs (PySem.W.fnOf x x (defArgs st) (defBody st) (defScope st) .none kV doc pm an cdv ct) ⟨us, []⟩ = pure (ps.zip us))
    (a : PySem.W.nsIn K mainGlobals x = some (some (.ref f))) (l : K.lookup f = some ⟨oc, od, .func (PySem.W.fnOf x x (defArgs st) (defBody st) (defScope st) .none kV doc pm an cdv ct), osl⟩)
    (c : PySem.W.codeIn K cdv x = true) (k : PySem.W.keepIn K (.ref f) = true) : Def K mg x st ps := by
  have F := fun_mk (st := st) l c k
  exact ⟨f, _, PySem.W.mg_of X G a, F, F.binds hb, fun s us hl => .of_eq (hb _ _ _ _ _ _ us hl)⟩
/-- what a def named x is worth -/
def Fn (P : Program) (w : World) (K : PySem.W.Frag) (mg : Str → Option Value) (base : Heap) (CX : CXT) (k : Nat) (x : Str) (ps : List Str) (sp : Sp) : Prop :=
  ∃ f fd, mg x = some (.ref f) ∧ PySem.W.keepIn K (.ref f) = true ∧ Binds K fd ps [] ∧ FnOk P w K mg base CX k f fd ps sp
section
variable {P : Program} {w : World} {K : PySem.W.Frag} {mg : Str → Option Value} {base : Heap}
theorem Def.fn {CX : CXT} {x : Str} {st : Stmt} {ps : List Str} {k : Nat} {sp : Sp} (D : Def K mg x st ps) (h : ∀ f fd, Fun K x x st f fd → FnOk P w K mg base CX k f fd ps sp) : Fn P w K mg base CX k x ps sp := by
  obtain ⟨f, fd, a, F, b, _⟩ := D.ex
  exact ⟨f, fd, a, F.kp, b, h f fd F⟩
theorem Fn.mono {CX : CXT} {x : Str} {ps : List Str} {j k : Nat} {sp : Sp} (F : Fn P w K mg base CX j x ps sp) (h : j ≤ k) : Fn P w K mg base CX k x ps sp := by
  obtain ⟨f, fd, a, b, c, d⟩ := F
  exact ⟨f, fd, a, b, c, d.mono h⟩
theorem Fn.imp {CX : CXT} {x : Str} {ps : List Str} {k : Nat} {sp sp' : Sp} (F : Fn P w K mg base CX k x ps sp) (h : ∀ vs H Q E, sp' vs H Q E → sp vs H Q E) : Fn P w K mg base CX k x ps sp' := by
  obtain ⟨f, fd, a, b, c, d⟩ := F
  exact ⟨f, fd, a, b, c, d.imp h⟩
end
section
variable {X : Cx} {x : Str} {ps : List Str} {k j : Nat} {sp : Sp} {e : Expr} {es : List Expr} {t : TA} {p pos : Pos}
/-- x(e, ..), nothing raised -/
def tFn (sp : Sp) (t : TA) : TE := fun σ H Q => t σ H fun vs H1 => sp vs H1 Q E0
theorem pe_fn (F : Fn X.prog X.w X.K X.mg X.base CX0 k x ps sp) (hr : Room j X.A) (ha : PA X (e :: es) t) (hj : k ≤ j := by decide) (hg : Gl X x := by rfl)
    (hdb : (x == ("__debug__" : Str)) = false := by decide) (he : starEach (e :: es) X.env = (false, eval e X.env) :: starEach es X.env := by rfl) (hpl : (backTo pos (starEach es X.env)).any (·.1) = false := by rfl) :
    PE X (.Call (.Name x p) (e :: es) [] pos) (tFn sp t) := by
  obtain ⟨f, fd, a, b, c, d⟩ := F
  have z := pe_call (E := E0) (p := p) (pos := pos) d (hr.mono hj) hg a b c .nil pass0 ha hdb he hpl
  refine ⟨fun pins s σ H Q I h => z.run pins s σ H Q I ?_⟩
  show t σ H fun vs H1 => sp (vs ++ []) H1 Q E0
  have e : (fun vs H1 => sp (vs ++ []) H1 Q E0) = fun (vs : List V) H1 => sp vs H1 Q E0 := by
    funext vs H1
    rw [List.append_nil]
  rw [e]
  exact h
end
/-- all but the object at b stands as it was -/
def But (b : Addr) (H H' : Hp) : Prop := ∀ a o, a ≠ b → H a = some o → H' a = some o
theorem But.refl (b : Addr) (H : Hp) : But b H H := fun _ _ _ h => h
theorem But.trans {b : Addr} {H H1 H2 : Hp} (a : But b H H1) (c : But b H1 H2) : But b H H2 := fun x o n h => c x o n (a x o n h)
theorem But.same {b : Addr} {H H1 H2 : Hp} (a : But b H H1) (c : Same H1 H2) : But b H H2 := fun x o n h => c x o (a x o n h)
theorem Same.but {b : Addr} {H H1 : Hp} (a : Same H H1) : But b H H1 := fun x o _ h => a x o h
theorem Same.upd {H : Hp} {p : Addr} {o : HO} (h : H p = none) : Same H (L2.upd H p o) := fun b x e => by
  rw [upd_ne (ne_of_none e h)]
  exact e
theorem Same.upd' {H0 H : Hp} {p : Addr} {o : HO} (s : Same H0 H) (h : H p = none) : Same H0 (L2.upd H p o) := s.trans (Same.upd h)
theorem Same.upd2 {H0 H : Hp} {p : Addr} {o : HO} (s : Same H0 H) (h : H0 p = none) : Same H0 (L2.upd H p o) := fun b x e => by
  rw [upd_ne (ne_of_none e h)]
  exact s b x e
theorem But.free {b l : Addr} {H H' : Hp} (e : But b H H') (n : l ≠ b) (h : H' l = none) : H l = none := by
  cases q : H l with
  | none => rfl
  | some o =>
    rw [e l o n q] at h
    cases h
theorem But.upd2 {b p : Addr} {o : HO} {H H' : Hp} (e : But b H H') (h : H p = none) : But b H (L2.upd H' p o) := fun c x n q => by
  rw [upd_ne (ne_of_none q h)]
  exact e c x n q
theorem But.seq {K : PySem.W.Frag} {b : Addr} {H H' : Hp} {a : Addr} {xs : List V} (e : But b H H') (n : a ≠ b) (h : SqL K H a xs) : SqL K H' a xs := by
  rcases h with (h | ⟨o, h⟩) | h
  · exact .inl (.inl (e _ _ n h))
  · exact .inl (.inr ⟨o, e _ _ n h⟩)
  · exact .inr h
end Lk


/-! Rules for texts: [::-1], min of two, sorting of any number. -/
namespace Lk
open PySem PySem.Spec PyProof.Rows L2
abbrev S (l : List Nat) : Str := SX.S l
abbrev vS (l : List Nat) : V := .str (S l)
theorem S_len (l : List Nat) : (S l).length = l.length := SX.S_len l
theorem S_tl (l : List Nat) : (S l).cps.toList = l := rfl
theorem S_of (x : Str) : S x.cps.toList = x := SX.S_tl x
theorem S_inj {a b : List Nat} : S a = S b ↔ a = b := ⟨SX.S_inj, fun h => by rw [h]⟩
theorem vS_inj {a b : List Nat} : vS a = vS b ↔ a = b := ⟨fun h => SX.S_inj (V.str.inj h), fun h => by rw [h]⟩
theorem vS_dec (a b : List Nat) : decide (vS a = vS b) = decide (a = b) := by
  by_cases h : a = b
  · rw [decide_eq_true h, decide_eq_true (vS_inj.mpr h)]
  · rw [decide_eq_false h, decide_eq_false fun e => h (vS_inj.mp e)]
section
variable {X : Cx}
/-! ### s[::-1] -/
def tRevS (te : TE) : TE := fun σ H Q => te σ H fun x H1 => ∃ l, x = vS l ∧ l.length ≤ sizeLine ∧ Q (vS l.reverse) H1
theorem rev_list (x : Str) (u : Tok) : (Txt.sliceBy x none none (-1, u)).cps.toList = x.cps.toList.reverse := by
  rw [step_rev_list]
  apply List.ext_getElem?
  intro i
  by_cases hi : i < x.length
  · have hs : x.cps.size = x.length := rfl
    rw [List.getElem?_map, List.getElem?_range hi, List.getElem?_reverse (by rw [Array.length_toList]; exact hi), Array.length_toList]
    show some (x.cps.getD (x.length - 1 - i) 0) = x.cps.toList[x.length - 1 - i]?
    have h2 : x.length - 1 - i < x.cps.size := by omega
    rw [Array.getElem?_toList, Array.getElem?_eq_getElem h2]
    congr 1
    simp [Array.getD, h2]
  · rw [List.getElem?_eq_none (by rw [List.length_map, List.length_range]; omega), List.getElem?_eq_none (by rw [List.length_reverse, Array.length_toList]; show x.length ≤ i; omega)]
theorem pe_revS {e : Expr} {te : TE} {k : Nat} {p1 p2 p3 pos : Pos} (he : PE X e te) : PE X (.Subscript e (.Slice none none (some (.UnaryOp .USub (.Constant (.int 1) k p1) p2)) p3) pos) (tRevS te) := by
  refine ⟨fun pins s σ H Q I h => ?_⟩
  refine Subscript_ (thn (he.run pins s σ H _ I h) fun v s1 ⟨x, H1, I1, r1, q1⟩ => ?_)
  obtain ⟨z, ex, hz, q⟩ := q1
  subst ex
  obtain ⟨tz, rfl⟩ := r1
  have hst : PO X (some (.UnaryOp .USub (.Constant (.int 1) k p1) p2)) (tPart (tUn (rU fun i => .int (-i)) (tC (.int 1)))) := po_some (pe_un un_neg pe_int)
  refine wpAny_Slice (thn (po_none.run pins s1 σ H1 (fun o H2 => o = none ∧ H2 = H1) I1 ⟨rfl, rfl⟩) fun vl s2 ⟨l, H2, I2, pl, el, e2⟩ => ?_)
  subst el e2
  refine thn (po_none.run pins s2 σ H2 (fun o H3 => o = none ∧ H3 = H2) I2 ⟨rfl, rfl⟩) fun vu s3 ⟨u, H3, I3, pu, eu, e3⟩ => ?_
  subst eu e3
  refine thn (hst.run pins s3 σ H3 (fun o H4 => o = some (-1) ∧ H4 = H3) I3 ⟨1, rfl, -1, rfl, rfl, rfl⟩) fun vs s4 ⟨o, H4, I4, ps, eo, e4⟩ => ?_
  subst eo e4
  have I5 : Inv X pins σ H4 { s4 with heap := s4.heap.push { cls := .type "slice", data := .fields #[vl, vu, vs] } } := I4.kept (t' := s4.toks) fun b ob q => Heap.get?_push_of_some _ q
  show wpAny (model X.prog X.w) X.A (subscriptTail e (.Slice none none (some (.UnaryOp .USub (.Constant (.int 1) k p1) p2)) p3) (.str (S z) tz) (.ref s4.heap.objs.size)) (EP X pins σ Q) X.xe { s4 with heap := s4.heap.push { cls := .type "slice", data := .fields #[vl, vu, vs] } }
  obtain ⟨l, rfl, el⟩ := IsPart.raw pl
  obtain ⟨u, rfl, eu⟩ := IsPart.raw pu
  obtain ⟨st, rfl, es⟩ := IsPart.raw ps
  have el' : l = none := by cases l with | none => rfl | some p => simp at el
  have eu' : u = none := by cases u with | none => rfl | some p => simp at eu
  subst el' eu'
  obtain ⟨t, es'⟩ : ∃ t, st = some (-1, t) := by
    cases st with
    | none => simp at es
    | some p =>
      obtain ⟨p1, p2⟩ := p
      have e1 : p1 = -1 := Option.some.inj es
      exact ⟨p2, by rw [e1]⟩
  subst es'
  refine tail_any (ops := [.str (S z) tz, .ref s4.heap.objs.size]) (typeIs_str _ _ _) (PySem.F.slot_str_getitem.lookup) ?_ (by with_unfolding_all rfl)
  refine wpAny_getItem_str_slice (l := none) (u := none) (st := some (-1, t)) ⟨_, Heap.get?_push_size _ rfl, rfl, rfl⟩ (by rfl) ?_
  have hrl := rev_list (S z) t
  have hcond : ¬ ((((some ((-1 : Int), t)).map (·.1)).getD 1 == 1 && (slicePicked (S z) none none (some (-1, t))).length == (S z).length) = true) := by
    have : ((((some ((-1 : Int), t)).map (·.1)).getD 1 == 1)) = false := rfl
    rw [this]; simp
  unfold Txt.sliceBy at hrl
  rw [if_neg hcond] at hrl
  unfold sliceMade
  rw [if_neg hcond]
  have e9 : (⟨((slicePicked (S z) none none (some (-1, t))).filterMap ((S z).cps[·]?)).toArray⟩ : Str) = S z.reverse := by
    apply TL.ext_tl
    exact hrl
  rw [e9]
  exact ⟨by rw [S_len, List.length_reverse]; exact hz, vS z.reverse, _, I5.tok _, ⟨_, rfl⟩, q⟩

/-! ### min(s, t) -/
def strItems (xs : Array (Str × Tok)) : Array Value := xs.map fun p => .str p.1 p.2
def strAt (xs : Array (Str × Tok)) (i : Nat) : Str := (xs[i]?.map (·.1)).getD ⟨#[]⟩
theorem strItems_at {xs : Array (Str × Tok)} {i : Nat} {v : Value} (h : (strItems xs)[i]? = some v) : ∃ t, v = .str (strAt xs i) t := by
  simp only [strItems, Array.getElem?_map, Option.map_eq_some_iff] at h
  obtain ⟨p, hp, rfl⟩ := h
  exact ⟨p.2, by simp [strAt, hp]⟩
theorem cmp_strs_lt {prog : Program} {w : World} {A : Around} {P : Nat → Value → Prop} (val : Nat → Str) (hval : ∀ i v, P i v → ∃ t, v = .str (val i) t) :
    CmpOf prog w A .Lt P (fun i j => decide ((val i).cps.toList < (val j).cps.toList)) := fun i j vi vj s Q E hi hj h => by
  obtain ⟨t, rfl⟩ := hval i vi hi
  obtain ⟨u, rfl⟩ := hval j vj hj
  exact richCompare_gives (op := .Lt) (typeIs_str s _ t) (typeIs_str s _ u) PySem.F.slot_str_lt PySem.F.entry_str_lt (PySem.F.args_str_lt_2 _ _) (gives_str_lt _ _ t u) (fun x => nomatch x) h
theorem min_two_strs {prog : Program} {w : World} {A : Around} {E : Value → Shared → Prop} {s : Shared} {a b : Str} {t u : Tok} {Q : Value → Shared → Prop} (hh : A.handled = none)
    (h : ∀ h' tk, (∀ c o, s.heap.get? c = some o → h'.get? c = some o) → Q (if b.cps.toList < a.cps.toList then .str b u else .str a t) { s with heap := h', toks := tk }) :
    wpAny (model prog w) A (call (.builtin "min") [.str a t, .str b u]) Q E s := by
  have hT : (s.heap.push { cls := .type "tuple", data := .seq #[.str a t, .str b u] }).IsTuple s.heap.objs.size (strItems #[(a, t), (b, u)]) := ⟨_, Heap.get?_push_size _ rfl, rfl, 0, by simp [strItems]⟩
  refine call_min_two (wpAny_pyIter_tuple hT ?_)
  have hsz : (s.heap.push { cls := .type "tuple", data := .seq #[.str a t, .str b u] }).objs.size = s.heap.objs.size + 1 := Heap.size_push ..
  refine ⟨_, [_, s.heap.objs.size], [_], _, _, _, _, rfl, Walks.tuple (A := A.in1) hh _ s.heap.objs.size (by rw [hsz]; exact Nat.ne_of_lt (Nat.lt_succ_self _)) (strItems #[(a, t), (b, u)]),
    ⟨⟨_, Heap.get?_push_size _ rfl, rfl, rfl⟩, hT.push _⟩, fun c hc => ?_, by simp [strItems], cmp_strs_lt (strAt #[(a, t), (b, u)]) (fun _ _ => strItems_at), fun v h' tk hP hk => ?_⟩
  · show c < ((s.heap.push _).push _).objs.size
    rw [Heap.size_push, hsz]
    rcases List.mem_cons.mp hc with rfl | hc
    · rw [hsz]; exact Nat.lt_succ_self _
    · rcases List.mem_cons.mp hc with rfl | hc
      · exact Nat.lt_succ_of_lt (Nat.lt_succ_self _)
      · cases hc
  · have hold : ∀ c o, s.heap.get? c = some o → h'.get? c = some o := fun c o e => by
      refine hk c o (fun hm => ?_) (Heap.get?_push_of_some _ (Heap.get?_push_of_some _ e))
      rcases List.mem_cons.mp hm with e1 | hm
      · have := Heap.lt_size e; rw [e1, hsz] at this; exact Nat.lt_irrefl _ (Nat.lt_of_succ_lt this)
      · cases hm
    have := h h' tk hold
    have hv : v = if b.cps.toList < a.cps.toList then Value.str b u else Value.str a t := by
      have hP' : (strItems #[(a, t), (b, u)])[argBest (fun i j => decide ((strAt #[(a, t), (b, u)] i).cps.toList < (strAt #[(a, t), (b, u)] j).cps.toList)) 1]? = some v := by
        have hsz2 : (strItems #[(a, t), (b, u)]).size - 1 = 1 := by simp [strItems]
        rw [← hsz2]; exact hP
      by_cases hba : b.cps.toList < a.cps.toList
      · have e : argBest (fun i j => decide ((strAt #[(a, t), (b, u)] i).cps.toList < (strAt #[(a, t), (b, u)] j).cps.toList)) 1 = 1 := by simp [argBest, strAt, hba]
        rw [e] at hP'
        simpa [strItems, hba] using hP'.symm
      · have e : argBest (fun i j => decide ((strAt #[(a, t), (b, u)] i).cps.toList < (strAt #[(a, t), (b, u)] j).cps.toList)) 1 = 0 := by simp [argBest, strAt, hba]
        rw [e] at hP'
        simpa [strItems, hba] using hP'.symm
    rw [hv]; exact this
theorem call_minS (hc : X.calm = true) : CallR X (.builtin "min") (fun xs H Q => ∃ a b, xs = [vS a, vS b] ∧ Q (vS (if b < a then b else a)) H) := by
  intro pins s σ H xs us Q I r h
  obtain ⟨a, b, rfl, q⟩ := h
  obtain ⟨u, w', rfl, ⟨t, rfl⟩, ⟨t', rfl⟩⟩ := vals2 r
  refine min_two_strs (I.ok.hd hc) fun h' tk k => ⟨_, H, I.kept k, ?_, q⟩
  by_cases hb : b < a
  · rw [if_pos hb, if_pos (show (S b).cps.toList < (S a).cps.toList from hb)]; exact ⟨_, rfl⟩
  · rw [if_neg hb, if_neg (show ¬ (S b).cps.toList < (S a).cps.toList from hb)]; exact ⟨_, rfl⟩

/-! ### sorted(xs), sorted(d): texts, any number -/
def rSortedSA (K : PySem.W.Frag) : List V → Hp → VK → Prop := fun vs H Q => ∃ (a : Addr) (xs : List Str), vs = [V.ref a] ∧ SqL K H a (xs.map V.str) ∧
  ∀ (ys : List Str) (p : Addr), ys.Perm xs → sortedS ys = true → H p = none → Q (.ref p) (upd H p (.lst (ys.map V.str)))
theorem cr_sortedSA : CallR X (.builtin "sorted") (rSortedSA X.K) := by
  intro pins s σ H vs us Q I r h
  obtain ⟨a, xs, rfl, hs, q⟩ := h
  obtain ⟨its, rv, hl, hz⟩ := I.list hs
  rw [Vals.ref1 r]
  have hlen0 := rv.length
  refine PyProof.Rows.sorted_strsAny hl.isList rv.strs (by rw [← hlen0]; exact hz) fun out ys h1 h2 h3 => ?_
  obtain ⟨ep, he'⟩ := PyProof.Rows.sortedAll_at s.heap its out
  have hlen : (ys.map V.str).length ≤ sizeLine := by rw [List.length_map, h2.length_eq]; rw [List.length_map] at hz; exact hz
  exact ⟨.ref _, upd H (s.heap.objs.size + 1) (.lst (ys.map V.str)), I.laid (t' := s.toks) (fun _ _ => PyProof.Rows.sortedAll_old) (Nat.le_succ _) ⟨hlen, out.toList, ep, vals_of_strs h1, he'⟩, rfl, q ys _ h2 h3 (I.hok.fresh (Nat.le_succ _))⟩
def rSortedDA : List V → Hp → VK → Prop := fun xs H Q => ∃ (a : Addr) (kvs : List (Key × V)) (ks : List Str), xs = [.ref a] ∧ Rd H a (.dK kvs) ∧ kvs.map (·.1) = ks.map Sum.inr ∧
    ∀ ys p, ys.Perm ks → sortedS ys = true → H p = none → Q (.ref p) (upd H p (.lst (ys.map V.str)))
theorem call_sortedDA (hcalm : X.calm = true) : CallR X (.builtin "sorted") rSortedDA := by
  intro pins s σ H xs us Q I r q
  obtain ⟨a, kvs, ks, ex, hd, hks, q⟩ := q
  subst ex
  obtain ⟨u, eu, rx⟩ := vals1 r
  subst eu
  cases rx
  obtain ⟨z, lo, vs, rel, dd⟩ := dk_rd I.hok hd
  obtain ⟨ep, hat⟩ := dd.dictAt
  have hkeys : vs.map (·.1) = ks.map Sum.inr := rel.keys.symm.trans hks
  have hl : vs.length = ks.length := by
    have e := congrArg List.length hkeys
    rw [List.length_map, List.length_map] at e
    exact e
  have h16' : kvs.length = ks.length := by
    have e := congrArg List.length hks
    rw [List.length_map, List.length_map] at e
    exact e
  have h16 : vs.length ≤ sizeLine := by rw [hl, ← h16']; exact z
  refine Calls.call_function_entry PyProof.Rows.kind_sorted PyProof.Rows.plain_sorted PyProof.Rows.entry_sorted (PyProof.Rows.args_sorted1 _) ?_
  unfold Builtin.«sorted»
  refine wpAny_bind (m := checkCount "sorted" 1 1 _) (wpAny_pure ?_)
  refine wpAny_bind (PySem.W.kdu_collect (A := X.A.in1) (PySem.W.kdl_dict (knd := mixKind X.prog X.w) (kvs := vs) (ep := ep) lo) (I.ok.hd hcalm) hat h16 fun h' tk acc hk hacc => ?_)
  have hal : acc.toList.length = ks.length := by rw [Array.length_toList, hacc.1, hl]
  have hS : StrsAre acc.toList ks := strs_at hal fun j v e => by
    obtain ⟨k, x, e1, e2⟩ := hacc.2 j v (by rw [← Array.getElem?_toList]; exact e)
    have e3 : (vs.map (·.1))[j]? = some k := by rw [List.getElem?_map, e1]; all_goals rfl
    rw [hkeys, List.getElem?_map] at e3
    cases e4 : ks[j]? with
    | none => rw [e4] at e3; cases e3
    | some y =>
      rw [e4] at e3
      have e5 : Sum.inr y = k := Option.some.inj e3
      subst e5
      obtain ⟨t, ev⟩ := Value.isStrOf_shape (x := y) (v := v) e2
      exact ⟨y, t, rfl, ev⟩
  have I1 : Inv X pins σ H { s with heap := h', toks := tk } := I.kept hk
  refine wpAny_bind (wpAny_newList ?_ (by rw [hal, ← hl]; exact h16))
  have hoL : (h'.push (seqObj "list" acc.toList.toArray 0)).get? h'.objs.size = some (seqObj "list" acc.toList.toArray 0) := Heap.get?_push_size _ rfl
  show wpAny _ _ _ _ _ { s with heap := h'.push (seqObj "list" acc.toList.toArray 0), toks := tk }
  refine wpAny_bind (wpAny_holding (wpAny_call_entry PyProof.Rows.slot_list_sort ⟨_, hoL, rfl⟩ PyProof.Rows.entry_list_sort
    (list_sort_treeKAny strKind_oneLt (s := { s with heap := h'.push (seqObj "list" acc.toList.toArray 0), toks := tk }) hoL hS.keysOf (fun v₁ v₂ rest e => keyKind_strs (by rw [← e]; exact hS)) (by rw [hal, ← hl]; exact h16) fun st' hp hs => ⟨_, rfl, ?_⟩)
    (PyProof.Rows.args_list_sort _)))
  obtain ⟨ys, g1, g2, g3⟩ := sorted_out_str hS hp hs
  obtain ⟨e', he'⟩ := PyProof.Rows.sortedHeap_at (vs := acc.toList) (out := (arrOf st').map (·.2)) hoL
  have hlen : (ys.map V.str).length ≤ sizeLine := by
    rw [List.length_map, g2.length_eq, ← hl]
    exact h16
  refine wpAny_pure ⟨_, rfl, .ref h'.objs.size, upd H h'.objs.size (.lst (ys.map V.str)), I1.laid (t' := tk) (fun b u e => ?_) (Nat.le_refl _)
    (show ObjOk X.prog X.w _ _ _ (.lst (ys.map V.str)) from ⟨hlen, ((arrOf st').map (·.2)).toList, e', vals_of_strs g1, by rw [Array.toArray_toList]; exact he'⟩), rfl, q ys _ g2 g3 (I1.hok.fresh (Nat.le_refl _))⟩
  have hb : b < h'.objs.size := Heap.lt_size e
  rw [PyProof.Rows.sortedHeap_old (Nat.ne_of_lt hb) (by rw [size_push']; exact Nat.lt_succ_of_lt hb)]
  exact Heap.get?_push_of_some _ e
end
end Lk


namespace Lk
open PySem PySem.Spec PyProof.Rows L2
/-! ### rules over lists of signs -/
abbrev vI (c : Nat) : V := .int (c : Int)
/-- l[lo:hi] -/
def cutL (l : List Nat) (lo hi : Option Int) : List Nat := (l.drop (HT.sIx l.length 0 lo)).take (HT.sIx l.length l.length hi - HT.sIx l.length 0 lo)
theorem cutS_S (l : List Nat) (lo hi : Option Int) : cutS (S l) lo hi = S (cutL l lo hi) := by
  unfold cutS cutL
  rw [S_len]
theorem cut_to (l : List Nat) {i : Int} (h : 0 ≤ i) : cutL l none (some i) = l.take i.toNat := by
  have e : i = ((i.toNat : Nat) : Int) := by omega
  unfold cutL
  rw [HT.sIx_none, e, HT.sIx_nat, List.drop_zero, Nat.sub_zero, Int.toNat_natCast]
  by_cases hl : i.toNat ≤ l.length
  · rw [Nat.min_eq_left hl]
  · rw [Nat.min_eq_right (by omega), List.take_length, List.take_of_length_le (by omega)]
theorem cut_from (l : List Nat) {i : Int} (h : 0 ≤ i) : cutL l (some i) none = l.drop i.toNat := by
  have e : i = ((i.toNat : Nat) : Int) := by omega
  unfold cutL
  rw [HT.sIx_none, e, HT.sIx_nat, Int.toNat_natCast]
  by_cases hl : i.toNat ≤ l.length
  · rw [Nat.min_eq_left hl, List.take_of_length_le (by rw [List.length_drop]; omega)]
  · rw [Nat.min_eq_right (by omega), List.drop_length, List.drop_eq_nil_of_le (by omega), List.take_nil]
theorem cut_mid (l : List Nat) {i j : Int} (h : 0 ≤ i) (h2 : i ≤ j) (h3 : j ≤ l.length) : cutL l (some i) (some j) = (l.drop i.toNat).take (j.toNat - i.toNat) := by
  have e : i = ((i.toNat : Nat) : Int) := by omega
  have e2 : j = ((j.toNat : Nat) : Int) := by omega
  unfold cutL
  rw [e, e2, HT.sIx_nat, HT.sIx_nat, Int.toNat_natCast, Int.toNat_natCast, Nat.min_eq_left (by omega), Nat.min_eq_left (by omega)]
theorem cut_neg (l : List Nat) {i : Int} (h : i < 0) (h2 : 0 ≤ l.length + i) : cutL l (some i) none = l.drop (l.length + i).toNat := by
  have e : HT.sIx l.length 0 (some i) = (l.length + i).toNat := by
    show (if i < 0 then (i + (l.length : Int)).toNat else min i.toNat l.length) = _
    rw [if_pos h, Int.add_comm]
  unfold cutL
  rw [HT.sIx_none, e, List.take_of_length_le (by rw [List.length_drop]; omega)]
theorem cut_len (l : List Nat) (lo hi : Option Int) : (cutL l lo hi).length ≤ l.length := by
  unfold cutL
  rw [List.length_take, List.length_drop]
  omega
section
variable {X : Cx}
theorem big {n : Nat} (h : n ≤ 1000000) : n ≤ sizeLine := Nat.le_trans h (by decide)
theorem sl_S : SlR X (fun x lo hi H Q => ∃ l, x = vS l ∧ l.length ≤ 1000000 ∧ Q (vS (cutL l lo hi)) H) := by
  intro pins s σ H x v vl vu lo hi sl Q I rx hs pl pu ⟨l, e, hl, q⟩
  refine sl_str pins s σ H x v vl vu lo hi sl Q I rx hs pl pu ⟨S l, e, by rw [S_len]; exact big hl, ?_⟩
  rw [cutS_S]
  exact q
theorem op_catS : OpR X (binaryOp .Add) (fun x y H Q => ∃ a b, x = vS a ∧ y = vS b ∧ a.length + b.length ≤ 1000000 ∧ Q (vS (a ++ b)) H) := by
  intro pins s σ H x y v u Q I rx ry ⟨a, b, e1, e2, hl, q⟩
  refine op_add_str pins s σ H x y v u Q I rx ry ⟨S a, S b, e1, e2, by rw [S_len, S_len]; exact big hl, ?_⟩
  rw [SX.S_cat]
  exact q
theorem call_lenS : CallR X (.builtin "len") (fun xs H Q => ∃ l, xs = [vS l] ∧ l.length ≤ 1000000 ∧ Q (.int l.length) H) := by
  intro pins s σ H xs us Q I r ⟨l, e, hl, q⟩
  refine call_len_str pins s σ H xs us Q I r ⟨S l, e, by rw [S_len]; exact big hl, ?_⟩
  rw [S_len]
  exact q
/-- len of a text, a list, a tuple -/
def LenX (K : PySem.W.Frag) (x : V) (H : Hp) (n : Nat) : Prop := (∃ l, x = vS l ∧ l.length ≤ 1000000 ∧ n = l.length) ∨ (∃ p xs, x = .ref p ∧ SqL K H p xs ∧ n = xs.length) ∨ ∃ p xs, x = .ref p ∧ SqT K H p xs ∧ n = xs.length
theorem call_lenX : CallR X (.builtin "len") (fun xs H Q => ∃ x n, xs = [x] ∧ LenX X.K x H n ∧ Q (.int n) H) := by
  intro pins s σ H xs us Q I r ⟨x, n, e, hl, q⟩
  rcases hl with ⟨l, rfl, h1, rfl⟩ | ⟨p, ys, rfl, h1, rfl⟩ | ⟨p, ys, rfl, h1, rfl⟩
  · exact call_len pins s σ H xs us Q I r ⟨_, _, e, ⟨by rw [S_len]; exact big h1, (S_len l).symm⟩, q⟩
  · exact call_len pins s σ H xs us Q I r ⟨_, _, e, .inl ⟨ys, h1, rfl⟩, q⟩
  · exact call_len pins s σ H xs us Q I r ⟨_, _, e, .inr ⟨ys, h1, rfl⟩, q⟩
theorem ix_S : IxR X (fun x y H Q => ∃ l i c, x = vS l ∧ y = .int i ∧ l.length ≤ 1000000 ∧ atI l i = some c ∧ Q (vS [c]) H) := by
  intro value slice pins s σ H x y v u Q I rx ry ⟨l, i, c, e1, e2, hl, ha, q⟩ hs
  exact ix_str value slice pins s σ H x y v u Q I rx ry ⟨S l, i, c, e1, e2, by rw [S_len]; exact big hl, ha, q⟩ hs
theorem map_vS (ys : List (List Nat)) : (ys.map S).map V.str = ys.map vS := by rw [List.map_map]; rfl
/-- sep.join(list of texts) -/
theorem mt_joinS : MtR X "str.join" (fun x xs H Q => ∃ a p, ∃ ys : List (List Nat), x = vS a ∧ xs = [.ref p] ∧ (SqL X.K H p (ys.map vS) ∨ SqT X.K H p (ys.map vS)) ∧ (ys.map (·.length)).sum + ys.length * a.length ≤ 16777216 ∧ Q (vS (TL.joinL a ys)) H) := by
  intro pins s σ H x xs v us Q I rx rxs ⟨a, p, ys, e1, e2, h1, h2, q⟩
  refine mt_join pins s σ H x xs v us Q I rx rxs ⟨S a, p, ys.map S, e1, e2, by rw [map_vS]; exact h1, by rw [SX.lens, S_len, List.length_map]; exact h2, ?_⟩
  rw [SX.join_S]
  exact q
theorem pe_joinS {o e : Expr} {to te : TE} {apos pos : Pos} (ho : PE X o to) (he : PE X e te) (hs : starEach [e] X.env = [(false, eval e X.env)] := by rfl) (hbase : attributeBase o "join" X.env (eval o X.env) = eval o X.env := by rfl) (hline : (apos.endLine == pos.line) = true := by rfl) :
    PE X (.Call (.Attribute o "join" apos) [e] [] pos) (tM1 (fun x xs H Q => ∃ a p, ∃ ys : List (List Nat), x = vS a ∧ xs = [.ref p] ∧ (SqL X.K H p (ys.map vS) ∨ SqT X.K H p (ys.map vS)) ∧ (ys.map (·.length)).sum + ys.length * a.length ≤ 16777216 ∧ Q (vS (TL.joinL a ys)) H) to te) :=
  pe_m1 PySem.F.slot_str_join PySem.F.type_str_join mt_joinS ho he hs hbase hline
theorem joinL_flat : ∀ ys : List (List Nat), TL.joinL [] ys = ys.flatten
  | [] => rfl
  | [p] => by simp [TL.joinL]
  | p :: q :: r => by
    show p ++ ([] ++ TL.joinL [] (q :: r)) = _
    rw [joinL_flat (q :: r), List.nil_append]
    rfl
end
end Lk

/-! sorted(d, key=len), d a dict whose keys are texts; any number of them. -/
namespace Lk
open PySem PySem.Spec PyProof.Rows L2
section
variable {prog : Program} {w : World} {A : Around} {E : Value → Shared → Prop} {s : Shared}
def lensOf (ss : List Str) : List Int := ss.map fun x => (x.length : Int)
/-- what a sort by length hands on -/
def ByLen (ss : List Str) (vs out : List Value) : Prop := ∃ ys : List Str, StrsAre out ys ∧ ys.Perm ss ∧ ys.Pairwise (fun x y => x.length ≤ y.length)
theorem byLen_of {vs out : List Value} {ss : List Str} (hS : StrsAre vs ss) (h : KskOut false (lensOf ss) vs out) : ByLen ss vs out := by
  obtain ⟨ps, h1, h2, h3⟩ := h
  have hlen := StrsAre.length hS
  have key : ∀ p ∈ ps, ∃ x t, p.2 = Value.str x t ∧ p.1 = (x.length : Int) := fun p hp => by
    have hm := h1.mem_iff.mp hp
    obtain ⟨i, hi, e⟩ := List.getElem_of_mem hm
    rw [List.getElem_zip] at e
    have hi1 : i < ss.length := by
      have := hi
      rw [List.length_zip, lensOf, List.length_map] at this
      omega
    have hi2 : i < vs.length := by
      have := hi
      rw [List.length_zip] at this
      omega
    have hi0 : i < (lensOf ss).length := by
      unfold lensOf
      rw [List.length_map]
      exact hi1
    obtain ⟨x, t, ev⟩ := StrsAre.all hS _ (List.getElem_mem hi2)
    refine ⟨x, t, by rw [← e]; exact ev, ?_⟩
    rw [← e]
    show (lensOf ss)[i] = (x.length : Int)
    have es : ss = vs.map strOf := (StrsAre.strs hS).symm
    have q0 : (lensOf ss)[i]? = some ((ss[i]).length : Int) := by
      unfold lensOf
      rw [List.getElem?_map, List.getElem?_eq_getElem hi1]
      rfl
    rw [List.getElem?_eq_getElem hi0] at q0
    have this : (lensOf ss)[i] = ((ss[i]).length : Int) := Option.some.inj q0
    rw [this]
    have e2 : ss[i] = strOf vs[i] := by
      have := List.getElem_map strOf (l := vs) (i := i) (h := by rw [List.length_map]; exact hi2)
      rw [← this]
      congr 1
    rw [e2, ev]
    rfl
  refine ⟨out.map strOf, strsAre_map _ (fun v hv => ?_), ?_, ?_⟩
  · rw [h2] at hv
    obtain ⟨p, hp, rfl⟩ := List.mem_map.mp hv
    obtain ⟨x, t, e, _⟩ := key p hp
    exact ⟨x, t, e⟩
  · have e1 : (ps.map Prod.snd).Perm vs := by
      have := h1.map Prod.snd
      rw [List.map_snd_zip (by rw [lensOf, List.length_map]; omega)] at this
      exact this
    rw [h2, ← StrsAre.strs hS]
    exact e1.map strOf
  · rw [h2, List.map_map, List.pairwise_map]
    have hp : ps.Pairwise (fun p q : Int × Value => p.1 ≤ q.1) := h3
    refine hp.imp_of_mem fun {a b} ha hb hab => ?_
    obtain ⟨x, t, e1, e2⟩ := key a ha
    obtain ⟨y, u, e3, e4⟩ := key b hb
    show (strOf a.2).length ≤ (strOf b.2).length
    rw [e1, e3]
    show x.length ≤ y.length
    omega
variable {a kS : Addr} {vs : List Value} {kz : List Int} {keys : Array Value} {e e1 : Nat} {P : PySem.Fin → Shared → Prop}
theorem len_tail {st : SortSt} (nk : s.heap.get? kS = some (seqObj "list" keys e)) (na : s.heap.get? a = some (seqObj "list" #[] e1)) (hka : kS ≠ a)
    (hk : IntsAre keys.toList kz) (hlen : kz.length = vs.length) (hL : vs.length ≤ sizeLine) (hp : (arrOf st).Perm (keys.zip vs.toArray)) (hs : SortedTo (arrOf st) (arrOf st).size) (hfl : failedOf st = none)
    (h : ∀ h' tk out c, (∀ b o, b ≠ kS → b ≠ a → s.heap.get? b = some o → h'.get? b = some o) → h'.get? a = some (seqObj "list" out c) → KskOut false kz vs out.toList → P (.done (.ret .none)) { s with heap := h', toks := tk }) :
    wpAny (model prog w) A (ksk_tail a false e1 (.ref kS) st) P E s := by
  have hL2 := hL
  rw [sizeLine_eq] at hL2
  have hsz : keys.size = vs.length := by
    have h1 := hk.length
    rw [Array.length_toList] at h1
    omega
  have hsz2 : (arrOf st).size = vs.length := by rw [hp.size_eq, Array.size_zip, hsz, List.size_toArray, Nat.min_self]
  have hout : ((arrOf st).map (·.2)).size = vs.length := by rw [Array.size_map]; exact hsz2
  have s1 := Heap.SameBut.update s.heap kS (Obj.mapSeq fun _ => (#[] : Array Value))
  have na1 : (s.heap.update kS (Obj.mapSeq fun _ => (#[] : Array Value))).get? a = some (seqObj "list" #[] e1) := (s1.2 a hka.symm).trans na
  have s2 := Heap.SameBut.update (s.heap.update kS (Obj.mapSeq fun _ => (#[] : Array Value))) a (Obj.mapSeq fun _ => (arrOf st).map (·.2))
  obtain ⟨c2, hc2⟩ : ∃ c2, ((s.heap.update kS (Obj.mapSeq fun _ => (#[] : Array Value))).update a (Obj.mapSeq fun _ => (arrOf st).map (·.2))).get? a = some (seqObj "list" ((arrOf st).map (·.2)) c2) :=
    ⟨_, get?_update_seq na1 fun _ => (arrOf st).map (·.2)⟩
  unfold ksk_tail
  try dsimp only
  refine wpAny_bind (listUpdate_at nk rfl ?_ (by rw [hsz]; exact hL) (Nat.zero_le _))
  refine wpAny_bind (wpAny_letGo ?_)
  refine wpAny_bind (seqEpoch_at na1 rfl ?_)
  refine wpAny_bind (listUpdate_at na1 rfl ?_ (Nat.zero_le _) (Nat.le_trans (Nat.le_of_eq hout) (Nat.le_succ_of_le hL)))
  rw [hfl]
  simp only [bne_self_eq_false, Bool.false_eq_true, if_false]
  exact wpAny_pure (h _ _ _ c2 (fun b o h1 h2 q => (s2.2 b h2).trans ((s1.2 b h1).trans q)) hc2 (ksk_out (b := false) hk hp hs))
theorem len_end (nk : s.heap.get? kS = some (seqObj "list" keys e)) (na : s.heap.get? a = some (seqObj "list" #[] e1)) (hka : kS ≠ a)
    (hk : IntsAre keys.toList kz) (hlen : kz.length = vs.length) (hL : vs.length ≤ sizeLine)
    (h : ∀ h' tk out c, (∀ b o, b ≠ kS → b ≠ a → s.heap.get? b = some o → h'.get? b = some o) → h'.get? a = some (seqObj "list" out c) → KskOut false kz vs out.toList → P (.done (.ret .none)) { s with heap := h', toks := tk }) :
    wpAny (model prog w) A (ksk_end a false vs.toArray e1 (.ref kS) keys) P E s := by
  have hsz : keys.size = vs.length := by
    have h1 := hk.length
    rw [Array.length_toList] at h1
    omega
  have hzs : (keys.zip vs.toArray).size = vs.length := by rw [Array.size_zip, hsz, List.size_toArray, Nat.min_self]
  unfold ksk_end
  try dsimp only
  simp only [Bool.false_eq_true, if_false]
  by_cases h2 : vs.toArray.size < 2
  · rw [if_pos h2, if_pos h2]
    refine wpAny_bind (wpAny_pure ?_)
    rw [StateT.run_pure]
    refine wpAny_bind (wpAny_pure ?_)
    try dsimp only
    refine len_tail (st := SortSt.mk' general' (keys.zip vs.toArray) #[] 7 none) nk na hka hk hlen hL (Array.Perm.refl _) ?_ rfl h
    intro i j hij hj
    have hj2 : j < (keys.zip vs.toArray).size := hj
    rw [hzs] at hj2
    rw [List.size_toArray] at h2
    have : i = j := by omega
    subst this
    exact Int.le_refl _
  · rw [if_neg h2, if_neg h2]
    rw [List.size_toArray] at h2
    rw [ksk_kind hk (by rw [hsz]; omega)]
    refine wpAny_bind (wpAny_pure ?_)
    have hkeys : KeysOf intKind (keys.zip vs.toArray) := fun p hp => by
      obtain ⟨n, t, e⟩ := ksk_intKeys (vs := vs) hk p hp
      exact ⟨n, by rw [e]⟩
    refine wpAny_bind (wpAny_mono (wpS_sortRunsAny (κ := intKind) (a₀ := keys.zip vs.toArray) (st := SortSt.mk' oneType' (keys.zip vs.toArray) #[] 7 none)
      (Q := fun _ st' => (arrOf st').Perm (keys.zip vs.toArray) ∧ failedOf st' = none ∧ SortedToK intKind (arrOf st') (keys.zip vs.toArray).size)
      intKind_oneLt hkeys ⟨Array.Perm.refl _, rfl, rfl⟩ rfl (by rw [hzs]; omega) fun st' a1 a2 a3 => ⟨a1, a2, a3⟩) ?_ fun _ _ e => e)
    rintro ⟨⟨⟩, st'⟩ s' ⟨rfl, hp, hf, hs⟩
    try dsimp only
    exact len_tail nk na hka hk hlen hL hp (by rw [hp.size_eq]; exact sortedTo_of_int hs) hf h
theorem len_rest {ss : List Str} (nk : s.heap.get? kS = some (seqObj "list" #[] 0)) (na : s.heap.get? a = some (seqObj "list" #[] e1)) (hka : kS ≠ a)
    (hS : StrsAre vs ss) (hL : vs.length ≤ sizeLine) (hz : ∀ x ∈ ss, x.length ≤ sizeLine)
    (h : ∀ h' tk out c, (∀ b o, b ≠ kS → b ≠ a → s.heap.get? b = some o → h'.get? b = some o) → h'.get? a = some (seqObj "list" out c) → KskOut false (lensOf ss) vs out.toList → P (.done (.ret .none)) { s with heap := h', toks := tk }) :
    wpAny (model prog w) A (ksk_rest a (.builtin "len") false vs.toArray e1 (.ref kS)) P E s := by
  have hll := StrsAre.length hS
  have hlen : (lensOf ss).length = vs.length := by
    unfold lensOf
    rw [List.length_map]
    omega
  unfold ksk_rest
  refine wpAny_bind (wpAny_rule ?_)
  first
    | rw [List.forIn_toArray]
    | (rw [← Array.forIn_toList]; simp only [List.toList_toArray])
    | rw [← Array.forIn_toList]
  refine wpAny_bind (ksk_fold (fun i s' => ∃ h' tk kA e, s' = { s with heap := h', toks := tk } ∧ (∀ b o, b ≠ kS → s.heap.get? b = some o → h'.get? b = some o) ∧ h'.get? kS = some (seqObj "list" kA e) ∧ IntsAre kA.toList ((lensOf ss).take i)) vs 0 s
    ⟨s.heap, s.toks, #[], 0, rfl, fun _ _ _ q => q, nk, by simpa using IntsAre.nil⟩ ?step ?done)
  case step =>
    rintro j x s' hx ⟨h', tk, kA, e, rfl, kp, nk', hk⟩
    simp only [Nat.zero_add] at hk ⊢
    have hj : j < vs.length := (List.getElem?_eq_some_iff.mp hx).1
    have hj2 : j < ss.length := by omega
    obtain ⟨y, t, rfl⟩ := StrsAre.all hS x (List.mem_of_getElem? hx)
    have ey : ss[j]? = some y := by
      rw [← StrsAre.strs hS, List.getElem?_map, hx]
      rfl
    have hkj : (lensOf ss)[j]? = some (y.length : Int) := by
      unfold lensOf
      rw [List.getElem?_map, ey]
      rfl
    have hzy := hz y (List.mem_of_getElem? ey)
    have hn := line63
    have hzz : kA.size ≤ vs.length := by
      have h1 := hk.length
      rw [Array.length_toList, List.length_take] at h1
      omega
    refine wpAny_bind (wpAny_attempt (len_str (by omega) ?_))
    try dsimp only
    have s1 := Heap.SameBut.update h' kS (Obj.mapSeq (·.push (.int (y.length : Int) (tk + 1))))
    obtain ⟨c2, hc2⟩ : ∃ c2, (h'.update kS (Obj.mapSeq (·.push (.int (y.length : Int) (tk + 1))))).get? kS = some (seqObj "list" (kA.push (.int (y.length : Int) (tk + 1))) c2) := ⟨_, get?_update_seq nk' (·.push (.int (y.length : Int) (tk + 1)))⟩
    have ek : (lensOf ss).take (j + 1) = (lensOf ss).take j ++ [(y.length : Int)] := by rw [List.take_add_one, hkj]; simp
    have ea : (kA.push (Value.int (y.length : Int) (tk + 1))).toList = kA.toList ++ [Value.int (y.length : Int) (tk + 1)] := by simp
    refine wpAny_bind (listUpdate_at nk' rfl ?_ (by omega) (Nat.le_trans (Nat.le_of_eq (Array.size_push ..)) (by omega)))
    exact wpAny_pure ⟨rfl, _, _, kA.push (.int (y.length : Int) (tk + 1)), c2, rfl, fun b o hb q => (s1.2 b hb).trans (kp b o hb q), hc2, by rw [ea, ek]; exact ksk_snoc hk⟩
  case done =>
    rintro s' ⟨h', tk, kA, e, rfl, kp, nk', hk⟩
    have hk' : IntsAre kA.toList (lensOf ss) := by
      have e3 : (lensOf ss).take (0 + vs.length) = lensOf ss := List.take_of_length_le (by omega)
      rw [e3] at hk
      exact hk
    try dsimp only
    refine wpAny_bind (listItems_at nk' rfl ?_)
    exact len_end nk' (kp a _ hka.symm na) hka hk' hlen hL fun h3 tk3 out c k3 na3 o3 => h h3 tk3 out c (fun b o h1 h2 q => k3 b o h1 h2 (kp b o h1 q)) na3 o3
theorem len_sort {n : Nat} {ss : List Str} (ho : s.heap.get? a = some (seqObj "list" vs.toArray n)) (hS : StrsAre vs ss) (hL : vs.length ≤ sizeLine) (hz : ∀ x ∈ ss, x.length ≤ sizeLine)
    (h : ∀ h' tk out c, (∀ b o, b ≠ a → s.heap.get? b = some o → h'.get? b = some o) → h'.get? a = some (seqObj "list" out c) → ByLen ss vs out.toList → P (.done (.ret .none)) { s with heap := h', toks := tk }) :
    wpAny (model prog w) A (ksk_tree a (.builtin "len") false) P E s := by
  have ha : a < s.heap.objs.size := Heap.lt_size ho
  have s1 := Heap.SameBut.update s.heap a (Obj.mapSeq fun _ => (#[] : Array Value))
  obtain ⟨e1, ho1⟩ : ∃ e1, (s.heap.update a (Obj.mapSeq fun _ => (#[] : Array Value))).get? a = some (seqObj "list" #[] e1) := ⟨_, get?_update_seq ho fun _ => #[]⟩
  have hkS : ((s.heap.update a (Obj.mapSeq fun _ => (#[] : Array Value))).push (seqObj "tuple" vs.toArray 0)).objs.size = s.heap.objs.size + 1 := by rw [size_push', Heap.size_update]
  unfold ksk_tree
  refine wpAny_bind (listItems_at ho rfl ?_)
  refine wpAny_bind (listUpdate_at ho rfl ?_ (by rw [List.size_toArray]; exact hL) (Nat.zero_le _))
  refine wpAny_bind (seqEpoch_at ho1 rfl ?_)
  refine wpAny_bind (wpAny_newTuple ?_ (by show vs.length ≤ _; exact hL))
  refine wpAny_bind (wpAny_newList ?_ (Nat.zero_le _))
  refine wpAny_holding ?_
  refine len_rest (s := { s with heap := ((s.heap.update a (Obj.mapSeq fun _ => (#[] : Array Value))).push (seqObj "tuple" vs.toArray 0)).push (seqObj "list" #[] 0) }) (kS := ((s.heap.update a (Obj.mapSeq fun _ => (#[] : Array Value))).push (seqObj "tuple" vs.toArray 0)).objs.size)
    (Heap.get?_push_size _ rfl) (Heap.get?_push_of_some _ (Heap.get?_push_of_some _ ho1)) (by rw [hkS]; exact Nat.ne_of_gt (Nat.lt_succ_of_lt ha)) hS hL hz fun h' tk out c kp na o => h h' tk out c (fun b u hb q => ?_) na (byLen_of hS o)
  have hlt : b < s.heap.objs.size := Heap.lt_size q
  refine kp b u (by rw [hkS]; exact Nat.ne_of_lt (Nat.lt_succ_of_lt hlt)) hb (Heap.get?_push_of_some _ (Heap.get?_push_of_some _ ((s1.2 b hb).trans q)))
end
section
variable {X : Cx}
/-- sorted(d, key=len) -/
def rSL : List V → Hp → VK → Prop := fun vs H Q => ∃ (a : Addr) (kvs : List (Key × V)) (ks : List Str), vs = [.ref a] ∧ Rd H a (.dK kvs) ∧ kvs.map (·.1) = ks.map Sum.inr ∧ (∀ y ∈ ks, y.length ≤ sizeLine) ∧
    ∀ (ys : List Str) (p : Addr), ys.Perm ks → ys.Pairwise (fun x y => x.length ≤ y.length) → H p = none → Q (.ref p) (upd H p (.lst (ys.map V.str)))
def tSortLen (t : TA) : TE := fun σ H Q => t σ H fun vs H1 => rSL vs H1 Q
theorem pe_sortLen {e : Expr} {t : TA} {p p2 kp pos : Pos} (hcalm : X.calm = true) (hm : X.mg "sorted" = none) (hm2 : X.mg "len" = none) (ha : PA X [e] t) (hg : Gl X "sorted" := by rfl) (hg2 : Gl X "len" := by rfl)
    (he : backTo pos (starEach [e] X.env) = (false, eval e X.env) :: backTo pos (starEach [] X.env) := by rfl) (hpl : (backTo pos (starEach [e] X.env)).any (·.1) = false := by rfl) :
    PE X (.Call (.Name "sorted" p) [e] [⟨some "key", .Name "len" p2, kp⟩] pos) (tSortLen t) := by
  refine ⟨fun pins s σ H Q I h => ?_⟩
  refine wpAny_Call_Name_kw (ld_blt I hg hm (by decide +kernel : bootBuiltins "sorted" = some (.builtin "sorted")) ?_)
  refine PyProof.Rows.callWith_kw (thn (ha.run pos pins s σ H _ I h) fun us s1 hh => ?_) he hpl
  · obtain ⟨vs, H1, I1, r1, a, kvs, ks, ex, hd, hks, hz, q⟩ := hh
    subst ex
    obtain ⟨u, eu, rx⟩ := vals1 r1
    subst eu
    cases rx
    show wpAny _ _ (evalAll ((do let v ← eval (.Name "len" p2) X.env; standAt pos; pure v) :: (backToKw pos (keywordEach [] X.env)).map (·.2))) _ _ s1
    refine wpAny_evalAll_cons (wpAny_bind (ld_blt I1 hg2 hm2 (by decide +kernel : bootBuiltins "len" = some (.builtin "len")) (wpAny_bind (wpAny_standAt (wpAny_pure (wpAny_evalAll_nil ?_))))))
    show wpAny _ _ (call (.builtin "sorted") [.ref a] [(Str.ofString "key", .builtin "len")]) _ _ _
    obtain ⟨z, lo, vs, rel, dd⟩ := dk_rd I1.hok hd
    obtain ⟨ep, hat⟩ := dd.dictAt
    have hkeys : vs.map (·.1) = ks.map Sum.inr := rel.keys.symm.trans hks
    have hl : vs.length = ks.length := by
      have e := congrArg List.length hkeys
      rw [List.length_map, List.length_map] at e
      exact e
    have h16' : kvs.length = ks.length := by
      have e := congrArg List.length hks
      rw [List.length_map, List.length_map] at e
      exact e
    have h16 : vs.length ≤ sizeLine := by rw [hl, ← h16']; exact z
    refine call_function_entry_kw kind_sorted plain_sorted entry_sorted (ksk_s1 _ _) ?_
    unfold Builtin.«sorted»
    refine wpAny_bind (m := checkCount "sorted" 1 1 _) (wpAny_pure ?_)
    refine wpAny_bind (PySem.W.kdu_collect (A := X.A.in1) (PySem.W.kdl_dict (knd := mixKind X.prog X.w) (kvs := vs) (ep := ep) lo) (I1.ok.hd hcalm) hat h16 fun h' tk acc hk hacc => ?_)
    have hal : acc.toList.length = ks.length := by rw [Array.length_toList, hacc.1, hl]
    have hS : StrsAre acc.toList ks := strs_at hal fun j v e => by
      obtain ⟨k, x, e1, e2⟩ := hacc.2 j v (by rw [← Array.getElem?_toList]; exact e)
      have e3 : (vs.map (·.1))[j]? = some k := by rw [List.getElem?_map, e1]; all_goals rfl
      rw [hkeys, List.getElem?_map] at e3
      cases e4 : ks[j]? with
      | none => rw [e4] at e3; cases e3
      | some y =>
        rw [e4] at e3
        have e5 : Sum.inr y = k := Option.some.inj e3
        subst e5
        obtain ⟨t, ev⟩ := Value.isStrOf_shape (x := y) (v := v) e2
        exact ⟨y, t, rfl, ev⟩
    have I2 : Inv X pins σ H1 { s1 with heap := h', toks := tk } := I1.kept hk
    refine wpAny_bind (wpAny_newList ?_ (by rw [hal, ← hl]; exact h16))
    have hoL : (h'.push (seqObj "list" acc.toList.toArray 0)).get? h'.objs.size = some (seqObj "list" acc.toList.toArray 0) := Heap.get?_push_size _ rfl
    show wpAny _ _ _ _ _ { s1 with heap := h'.push (seqObj "list" acc.toList.toArray 0), toks := tk }
    refine wpAny_bind (wpAny_holding (wpAny_call_entry_kw slot_list_sort ⟨_, hoL, rfl⟩ entry_list_sort ?body (ksk_l1 _ _)))
    case body =>
      rw [ksk_t4]
      refine len_sort (s := { s1 with heap := h'.push (seqObj "list" acc.toList.toArray 0), toks := tk }) hoL hS (by rw [hal, ← hl]; exact h16) hz fun h3 tk3 out c kp na o => ⟨_, rfl, ?_⟩
      obtain ⟨ys, g1, g2, g3⟩ := o
      have hlen : (ys.map V.str).length ≤ sizeLine := by
        rw [List.length_map, g2.length_eq, ← hl]
        exact h16
      refine wpAny_pure ⟨_, rfl, .ref h'.objs.size, upd H1 h'.objs.size (.lst (ys.map V.str)), I2.laid (t' := tk3) (fun b u e => ?_) (Nat.le_refl _)
        (show ObjOk X.prog X.w _ _ _ (.lst (ys.map V.str)) from ⟨hlen, out.toList, c, vals_of_strs g1, by rw [Array.toArray_toList]; exact na⟩), rfl, q ys _ g2 g3 (I2.hok.fresh (Nat.le_refl _))⟩
      have hb : b < h'.objs.size := Heap.lt_size e
      exact kp b u (Nat.ne_of_lt hb) (Heap.get?_push_of_some _ e)
end
end Lk


namespace Lk
open PySem PySem.Spec PyProof.Rows L2
/-! ### dicts of texts seen, sorted lists -/
open Fo
def kvF (fs : List L) : List (Key × V) := fs.map fun t => (Sum.inr (S t), V.bl true)
theorem kvF_len (fs : List L) : (kvF fs).length = fs.length := List.length_map _
theorem kvF_keys (fs : List L) : (kvF fs).map (·.1) = (fs.map S).map Sum.inr := by
  unfold kvF
  rw [List.map_map, List.map_map]
  rfl
theorem inrS {a b : L} : ((Sum.inr (S a) : Key) = Sum.inr (S b)) ↔ a = b := ⟨fun h => S_inj.mp (Sum.inr.inj h), fun h => by rw [h]⟩
theorem valV_kvF (fs : List L) (u : L) : valV (kvF fs) (Sum.inr (S u) : Key) = if u ∈ fs then some (.bl true) else none := by
  induction fs with
  | nil => rfl
  | cons t r ih =>
    by_cases e : t = u
    · subst e
      rw [if_pos (List.mem_cons_self ..)]
      exact valV_pos rfl
    · have e2 : ¬ ((Sum.inr (S t) : Key) = Sum.inr (S u)) := fun z => e (inrS.mp z)
      rw [show kvF (t :: r) = (Sum.inr (S t), V.bl true) :: kvF r from rfl, valV_neg e2, ih]
      by_cases hm : u ∈ r
      · rw [if_pos hm, if_pos (List.mem_cons_of_mem _ hm)]
      · rw [if_neg hm, if_neg fun z => (List.mem_cons.mp z).elim (fun q => e q.symm) hm]
theorem putK_kvF {fs : List L} {u : L} (h : u ∉ fs) : putK (kvF fs) (Sum.inr (S u) : Key) (V.bl true) = kvF (fs ++ [u]) := by
  rw [putK_new _ (by rw [valV_kvF, if_neg h])]
  unfold kvF
  rw [List.map_append]
  rfl
theorem perm_S {ys : List Str} {fs : List L} (h : ys.Perm (fs.map S)) : ∃ zs : List L, ys = zs.map S ∧ zs.Perm fs := by
  refine ⟨ys.map fun x => x.cps.toList, ?_, ?_⟩
  · rw [List.map_map]
    have : (S ∘ fun (x : Str) => x.cps.toList) = id := by
      funext x
      exact S_of x
    rw [this, List.map_id]
  · have := h.map fun x : Str => x.cps.toList
    rw [List.map_map] at this
    have e : ((fun x : Str => x.cps.toList) ∘ S) = id := by
      funext x
      rfl
    rw [e, List.map_id] at this
    exact this
theorem rising_pw : ∀ (p : L) (xs : List L), risingS (S p) (xs.map S) = true → (p :: xs).Pairwise (fun a b => ¬ b < a)
  | p, [], _ => List.pairwise_singleton _ _
  | p, x :: r, h => by
    have h' : (!ltCps x p && risingS (S x) (r.map S)) = true := h
    rw [Bool.and_eq_true, Bool.not_eq_true', ltCps_eq] at h'
    have h1 : ¬ x < p := of_decide_eq_false h'.1
    have ih := rising_pw x r h'.2
    rw [List.pairwise_cons]
    refine ⟨fun y hy => ?_, ih⟩
    rcases List.mem_cons.mp hy with e | hy
    · rw [e]
      exact h1
    · have h2 := (List.pairwise_cons.mp ih).1 y hy
      exact List.not_lt.mpr (List.le_trans (List.not_lt.mp h1) (List.not_lt.mp h2))
theorem srt_of {xs : List L} (h : sortedS (xs.map S) = true) : Srt xs := by
  cases xs with
  | nil => exact List.Pairwise.nil
  | cons x r => exact rising_pw x r h
end Lk

namespace Lk
open PySem PySem.Spec PyProof.Rows L2
/-! ### == of lists of texts, of numbers -/
open Fo
/-- data told in Lean: how it is handed (g), what it is (f) -/
structure Emb (K : PySem.W.Frag) (H : Hp) {α : Type} (xs : List α) (g : α → V) (f : α → PyData) : Prop where
  dp : ∀ a ∈ xs, Dp K H (g a) (f a)
  lay : ∀ a ∈ xs, (f a).canLay0 = true
  dep : ∀ a ∈ xs, (f a).depth ≤ 60
theorem dpAll_of {K : PySem.W.Frag} {H : Hp} {α : Type} {g : α → V} {f : α → PyData} : ∀ {xs : List α}, (∀ a ∈ xs, Dp K H (g a) (f a)) → DpAll K H (xs.map g) (xs.map f)
  | [], _ => .nil
  | x :: r, h => .cons (h x (List.mem_cons_self ..)) (dpAll_of fun a ha => h a (List.mem_cons_of_mem _ ha))
theorem layAll_of {α : Type} {f : α → PyData} : ∀ {xs : List α}, (∀ a ∈ xs, (f a).canLay0 = true) → PyData.canLayAll0 (xs.map f) = true
  | [], _ => by simp [PyData.canLayAll0]
  | x :: r, h => by
    rw [List.map_cons, PyData.canLayAll0, h x (List.mem_cons_self ..), layAll_of fun a ha => h a (List.mem_cons_of_mem _ ha)]
    rfl
theorem depAll_of {α : Type} {f : α → PyData} {n : Nat} : ∀ {xs : List α}, (∀ a ∈ xs, (f a).depth ≤ n) → PyData.depthAll (xs.map f) ≤ n
  | [], _ => by simp [PyData.depthAll]
  | x :: r, h => by
    rw [List.map_cons, PyData.depthAll]
    exact Nat.max_le.mpr ⟨h x (List.mem_cons_self ..), depAll_of fun a ha => h a (List.mem_cons_of_mem _ ha)⟩
theorem eqvAll_of {α : Type} [DecidableEq α] {f : α → PyData} : ∀ {xs ys : List α}, (∀ a ∈ xs, ∀ b ∈ ys, PyData.eqv (f a) (f b) = decide (a = b)) → PyData.eqvAll (xs.map f) (ys.map f) = decide (xs = ys)
  | [], [], _ => rfl
  | [], _ :: _, _ => rfl
  | _ :: _, [], _ => rfl
  | x :: r, y :: t, h => by
    rw [List.map_cons, List.map_cons, PyData.eqvAll, h x (List.mem_cons_self ..) y (List.mem_cons_self ..), eqvAll_of fun a ha b hb => h a (List.mem_cons_of_mem _ ha) b (List.mem_cons_of_mem _ hb)]
    by_cases e : x = y
    · subst e
      by_cases e2 : r = t
      · subst e2
        simp
      · simp [e2]
    · simp [e]
theorem shaped_list {α : Type} {xs : List α} {f : α → PyData} (h1 : ∀ a ∈ xs, (f a).canLay0 = true) (h2 : ∀ a ∈ xs, (f a).depth ≤ 60) : SeqAt.shaped (.list (xs.map f)) = true := by
  unfold SeqAt.shaped
  have e1 : (PyData.list (xs.map f)).canLay0 = true := by rw [PyData.canLay0]; exact layAll_of h1
  have e2 : (PyData.list (xs.map f)).depth ≤ 64 := by
    rw [PyData.depth]
    have := depAll_of (n := 60) h2
    omega
  rw [e1, decide_eq_true e2]
  rfl
theorem shaped_tup {α : Type} {xs : List α} {f : α → PyData} (h1 : ∀ a ∈ xs, (f a).canLay0 = true) (h2 : ∀ a ∈ xs, (f a).depth ≤ 60) : SeqAt.shaped (.tuple (xs.map f)) = true := by
  unfold SeqAt.shaped
  have e1 : (PyData.tuple (xs.map f)).canLay0 = true := by rw [PyData.canLay0]; exact layAll_of h1
  have e2 : (PyData.tuple (xs.map f)).depth ≤ 64 := by
    rw [PyData.depth]
    have := depAll_of (n := 60) h2
    omega
  rw [e1, decide_eq_true e2]
  rfl
/-- a text of plain signs -/
def Sm (l : L) : Prop := ∀ c ∈ l, c < 1000
theorem Sg.sm {l : L} (h : Fo.Sg l) : Sm l := fun c hc => by have := h c hc; omega
abbrev dS (l : L) : PyData := .str (S l)
abbrev dI (n : Nat) : PyData := .int (n : Int)
theorem dS_lay {l : L} (h : Sm l) : (dS l).canLay0 = true := by
  show (S l).cps.all (· < 0x110000) = true
  rw [Array.all_eq_true']
  intro c hc
  have := h c (by simpa [SX.S] using hc)
  simp
  omega
theorem dS_dep (l : L) : (dS l).depth ≤ 60 := by simp [PyData.depth]
theorem dI_dep (l : Nat) : (dI l).depth ≤ 60 := by simp [PyData.depth]
theorem dI_lay (l : Nat) : (dI l).canLay0 = true := by simp [PyData.canLay0]
theorem dS_eqv (a b : L) : PyData.eqv (dS a) (dS b) = decide (a = b) := by
  show (S a == S b) = decide (a = b)
  exact SX.S_beq_eq
theorem dI_eqv (a b : Nat) : PyData.eqv (dI a) (dI b) = decide (a = b) := by
  show ((a : Int) == (b : Int)) = decide (a = b)
  by_cases e : a = b
  · subst e; simp
  · have : ¬ (a : Int) = (b : Int) := by omega
    simp [e, this]
section
variable {X : Cx}
def rEqLS (K : PySem.W.Frag) (neg : Bool) : R2 := fun x y H Q => ∃ (a b : Addr) (xs ys : List L), x = .ref a ∧ y = .ref b ∧ SqL K H a (xs.map vS) ∧ SqL K H b (ys.map vS) ∧ (∀ l ∈ xs, Sm l) ∧ (∀ l ∈ ys, Sm l) ∧ Q (.bl (if neg then !decide (xs = ys) else decide (xs = ys))) H
def rEqLI (K : PySem.W.Frag) (neg : Bool) : R2 := fun x y H Q => ∃ (a b : Addr) (xs ys : List Nat), x = .ref a ∧ y = .ref b ∧ SqL K H a (xs.map vI) ∧ SqL K H b (ys.map vI) ∧ Q (.bl (if neg then !decide (xs = ys) else decide (xs = ys))) H
theorem dps {K : PySem.W.Frag} {H : Hp} {a : Addr} {xs : List L} (h : SqL K H a (xs.map vS)) : Dp K H (.ref a) (.list (xs.map dS)) := .lst h (dpAll_of fun l _ => .str (S l))
theorem dpi {K : PySem.W.Frag} {H : Hp} {a : Addr} {xs : List Nat} (h : SqL K H a (xs.map vI)) : Dp K H (.ref a) (.list (xs.map dI)) := .lst h (dpAll_of fun l _ => .int l)
theorem op_eqLS (hu : X.A.units + 64 < cLine) : OpR X (compareOp .Eq) (rEqLS X.K false) := by
  intro pins s σ H x y v u Q I rx ry ⟨a, b, xs, ys, e1, e2, h1, h2, m1, m2, q⟩
  refine op_eqD hu pins s σ H x y v u Q I rx ry ⟨_, _, by rw [e1]; exact dps h1, by rw [e2]; exact dps h2, shaped_list (fun l hl => dS_lay (m1 l hl)) (fun l _ => dS_dep l), shaped_list (fun l hl => dS_lay (m2 l hl)) (fun l _ => dS_dep l), ?_⟩
  have e : PyData.eqv (.list (xs.map dS)) (.list (ys.map dS)) = decide (xs = ys) := by
    rw [PyData.eqv]
    exact eqvAll_of fun a _ b _ => dS_eqv a b
  rw [e]
  exact q
theorem op_neLS (hu : X.A.units + 64 < cLine) : OpR X (compareOp .NotEq) (rEqLS X.K true) := by
  intro pins s σ H x y v u Q I rx ry ⟨a, b, xs, ys, e1, e2, h1, h2, m1, m2, q⟩
  refine op_neD hu pins s σ H x y v u Q I rx ry ⟨_, _, by rw [e1]; exact dps h1, by rw [e2]; exact dps h2, shaped_list (fun l hl => dS_lay (m1 l hl)) (fun l _ => dS_dep l), shaped_list (fun l hl => dS_lay (m2 l hl)) (fun l _ => dS_dep l), ?_⟩
  have e : PyData.eqv (.list (xs.map dS)) (.list (ys.map dS)) = decide (xs = ys) := by
    rw [PyData.eqv]
    exact eqvAll_of fun a _ b _ => dS_eqv a b
  rw [e]
  exact q
theorem op_eqLI (hu : X.A.units + 64 < cLine) : OpR X (compareOp .Eq) (rEqLI X.K false) := by
  intro pins s σ H x y v u Q I rx ry ⟨a, b, xs, ys, e1, e2, h1, h2, q⟩
  refine op_eqD hu pins s σ H x y v u Q I rx ry ⟨_, _, by rw [e1]; exact dpi h1, by rw [e2]; exact dpi h2, shaped_list (fun l _ => dI_lay l) (fun l _ => dI_dep l), shaped_list (fun l _ => dI_lay l) (fun l _ => dI_dep l), ?_⟩
  have e : PyData.eqv (.list (xs.map dI)) (.list (ys.map dI)) = decide (xs = ys) := by
    rw [PyData.eqv]
    exact eqvAll_of fun a _ b _ => dI_eqv a b
  rw [e]
  exact q
theorem op_neLI (hu : X.A.units + 64 < cLine) : OpR X (compareOp .NotEq) (rEqLI X.K true) := by
  intro pins s σ H x y v u Q I rx ry ⟨a, b, xs, ys, e1, e2, h1, h2, q⟩
  refine op_neD hu pins s σ H x y v u Q I rx ry ⟨_, _, by rw [e1]; exact dpi h1, by rw [e2]; exact dpi h2, shaped_list (fun l _ => dI_lay l) (fun l _ => dI_dep l), shaped_list (fun l _ => dI_lay l) (fun l _ => dI_dep l), ?_⟩
  have e : PyData.eqv (.list (xs.map dI)) (.list (ys.map dI)) = decide (xs = ys) := by
    rw [PyData.eqv]
    exact eqvAll_of fun a _ b _ => dI_eqv a b
  rw [e]
  exact q
/-- x in (s, t), texts; and not in -/
def rInTS (K : PySem.W.Frag) (neg : Bool) : R2 := fun x y H Q => ∃ (p : Addr) (l : L) (xs : List L), x = vS l ∧ y = .ref p ∧ SqT K H p (xs.map vS) ∧ Q (.bl (if neg then !decide (l ∈ xs) else decide (l ∈ xs))) H
def rInLS (K : PySem.W.Frag) (neg : Bool) : R2 := fun x y H Q => ∃ (p : Addr) (l : L) (xs : List L), x = vS l ∧ y = .ref p ∧ SqL K H p (xs.map vS) ∧ Q (.bl (if neg then !decide (l ∈ xs) else decide (l ∈ xs))) H
def rInLI (K : PySem.W.Frag) (neg : Bool) : R2 := fun x y H Q => ∃ (p : Addr) (l : Int) (xs : List Nat), x = .int l ∧ y = .ref p ∧ SqL K H p (xs.map vI) ∧ Q (.bl (if neg then !decide (∃ n ∈ xs, (n : Int) = l) else decide (∃ n ∈ xs, (n : Int) = l))) H
theorem inV_S (l : L) (xs : List L) : inV (vS l) (xs.map vS) = decide (l ∈ xs) := by
  unfold inV
  rw [List.any_map]
  by_cases h : l ∈ xs
  · rw [decide_eq_true h, List.any_eq_true]
    exact ⟨l, h, by show eqV (vS l) (vS l) = true; simp [eqV]⟩
  · rw [decide_eq_false h, List.any_eq_false]
    intro y hy
    show ¬ eqV (vS y) (vS l) = true
    have : ¬ y = l := fun e => h (e ▸ hy)
    simp [eqV, this]
theorem inV_I (l : Int) (xs : List Nat) : inV (.int l) (xs.map vI) = decide (∃ n ∈ xs, (n : Int) = l) := by
  unfold inV
  rw [List.any_map]
  by_cases h : ∃ n ∈ xs, (n : Int) = l
  · rw [decide_eq_true h, List.any_eq_true]
    obtain ⟨n, h1, h2⟩ := h
    exact ⟨n, h1, by show eqV (.int (n : Int)) (.int l) = true; simp [eqV, h2]⟩
  · rw [decide_eq_false h, List.any_eq_false]
    intro y hy
    show ¬ eqV (.int (y : Int)) (.int l) = true
    have : ¬ (y : Int) = l := fun e => h ⟨y, hy, e⟩
    simp [eqV, this]
theorem flat_S (xs : List L) : (xs.map vS).all flatV = true := by
  rw [List.all_map, List.all_eq_true]
  intro x _
  rfl
theorem flat_I (xs : List Nat) : (xs.map vI).all flatV = true := by
  rw [List.all_map, List.all_eq_true]
  intro x _
  rfl
theorem op_inTS : OpR X (compareOp .In) (rInTS X.K false) := by
  intro pins s σ H x y v u Q I rx ry ⟨p, l, xs, e1, e2, h1, q⟩
  refine op_in_seq pins s σ H x y v u Q I rx ry ⟨p, xs.map vS, e2, .inr h1, by rw [e1]; rfl, flat_S xs, ?_⟩
  rw [e1, inV_S]
  exact q
theorem op_notinTS : OpR X (compareOp .NotIn) (rInTS X.K true) := by
  intro pins s σ H x y v u Q I rx ry ⟨p, l, xs, e1, e2, h1, q⟩
  refine op_notIn_seq pins s σ H x y v u Q I rx ry ⟨p, xs.map vS, e2, .inr h1, by rw [e1]; rfl, flat_S xs, ?_⟩
  rw [e1, inV_S]
  exact q
theorem op_inLS : OpR X (compareOp .In) (rInLS X.K false) := by
  intro pins s σ H x y v u Q I rx ry ⟨p, l, xs, e1, e2, h1, q⟩
  refine op_in_seq pins s σ H x y v u Q I rx ry ⟨p, xs.map vS, e2, .inl h1, by rw [e1]; rfl, flat_S xs, ?_⟩
  rw [e1, inV_S]
  exact q
theorem op_notinLS : OpR X (compareOp .NotIn) (rInLS X.K true) := by
  intro pins s σ H x y v u Q I rx ry ⟨p, l, xs, e1, e2, h1, q⟩
  refine op_notIn_seq pins s σ H x y v u Q I rx ry ⟨p, xs.map vS, e2, .inl h1, by rw [e1]; rfl, flat_S xs, ?_⟩
  rw [e1, inV_S]
  exact q
theorem op_notinLI : OpR X (compareOp .NotIn) (rInLI X.K true) := by
  intro pins s σ H x y v u Q I rx ry ⟨p, l, xs, e1, e2, h1, q⟩
  refine op_notIn_seq pins s σ H x y v u Q I rx ry ⟨p, xs.map vI, e2, .inl h1, by rw [e1]; rfl, flat_I xs, ?_⟩
  rw [e1, inV_I]
  exact q
end
section
variable {X : Cx}
theorem vi_dec (i j : Int) : decide (V.int i = V.int j) = decide (i = j) := by
  by_cases h : i = j
  · subst h
    simp
  · have : ¬ V.int i = V.int j := fun e => h (V.int.inj e)
    simp [h, this]
def rII (f : Int → Int → Bool) : R2 := fun x y H Q => ∃ i j : Int, x = .int i ∧ y = .int j ∧ Q (.bl (f i j)) H
theorem op_eqI : OpR X (compareOp .Eq) (rII fun i j => decide (i = j)) := by
  intro pins s σ H x y v u Q I rx ry ⟨i, j, e1, e2, q⟩
  subst e1 e2
  refine op_eq pins s σ H _ _ v u Q I rx ry ⟨rfl, ?_⟩
  rw [vi_dec]
  exact q
theorem op_neI : OpR X (compareOp .NotEq) (rII fun i j => !decide (i = j)) := by
  intro pins s σ H x y v u Q I rx ry ⟨i, j, e1, e2, q⟩
  subst e1 e2
  refine op_ne pins s σ H _ _ v u Q I rx ry ⟨rfl, ?_⟩
  rw [vi_dec]
  exact q
def rSS (f : L → L → Bool) : R2 := fun x y H Q => ∃ i j : L, x = vS i ∧ y = vS j ∧ Q (.bl (f i j)) H
theorem op_eqS : OpR X (compareOp .Eq) (rSS fun i j => decide (i = j)) := by
  intro pins s σ H x y v u Q I rx ry ⟨i, j, e1, e2, q⟩
  subst e1 e2
  refine op_eq pins s σ H _ _ v u Q I rx ry ⟨rfl, ?_⟩
  rw [vS_dec]
  exact q
theorem op_neS : OpR X (compareOp .NotEq) (rSS fun i j => !decide (i = j)) := by
  intro pins s σ H x y v u Q I rx ry ⟨i, j, e1, e2, q⟩
  subst e1 e2
  refine op_ne pins s σ H _ _ v u Q I rx ry ⟨rfl, ?_⟩
  rw [vS_dec]
  exact q
end
section
variable {X : Cx}
theorem vb_dec (i j : Bool) : decide (V.bl i = V.bl j) = decide (i = j) := by
  by_cases h : i = j
  · subst h
    simp
  · have : ¬ V.bl i = V.bl j := fun e => h (V.bl.inj e)
    simp [h, this]
def rBB (f : Bool → Bool → Bool) : R2 := fun x y H Q => ∃ i j : Bool, x = .bl i ∧ y = .bl j ∧ Q (.bl (f i j)) H
theorem op_eqB : OpR X (compareOp .Eq) (rBB fun i j => decide (i = j)) := by
  intro pins s σ H x y v u Q I rx ry ⟨i, j, e1, e2, q⟩
  subst e1 e2
  refine op_eq pins s σ H _ _ v u Q I rx ry ⟨rfl, ?_⟩
  rw [vb_dec]
  exact q
theorem op_neB : OpR X (compareOp .NotEq) (rBB fun i j => !decide (i = j)) := by
  intro pins s σ H x y v u Q I rx ry ⟨i, j, e1, e2, q⟩
  subst e1 e2
  refine op_ne pins s σ H _ _ v u Q I rx ry ⟨rfl, ?_⟩
  rw [vb_dec]
  exact q
end
/-! ### walks of a text -/
theorem lc_str {l : L} {g : TG} {tt : TT} {te : TE} {vs : List Nat} {σ : L2.St} {H1 : Hp} {D : Addr} {Qd : Hp → Prop} (Pv : Nat → Hp → Prop) (h0 : Pv 0 (upd H1 D (.lst [])))
    (hs : ∀ i c H, l[i]? = some c → Pv i H → g (vS [c]) (wipe σ vs) H fun σ2 H2 => wipe σ2 vs = wipe σ vs ∧ tt σ2 H2 fun b H3 =>
      if b = true then te σ2 H3 fun y H4 => ∃ acc, H4 D = some (.lst acc) ∧ acc.length < sizeLine ∧ Pv (i + 1) (upd H4 D (.lst (acc ++ [y]))) else Pv (i + 1) H3) (hd : ∀ H, Pv l.length H → Qd H) :
    ∃ W : Nat → Nat → Hp → Prop, (∃ m, W 0 m (upd H1 D (.lst []))) ∧ ∀ i m H, W i m H →
      ((Its (S l)).stop i H ∧ Qd H) ∨ ((Its (S l)).go i H ∧ ∃ Nx : Hp → Prop, (∀ H', Nx H' → ∃ m', m' < m ∧ W (i + 1) m' H') ∧ ∀ x H', (Its (S l)).yld i H x H' → g x (wipe σ vs) H' fun σ2 H2 => wipe σ2 vs = wipe σ vs ∧ tt σ2 H2 fun b H3 =>
        if b = true then te σ2 H3 fun y H4 => ∃ acc, H4 D = some (.lst acc) ∧ acc.length < sizeLine ∧ Nx (upd H4 D (.lst (acc ++ [y]))) else Nx H3) := by
  have hsz : (S l).cps.size = l.length := by simp [SX.S]
  refine ⟨fun i m H => m = l.length - i ∧ i ≤ l.length ∧ Pv i H, ⟨l.length, by simp, Nat.zero_le _, h0⟩, ?_⟩
  rintro i m H ⟨rfl, hi, p⟩
  by_cases hlt : i < l.length
  · refine .inr ⟨by show i < (S l).cps.size; omega, Pv (i + 1), fun H' p' => ⟨l.length - (i + 1), by omega, rfl, hlt, p'⟩, fun x H' y => ?_⟩
    obtain ⟨e, c, hc, rfl⟩ := y
    subst e
    have hc' : l[i]? = some c := by simpa [SX.S] using hc
    exact hs i c _ hc' p
  · have e : i = l.length := by omega
    subst e
    exact .inl ⟨by show (S l).cps.size ≤ l.length; omega, hd H p⟩
end Lk

namespace Lk
open PySem PySem.Spec PyProof.Rows L2
/-! ### comprehensions: a dict kept under a name, over a list -/

section
variable {X : Cx}
/-- name = {k: v for ..}, the name a local of the def -/
theorem ps_setDc {i : Nat} {y : Str} {py : Pos} {kx vx tg iter : Expr} {ifs : List Expr} {scope : Scope} {own : List (Str × Nat)} {pos spos : Pos} {wi : TI} {g : TG} {tt : TT} {tk tv : TE} (hc : X.calm = true) (hN : X.N.Nodup)
    (hy : X.N[i]? = some y) (hyl : X.env.scope.names.lookup y = some .local) (hsw : swapsWith (.DictComp kx vx [⟨tg, iter, ifs, 0⟩] scope pos) (some (.Name y py)) spos.line X.env = pure true)
    (hi : PI X tg iter wi) (ok : BlkOk X.N X.env.scope scope own)
    (dg : ∀ (s : Shared) (H : Hp) (C : Addr) (cl : List (Str × Addr)) (fp : List Addr), PG (X.blk s H scope (compEnvC scope cl C X.env) fp) tg g)
    (dt : ∀ (s : Shared) (H : Hp) (C : Addr) (cl : List (Str × Addr)) (fp : List Addr), PTs (X.blk s H scope (compEnvC scope cl C X.env) fp) ifs tt)
    (dk : ∀ (s : Shared) (H : Hp) (C : Addr) (cl : List (Str × Addr)) (fp : List Addr), PE (X.blk s H scope (compEnvC scope cl C X.env) fp) kx tk)
    (dv : ∀ (s : Shared) (H : Hp) (C : Addr) (cl : List (Str × Addr)) (fp : List Addr), PE (X.blk s H scope (compEnvC scope cl C X.env) fp) vx tv) (hs : ∀ x, foldedSetIterable iter X.env x = pure x := by intro _; rfl) :
    PS X (.Assign [.Name y py] (.DictComp kx vx [⟨tg, iter, ifs, 0⟩] scope pos) spos) (tAsg (tDc wi g tt tk tv (own.map (·.2))) (gName i)) := by
  refine ⟨fun pins s σ H D I q0 => ?_⟩
  rw [exec_Assign_Name_used _ _ _ _ hsw]
  refine wpAny_bind (wpAny_standAt (wpAny_bind ?_))
  show wpAny _ X.A (do let _ ← comprehension (.DictComp kx vx [⟨tg, iter, ifs, 0⟩] scope pos) scope X.env (firstIterPos [⟨tg, iter, ifs, 0⟩] pos) newDict false (eval iter X.env) (some (assign (.Name y py) X.env))) _ _ s
  have q1 : tDc wi g tt tk tv (own.map (·.2)) σ H (fun x H1 => gName i x σ H1 D.nx) := q0
  refine wpAny_bind (thn (dc_core (Qf := fun _ t => SP X pins D .next t) hc hN I hi ok dg dt dk dv hs q1 fun E C t m H2 I2 q hn f => ?_) fun _ t hq => wpAny_pure (wpAny_pure hq))
  show wpAny _ _ (assign (.Name y py) X.env (.ref E)) _ _ _
  refine wpAny_assign_Name (store_ok2 (v := V.ref E) I2 hN hy (.inl hyl) rfl (fun s3 I3 ⟨a, sb, ha⟩ => ?_) (.inr hyl))
  obtain ⟨f0, f1, f2, f3, f4, f5⟩ := f
  have nCa : C ≠ a := by
    rcases ha with z | z
    · rw [z]; exact f1
    · exact fun e => f4 y a z e.symm
  refine ⟨m, hn.sameBut sb nCa, fun h4 sb4 => ?_⟩
  exact ⟨_, H2, I3.turned (t' := s3.toks) (fun b o hb e => (sb4.2 b hb).trans e) f0 f1 f3 f4 f5, q⟩
theorem sw_trueD {kx vx : Expr} {gs : List Comprehension} {scope : Scope} {pos py : Pos} {y : Str} {l : Nat} {env : Env} (hk : env.scope.kind = .function) (hy : env.scope.names.lookup y = some .local) (hl : (py.line == pos.line) = true)
    (ha : (scope.names.any fun (n, k) => n == y && (k == .local || k == .cell)) = false) : swapsWith (.DictComp kx vx gs scope pos) (some (.Name y py)) l env = pure true := by
  have e1 : env.kindOf y = some .local := hy
  have e2 : env.blockKind = .function := by unfold Env.blockKind; rw [hk]; rfl
  unfold swapsWith
  simp only [e2, e1, ha, Expr.pos, hl]
  rfl
/-- a dict of a list that stays -/
theorem dc_list {K : PySem.W.Frag} {a : Addr} {xs : List V} {g : TG} {tt : TT} {tk tv : TE} {vs : List Nat} {σ : L2.St} {H1 : Hp} {D : Addr} {Qd : Hp → Prop} (Pv : Nat → Hp → Prop)
    (h0 : Pv 0 (upd H1 D (.dK []))) (hl : ∀ i H, i ≤ xs.length → Pv i H → SqL K H a xs)
    (hs : ∀ i x H, xs[i]? = some x → Pv i H → g x (wipe σ vs) H fun σ2 H2 => wipe σ2 vs = wipe σ vs ∧ tt σ2 H2 fun b H3 =>
      if b = true then tk σ2 H3 fun y H4 => tv σ2 H4 fun z H5 => ∃ kvs k, y = kV k ∧ H5 D = some (.dK kvs) ∧ kvs.length < sizeLine ∧ Pv (i + 1) (upd H5 D (.dK (putK kvs k z))) else Pv (i + 1) H3)
    (hd : ∀ H, Pv xs.length H → Qd H) :
    ∃ W : Nat → Nat → Hp → Prop, (∃ m, W 0 m (upd H1 D (.dK []))) ∧ ∀ i m H, W i m H →
      ((Itl K a).stop i H ∧ Qd H) ∨ ((Itl K a).go i H ∧ ∃ Nx : Hp → Prop, (∀ H', Nx H' → ∃ m', m' < m ∧ W (i + 1) m' H') ∧ ∀ x H', (Itl K a).yld i H x H' → g x (wipe σ vs) H' fun σ2 H2 => wipe σ2 vs = wipe σ vs ∧ tt σ2 H2 fun b H3 =>
        if b = true then tk σ2 H3 fun y H4 => tv σ2 H4 fun z H5 => ∃ kvs k, y = kV k ∧ H5 D = some (.dK kvs) ∧ kvs.length < sizeLine ∧ Nx (upd H5 D (.dK (putK kvs k z))) else Nx H3) := by
  refine ⟨fun i m H => m = xs.length - i ∧ i ≤ xs.length ∧ Pv i H, ⟨xs.length, by simp, Nat.zero_le _, h0⟩, ?_⟩
  rintro i m H ⟨rfl, hi, p⟩
  have q := hl i H hi p
  by_cases lt : i < xs.length
  · exact .inr ⟨⟨xs, xs[i], q, by simp [lt]⟩, Pv (i + 1), fun H' r => ⟨xs.length - (i + 1), by omega, rfl, lt, r⟩, fun x H' ⟨e, y⟩ => by
      subst e
      exact hs i x _ (y xs q) p⟩
  · have e : i = xs.length := by omega
    subst e
    exact .inl ⟨⟨xs, q, Nat.le_refl _⟩, hd H p⟩
end
/-! ### a fresh dict, walked: it is locked from then on -/
section
variable {X : Cx}
def tFrz (t : TE) : TE := fun σ H Q => t σ H fun x H1 => ∃ d u, H1 d = some u ∧ Mut (some u) ∧ ∀ od, Q x (upd H1 d (.frz od u))
theorem pe_frz {e : Expr} {t : TE} (h : PE X e t) : PE X e (tFrz t) := by
  refine ⟨fun pins s σ H Q I hw => thn (h.run pins s σ H _ I hw) fun v s1 ⟨x, H1, I1, r, d, u, hd, mu, q⟩ => ?_⟩
  obtain ⟨od, I2⟩ := I1.lock hd mu
  exact ⟨x, _, I2, r, q od⟩
theorem lc_keys {d : Addr} {o : Obj} {fs : List (List Nat)} {kvs : List (Key × V)} (hk : kvs.map (fun kv => kV kv.1) = fs.map vS) {g : TG} {tt : TT} {te : TE} {vs : List Nat} {σ : L2.St} {H1 : Hp} {D : Addr} {Qd : Hp → Prop} (Pv : Nat → Hp → Prop)
    (h0 : Pv 0 (upd H1 D (.lst []))) (hl : ∀ i H, i ≤ fs.length → Pv i H → H d = some (.frz o (.dK kvs)))
    (hs : ∀ i u H, fs[i]? = some u → Pv i H → g (vS u) (wipe σ vs) H fun σ2 H2 => wipe σ2 vs = wipe σ vs ∧ tt σ2 H2 fun b H3 =>
      if b = true then te σ2 H3 fun y H4 => ∃ acc, H4 D = some (.lst acc) ∧ acc.length < sizeLine ∧ Pv (i + 1) (upd H4 D (.lst (acc ++ [y]))) else Pv (i + 1) H3)
    (hd : ∀ H, Pv fs.length H → Qd H) :
    ∃ W : Nat → Nat → Hp → Prop, (∃ m, W 0 m (upd H1 D (.lst []))) ∧ ∀ i m H, W i m H →
      ((Itk d o kvs).stop i H ∧ Qd H) ∨ ((Itk d o kvs).go i H ∧ ∃ Nx : Hp → Prop, (∀ H', Nx H' → ∃ m', m' < m ∧ W (i + 1) m' H') ∧ ∀ x H', (Itk d o kvs).yld i H x H' → g x (wipe σ vs) H' fun σ2 H2 => wipe σ2 vs = wipe σ vs ∧ tt σ2 H2 fun b H3 =>
        if b = true then te σ2 H3 fun y H4 => ∃ acc, H4 D = some (.lst acc) ∧ acc.length < sizeLine ∧ Nx (upd H4 D (.lst (acc ++ [y]))) else Nx H3) := by
  have el : kvs.length = fs.length := by
    have := congrArg List.length hk
    rw [List.length_map, List.length_map] at this
    exact this
  refine ⟨fun i m H => m = fs.length - i ∧ i ≤ fs.length ∧ Pv i H, ⟨fs.length, by simp, Nat.zero_le _, h0⟩, ?_⟩
  rintro i m H ⟨rfl, hi, p⟩
  by_cases lt : i < fs.length
  · refine .inr ⟨⟨hl i H hi p, by omega⟩, Pv (i + 1), fun H' r => ⟨fs.length - (i + 1), by omega, rfl, lt, r⟩, ?_⟩
    rintro x H' ⟨rfl, k, v, e1, rfl⟩
    have e2 : (fs.map vS)[i]? = some (kV k) := by rw [← hk, List.getElem?_map, e1]; rfl
    rw [List.getElem?_map] at e2
    cases e3 : fs[i]? with
    | none => rw [e3] at e2; cases e2
    | some u =>
      rw [e3] at e2
      have e4 : vS u = kV k := Option.some.inj e2
      rw [← e4]
      exact hs i u _ e3 p
  · have e : i = fs.length := by omega
    subst e
    exact .inl ⟨⟨hl _ H hi p, by omega⟩, hd H p⟩
end
/-! ### walks, whatever is done in a turn -/
section
theorem it_gen {J : It} {n : Nat} {G : Hp → Prop} {Y : Nat → Hp → V → Hp → Prop} (w : Walk J n G Y) {Body : (Hp → Prop) → V → Hp → Prop} {H0 : Hp} {Qd : Hp → Prop} (Pv : Nat → Hp → Prop) (h0 : Pv 0 H0) (hG : ∀ i H, i ≤ n → Pv i H → G H)
    (hs : ∀ i x H H', i < n → Pv i H → Y i H x H' → Body (Pv (i + 1)) x H') (hd : ∀ H, Pv n H → Qd H) :
    ∃ W : Nat → Nat → Hp → Prop, (∃ m, W 0 m H0) ∧ ∀ i m H, W i m H → (J.stop i H ∧ Qd H) ∨ (J.go i H ∧ ∃ Nx : Hp → Prop, (∀ H', Nx H' → ∃ m', m' < m ∧ W (i + 1) m' H') ∧ ∀ x H', J.yld i H x H' → Body Nx x H') := by
  refine ⟨fun i m H => m = n - i ∧ i ≤ n ∧ Pv i H, ⟨n, by simp, Nat.zero_le _, h0⟩, ?_⟩
  rintro i m H ⟨rfl, hi, p⟩
  have gH := hG i H hi p
  by_cases lt : i < n
  · exact .inr ⟨w.goes i H lt gH, Pv (i + 1), fun H' r => ⟨n - (i + 1), by omega, rfl, lt, r⟩, fun x H' y => hs i x H H' lt p (w.yields i H x H' lt gH y)⟩
  · have e : i = n := by omega
    subst e
    exact .inl ⟨w.stops H gH, hd H p⟩
/-- the i-th of xs, told by f -/
def YM {α : Type} (f : α → V) (xs : List α) : Nat → Hp → V → Hp → Prop := fun i H v H' => H' = H ∧ ∃ u, xs[i]? = some u ∧ v = f u
theorem ym_of {α : Type} {f : α → V} {xs : List α} {i : Nat} {x : V} (h : (xs.map f)[i]? = some x) : ∃ u, xs[i]? = some u ∧ x = f u := by
  rw [List.getElem?_map] at h
  cases e : xs[i]? with
  | none => rw [e] at h; cases h
  | some c => rw [e] at h; exact ⟨c, rfl, (Option.some.inj h).symm⟩
theorem wk_list {K : PySem.W.Frag} {a : Addr} {α : Type} (f : α → V) (xs : List α) : Walk (Itl K a) xs.length (fun H => SqL K H a (xs.map f)) (YM f xs) :=
  ⟨fun i H hi h => (walk_list (xs := xs.map f)).goes i H (by rw [List.length_map]; exact hi) h,
   fun H h => by have := (walk_list (xs := xs.map f)).stops H h; rw [List.length_map] at this; exact this,
   fun i H x H' hi h y => by
    obtain ⟨e, q⟩ := (walk_list (xs := xs.map f)).yields i H x H' (by rw [List.length_map]; exact hi) h y
    exact ⟨e, ym_of q⟩⟩
theorem wk_tup {K : PySem.W.Frag} {a : Addr} {α : Type} (f : α → V) (xs : List α) : Walk (Itt K a) xs.length (fun H => SqT K H a (xs.map f)) (YM f xs) :=
  ⟨fun i H hi h => (walk_tup (xs := xs.map f)).goes i H (by rw [List.length_map]; exact hi) h,
   fun H h => by have := (walk_tup (xs := xs.map f)).stops H h; rw [List.length_map] at this; exact this,
   fun i H x H' hi h y => by
    obtain ⟨e, q⟩ := (walk_tup (xs := xs.map f)).yields i H x H' (by rw [List.length_map]; exact hi) h y
    exact ⟨e, ym_of q⟩⟩
theorem wk_str (l : List Nat) : Walk (Its (S l)) l.length (fun _ => True) (YM (fun c => vS [c]) l) :=
  ⟨fun i H hi h => (walk_str (z := S l)).goes i H (by simpa [SX.S] using hi) h,
   fun H h => by have := (walk_str (z := S l)).stops H h; simpa [SX.S] using this,
   fun i H x H' hi h y => by
    obtain ⟨e, c, q1, q2⟩ := (walk_str (z := S l)).yields i H x H' (by simpa [SX.S] using hi) h y
    exact ⟨e, c, by simpa [SX.S] using q1, q2⟩⟩
end
section
variable {X : Cx}
def tTru (K : PySem.W.Frag) (te : TE) : TT := fun σ H Q => te σ H fun x H' => ∃ k, TruV K x H' k ∧ Q k H'
theorem pt_tru (K : PySem.W.Frag) {a : Expr} {ta : TE} (hk : X.K = K) (h : PE X a ta) (he : ∀ whole, isTrue a X.env whole = (do let v ← whole; standAt a.pos; holding [v] (truthy v))) : PT X a (tTru K ta) := by
  subst hk
  exact pt_truth h he
end
/-! ### rules with the fragment told (within comprehensions) -/
section
variable {X : Cx}
theorem sl_listK (K : PySem.W.Frag) (hk : X.K = K) : SlR X (rSlL K) := by subst hk; exact sl_list
theorem ix_listK (K : PySem.W.Frag) (hk : X.K = K) : IxR X (rIxL K) := by subst hk; exact ix_list
theorem ix_tupK (K : PySem.W.Frag) (hk : X.K = K) : IxR X (rIxT K) := by subst hk; exact ix_tup
theorem call_lenK (K : PySem.W.Frag) (hk : X.K = K) : CallR X (.builtin "len") (fun xs H Q => ∃ p ys, xs = [.ref p] ∧ (SqL K H p ys ∨ SqT K H p ys) ∧ Q (.int ys.length) H) := by subst hk; exact call_len_seq
theorem pi_listK (K : PySem.W.Frag) (hk : X.K = K) {tg l : Expr} {tl : TE} (h : PE X l tl) : PI X tg l (iList K tl) := by subst hk; exact pi_list h
theorem pi_tupK (K : PySem.W.Frag) (hk : X.K = K) {tg l : Expr} {tl : TE} (h : PE X l tl) : PI X tg l (iTup K tl) := by subst hk; exact pi_tup h
end
end Lk

namespace Lk
open PySem PySem.Spec PyProof.Rows L2
/-! ### order: lists of numbers, (number, list) -/
open Fo PySem.W
abbrev dL (l : List Nat) : PyData := .list (l.map dI)
theorem alike_ints : ∀ a b : List Nat, alikeAll (a.map dI) (b.map dI) = true
  | [], _ => by simp [alikeAll]
  | _ :: _, [] => by simp [alikeAll]
  | x :: r, y :: t => by
    rw [List.map_cons, List.map_cons, alikeAll, alike_ints r t]
    simp [alike]
theorem alike_dL (a b : List Nat) : alike (dL a) (dL b) = true := by
  rw [alike]
  exact alike_ints a b
theorem toks_lt : ∀ a b : List Nat, PyProof.Rows.lexLt itemOrd (keyToksAll (a.map dI)) (keyToksAll (b.map dI)) = decide (a < b)
  | [], [] => by rw [decide_eq_false (List.lt_irrefl [])]; decide
  | [], y :: t => by
    rw [decide_eq_true (show ([] : List Nat) < y :: t from List.nil_lt_cons y t)]
    show PyProof.Rows.lexLt itemOrd (keyToksAll []) (keyToksAll (dI y :: t.map dI)) = true
    rw [toks_all_cons]
    simp only [keyToksAll]
    rw [lex_diff (O := itemOrd) (by simp)]
    decide
  | x :: r, [] => by
    rw [decide_eq_false (List.not_lt_nil _)]
    show PyProof.Rows.lexLt itemOrd (keyToksAll (dI x :: r.map dI)) (keyToksAll []) = false
    rw [toks_all_cons]
    simp only [keyToksAll]
    rw [lex_diff (O := itemOrd) (by simp)]
    decide
  | x :: r, y :: t => by
    rw [List.map_cons, List.map_cons]
    have ha : alike (dI x) (dI y) = true := by simp [alike]
    by_cases e : x = y
    · subst e
      rw [dataLt_all_yes ha (by rw [dI_eqv]; exact decide_eq_true rfl), toks_lt r t]
      apply decide_eq_decide.mpr
      rw [List.cons_lt_cons_iff]
      constructor
      · exact fun h => .inr ⟨rfl, h⟩
      · rintro (h | ⟨_, h⟩)
        · omega
        · exact h
    · rw [dataLt_all_no ha (by rw [dI_eqv]; exact decide_eq_false e), dataLt_int]
      apply decide_eq_decide.mpr
      rw [List.cons_lt_cons_iff]
      constructor
      · exact fun h => .inl (by omega)
      · rintro (h | ⟨h, _⟩)
        · omega
        · exact absurd h e
theorem dataLt_dL (a b : List Nat) : dataLt (dL a) (dL b) = decide (a < b) := by rw [dataLt_list, toks_lt]
theorem dL_inj {a b : List Nat} (h : dL a = dL b) : a = b := by
  injection h with h
  have : ∀ a b : List Nat, a.map dI = b.map dI → a = b := by
    intro a
    induction a with
    | nil =>
      intro b h
      cases b with
      | nil => rfl
      | cons y t => simp at h
    | cons x r ih =>
      intro b h
      cases b with
      | nil => simp at h
      | cons y t =>
        rw [List.map_cons, List.map_cons] at h
        injection h with h1 h2
        injection h1 with h1
        rw [ih t h2]
        congr 1
        omega
  exact this a b h
def minR (x : List Nat) (xs : List (List Nat)) : List Nat := xs.foldl (fun a y => if y < a then y else a) x
theorem minD_dL : ∀ (xs : List (List Nat)) (x : List Nat), minD (dL x) (xs.map dL) = dL (minR x xs) := by
  intro xs
  induction xs with
  | nil => intro x; rfl
  | cons y r ih =>
    intro x
    show (r.map dL).foldl (fun a y => if dataLt y a then y else a) (if dataLt (dL y) (dL x) then dL y else dL x) = dL (r.foldl (fun a y => if y < a then y else a) (if y < x then y else x))
    rw [dataLt_dL]
    by_cases h : y < x
    · rw [if_pos (decide_eq_true h), if_pos h]
      exact ih y
    · rw [if_neg (by simpa using h), if_neg h]
      exact ih x
theorem minR_ok : ∀ (xs : List (List Nat)) (x : List Nat), minR x xs ∈ x :: xs ∧ ∀ y ∈ x :: xs, ¬ y < minR x xs := by
  intro xs
  induction xs with
  | nil =>
    intro x
    refine ⟨List.mem_singleton.mpr rfl, fun y hy => ?_⟩
    rw [List.mem_singleton.mp hy]
    exact List.lt_irrefl _
  | cons z r ih =>
    intro x
    have e : minR x (z :: r) = minR (if z < x then z else x) r := rfl
    obtain ⟨h1, h2⟩ := ih (if z < x then z else x)
    rw [← e] at h1 h2
    constructor
    · rcases List.mem_cons.mp h1 with h | h
      · rw [h]
        split
        · exact List.mem_cons_of_mem _ (List.mem_cons_self ..)
        · exact List.mem_cons_self ..
      · exact List.mem_cons_of_mem _ (List.mem_cons_of_mem _ h)
    · intro y hy
      have hm := h2 _ (List.mem_cons_self ..)
      rcases List.mem_cons.mp hy with rfl | hy
      · by_cases hz : z < y
        · rw [if_pos hz] at hm
          exact List.not_lt.mpr (List.le_trans (List.not_lt.mp hm) (List.le_of_lt hz))
        · rw [if_neg hz] at hm
          exact hm
      · rcases List.mem_cons.mp hy with rfl | hy
        · by_cases hz : y < x
          · rw [if_pos hz] at hm
            exact hm
          · rw [if_neg hz] at hm
            exact List.not_lt.mpr (List.le_trans (List.not_lt.mp hm) (List.not_lt.mp hz))
        · exact h2 y (List.mem_cons_of_mem _ hy)
theorem depthAll_ints (l : List Nat) : PyData.depthAll (l.map dI) ≤ 1 := depAll_of fun a _ => by simp [PyData.depth]
theorem dL_dep (l : List Nat) : (dL l).depth ≤ 2 := by
  rw [PyData.depth]
  have := depthAll_ints l
  omega
/-- rows stand at the addresses bs -/
def RowsAt (K : PySem.W.Frag) (H : Hp) (bs : List Addr) (rs : List (List Nat)) : Prop := bs.length = rs.length ∧ ∀ (i : Nat) (b : Addr) (r : List Nat), bs[i]? = some b → rs[i]? = some r → SqL K H b (r.map vI)
theorem RowsAt.dps {K : PySem.W.Frag} {H : Hp} : ∀ {bs : List Addr} {rs : List (List Nat)}, RowsAt K H bs rs → DpAll K H (bs.map V.ref) (rs.map dL)
  | [], [], _ => .nil
  | [], _ :: _, h => by simp [RowsAt] at h
  | _ :: _, [], h => by simp [RowsAt] at h
  | b :: bs, r :: rs, h => .cons (dpi (h.2 0 b r rfl rfl)) (RowsAt.dps (bs := bs) (rs := rs) ⟨by have := h.1; simp at this; exact this, fun i c s hc hs => h.2 (i + 1) c s hc hs⟩)
section
variable {X : Cx}
def rMinLL (K : PySem.W.Frag) : List V → Hp → VK → Prop := fun vs H Q => ∃ (a : Addr) (bs : List Addr) (rs : List (List Nat)), vs = [.ref a] ∧ SqL K H a (bs.map V.ref) ∧ RowsAt K H bs rs ∧ rs ≠ [] ∧
  ∀ (i : Nat) (b : Addr) (r : List Nat), bs[i]? = some b → rs[i]? = some r → (∀ x ∈ rs, ¬ x < r) → Q (.ref b) H
theorem cr_minLL (hc : X.calm = true) (hu : X.A.units + 64 < cLine) : CallR X (.builtin "min") (rMinLL X.K) := by
  intro pins s σ H vs us Q I r h
  obtain ⟨a, bs, rs, rfl, hs, hr, hne, q⟩ := h
  obtain ⟨its, rv, hl, hz⟩ := I.list hs
  rw [Vals.ref1 r]
  obtain ⟨as, ra⟩ := Dp.readsAll I _ _ _ hr.dps rv
  cases rs with
  | nil => exact absurd rfl hne
  | cons x xs =>
    have hal : AlikeAll (dL x :: xs.map dL) := by
      refine ⟨fun y hy z hz => ?_, fun y hy => ?_⟩
      · obtain ⟨y', _, rfl⟩ : ∃ y', y' ∈ x :: xs ∧ dL y' = y := by rw [← List.map_cons (f := dL)] at hy; exact List.mem_map.mp hy
        obtain ⟨z', _, rfl⟩ : ∃ z', z' ∈ x :: xs ∧ dL z' = z := by rw [← List.map_cons (f := dL)] at hz; exact List.mem_map.mp hz
        exact alike_dL _ _
      · obtain ⟨y', _, rfl⟩ : ∃ y', y' ∈ x :: xs ∧ dL y' = y := by rw [← List.map_cons (f := dL)] at hy; exact List.mem_map.mp hy
        intro z
        cases z
    have hdep : PyData.depthAll (dL x :: xs.map dL) ≤ 2 := by
      rw [← List.map_cons (f := dL)]
      exact depAll_of fun a _ => dL_dep a
    have ra' : ReadsAll s.heap its.toArray.toList (dL x :: xs.map dL) as := ra
    refine min_list_data (I.ok.hd hc) hl.isList ra' hal (by omega) fun i v h' tk cs hv hrd hk => ?_
    have hit : its[i]? = some v := by simpa using hv
    have hin : i < its.length := (List.getElem?_eq_some_iff.mp hit).1
    have hlen : its.length = bs.length := by have := rv.length; rw [List.length_map] at this; omega
    obtain ⟨cs2, rd2, hi2, _, _⟩ := readsAll_atA ra' i v hv
    rw [← List.map_cons (f := dL)] at rd2
    have hir : i < (x :: xs).length := by rw [← hr.1]; omega
    obtain ⟨y, hy⟩ : ∃ y, (x :: xs)[i]? = some y := ⟨_, List.getElem?_eq_getElem hir⟩
    have egd : ((x :: xs).map dL).getD i .none = dL y := by rw [List.getD_eq_getElem?_getD, List.getElem?_map, hy]; rfl
    rw [egd] at rd2
    rw [minD_dL] at hrd
    have e1 : dL y = dL (minR x xs) := alike_unique _ _ _ _ _ (alike_dL _ _) (reads_keeps hk rd2) hrd
    have e2 := dL_inj e1
    have hib : i < bs.length := by omega
    obtain ⟨b, hb⟩ : ∃ b, bs[i]? = some b := ⟨_, List.getElem?_eq_getElem hib⟩
    have ev : v = .ref b := by
      have hh : RelV (V.ref b) v := by
        have : (bs.map V.ref)[i]? = some (V.ref b) := by rw [List.getElem?_map, hb]; rfl
        obtain ⟨u, hu1, hu2⟩ := Vals.get rv this
        rw [hit] at hu1
        rw [Option.some.inj hu1]
        exact hu2
      exact hh
    subst ev
    exact ⟨.ref b, H, I.kept hk, rfl, q i b y hb hy (by rw [e2]; exact (minR_ok xs x).2)⟩
def rLtIL (K : PySem.W.Frag) : R2 := fun x y H Q => ∃ (a b p q : Addr) (n m : Int) (l k : List Nat), x = .ref a ∧ y = .ref b ∧ SqT K H a [.int n, .ref p] ∧ SqT K H b [.int m, .ref q] ∧ SqL K H p (l.map vI) ∧ SqL K H q (k.map vI) ∧ Q (.bl (decide (n < m ∨ n = m ∧ l < k))) H
theorem dataLt_IL (n m : Int) (l k : List Nat) : dataLt (.tuple [.int n, dL l]) (.tuple [.int m, dL k]) = decide (n < m ∨ n = m ∧ l < k) := by
  rw [dataLt_tuple]
  have ha : alike (.int n) (.int m) = true := by simp [alike]
  have eqv : PyData.eqv (.int n) (.int m) = (n == m) := rfl
  by_cases e : n = m
  · subst e
    rw [dataLt_all_yes ha (by rw [eqv]; simp)]
    by_cases e2 : l = k
    · subst e2
      rw [decide_eq_false (by rintro (h | ⟨_, h⟩); exact absurd h (Int.lt_irrefl _); exact List.lt_irrefl _ h)]
      rw [dataLt_all_yes (alike_dL l l) (eqv_refl_alike _ (alike_dL l l))]
      decide
    · have hne : PyData.eqv (dL l) (dL k) = false := by
        show PyData.eqv (.list (l.map dI)) (.list (k.map dI)) = false
        rw [PyData.eqv, eqvAll_of fun a _ b _ => dI_eqv a b]
        exact decide_eq_false e2
      rw [dataLt_all_no (alike_dL l k) hne, dataLt_dL]
      apply decide_eq_decide.mpr
      exact ⟨fun h => .inr ⟨rfl, h⟩, fun h => h.elim (fun z => absurd z (Int.lt_irrefl _)) fun z => z.2⟩
  · rw [dataLt_all_no ha (by rw [eqv]; simpa using e), dataLt_int]
    apply decide_eq_decide.mpr
    exact ⟨fun h => .inl h, fun h => h.elim id fun z => absurd z.1 e⟩
theorem op_ltIL (hu : X.A.units + 64 < cLine) : OpR X (compareOp .Lt) (rLtIL X.K) := by
  intro pins s σ H x y v u Q I rx ry ⟨a, b, p, q, n, m, l, k, e1, e2, h1, h2, h3, h4, hq⟩
  subst e1 e2
  have d1 : Dp X.K H (.ref a) (.tuple [.int n, dL l]) := .tup h1 (.cons (.int n) (.cons (dpi h3) .nil))
  have d2 : Dp X.K H (.ref b) (.tuple [.int m, dL k]) := .tup h2 (.cons (.int m) (.cons (dpi h4) .nil))
  obtain ⟨as, r1⟩ := Dp.reads I _ _ v d1 rx
  obtain ⟨bs, r2⟩ := Dp.reads I _ _ u d2 ry
  have hal : alike (.tuple [.int n, dL l]) (.tuple [.int m, dL k]) = true := by
    rw [alike, alikeAll, alikeAll, alikeAll, alike_dL]
    simp [alike]
  have hdep : (PyData.tuple [.int n, dL l]).depth ≤ 4 := by
    rw [PyData.depth, PyData.depthAll, PyData.depthAll, PyData.depthAll]
    have := dL_dep l
    have e : (PyData.int n).depth ≤ 1 := by simp [PyData.depth]
    omega
  have hx := rcLt_alike _ _ X.A s v u as bs r1 r2 hal (fun z => by cases z) (by have := Nat.min_le_left (PyData.tuple [.int n, dL l]).depth (PyData.tuple [.int m, dL k]).depth; omega)
  rw [dataLt_IL] at hx
  exact hx X.prog X.w _ _ ⟨.bl _, H, I, rfl, hq⟩
end
end Lk

namespace Lk
open PySem PySem.Spec PyProof.Rows L2
/-! ### text * number -/
section
variable {X : Cx}
theorem rep_fold (l : List Nat) : ∀ (m : Nat) (acc : List Nat), (List.replicate m l.toArray).foldl (· ++ ·) acc.toArray = (acc ++ (List.replicate m l).flatten).toArray
  | 0, acc => by simp
  | m + 1, acc => by
    rw [List.replicate_succ, List.foldl_cons, List.replicate_succ, List.flatten_cons, ← List.append_assoc]
    have := rep_fold l m (acc ++ l)
    rw [← this]
    congr 1
    simp
theorem op_repS : OpR X (binaryOp .Mult) (fun x y H Q => ∃ (l : List Nat) (n : Nat), x = vS l ∧ y = .int n ∧ 1 ≤ n ∧ n ≤ 1000 ∧ l.length ≤ 1000 ∧ Q (vS (List.replicate n l).flatten) H) := by
  intro pins s σ H x y v u Q I rx ry ⟨l, n, e1, e2, n1, n2, hl, q⟩
  subst e1 e2
  obtain ⟨t, rfl⟩ := rx
  obtain ⟨t', rfl⟩ := ry
  have hle : (S l).length * ((n : Int)).toNat ≤ 1000000 := by
    rw [S_len, Int.toNat_natCast]
    exact Nat.le_trans (Nat.mul_le_mul hl n2) (by decide)
  refine P.mul_str ?_ (fun _ _ => ?_) (fun _ _ => ?_) ?_
  · rw [decide_eq_false (by omega), decide_eq_false (by omega)]
    rfl
  · have h1 : ((S l).length : Int) ≤ 1000 := by rw [S_len]; omega
    have h2 : (1000 : Int) ≤ (2 ^ 63 - 1) / (n : Int) := by
      rw [Int.le_ediv_iff_mul_le (by omega)]
      omega
    omega
  · show decide ((S l).length * ((n : Int)).toNat > sizeLine) = false
    exact decide_eq_false (Nat.not_lt.mpr (big hle))
  · rw [if_neg (by omega)]
    by_cases h1 : (((n : Int) == 1) || (S l).length == 0) = true
    · rw [if_pos h1]
      have e : (List.replicate n l).flatten = l := by
        rw [Bool.or_eq_true] at h1
        rcases h1 with h1 | h1
        · have : n = 1 := by have := eq_of_beq h1; omega
          rw [this]
          simp
        · have : l = [] := by
            have := eq_of_beq h1
            rw [S_len] at this
            exact List.length_eq_zero_iff.mp this
          rw [this]
          simp
      rw [e] at q
      exact ⟨vS l, H, I, ⟨t, rfl⟩, q⟩
    · rw [if_neg h1]
      have e : (⟨(List.replicate ((n : Int)).toNat (S l).cps).foldl (· ++ ·) #[]⟩ : Str) = S (List.replicate n l).flatten := by
        have := rep_fold l n []
        rw [List.nil_append] at this
        show (⟨(List.replicate ((n : Int)).toNat l.toArray).foldl (· ++ ·) [].toArray⟩ : Str) = ⟨_⟩
        rw [Int.toNat_natCast, this]
      rw [e]
      refine ⟨?_, ⟨vS _, H, I.tok _, ⟨_, rfl⟩, q⟩⟩
      clear e
      have hfl : (List.replicate n l).flatten.length = n * l.length := by simp
      rw [S_len, hfl]
      exact big (Nat.le_trans (Nat.mul_le_mul n2 hl) (by decide))
end
end Lk

namespace Lk
open PySem PySem.Spec PyProof.Rows L2
/-! ### own exception classes: what the written part says of them -/
/-- the class x -/
structure ExF (K : PySem.W.Frag) (mg : Str → Option Value) (x : Str) : Prop where
  ex : ∃ C, mg x = some (.ref C) ∧ PySem.W.keepIn K (.ref C) = true ∧ PySem.W.subIn K (.ref C) (.type "BaseException") = some true ∧ PySem.W.typeIn K (.ref C) = some (.type "type") ∧ PySem.W.isClsIn K C = true ∧ PySem.W.subIn K (.ref C) (.ref C) = some true ∧ ExcC K C
/-- isinstance of an x and the class y -/
def ExK (K : PySem.W.Frag) (mg : Str → Option Value) (x y : Str) (b : Bool) : Prop := ∃ C D, mg x = some (.ref C) ∧ mg y = some (.ref D) ∧ PySem.W.kitOne K (.ref C) (.ref D) = some b
theorem kit_own {K : PySem.W.Frag} {C D : Addr} {b : Bool} (i : PySem.W.isClsIn K D = true) (t : PySem.W.typeIn K (.ref D) = some (.type "type")) (s : PySem.W.subIn K (.ref D) (.ref D) = some true) (x : PySem.W.subIn K (.ref C) (.ref D) = some b) : PySem.W.kitOne K (.ref C) (.ref D) = some b := by
  unfold PySem.W.kitOne
  by_cases e : C = D
  · subst e
    rw [s] at x
    rw [if_pos (by simp)]
    exact x
  · rw [if_neg (by simpa using e)]
    unfold PySem.W.kitCls
    have i' : (PySem.W.clsIn K D).isSome = true := i
    dsimp only
    rw [i', t]
    simpa using x
/-- the method m of the class x -/
structure DefM (K : PySem.W.Frag) (mg : Str → Option Value) (x m q : Str) (st : Stmt) (ps : List Str) : Prop where
  ex : ∃ C f fd, mg x = some (.ref C) ∧ PySem.W.findIn K (.ref C) m = some (some (.ref f)) ∧ PySem.W.typeIn K (.ref f) = some (.type "function") ∧ PySem.W.keepIn K (.ref f) = true ∧ Fun K m q st f fd ∧ Binds K fd ps []
theorem defM_mk {K : PySem.W.Frag} {h : Heap} {mg : Str → Option Value} {x m q : Str} {st : Stmt} {ps : List Str} {C f : Addr} {oc : Value} {od an : Option Addr} {osl : Array (Option Value)} {kV doc pm cdv ct : Value} (X : K.In h) (G : h.Ns mainGlobals mg)
    (hb : ∀ (kV doc pm : Value) (an : Option Addr) (cdv ct : Value) (us : List Value), us.length = ps.length → bindArgs (PySem.W.fnOf m q (defArgs st) (defBody st) (defScope st) .none kV doc pm an cdv ct) ⟨us, []⟩ = pure (ps.zip us))
    (a : PySem.W.nsIn K mainGlobals x = some (some (.ref C))) (i : PySem.W.findIn K (.ref C) m = some (some (.ref f))) (t : PySem.W.typeIn K (.ref f) = some (.type "function"))
    (l : K.lookup f = some ⟨oc, od, .func (PySem.W.fnOf m q (defArgs st) (defBody st) (defScope st) .none kV doc pm an cdv ct), osl⟩) (c : PySem.W.codeIn K cdv q = true) (k : PySem.W.keepIn K (.ref f) = true) : DefM K mg x m q st ps := by
  have F := fun_mk (st := st) l c k
  exact ⟨C, f, _, PySem.W.mg_of X G a, i, t, k, F, F.binds hb⟩
/-- an own exception class x with an __init__ that keeps f and calls y's -/
def OexF (K : PySem.W.Frag) (mg : Str → Option Value) (x y f : Str) : Prop := ∃ C D, mg x = some (.ref C) ∧ mg y = some (.ref D) ∧ OexC K C ∧ PySem.W.findIn K (.ref C) f = some none ∧
  PySem.W.findCls K (.ref D) (.type "type") "__init__" = some (.val (.builtin "ValueError.__init__")) ∧ ClX.CRead K D (.type "type")
section
variable {X : Cx} {x : Str} {D : Addr} {e : Expr} {es : List Expr} {ta : TA} {p1 p2 pos : Pos}
/-- Base.__init__(self, ..), Base an own exception class without an __init__ of its own -/
theorem pe_oinit {pl : Sem Bool} (hg : Gl X x) (hm : X.mg x = some (.ref D)) (r : ClX.CRead X.K D (.type "type")) (v : PySem.W.findCls X.K (.ref D) (.type "type") "__init__" = some (.val (.builtin "ValueError.__init__"))) (ha : PA X (e :: es) ta)
    (hc : eval (.Call (.Attribute (.Name x p1) "__init__" p2) (e :: es) [] pos) X.env = (do
      let ov ← eval (.Name x p1) X.env
      standAt p2.atName
      let (f, first) ← holding [ov] (getMethod ov "__init__" pl)
      callWith pos f first (backTo pos (starEach (e :: es) X.env)) (backToKw pos (keywordEach [] X.env))) := by rfl)
    (hdb : (x == ("__debug__" : Str)) = false := by decide) (he : starEach (e :: es) X.env = (false, eval e X.env) :: starEach es X.env := by rfl) (hpl : (backTo pos (starEach es X.env)).any (·.1) = false := by rfl) :
    PE X (.Call (.Attribute (.Name x p1) "__init__" p2) (e :: es) [] pos) (tVeI X.K ta) := by
  refine ⟨fun pins s σ H Q I h => ?_⟩
  refine PySem.W.methodCall_KW (ld_glob I hg hm ?_ hdb) hc
  refine PySem.W.method_cls I.kIn r.ga (PySem.W.cls_value I.kIn r.rd v (by decide +kernel) ?_)
  show wpAny _ _ (callWith pos (Value.builtin "ValueError.__init__") [] (backTo pos (starEach (e :: es) X.env)) []) _ _ _
  refine PyProof.Rows.callWith_method1 (thn (ha.run pos pins _ σ H _ (I.tok _) h) fun us s1 ⟨vs, H1, I1, r1, a, C, ws, ev, hl, T, ea, q⟩ => ?_) he hpl
  subst ev
  cases r1 with
  | @cons _ u0 _ ur ra rw' =>
    obtain rfl : u0 = Value.ref a := ra
    have hlen : ur.length ≤ sizeLine := by
      rw [← Paired.length rw', sizeLine_eq]
      omega
    exact oinit_ok T I1 ea hlen fun s' J => ⟨.non, H1, J, rfl, q⟩
end
/-- an own exception class without an __init__ of its own or above -/
def ExE (K : PySem.W.Frag) (mg : Str → Option Value) (x : Str) : Prop := ∃ C, mg x = some (.ref C) ∧ PySem.W.excIn K C [.type "ValueError", .type "Exception", .type "BaseException", .type "object"] "ValueError.__new__" = true
section
variable {X : Cx} {x : Str} {ps : List Str} {k j : Nat} {sp : Sp} {e : Expr} {es : List Expr} {t : TA} {p pos : Pos} {E : L2.St → XK}
/-- x(e, ..), x may raise -/
theorem pe_fnS (F : Fn X.prog X.w X.K X.mg X.base (L2.CX X.prog X.w) k x ps sp) (hr : Room j X.A) (hx : ∀ σ, PassesAt (L2.CX X.prog X.w) X σ (E σ)) (ha : PA X (e :: es) t) (hj : k ≤ j := by decide) (hg : Gl X x := by rfl)
    (hdb : (x == ("__debug__" : Str)) = false := by decide) (he : starEach (e :: es) X.env = (false, eval e X.env) :: starEach es X.env := by rfl) (hpl : (backTo pos (starEach es X.env)).any (·.1) = false := by rfl) :
    PE X (.Call (.Name x p) (e :: es) [] pos) (tCallS sp E t) := by
  obtain ⟨f, fd, a, b, c, d⟩ := F
  exact pe_callS d (hr.mono hj) hg a b c hx ha hdb he hpl
/-- isinstance(e, c), e the exception in hand: of the class at D -/
def rIsEX (K : PySem.W.Frag) (D a : Addr) (cls : Value) (d : Option Addr) : List V → Hp → VK → Prop := fun xs H Q => cls = .ref D ∧ d = none ∧ rIsE K D a xs H Q
theorem call_isEX {a D : Addr} {oe : Obj} {cls : Value} {d : Option Addr} {pn : List (Addr × Obj)} (C : ExcC X.K D) (hz : Zc cls d oe) (hf : ∃ vs, oe.data = .fields vs) : CallR (X.suite a ((a, oe) :: pn)) (.builtin "isinstance") (rIsEX X.K D a cls d) := by
  intro pins s σ H xs us Q I r ⟨e1, e2, h⟩
  subst e1 e2
  exact call_isE C hz hf pins s σ H xs us Q I r h
end
section
variable {K : PySem.W.Frag} {X : Cx} {pins : List (Addr × Obj)} {a D : Addr} {oe : Obj} {cls : Value} {d : Option Addr} {pn : List (Addr × Obj)} {f : Str} {e : Expr} {te : TE} {pos : Pos}
/-- the exception that the suite holds, its dict at dd -/
theorem instD {s : Shared} {σ : L2.St} {H : Hp} {dd : Addr} {fs : List (Str × V)} (I : Inv (X.suite a ((a, oe) :: pn)) pins σ H s) (hz : Zc cls d oe) (hf : ∃ vs, oe.data = .fields vs) (ec : cls = .ref D) (ed : d = some dd) (ea : H dd = some (.xd fs)) :
    ∃ (od : Obj) (mA : Str → Option Value), PySem.W.InstAt s.heap a oe D (some od) ∧ (∀ name, PySem.W.lookIn name od = some (mA name)) ∧ ∀ g, RelO (fs.lookup g) (mA g) := by
  subst ec
  subst ed
  obtain ⟨ha, _⟩ := I.pin (a, oe) (List.mem_append_left _ List.mem_cons_self)
  obtain ⟨vs, hd⟩ := hf
  have hx : ObjOk X.prog X.w H s.heap dd (.xd fs) := I.hok dd _ ea
  obtain ⟨mA, hns, hr⟩ := hx
  obtain ⟨od, ho, hl⟩ := lookIn_ns hns
  exact ⟨od, mA, ⟨ha, hz.1, by unfold PySem.W.notCls; rw [hd] <;> rfl, by rw [hz.2]; exact ho⟩, hl, hr⟩
/-- isinstance(e, c), e the exception in hand: of the class at D, with a dict -/
def rIsED (K : PySem.W.Frag) (D a : Addr) (cls : Value) (d : Option Addr) : List V → Hp → VK → Prop := fun xs H Q => cls = .ref D ∧ ∃ (dd : Addr) (fs : List (Str × V)), d = some dd ∧ H dd = some (.xd fs) ∧ rIsE K D a xs H Q
theorem call_isED (C : ExcC X.K D) (hz : Zc cls d oe) (hf : ∃ vs, oe.data = .fields vs) : CallR (X.suite a ((a, oe) :: pn)) (.builtin "isinstance") (rIsED X.K D a cls d) := by
  intro pins s σ H xs us Q I r ⟨e1, dd, fs, e2, ea, c, cv, b, ex, hcv, e, q⟩
  subst ex
  cases r with
  | cons rx rr =>
    cases rr with
    | cons rt rr =>
      cases rr
      cases rx
      have ec := hcv _ rt
      subst ec
      obtain ⟨od, mA, J, hl, hr⟩ := instD I hz hf e1 e2 ea
      obtain ⟨cdD, hcD, _⟩ := PySem.W.any_some C.hd
      exact PySem.W.kia_one (PySem.W.kitx_exc (by rw [hcD]; rfl) C.hg C.hk C.hs C.ha C.hn C.ht C.hm) I.kIn J e (fun z => nomatch z) fun tk => ⟨.bl b, H, I.kept (t' := tk) fun _ _ z => z, rfl, q⟩
/-- e.f, e the exception that the suite holds -/
def tXf (D a : Addr) (cls : Value) (d : Option Addr) (f : Str) (te : TE) : TE := fun σ H Q => te σ H fun x H1 => x = .ref a ∧ cls = .ref D ∧ ∃ (dd : Addr) (fs : List (Str × V)) (v : V), d = some dd ∧ H1 dd = some (.xd fs) ∧ fs.lookup f = some v ∧ Q v H1
theorem pe_xf (C : ExcC X.K D) (hno : PySem.W.findIn X.K (.ref D) f = some none) (hz : Zc cls d oe) (hf : ∃ vs, oe.data = .fields vs) (he : PE (X.suite a ((a, oe) :: pn)) e te)
    (hb : attributeBase e f X.env (eval e X.env) = eval e X.env := by rfl) : PE (X.suite a ((a, oe) :: pn)) (.Attribute e f pos) (tXf D a cls d f te) := by
  refine ⟨fun pins s σ H Q I h => ?_⟩
  refine attr_of hb (thn (he.run pins s σ H _ I h) fun u s1 hh => ?_)
  obtain ⟨x, H1, I1, rx, ex, e1, dd, fs, v, e2, ea, lk, q⟩ := hh
  subst ex
  obtain rfl : u = Value.ref a := rx
  obtain ⟨od, mA, J, hl, hr⟩ := instD I1 hz hf e1 e2 ea
  obtain ⟨u, hu, ru⟩ := RelO.some_of (v := v) (o := mA f) (by rw [← lk]; exact hr f)
  exact HandSPX.exc_get I1.kIn J C.hg C.hk C.hs (PySem.W.findObj_own C.hd hno rfl (by rw [hl, hu])) (handed_of ru) ⟨v, H1, I1.tok _, ru, q⟩
end
end Lk

namespace Lk
open PySem PySem.Spec PyProof.Rows L2
/-! ### enumerate(text) -/
/-- the signs of a text, each in a new pair -/
def IteS (x : Str) : It := ⟨fun i _ => i < x.cps.size, fun i H v H' => ∃ (T : Addr) (c : Nat), v = .ref T ∧ H T = none ∧ x.cps[i]? = some c ∧ H' = upd H T (.tup [.int (i : Nat), .str ⟨#[c]⟩]), fun i _ => x.cps.size ≤ i⟩
theorem draws_str {prog : Program} {w : World} {A : Around} (hh : A.handled = none) (it : Addr) (x : Str) (t : Tok) {ty : String} (hty : ty = "str_ascii_iterator" ∨ ty = "str_iterator") :
    Draws prog w A it [it] x.cps.size (fun i v => ∃ c u, x.cps[i]? = some c ∧ v = .str ⟨#[c]⟩ u) (fun i h => h.IsStrIter it ty x t i) := by
  rcases hty with e | e
  · rw [e]; exact Draws.strAscii hh it x t
  · rw [e]; exact Draws.strWide hh it x t
theorem turn_enumS {P : Program} {w : World} {K : PySem.W.Frag} {elts : List Expr} {kk : Nat} {tpos : Pos} (e it : Addr) (x : Str) (t : Tok) (ty : String) (hty : ty = "str_ascii_iterator" ∨ ty = "str_iterator") :
    Turn P w K (.Tuple elts kk tpos) (IteS x) [e, it] e (fun i h => (∃ old, IsEnum h e it ((i : Nat) : Int) old) ∧ h.IsStrIter it ty x t i ∧ e ≠ it) where
  mem := by simp
  obj := fun i h st b hb => by
    obtain ⟨⟨old, he⟩, ⟨o, ho, hc, hd⟩, _⟩ := st
    have e' : b = e ∨ b = it := by simpa using hb
    rcases e' with z | z
    · rw [z]; exact ⟨_, he, fun v q => nomatch q⟩
    · rw [z]; exact ⟨o, ho, fun v q => by rw [hd] at q; cases q⟩
  keep := fun i h h' st k => let ⟨⟨old, he⟩, ⟨o, ho, r⟩, hne⟩ := st; ⟨⟨old, k e (by simp) _ he⟩, ⟨o, k it (by simp) o ho, r⟩, hne⟩
  item := by
    intro X hP hw hK hc i pins s σ H E I hf st hg
    subst hP hw hK
    obtain ⟨⟨old, he⟩, hit, hne⟩ := st
    have hel : e < s.heap.objs.size := Heap.lt_size he
    have hil : it < s.heap.objs.size := by obtain ⟨_, q, _⟩ := hit; exact Heap.lt_size q
    have hh : X.A.in1.handled = none := by simp [I.ok.hd hc]
    refine wpAny_pyNext_enum_itemD (draws_str hh it x t hty) he hit hg hne (by simpa using hne) fun u h' tk hu ho hit' hT hsz hk => ?_
    obtain ⟨c, v, hcx, rfl⟩ := hu
    refine ⟨_, rfl, wpAny_letOwnedTupleGo_enum (s := { s with heap := h', toks := tk + 1 }) ho fun h'' he' sb => ?_⟩
    have hT2 : h''.get? s.heap.objs.size = some { cls := .type "tuple", data := .seq #[.int i tk, .str ⟨#[c]⟩ v] } := (sb.2 _ (Nat.ne_of_gt hel)).trans hT
    have new : ObjOk X.prog X.w (upd H s.heap.objs.size (.tup [.int (i : Nat), .str ⟨#[c]⟩])) h'' s.heap.objs.size (.tup [.int (i : Nat), .str ⟨#[c]⟩]) :=
      ⟨by show 2 ≤ sizeLine; decide, [.int i tk, .str ⟨#[c]⟩ v], .cons ⟨_, rfl⟩ (.cons ⟨_, rfl⟩ .nil), ⟨_, hT2, rfl, _, rfl⟩⟩
    have I1 : Inv X pins σ (upd H s.heap.objs.size (.tup [.int (i : Nat), .str ⟨#[c]⟩])) { s with heap := h'', toks := tk + 1 } :=
      I.turnedNew (ch := [e, it]) (fun b ob hb q => (sb.2 b (fun z => hb (by simp [z]))).trans (hk b ob (fun z => hb (by simp [z])) (fun z => hb (by simp [z])) q)) hf (Nat.le_refl _) new
    have hit'' : h''.IsStrIter it ty x t (i + 1) := by
      obtain ⟨o, q, r⟩ := hit'
      exact ⟨o, (sb.2 it (Ne.symm hne)).trans q, r⟩
    refine ⟨.ref s.heap.objs.size, _, I1, rfl, ⟨_, c, rfl, I.hok.fresh (Nat.le_refl _), hcx, rfl⟩, ⟨⟨.str ⟨#[c]⟩ v, ?_⟩, hit'', hne⟩, fun b hb => ?_⟩
    · have e1 : ((i + 1 : Nat) : Int) = (i : Int) + 1 := by omega
      rw [e1]; exact he'
    · have hb' : b < s.heap.objs.size := by
        have e' : b = e ∨ b = it := by simpa using hb
        rcases e' with z | z
        · rw [z]; exact hel
        · rw [z]; exact hil
      rw [upd_ne (Nat.ne_of_lt hb')]
      exact (hf b hb).1
  done := by
    intro X hP hw hK hc i pins s σ H E I hf st hg
    subst hP hw hK
    obtain ⟨⟨old, he⟩, hit, hne⟩ := st
    obtain ⟨f0, f1, f2, f3, f4, f5⟩ := hf it (by simp)
    have hh : X.A.in1.handled = none := by simp [I.ok.hd hc]
    have hxn : x.cps[i]? = none := Array.getElem?_eq_none hg
    unfold pyNext
    refine wpAny_bind (wpAny_attempt (wpAny_callSpecial?_slot (name := Str.ofString "__next__") ⟨_, he, rfl⟩ F.slot_enumerate_next
      (wpAny_call_entry F.slot_enumerate_next ⟨_, he, rfl⟩ F.entry_enumerate_next ?_ (F.args_enumerate_next_1 _))))
    show wpAny _ _ (field (.ref e) 2 >>= _) _ _ _
    refine wpAny_bind (wpAny_field he rfl (x := .ref it) rfl ?_)
    rcases hty with z | z
    · rw [z] at hit
      refine wpAny_bind (wpAny_nextOf_ascii_end hh hit hxn fun h' x' he' hx' => ?_)
      obtain ⟨o, ho, hcl⟩ := hx'
      exact wpAny_bind (wpAny_isInstance (T := "StopIteration") (b := true) ⟨o, ho, hcl⟩ isSubtype_stop (wpAny_pure ⟨rfl, I.turned (t' := s.toks) (fun b o hb q => he' b o hb q) f0 f1 f3 f4 f5⟩))
    · rw [z] at hit
      refine wpAny_bind (wpAny_nextOf_wide_end hh hit hxn fun h' x' he' hx' => ?_)
      obtain ⟨o, ho, hcl⟩ := hx'
      exact wpAny_bind (wpAny_isInstance (T := "StopIteration") (b := true) ⟨o, ho, hcl⟩ isSubtype_stop (wpAny_pure ⟨rfl, I.turned (t' := s.toks) (fun b o hb q => he' b o hb q) f0 f1 f3 f4 f5⟩))
  self := fun A i s Q E st h => let ⟨⟨_, he⟩, _⟩ := st; wpAny_pyIter_enum he h
def iEnumS (ta : TA) : TI := fun σ H R => ta σ H fun vs H1 => ∃ x, vs = [.str x] ∧ R (IteS x) H1
theorem strIter_ty (x : Str) : strIterType x = "str_ascii_iterator" ∨ strIterType x = "str_iterator" := by
  unfold strIterType
  split
  · exact .inl rfl
  · exact .inr rfl
theorem pi_enumS {X : Cx} {e : Expr} {ta : TA} {p pos tpos : Pos} {elts : List Expr} {kk : Nat} (hg : Gl X "enumerate") (hm : X.mg "enumerate" = none) (ha : PA X [e] ta) (hs : starEach [e] X.env = [(false, eval e X.env)] := by rfl) :
    PI X (.Tuple elts kk tpos) (.Call (.Name "enumerate" p) [e] [] pos) (iEnumS ta) := by
  refine ⟨fun pins s σ H R I h => ?_⟩
  refine Call_ (ld_blt I hg hm boot_enumerate (PyProof.Rows.callWith_type1 (thn (ha.run pos pins s σ H _ I h) fun us s1 ⟨vs, H1, I1, r1, q1⟩ => ?_) hs rfl))
  obtain ⟨x, ex, q⟩ := q1
  subst ex
  cases r1 with
  | cons r rr =>
    cases rr
    obtain ⟨t, rfl⟩ := r
    refine call_enumerate_str fun h' he hit hsz hk => wpAny_pyIter_enum he ?_
    have I2 : Inv X pins σ H1 { s1 with heap := h' } := I1.kept (t' := s1.toks) hk
    refine ⟨s1.heap.objs.size + 1, [s1.heap.objs.size + 1, s1.heap.objs.size], _, _, H1, rfl, I2, turn_enumS (s1.heap.objs.size + 1) s1.heap.objs.size x t (strIterType x) (strIter_ty x), ⟨⟨.none, he⟩, hit, Nat.succ_ne_self _⟩, fun b hb => ?_, q⟩
    have e' : b = s1.heap.objs.size + 1 ∨ b = s1.heap.objs.size := by simpa using hb
    have hle : s1.heap.objs.size ≤ b := by
      rcases e' with z | z
      · rw [z]; exact Nat.le_add_right _ _
      · rw [z]; exact Nat.le_refl _
    exact I1.fpOk hle (I1.hok.fresh hle)
theorem walk_enumS (l : List Nat) : Walk (IteS (S l)) l.length (fun _ => True) (fun i H v H' => ∃ (T : Addr) (c : Nat), v = .ref T ∧ H T = none ∧ l[i]? = some c ∧ H' = upd H T (.tup [.int (i : Nat), vS [c]])) :=
  ⟨fun i H hi _ => by show i < (S l).cps.size; simpa [SX.S] using hi,
   fun H _ => by show (S l).cps.size ≤ l.length; simp [SX.S],
   fun i H x H' _ _ y => by
    obtain ⟨T, c, h1, h2, h3, h4⟩ := y
    exact ⟨T, c, h1, h2, by simpa [SX.S] using h3, h4⟩⟩
end Lk

namespace Lk
open PySem PySem.Spec PyProof.Rows L2
/-! ### zip(list, text) -/
/-- the list at a and the signs of x, each two in a new pair -/
def ItzS (K : PySem.W.Frag) (a : Addr) (x : Str) : It :=
  ⟨fun i H => ∃ (xs : List V) (y : V), SqL K H a xs ∧ xs[i]? = some y ∧ i < x.cps.size,
    fun i H v H' => ∃ (T : Addr) (y : V) (c : Nat), v = .ref T ∧ H T = none ∧ H' = upd H T (.tup [y, .str ⟨#[c]⟩]) ∧ (∀ xs, SqL K H a xs → xs[i]? = some y) ∧ x.cps[i]? = some c,
    fun i H => ∃ xs : List V, SqL K H a xs ∧ i ≤ xs.length ∧ i ≤ x.cps.size ∧ (i = xs.length ∨ i = x.cps.size)⟩
theorem turn_zipS {P : Program} {w : World} {K : PySem.W.Frag} {elts : List Expr} {kk : Nat} {tpos : Pos} {a z TI TO i1 i2 : Addr} {x : Str} {t : Tok} (D : ZipSep2 z TI TO i1 i2 [i1, a] [i2]) (hne : a ≠ i1) :
    Turn P w K (.Tuple elts kk tpos) (ItzS K a x) [z, TI, TO, i1, i2] z (fun i h => IsZip h z TI TO .none ∧ IsTupOf2 h TI (.ref i1) (.ref i2) ∧ (∃ p q, IsTupOf2 h TO p q) ∧ h.IsListIter i1 a i ∧ h.IsStrIter i2 (strIterType x) x t i) where
  mem := by simp
  obj := fun i h st c hc => by
    obtain ⟨hz, hTI, ⟨p, q, hTO⟩, ⟨o1, e1, _, d1⟩, ⟨o2, e2, _, d2⟩⟩ := st
    have e' : c = z ∨ c = TI ∨ c = TO ∨ c = i1 ∨ c = i2 := by simpa using hc
    rcases e' with q | q | q | q | q
    · rw [q]; exact ⟨_, hz, fun v q => nomatch q⟩
    · rw [q]; exact ⟨_, hTI, fun v q => nomatch q⟩
    · rw [q]; exact ⟨_, hTO, fun v q => nomatch q⟩
    · rw [q]; exact ⟨o1, e1, fun v q => by rw [d1] at q; cases q⟩
    · rw [q]; exact ⟨o2, e2, fun v q => by rw [d2] at q; cases q⟩
  keep := fun i h h' st k => by
    obtain ⟨hz, hTI, ⟨p, q, hTO⟩, h1, ⟨o2, e2, r2⟩⟩ := st
    exact ⟨k z (by simp) _ hz, k TI (by simp) _ hTI, ⟨p, q, k TO (by simp) _ hTO⟩, h1.at fun o q => k i1 (by simp) o q, ⟨o2, k i2 (by simp) o2 e2, r2⟩⟩
  item := by
    intro X hP hw hK hc i pins s σ H E I hf st hg
    subst hP hw hK
    obtain ⟨hz, hTI, ⟨x0, y0, hTO⟩, h1, h2⟩ := st
    obtain ⟨xs, y, hqx, hx, hlt⟩ := hg
    obtain ⟨its, rv, p, _⟩ := I.list hqx
    obtain ⟨u, hu, ru⟩ := rv.get hx
    have hl0 := rv.length
    have hzl : z < s.heap.objs.size := Heap.lt_size hz
    have hh : X.A.in1.handled = none := by simp [I.ok.hd hc]
    have hlt1 : i < its.toArray.size := by
      rw [List.size_toArray]
      exact (List.getElem?_eq_some_iff.mp hu).1
    refine wpAny_pyNext_zipD2_item D (Draws.list hh i1 a hne its.toArray) (draws_str hh i2 x t (strIter_ty x)) hz hTI hTO ⟨h1, p.isList⟩ h2 hlt1 hlt fun u' v h' tk hu' hv z' TO' st1 st2 hT hsz hk => ?_
    have eu : u' = u := by
      have : its[i]? = some u' := by simpa using hu'
      rw [hu] at this
      exact (Option.some.inj this).symm
    subst eu
    obtain ⟨c, v', hcx, rfl⟩ := hv
    refine ⟨_, rfl, wpAny_letOwnedTupleGo_zip (s := { s with heap := h', toks := tk }) z' fun h'' z'' sb => ?_⟩
    have hT2 : h''.get? s.heap.objs.size = some { cls := .type "tuple", data := .seq #[u', .str ⟨#[c]⟩ v'] } := (sb.2 _ (Nat.ne_of_gt hzl)).trans hT
    have new : ObjOk X.prog X.w (upd H s.heap.objs.size (.tup [y, .str ⟨#[c]⟩])) h'' s.heap.objs.size (.tup [y, .str ⟨#[c]⟩]) :=
      ⟨by show 2 ≤ sizeLine; decide, [u', .str ⟨#[c]⟩ v'], .cons ru (.cons ⟨_, rfl⟩ .nil), ⟨_, hT2, rfl, _, rfl⟩⟩
    have I1 : Inv X pins σ (upd H s.heap.objs.size (.tup [y, .str ⟨#[c]⟩])) { s with heap := h'', toks := tk } :=
      I.turnedNew (t' := tk) (ch := [z, TI, TO, i1, i2]) (fun c o hb q => (sb.2 c (fun q' => hb (by simp [q']))).trans (hk c o (fun q' => hb (by simp [q'])) (fun q' => hb (by simp [q'])) (fun q' => hb (by simp [q'])) (fun q' => hb (by simp [q'])) q)) hf (Nat.le_refl _) new
    refine ⟨.ref s.heap.objs.size, _, I1, rfl, ⟨_, y, c, rfl, I.hok.fresh (Nat.le_refl _), rfl, fun l hl => by rw [I.list_inj hl hqx]; exact hx, hcx⟩, ⟨z'', ?_, ⟨u', .str ⟨#[c]⟩ v', ?_⟩, ?_, ?_⟩, fun c hcm => ?_⟩
    · exact (sb.2 _ D.TIz).trans (hk _ _ D.TIz D.TITO D.TIi1 D.TIi2 hTI)
    · exact (sb.2 _ D.TOz).trans TO'
    · exact st1.1.at fun o q => (sb.2 _ (Ne.symm D.zi1)).trans q
    · obtain ⟨o2, e2, r2⟩ := st2
      exact ⟨o2, (sb.2 _ (Ne.symm D.zi2)).trans e2, r2⟩
    · have hlt : c < s.heap.objs.size := by
        have e' : c = z ∨ c = TI ∨ c = TO ∨ c = i1 ∨ c = i2 := by simpa using hcm
        rcases e' with q | q | q | q | q
        · rw [q]; exact hzl
        · rw [q]; exact Heap.lt_size hTI
        · rw [q]; exact Heap.lt_size hTO
        · rw [q]; obtain ⟨_, e1, _⟩ := h1; exact Heap.lt_size e1
        · rw [q]; obtain ⟨_, e2, _⟩ := h2; exact Heap.lt_size e2
      rw [upd_ne (Nat.ne_of_lt hlt)]
      exact (hf c hcm).1
  done := by
    intro X hP hw hK hc i pins s σ H E I hf st hg
    subst hP hw hK
    obtain ⟨hz, hTI, ⟨x0, y0, hTO⟩, h1, h2⟩ := st
    obtain ⟨xs, hqx, hle1, hle2, hend⟩ := hg
    obtain ⟨its, rv, p, _⟩ := I.list hqx
    have l1 := rv.length
    have hh : X.A.in1.handled = none := by simp [I.ok.hd hc]
    have l2 : its.toArray.size = xs.length := by rw [List.size_toArray, l1]
    exact wpAny_pyNext_zipD2_end D (Draws.list hh i1 a hne its.toArray) (draws_str hh i2 x t (strIter_ty x)) hz hTI hTO ⟨h1, p.isList⟩ h2 (by rw [l2]; exact hle1) hle2 (by rw [l2]; exact hend) fun h' tk hk => ⟨rfl, I.turnedL (t' := tk) (ch := [z, TI, TO, i1, i2]) (fun c o hb q =>
      hk c o (fun q' => hb (by simp [q'])) (fun q' => hb (by simp [q'])) (fun q' => hb (by simp [q'])) (fun q' => hb (by simp [q'])) q) hf⟩
  self := fun A i s Q E st h => wpAny_pyIter_zip st.1 h
theorem zipSep_new {n a : Nat} (h : a < n) : ZipSep2 (n + 4) (n + 2) (n + 3) n (n + 1) [n, a] [n + 1] where
  TIz := fun z => by have z' : n + 2 = n + 4 := z; omega
  TOz := fun z => by have z' : n + 3 = n + 4 := z; omega
  TITO := fun z => by have z' : n + 2 = n + 3 := z; omega
  TIi1 := fun z => by have z' : n + 2 = n := z; omega
  mem1 := List.mem_cons_self ..
  zf1 := fun z => by
    rcases List.mem_cons.mp z with z | z
    · have z' : n + 4 = n := z
      omega
    · have z' : n + 4 = a := List.mem_singleton.mp z
      omega
  Tf1 := fun z => by
    rcases List.mem_cons.mp z with z | z
    · have z' : n + 3 = n := z
      omega
    · have z' : n + 3 = a := List.mem_singleton.mp z
      omega
  TIi2 := fun z => by have z' : n + 2 = n + 1 := z; omega
  mem2 := List.mem_cons_self ..
  zf2 := fun z => by
    have z' : n + 4 = n + 1 := List.mem_singleton.mp z
    omega
  Tf2 := fun z => by
    have z' : n + 3 = n + 1 := List.mem_singleton.mp z
    omega
  sep1_2 := fun z => by
    have z' : n = n + 1 := List.mem_singleton.mp z
    omega
  sep2_1 := fun z => by
    rcases List.mem_cons.mp z with z | z
    · have z' : n + 1 = n := z
      omega
    · have z' : n + 1 = a := List.mem_singleton.mp z
      omega
def iZipS (K : PySem.W.Frag) (ta : TA) : TI := fun σ H R => ta σ H fun vs H1 => ∃ a x xs, vs = [.ref a, .str x] ∧ SqL K H1 a xs ∧ R (ItzS K a x) H1
theorem pi_zipS {X : Cx} {e e2 : Expr} {ta : TA} {p pos tpos : Pos} {elts : List Expr} {kk : Nat} (hg : Gl X "zip") (hm : X.mg "zip" = none) (ha : PA X [e, e2] ta)
    (hs : starEach [e, e2] X.env = (false, eval e X.env) :: starEach [e2] X.env := by rfl) (hpl : (backTo pos (starEach [e2] X.env)).any (·.1) = false := by rfl) :
    PI X (.Tuple elts kk tpos) (.Call (.Name "zip" p) [e, e2] [] pos) (iZipS X.K ta) := by
  refine ⟨fun pins s σ H R I h => ?_⟩
  refine Call_ (ld_blt I hg hm PyProof.Rows.boot_zip (PyProof.Rows.callWith_type1 (thn (ha.run pos pins s σ H _ I h) fun us s1 ⟨vs, H1, I1, r1, q1⟩ => ?_) hs hpl))
  obtain ⟨a, x, xs, ex, hqx, q⟩ := q1
  subst ex
  cases r1 with
  | cons r rr =>
    cases rr with
    | cons r' rr =>
      cases rr
      cases r
      obtain ⟨t, rfl⟩ := r'
      obtain ⟨its, rv, p1, _⟩ := I1.list hqx
      have la : a < s1.heap.objs.size := p1.lt
      refine zip_begins2 (begins_list a its.toArray) (begins_text x t) p1.isList trivial fun h' hz hTI hTO h1 h2 hsz hk => wpAny_pyIter_zip hz ?_
      have I2 : Inv X pins σ H1 { s1 with heap := h' } := I1.kept (t' := s1.toks) hk
      have D := zipSep_new la
      refine ⟨s1.heap.objs.size + 4, [s1.heap.objs.size + 4, s1.heap.objs.size + 2, s1.heap.objs.size + 3, s1.heap.objs.size, s1.heap.objs.size + 1], _, _, H1, rfl, I2, turn_zipS (t := t) D (Nat.ne_of_lt la), ⟨hz, hTI, ⟨_, _, hTO⟩, ⟨_, h1, rfl, rfl⟩, ⟨_, h2, rfl, rfl⟩⟩, fun c hcm => ?_, q⟩
      have e' : c = s1.heap.objs.size + 4 ∨ c = s1.heap.objs.size + 2 ∨ c = s1.heap.objs.size + 3 ∨ c = s1.heap.objs.size ∨ c = s1.heap.objs.size + 1 := by simpa using hcm
      have hle : s1.heap.objs.size ≤ c := by
        rcases e' with z | z | z | z | z
        · rw [z]; exact Nat.le_add_right _ _
        · rw [z]; exact Nat.le_add_right _ _
        · rw [z]; exact Nat.le_add_right _ _
        · rw [z]; exact Nat.le_refl _
        · rw [z]; exact Nat.le_add_right _ _
      exact I1.fpOk hle (I1.hok.fresh hle)
theorem walk_zipS {K : PySem.W.Frag} {a : Addr} {α : Type} (f : α → V) (xs : List α) (l : List Nat) (hl : xs.length = l.length) : Walk (ItzS K a (S l)) xs.length (fun H => SqL K H a (xs.map f)) (fun i H v H' => ∃ (T : Addr) (u : α) (c : Nat), v = .ref T ∧ H T = none ∧ xs[i]? = some u ∧ l[i]? = some c ∧ H' = upd H T (.tup [f u, vS [c]])) :=
  ⟨fun i H hi h => by
    obtain ⟨u, hu⟩ : ∃ u, xs[i]? = some u := ⟨_, List.getElem?_eq_getElem hi⟩
    exact ⟨_, f u, h, by rw [List.getElem?_map, hu]; rfl, by simpa [SX.S] using (show i < l.length by omega)⟩,
   fun H h => ⟨_, h, by rw [List.length_map]; exact Nat.le_refl _, by simp [SX.S]; omega, .inl (by rw [List.length_map])⟩,
   fun i H v H' hi h y => by
    obtain ⟨T, u, c, h1, h2, h3, h4, h5⟩ := y
    obtain ⟨u', hu, rfl⟩ := ym_of (h4 _ h)
    exact ⟨T, u', c, h1, h2, hu, by simpa [SX.S] using h5, h3⟩⟩
end Lk

namespace Lk
open PySem PySem.Spec PyProof.Rows L2
/-! ### sum(xs, []): lists -/
def restOf (its : Nat → List Value) (n i : Nat) : List Value := (List.range' i (n - i)).flatMap its
theorem rest_step {its : Nat → List Value} {n i : Nat} (h : i < n) : restOf its n i = its i ++ restOf its n (i + 1) := by
  unfold restOf
  rw [show n - i = (n - (i + 1)) + 1 by omega, List.range'_succ, List.flatMap_cons]
theorem rest_end {its : Nat → List Value} {n : Nat} : restOf its n n = [] := by
  unfold restOf
  rw [Nat.sub_self]
  rfl
theorem sub_list_str : isSubtype (.type "list") (.type "str") = pure false := by rw [isSubtype_type]; kernel_rfl
theorem sub_list_bytes : isSubtype (.type "list") (.type "bytes") = pure false := by rw [isSubtype_type]; kernel_rfl
theorem sub_list_bytearray : isSubtype (.type "list") (.type "bytearray") = pure false := by rw [isSubtype_type]; kernel_rfl
theorem args_sum2 (a b : Value) : argsOk "sum" ⟨[a, b], []⟩ := by unfold argsOk; kernel_rfl
section
variable {prog : Program} {w : World} {A : Around} {E : Value → Shared → Prop} {R : Result → Shared → Prop}
theorem sum_loop (hh : A.in1.handled = none) {it l S : Addr} {items : Array Value} (B : Heap) (hitl : l ≠ it) (hSit : S ≠ it) (its : Nat → List Value) (hv : ∀ (i : Nat) (v : Value), items[i]? = some v → ∃ (b : Addr) (nb : Nat), v = .ref b ∧ IsL B b (its i).toArray nb)
    (hBi : B.get? it = none) (hBS : B.get? S = none) (hl : B.IsList l items) :
    ∀ (k i : Nat) (s : Shared) (t : Addr) (acc : List Value) (c e : Nat), items.size - i = k → i ≤ items.size → s.heap.IsListIter it l i → (∀ b o, B.get? b = some o → s.heap.get? b = some o) →
      s.heap.get? S = some { cls := .type "list", dict := none, data := .seq #[.ref t] c, slots := #[] } → IsL s.heap t acc.toArray e → t ≠ it → t ≠ S → acc.length + (restOf its items.size i).length ≤ sizeLine →
      (∀ (s' : Shared) (t' : Addr) (e' : Nat), (∀ b o, B.get? b = some o → s'.heap.get? b = some o) → s'.gens = s.gens → s'.drawn = s.drawn → s'.os = s.os → IsL s'.heap t' (acc ++ restOf its items.size i).toArray e' → (i < items.size → s.heap.objs.size ≤ t') → (i = items.size → t' = t) → R (.ok (.ret (.ref t'))) s') →
      codeAny (model prog w) A (.builtin "sum.loop" ⟨[.ref it, .ref S, rawInt 2, rawInt 0], []⟩) R s := by
  intro k
  induction k with
  | zero =>
    intro i s t acc c e hk hi hst hB hS ht nti ntS hlen hR
    have hin : i = items.size := by omega
    subst hin
    refine codeAny_builtin F.entry_sum_loop ?_
    rw [Around.under_plainId F.plain_sum_loop _]
    show wpAny _ A.in1 (seqItems? (.ref S) >>= _) _ _ s
    refine wpAny_bind (wpAny_seqItems hS rfl ?_)
    show wpAny _ A.in1 (tryCatch (pyNext (.ref it)) _ >>= _) _ _ s
    have hl' : s.heap.IsList l items := hl.at fun o q => hB l o q
    refine wpAny_bind (wpAny_tryCatch (wpAny_pyNext_list_end hh hst hl' (by simp) fun h' he' => ?_))
    rw [rest_end, List.append_nil] at hR
    exact wpAny_pure (hR { s with heap := h' } t e (fun b o q => he' b o (fun z => by rw [z, hBi] at q; cases q) (hB b o q)) rfl rfl rfl (he' t _ nti ht) (fun z => absurd z (Nat.lt_irrefl _)) fun _ => rfl)
  | succ k ih =>
    intro i s t acc c e hk hi hst hB hS ht nti ntS hlen hR
    have hlt : i < items.size := by omega
    have hx : items[i]? = some items[i] := by simp [hlt]
    obtain ⟨b, nb, eb, hb⟩ := hv i _ hx
    refine codeAny_builtin F.entry_sum_loop ?_
    rw [Around.under_plainId F.plain_sum_loop _]
    show wpAny _ A.in1 (seqItems? (.ref S) >>= _) _ _ s
    refine wpAny_bind (wpAny_seqItems hS rfl ?_)
    show wpAny _ A.in1 (tryCatch (pyNext (.ref it)) _ >>= _) _ _ s
    have hl' : s.heap.IsList l items := hl.at fun o q => hB l o q
    refine wpAny_bind (wpAny_tryCatch (wpAny_pyNext_list_item hst hl' hx fun h1 hit1 hs1 => ?_))
    rw [eb]
    have k1 : ∀ c o, c ≠ it → s.heap.get? c = some o → h1.get? c = some o := fun c o n q => (hs1.2 c n).trans q
    have nit : ∀ {c o}, B.get? c = some o → c ≠ it := fun {c o} q z => by rw [z, hBi] at q; cases q
    have ht1 : IsL h1 t acc.toArray e := k1 _ _ nti ht
    have hb1 : IsL h1 b (its i).toArray nb := k1 _ _ (nit hb) (hB _ _ hb)
    have hS1 := k1 _ _ hSit hS
    have hrs := rest_step (its := its) hlt
    have hlen1 : acc.length + (its i).length ≤ sizeLine := by
      rw [hrs, List.length_append] at hlen
      omega
    show wpAny _ A.in1 ((holding [Value.ref b] (binaryOp .Add (.ref t) (.ref b))).attempt >>= _) _ _ { s with heap := h1 }
    refine wpAny_bind (wpAny_attempt (wpAny_holding (PySem.P.add_list ht1 hb1 ?_ (by rw [List.size_toArray, List.size_toArray]; exact hlen1))))
    have ea : acc.toArray ++ (its i).toArray = (acc ++ its i).toArray := by simp
    rw [ea]
    have hsz : h1.objs.size = s.heap.objs.size := hs1.1
    have hSn : S ≠ h1.objs.size := Nat.ne_of_lt (Heap.lt_size hS1)
    have hin : it ≠ h1.objs.size := by
      obtain ⟨o, q, _⟩ := hit1
      exact Nat.ne_of_lt (Heap.lt_size q)
    have hS2 : (h1.push { cls := .type "list", data := .seq (acc ++ its i).toArray }).get? S = some { cls := .type "list", dict := none, data := .seq #[.ref t] c, slots := #[] } := Heap.get?_push_of_some _ hS1
    have hn2 : IsL (h1.push { cls := .type "list", data := .seq (acc ++ its i).toArray }) h1.objs.size (acc ++ its i).toArray 0 := Heap.get?_push_size _ rfl
    show wpAny _ A.in1 (updateSeq S (fun _ => #[.ref h1.objs.size]) >>= _) _ _ _
    refine wpAny_bind (wpAny_updateSeq hS2 rfl ?_)
    have hS3 := Heap.get?_update_self (Obj.mapSeq fun _ => #[Value.ref h1.objs.size]) hS2 rfl
    refine wpAny_bind (wpAny_letGo ?_)
    refine wpAny_bind (wpAny_updateSeq hS3 rfl ?_)
    have hS4 := Heap.get?_update_self (Obj.mapSeq fun _ => #[Value.ref h1.objs.size]) hS3 rfl
    have k4 : ∀ c o, c ≠ S → (h1.push { cls := .type "list", data := .seq (acc ++ its i).toArray }).get? c = some o →
        (((h1.push { cls := .type "list", data := .seq (acc ++ its i).toArray }).update S (Obj.mapSeq fun _ => #[Value.ref h1.objs.size])).update S (Obj.mapSeq fun _ => #[Value.ref h1.objs.size])).get? c = some o :=
      fun c o n q => (Heap.get?_update_other _ _ (Ne.symm n)).trans ((Heap.get?_update_other _ _ (Ne.symm n)).trans q)
    refine wpAny_pure ⟨plainId_quiet F.plain_sum_loop _, ih (i + 1) _ h1.objs.size (acc ++ its i) _ 0 (by omega) hlt ?_ ?_ hS4 (k4 _ _ (Ne.symm hSn) hn2) (Ne.symm hin) (Ne.symm hSn) ?_ fun s' t' e' b1 b2 b3 b4 b5 b6 b7 => ?_⟩
    · obtain ⟨o, q, r⟩ := hit1
      exact ⟨o, k4 _ _ (Ne.symm hSit) (Heap.get?_push_of_some _ q), r⟩
    · exact fun c o q => k4 _ _ (fun z => by rw [z, hBS] at q; cases q) (Heap.get?_push_of_some _ (k1 _ _ (nit q) (hB _ _ q)))
    · rw [List.length_append]
      rw [hrs, List.length_append] at hlen
      omega
    · refine hR s' t' e' b1 b2 b3 b4 ?_ (fun _ => ?_) (fun z => absurd z (Nat.ne_of_lt hlt))
      · rw [hrs, ← List.append_assoc]
        exact b5
      · by_cases z : i + 1 = items.size
        · rw [b7 z, hsz]
          exact Nat.le_refl _
        · have := b6 (by omega)
          refine Nat.le_trans ?_ this
          show s.heap.objs.size ≤ _
          rw [Heap.size_after_update, Heap.size_after_update, Heap.size_push, hsz]
          exact Nat.le_succ _
variable {s : Shared}
theorem call_sum_lists (hh : A.in1.handled = none) {l p0 : Addr} {e0 : Nat} {items : Array Value} (hl : s.heap.IsList l items) (hp : IsL s.heap p0 #[] e0) (its : Nat → List Value) (hv : ∀ (i : Nat) (v : Value), items[i]? = some v → ∃ (b : Addr) (nb : Nat), v = .ref b ∧ IsL s.heap b (its i).toArray nb)
    (hn : 0 < items.size) (hlen : (restOf its items.size 0).length ≤ sizeLine) {Q : Value → Shared → Prop}
    (h : ∀ (s' : Shared) (t' : Addr) (e' : Nat), (∀ b o, s.heap.get? b = some o → s'.heap.get? b = some o) → s'.gens = s.gens → s'.drawn = s.drawn → s'.os = s.os → IsL s'.heap t' (restOf its items.size 0).toArray e' → s.heap.objs.size ≤ t' → Q (.ref t') s') :
    wpAny (model prog w) A (call (.builtin "sum") [.ref l, .ref p0]) Q E s := by
  refine call_function_tree F.kind_sum F.plain_sum F.entry_sum (args_sum2 _ _) ?_
  unfold Builtin.«sum»
  simp only [List.length_cons, List.length_nil]
  rw [if_neg (by decide)]
  refine wpAny_bind (wpAny_of_eq (show Builtin.Builtins.bindParams "sum" ["start"] 0 ⟨[.ref p0], []⟩ = pure [some (.ref p0)] from rfl) ?_)
  refine wpAny_bind (wpAny_pyIter_list hl ?_)
  refine wpAny_bind (wpAny_pure ?_)
  have hp2 : IsL (s.heap.push { cls := .type "list_iterator", data := .fields #[.ref l, .int 0 0] }) p0 #[] e0 := Heap.get?_push_of_some _ hp
  simp only [List.forIn_cons, List.forIn_nil]
  refine wpAny_bind (wpAny_bind (wpAny_bind (wpAny_isInstance (T := "list") (b := false) ⟨_, hp2, rfl⟩ sub_list_str ?_)))
  simp only [Bool.false_eq_true, if_false]
  refine wpAny_pure (wpAny_bind (wpAny_bind (wpAny_isInstance (T := "list") (b := false) ⟨_, hp2, rfl⟩ sub_list_bytes ?_)))
  simp only [Bool.false_eq_true, if_false]
  refine wpAny_pure (wpAny_bind (wpAny_bind (wpAny_isInstance (T := "list") (b := false) ⟨_, hp2, rfl⟩ sub_list_bytearray ?_)))
  simp only [Bool.false_eq_true, if_false]
  refine wpAny_pure (wpAny_pure ?_)
  refine wpAny_bind (wpAny_newObj_type ?_)
  have hz1 : (s.heap.push { cls := .type "list_iterator", data := .fields #[.ref l, .int 0 0] }).objs.size = s.heap.objs.size + 1 := Heap.size_push ..
  have lt_l : l < s.heap.objs.size := by obtain ⟨o, q, _⟩ := hl; exact Heap.lt_size q
  have lt_p : p0 < s.heap.objs.size := Heap.lt_size hp
  have none_of : ∀ b, s.heap.objs.size ≤ b → s.heap.get? b = none := fun b hb => by
    cases q : s.heap.get? b with
    | none => rfl
    | some o => exact absurd (Nat.lt_of_lt_of_le (Heap.lt_size q) hb) (Nat.lt_irrefl _)
  refine wpAny_pure ⟨plainId_quiet F.plain_sum_loop _, sum_loop hh s.heap (it := s.heap.objs.size) (l := l) (S := (s.heap.push { cls := .type "list_iterator", data := .fields #[.ref l, .int 0 0] }).objs.size) (Nat.ne_of_lt lt_l) (by rw [hz1]; exact Nat.succ_ne_self _) its hv
    (none_of _ (Nat.le_refl _)) (none_of _ (by rw [hz1]; exact Nat.le_succ _)) hl items.size 0 _ p0 [] 0 e0 (by omega) (Nat.zero_le _) ?_ ?_ (Heap.get?_push_size _ rfl) ?_ (Nat.ne_of_lt lt_p) (by rw [hz1]; exact Nat.ne_of_lt (Nat.lt_succ_of_lt lt_p)) (by rw [List.length_nil, Nat.zero_add]; exact hlen) fun s' t' e' b1 b2 b3 b4 b5 b6 _ => ?_⟩
  · exact ⟨_, Heap.get?_push_of_some _ (Heap.get?_push_size _ rfl), rfl, rfl⟩
  · exact fun b o q => Heap.get?_push_of_some _ (Heap.get?_push_of_some _ q)
  · exact Heap.get?_push_of_some _ hp2
  · refine h s' t' e' b1 b2 b3 b4 (by rw [List.nil_append] at b5; exact b5) (Nat.le_trans ?_ (b6 hn))
    show s.heap.objs.size ≤ _
    rw [Heap.size_push, hz1]
    omega
end
section
variable {X : Cx}
/-- sum(xs, []), xs a list of lists, not empty -/
def rSumL : List V → Hp → VK → Prop := fun vs H Q => ∃ (l p0 : Addr) (ps : List (Addr × List V)), vs = [V.ref l, V.ref p0] ∧ H l = some (.lst (ps.map fun p => V.ref p.1)) ∧ H p0 = some (.lst []) ∧ ps ≠ [] ∧ (∀ p ∈ ps, H p.1 = some (.lst p.2)) ∧
  (ps.flatMap (·.2)).length ≤ sizeLine ∧ ∀ q, H q = none → Q (.ref q) (upd H q (.lst (ps.flatMap (·.2))))
theorem refs_valsL : ∀ {ps : List (Addr × List V)} {us : List Value}, Vals (ps.map fun p => V.ref p.1) us → us = ps.map fun p => Value.ref p.1
  | [], us, r => by cases r; rfl
  | p :: ps, us, r => by
    cases r with
    | cons r1 r2 =>
      cases r1
      rw [refs_valsL r2]
      rfl
theorem cr_sumL (hc : X.calm = true) : CallR X (.builtin "sum") rSumL := by
  intro pins s σ H vs us Q I r h
  obtain ⟨l, p0, ps, rfl, hl, hp, hne, hps, hlen, q⟩ := h
  cases r with
  | cons r1 rr =>
    cases rr with
    | cons r2 rr =>
      cases rr
      cases r1
      cases r2
      obtain ⟨z, its, n, rv, hll, e⟩ := I.lstM hl
      obtain ⟨z0, its0, n0, rv0, hl0, e0⟩ := I.lstM hp
      cases rv0
      have eits := refs_valsL rv
      have hev : ∀ p ∈ ps, ∃ us nb, Vals p.2 us ∧ IsL s.heap p.1 us.toArray nb := fun p hp => by
        obtain ⟨z2, its2, n2, rv2, hl2, e2⟩ := I.lstM (hps p hp)
        exact ⟨its2, n2, rv2, e2⟩
      -- the items of each
      have hch : ∃ f : Addr × List V → List Value, ∀ p ∈ ps, Vals p.2 (f p) ∧ ∃ nb, IsL s.heap p.1 (f p).toArray nb := by
        classical
        refine ⟨fun p => if hp : p ∈ ps then (hev p hp).choose else [], fun p hp => ?_⟩
        dsimp only
        rw [dif_pos hp]
        obtain ⟨nb, h1, h2⟩ := (hev p hp).choose_spec
        exact ⟨h1, nb, h2⟩
      obtain ⟨f, hf⟩ := hch
      have hsz : its.toArray.size = ps.length := by rw [List.size_toArray, eits, List.length_map]
      have hfl : ∀ qs : List (Addr × List V), (∀ p ∈ qs, p ∈ ps) → Vals (qs.flatMap (·.2)) (qs.flatMap f) := by
        intro qs
        induction qs with
        | nil => exact fun _ => .nil
        | cons p qs ih =>
          intro hq
          rw [List.flatMap_cons, List.flatMap_cons]
          exact (hf p (hq p (List.mem_cons_self ..))).1.append (ih fun x hx => hq x (List.mem_cons_of_mem _ hx))
      have hrest : ∀ (qs : List (Addr × List V)) (k : Nat), (∀ j, qs[j]? = ps[k + j]?) → (List.range' k qs.length).flatMap (fun i => ((ps[i]?).map f).getD []) = qs.flatMap f := by
        intro qs
        induction qs with
        | nil => exact fun _ _ => rfl
        | cons p qs ih =>
          intro k hk
          rw [List.length_cons, List.range'_succ, List.flatMap_cons, List.flatMap_cons]
          have h0 := hk 0
          rw [Nat.add_zero] at h0
          rw [← h0, ih (k + 1) fun j => by
            have := hk (j + 1)
            rw [List.getElem?_cons_succ] at this
            rw [this, show k + 1 + j = k + (j + 1) by omega]]
          rfl
      have hR : restOf (fun i => ((ps[i]?).map f).getD []) its.toArray.size 0 = ps.flatMap f := by
        unfold restOf
        rw [Nat.sub_zero, hsz]
        exact hrest ps 0 fun j => by rw [Nat.zero_add]
      have hv := hfl ps fun _ h => h
      have hl2 := hv.length
      refine call_sum_lists (s := s) (by simp [I.ok.hd hc]) (l := l) (p0 := p0) (items := its.toArray) (e0 := n0) ⟨_, e, rfl, n, rfl⟩ e0 (fun i => ((ps[i]?).map f).getD []) (fun i v hiv => ?_) (by rw [hsz]; exact List.length_pos_iff.mpr hne) (by rw [hR, ← hl2]; exact hlen) fun s' t' e' b1 b2 b3 b4 b5 b6 => ?_
      · have hiv' : its[i]? = some v := by simpa using hiv
        rw [eits, List.getElem?_map] at hiv'
        cases hpi : ps[i]? with
        | none => rw [hpi] at hiv'; cases hiv'
        | some p =>
          rw [hpi] at hiv'
          obtain ⟨_, nb, hb⟩ := hf p (List.mem_of_getElem? hpi)
          exact ⟨p.1, nb, (Option.some.inj hiv').symm, hb⟩
      · rw [hR] at b5
        have hq : H t' = none := I.hok.fresh b6
        have J : Inv X pins σ (upd H t' (.lst (ps.flatMap (·.2)))) { s with heap := s'.heap, gens := s'.gens, drawn := s'.drawn, toks := s'.toks } :=
          I.call (ch := []) (Un.laid b1 b6 hq) (I.hok.laid b1 b6 ⟨hlen, ps.flatMap f, e', hv, b5⟩) (by rw [b2]; exact I.bare) (fun _ z => nomatch z)
        have es : s' = { s with heap := s'.heap, gens := s'.gens, drawn := s'.drawn, toks := s'.toks } := by
          cases s'
          cases s
          cases b4
          rfl
        rw [es]
        exact ⟨.ref t', _, J, rfl, q t' hq⟩
end
end Lk

namespace Lk
open PySem PySem.Spec PyProof.Rows L2
/-! ### sorted(t), t a tuple of ints -/
section
variable {X : Cx}
def rSortedTI (K : PySem.W.Frag) : List V → Hp → VK → Prop := fun vs H Q => ∃ (a : Addr) (ns : List Int), vs = [V.ref a] ∧ SqT K H a (ns.map V.int) ∧
  ∀ (ns' : List Int) (p : Addr), ns'.Perm ns → ns'.Pairwise (· ≤ ·) → H p = none → Q (.ref p) (upd H p (.lst (ns'.map V.int)))
theorem cr_sortedTI : CallR X (.builtin "sorted") (rSortedTI X.K) := by
  intro pins s σ H vs us Q I r h
  obtain ⟨a, ns, rfl, hs, q⟩ := h
  rw [Vals.ref1 r]
  obtain ⟨its, rv, ⟨o, ho, hc, n, hd⟩, hz⟩ := I.tuple hs
  have hl0 := rv.length
  have hzi : its.length ≤ sizeLine := by rw [← hl0]; exact hz
  have hI := rv.ints
  refine PySem.Calls.call_function_entry PyProof.Rows.kind_sorted PyProof.Rows.plain_sorted PyProof.Rows.entry_sorted (PyProof.Rows.args_sorted1 _) ?_
  unfold Builtin.«sorted»
  refine wpAny_bind (m := checkCount "sorted" 1 1 _) (wpAny_pure ?_)
  refine wpAny_bind (wpAny_collect_seq (A := X.A.in1) a (T := "tuple") (.inr rfl) ho hc hd (fun h' k1 => ?_) (by rw [List.size_toArray]; exact hzi))
  rw [List.toList_toArray]
  refine wpAny_bind (wpAny_newList ?_ hzi)
  have hoL : (h'.push (seqObj "list" its.toArray 0)).get? h'.objs.size = some (seqObj "list" its.toArray 0) := Heap.get?_push_size _ rfl
  show wpAny _ _ _ _ _ { s with heap := h'.push (seqObj "list" its.toArray 0) }
  refine wpAny_bind (wpAny_holding (wpAny_call_entry PyProof.Rows.slot_list_sort ⟨_, hoL, rfl⟩ PyProof.Rows.entry_list_sort
    (PyProof.Rows.list_sort_treeAny (s := { s with heap := h'.push (seqObj "list" its.toArray 0) }) hoL hI hzi fun out ns' h1 h2 h3 => ⟨_, rfl, ?_⟩) (PyProof.Rows.args_list_sort _)))
  obtain ⟨e', he'⟩ := PyProof.Rows.sortedHeap_at (vs := its) (out := out) hoL
  have hlen : (ns'.map V.int).length ≤ sizeLine := by
    rw [List.length_map, h2.length_eq]
    rw [List.length_map] at hz
    exact hz
  have I1 : Inv X pins σ H { s with heap := h' } := I.kept (t' := s.toks) k1
  refine wpAny_pure ⟨_, rfl, .ref h'.objs.size, upd H h'.objs.size (.lst (ns'.map V.int)), I1.laid (t' := s.toks) (fun b u e => ?_) (Nat.le_refl _)
    (show ObjOk X.prog X.w _ _ _ (.lst (ns'.map V.int)) from ⟨hlen, out.toList, e', vals_of_ints h1, by rw [Array.toArray_toList]; exact he'⟩), rfl, q ns' _ h2 h3 (I1.hok.fresh (Nat.le_refl _))⟩
  have hb : b < h'.objs.size := Heap.lt_size e
  rw [PyProof.Rows.sortedHeap_old (Nat.ne_of_lt hb) (by rw [size_push']; exact Nat.lt_succ_of_lt hb)]
  exact Heap.get?_push_of_some _ e
end
end Lk

namespace Lk
open PySem PySem.Spec PyProof.Rows L2
/-! ### lists of tuples of numbers -/
open Fo
/-- the list at a: tuples of the numbers cs -/
def LT (H : Hp) (a : Addr) (cs : List (List Nat)) : Prop := ∃ ps : List (Addr × List Nat), ps.map (·.2) = cs ∧ H a = some (.lst (ps.map fun p => V.ref p.1)) ∧ ∀ p ∈ ps, H p.1 = some (.tup (p.2.map vI))
theorem LT.same {H H' : Hp} {a : Addr} {cs : List (List Nat)} (h : LT H a cs) (s : Same H H') : LT H' a cs := by
  obtain ⟨ps, e, h1, h2⟩ := h
  exact ⟨ps, e, s _ _ h1, fun p hp => s _ _ (h2 p hp)⟩
abbrev dT (c : List Nat) : PyData := .tuple (c.map dI)
theorem dT_lay (c : List Nat) : (dT c).canLay0 = true := by
  rw [PyData.canLay0]
  exact layAll_of fun a _ => dI_lay a
theorem dT_dep (c : List Nat) : (dT c).depth ≤ 60 := by
  rw [PyData.depth]
  have := depAll_of (n := 50) (xs := c) (f := dI) fun a _ => by simp [PyData.depth]
  omega
theorem dT_eqv (a b : List Nat) : PyData.eqv (dT a) (dT b) = decide (a = b) := by
  rw [PyData.eqv]
  exact eqvAll_of fun a _ b _ => dI_eqv a b
theorem dpt {K : PySem.W.Frag} {H : Hp} {a : Addr} {cs : List (List Nat)} (h : LT H a cs) : Dp K H (.ref a) (.list (cs.map dT)) := by
  obtain ⟨ps, rfl, h1, h2⟩ := h
  rw [List.map_map]
  exact .lst (SqL.of h1) (dpAll_of fun p hp => .tup (SqT.of (h2 p hp)) (dpAll_of fun l _ => .int l))
section
variable {X : Cx}
def rEqLT (neg : Bool) : R2 := fun x y H Q => ∃ (a b : Addr) (xs ys : List (List Nat)), x = .ref a ∧ y = .ref b ∧ LT H a xs ∧ LT H b ys ∧ Q (.bl (if neg then !decide (xs = ys) else decide (xs = ys))) H
theorem op_eqLT (hu : X.A.units + 64 < cLine) : OpR X (compareOp .Eq) (rEqLT false) := by
  intro pins s σ H x y v u Q I rx ry ⟨a, b, xs, ys, e1, e2, h1, h2, q⟩
  refine op_eqD hu pins s σ H x y v u Q I rx ry ⟨_, _, by rw [e1]; exact dpt h1, by rw [e2]; exact dpt h2, shaped_list (fun l _ => dT_lay l) (fun l _ => dT_dep l), shaped_list (fun l _ => dT_lay l) (fun l _ => dT_dep l), ?_⟩
  have e : PyData.eqv (.list (xs.map dT)) (.list (ys.map dT)) = decide (xs = ys) := by
    rw [PyData.eqv]
    exact eqvAll_of fun a _ b _ => dT_eqv a b
  rw [e]
  exact q
theorem op_neLT (hu : X.A.units + 64 < cLine) : OpR X (compareOp .NotEq) (rEqLT true) := by
  intro pins s σ H x y v u Q I rx ry ⟨a, b, xs, ys, e1, e2, h1, h2, q⟩
  refine op_neD hu pins s σ H x y v u Q I rx ry ⟨_, _, by rw [e1]; exact dpt h1, by rw [e2]; exact dpt h2, shaped_list (fun l _ => dT_lay l) (fun l _ => dT_dep l), shaped_list (fun l _ => dT_lay l) (fun l _ => dT_dep l), ?_⟩
  have e : PyData.eqv (.list (xs.map dT)) (.list (ys.map dT)) = decide (xs = ys) := by
    rw [PyData.eqv]
    exact eqvAll_of fun a _ b _ => dT_eqv a b
  rw [e]
  exact q
end
end Lk

namespace Lk
open PySem PySem.Spec PyProof.Rows L2
/-! ### the text by places -/
def topS (i : Nat) : Stmt := PySem.Challenge.pw_likefolds_k06_whole_what_lies_on_what.main.body.getD i (.Pass ⟨0, 0, 0, 0⟩)
abbrev s_layers : Stmt := topS 1
theorem sc_layers : FnScope ["strip", "row", "found", "crease", "stays_right", "kept", "gone", "laid", "at", "cells", "more", "place"] ["strip", "row"] (defScope s_layers) := ⟨rfl, rfl, rfl, by decide +kernel, rfl, by decide +kernel, by decide +kernel⟩
abbrev s_is_from : Stmt := topS 6
theorem sc_is_from : FnScope ["thing", "low", "high"] ["thing", "low", "high"] (defScope s_is_from) := ⟨rfl, rfl, rfl, by decide +kernel, rfl, by decide +kernel, by decide +kernel⟩
abbrev s_lies_well : Stmt := topS 7
theorem sc_lies_well : FnScope ["strip", "crease", "reach"] ["strip", "crease"] (defScope s_lies_well) := ⟨rfl, rfl, rfl, by decide +kernel, rfl, by decide +kernel, by decide +kernel⟩
abbrev s_is_crease : Stmt := topS 8
theorem sc_is_crease : FnScope ["strip", "thing"] ["strip", "thing"] (defScope s_is_crease) := ⟨rfl, rfl, rfl, by decide +kernel, rfl, by decide +kernel, by decide +kernel⟩
abbrev s_left_of : Stmt := topS 9
theorem sc_left_of : FnScope ["strip", "crease"] ["strip", "crease"] (defScope s_left_of) := ⟨rfl, rfl, rfl, by decide +kernel, rfl, by decide +kernel, by decide +kernel⟩
abbrev s_folded_row : Stmt := topS 10
theorem sc_folded_row : FnScope ["strip", "row", "at", "crease"] ["strip", "row"] (defScope s_folded_row) := ⟨rfl, rfl, rfl, by decide +kernel, rfl, by decide +kernel, by decide +kernel⟩
abbrev s__law_bag : Stmt := topS 12
theorem sc__law_bag : FnScope ["script", "k", "cell", "seed"] ["script", "k"] (defScope s__law_bag) := ⟨rfl, rfl, rfl, by decide +kernel, rfl, by decide +kernel, by decide +kernel⟩
abbrev s__law_take : Stmt := topS 13
theorem sc__law_take : FnScope ["bag", "count", "found"] ["bag", "count"] (defScope s__law_take) := ⟨rfl, rfl, rfl, by decide +kernel, rfl, by decide +kernel, by decide +kernel⟩
abbrev s__law_of : Stmt := topS 14
theorem sc__law_of : FnScope ["bag", "some"] ["bag", "some"] (defScope s__law_of) := ⟨rfl, rfl, rfl, by decide +kernel, rfl, by decide +kernel, by decide +kernel⟩
abbrev s__law_any_text : Stmt := topS 15
theorem sc__law_any_text : FnScope ["bag", "most", "signs", "turn"] ["bag", "most", "signs"] (defScope s__law_any_text) := ⟨rfl, rfl, rfl, by decide +kernel, rfl, by decide +kernel, by decide +kernel⟩
abbrev s__law_grown : Stmt := topS 16
theorem sc__law_grown : FnScope ["bag", "text", "most", "turn", "many"] ["bag", "text", "most"] (defScope s__law_grown) := ⟨rfl, rfl, rfl, by decide +kernel, rfl, by decide +kernel, by decide +kernel⟩
abbrev s__law_strip : Stmt := topS 17
theorem sc__law_strip : FnScope ["bag", "most", "way"] ["bag", "most"] (defScope s__law_strip) := ⟨rfl, rfl, rfl, by decide +kernel, rfl, by decide +kernel, by decide +kernel⟩
abbrev s__law_lies : Stmt := topS 18
theorem sc__law_lies : FnScope ["text", "crease", "step", "near", "far"] ["text", "crease"] (defScope s__law_lies) := ⟨rfl, rfl, rfl, by decide +kernel, rfl, by decide +kernel, by decide +kernel⟩
abbrev s__law_creases : Stmt := topS 19
theorem sc__law_creases : FnScope ["text", "crease"] ["text"] (defScope s__law_creases) := ⟨rfl, rfl, rfl, by decide +kernel, rfl, by decide +kernel, by decide +kernel⟩
abbrev s__law_left : Stmt := topS 20
theorem sc__law_left : FnScope ["text", "crease"] ["text", "crease"] (defScope s__law_left) := ⟨rfl, rfl, rfl, by decide +kernel, rfl, by decide +kernel, by decide +kernel⟩
abbrev s__law_laid : Stmt := topS 21
theorem sc__law_laid : FnScope ["text", "row", "spots", "crease", "long", "right", "cell", "spot"] ["text", "row"] (defScope s__law_laid) := ⟨rfl, rfl, rfl, by decide +kernel, rfl, by decide +kernel, by decide +kernel⟩
abbrev s_law : Stmt := topS 22
theorem sc_law : FnScope ["script", "k", "bag", "text", "row", "here", "last", "spots", "due", "place", "told", "cell", "spot", "cells", "sign", "other"] ["script"] (defScope s_law) := ⟨rfl, rfl, rfl, by decide +kernel, rfl, by decide +kernel, by decide +kernel⟩
abbrev m_NoFold___init__ : Stmt := inClass (topS 4) 0
theorem mc_NoFold___init__ : FnScope ["self", "at"] ["self", "at"] (defScope m_NoFold___init__) := ⟨rfl, rfl, rfl, by decide +kernel, rfl, by decide +kernel, by decide +kernel⟩
/-- what the top has written -/
structure Txt (K : PySem.W.Frag) (mg : Str → Option Value) : Prop where
  b_abs : mg "abs" = none
  b_bool : mg "bool" = none
  b_enumerate : mg "enumerate" = none
  b_int : mg "int" = none
  b_isinstance : mg "isinstance" = none
  b_len : mg "len" = none
  b_list : mg "list" = none
  b_min : mg "min" = none
  b_range : mg "range" = none
  b_sorted : mg "sorted" = none
  b_sum : mg "sum" = none
  b_tuple : mg "tuple" = none
  b_zip : mg "zip" = none
  d_layers : Def K mg "layers" s_layers ["strip", "row"]
  d_is_from : Def K mg "is_from" s_is_from ["thing", "low", "high"]
  d_lies_well : Def K mg "lies_well" s_lies_well ["strip", "crease"]
  d_is_crease : Def K mg "is_crease" s_is_crease ["strip", "thing"]
  d_left_of : Def K mg "left_of" s_left_of ["strip", "crease"]
  d_folded_row : Def K mg "folded_row" s_folded_row ["strip", "row"]
  d__law_bag : Def K mg "_law_bag" s__law_bag ["script", "k"]
  d__law_take : Def K mg "_law_take" s__law_take ["bag", "count"]
  d__law_of : Def K mg "_law_of" s__law_of ["bag", "some"]
  d__law_any_text : Def K mg "_law_any_text" s__law_any_text ["bag", "most", "signs"]
  d__law_grown : Def K mg "_law_grown" s__law_grown ["bag", "text", "most"]
  d__law_strip : Def K mg "_law_strip" s__law_strip ["bag", "most"]
  d__law_lies : Def K mg "_law_lies" s__law_lies ["text", "crease"]
  d__law_creases : Def K mg "_law_creases" s__law_creases ["text"]
  d__law_left : Def K mg "_law_left" s__law_left ["text", "crease"]
  d__law_laid : Def K mg "_law_laid" s__law_laid ["text", "row"]
  d_law : Def K mg "law" s_law ["script"]
  me_NoFold___init__ : DefM K mg "NoFold" "__init__" "NoFold.__init__" m_NoFold___init__ ["self", "at"]
  o_NoFold : OexF K mg "NoFold" "FoldError" "at"
  e_FoldError : ExE K mg "FoldError"
  x_FoldError : ExF K mg "FoldError"
  x_NoFold : ExF K mg "NoFold"
  k_FoldError_FoldError : ExK K mg "FoldError" "FoldError" true
  k_FoldError_NoFold : ExK K mg "FoldError" "NoFold" false
  k_NoFold_FoldError : ExK K mg "NoFold" "FoldError" true
  k_NoFold_NoFold : ExK K mg "NoFold" "NoFold" true
end Lk

namespace Lk
open PySem PySem.Spec PyProof.Rows L2
/-! ### the law's draws -/
/-- a bag stands at b -/
def Bag (H : Hp) (b : Addr) : Prop := ∃ x y : Int, H b = some (.lst [.int x, .int y]) ∧ 0 ≤ x ∧ 0 ≤ y ∧ y ≤ 2147483646
theorem Bag.same {H H' : Hp} {b : Addr} (h : Bag H b) (s : Same H H') : Bag H' b := by
  obtain ⟨x, y, h1, h2⟩ := h
  exact ⟨x, y, s _ _ h1, h2⟩
theorem Bag.but {H H' : Hp} {a b : Addr} (h : Bag H b) (n : b ≠ a) (s : But a H H') : Bag H' b := by
  obtain ⟨x, y, h1, h2⟩ := h
  exact ⟨x, y, s _ _ n h1, h2⟩
theorem Bag.upd {H : Hp} {b p : Addr} {o : HO} (h : Bag H b) (n : b ≠ p) : Bag (L2.upd H p o) b := by
  obtain ⟨x, y, h1, h2⟩ := h
  exact ⟨x, y, by rw [upd_ne n]; exact h1, h2⟩
theorem Bag.ne {H : Hp} {b p : Addr} (h : Bag H b) (n : H p = none) : b ≠ p := by
  obtain ⟨x, y, h1, _⟩ := h
  exact ne_of_none h1 n
def sp_bag (K : PySem.W.Frag) : Sp := fun vs H Q _ => ∃ (a : Addr) (ns : List Int) (k : Int), vs = [.ref a, .int k] ∧ SqL K H a (ns.map V.int) ∧ 0 ≤ k ∧ k ≤ 100 ∧ ∀ p H', H p = none → Same H H' → Bag H' p → Q (.ref p) H'
section
variable {P : Program} {w : World} {K : PySem.W.Frag} {mg : Str → Option Value} {base : Heap}
theorem pA : (0 : Int) < 2147483629 := by decide
theorem pB : (0 : Int) < 2147483645 := by decide
theorem pC : (0 : Int) < 2147483647 := by decide
theorem pD : (0 : Int) < 32749 := by decide
theorem pow60 : (0 : Int) < 10 ^ (60 : Int).toNat := by decide +kernel
theorem ok__law_bag (T : Txt K mg) : Fn P w K mg base CX0 1 "_law_bag" ["script", "k"] (sp_bag K) := by
  refine T.d__law_bag.fn fun f fd F => F.ok sc__law_bag (fun vs H Q E h => ?_) (fun cdv A outer s H vs Q E hr h => ?_)
  · obtain ⟨a, ns, k, rfl, _⟩ := h
    rfl
  · obtain ⟨a, ns, k, rfl, hS, k0, k1, q⟩ := h
    refine ⟨_, pss_cons (ps_set (i := 2) sc__law_bag.nd rfl (.inl rfl) pe_int)
      (C8.pss_cut (ps_if (pt_cmpR op_lt (pv 1) (pe_callB call_len_seq (by rfl) T.b_len PySem.boot_len (pa_cons (pv 0) pa_nil)) (nomark _))
          (pss_one (ps_set (i := 2) sc__law_bag.nd rfl (.inl rfl) (pe_op op_mod (pe_ix ix_list (pv 0) (pv 1) (fun _ _ => rfl)) (pe_op op_pow pe_int pe_int)))) pss_nil)
      (pss_cons (ps_set (i := 3) sc__law_bag.nd rfl (.inl rfl) (pe_op op_add pe_int (pe_op op_mod (pe_op op_add (pe_op op_add (pe_op op_add (pe_op op_mul (pe_op op_mod (pv 2) pe_int) pe_int) (pe_op op_mul (pe_op op_mul pe_int (pv 1)) (pv 1))) (pe_op op_mul pe_int (pv 1))) pe_int) pe_int)))
      (pss_cons (ps_if (pt_cmpR op_lt (pv 2) (pe_op op_pow pe_int pe_int) (nomark _)) (pss_one (ps_ret (pe_lst (pa_cons pe_int (pa_cons (pv 3) pa_nil))))) pss_nil)
      (pss_one (ps_ret (pe_lst (pa_cons (pv 2) (pa_cons (pv 3) pa_nil)))))))), ?_⟩
    refine ⟨fun σ' H' => H' = H ∧ ∃ z : Int, 0 ≤ z ∧ σ' = [some (.ref a), some (.int k), some (.int z), none], ?_, ?_⟩
    · refine ⟨_, rfl, .ref a, rfl, a, ns.map V.int, rfl, .inl hS, _, _, rfl, rfl, _, rfl, ite2 (fun c => ?_) (fun _ => ?_)⟩
      · have c' : k < ((ns.map V.int).length : Int) := of_decide_eq_true c
        rw [List.length_map] at c'
        have hk : k.toNat < ns.length := by omega
        refine ⟨.ref a, rfl, _, rfl, a, ns.map V.int, k, .int ns[k.toNat], rfl, rfl, hS, ?_, _, _, rfl, rfl, ⟨by decide, by decide, by decide⟩, _, _, rfl, rfl, pow60, rfl, _, Int.emod_nonneg _ (Int.ne_of_gt pow60), rfl⟩
        refine at_of (j := k.toNat) (by omega) ?_
        rw [List.getElem?_map, List.getElem?_eq_getElem hk]
        rfl
      · exact ⟨rfl, 0, Int.le_refl 0, rfl⟩
    · rintro σ' H' ⟨rfl, z, hz, rfl⟩
      have e1 := Int.emod_nonneg z (show (2147483629 : Int) ≠ 0 by decide)
      have e2 := Int.emod_lt_of_pos z (show (0 : Int) < 2147483629 by decide)
      have e3 : ∀ y : Int, 0 ≤ y % 2147483645 ∧ y % 2147483645 < 2147483645 := fun y => ⟨Int.emod_nonneg y (by decide), Int.emod_lt_of_pos y (by decide)⟩
      refine ⟨_, rfl, _, _, rfl, rfl, pA, _, _, rfl, rfl, .inl ⟨by omega, by omega⟩, _, rfl, _, _, rfl, rfl, .inl ⟨by decide, by decide⟩, _, rfl, _, _, rfl, rfl, .inl ⟨by omega, by omega⟩, _, _, rfl, rfl, _, rfl, _, _, rfl, rfl, .inl ⟨by decide, by decide⟩, _, _, rfl, rfl, _, _, rfl, rfl, _, _, rfl, rfl, pB, _, _, rfl, rfl, ?_⟩
      dsimp only
      generalize hy : z % 2147483629 * 16807 + 40009 * k * k + 7919 * k + 1009 = y
      obtain ⟨y0, y1⟩ := e3 y
      refine ⟨_, rfl, _, _, rfl, rfl, ⟨by decide, by decide, by decide⟩, _, _, rfl, rfl, _, rfl, ite2 (fun c => ?_) (fun _ => ?_)⟩
      · refine ⟨_, rfl, (by show 2 ≤ sizeLine; decide), fun p hp => ?_⟩
        exact q p _ hp (Same.upd hp) ⟨0, 1 + y % 2147483645, upd_same, by omega, by omega, by omega⟩
      · refine ⟨_, rfl, _, rfl, (by show 2 ≤ sizeLine; decide), fun p hp => ?_⟩
        exact q p _ hp (Same.upd hp) ⟨z, 1 + y % 2147483645, upd_same, hz, by omega, by omega⟩
/-- a draw below c -/
def sp_take : Sp := fun vs H Q _ => ∃ (b : Addr) (c : Int), vs = [.ref b, .int c] ∧ Bag H b ∧ 1 ≤ c ∧ c ≤ 100000 ∧ ∀ r H', But b H H' → Bag H' b → 0 ≤ r → r < c → Q (.int r) H'
theorem ok__law_take (T : Txt K mg) : Fn P w K mg base CX0 1 "_law_take" ["bag", "count"] sp_take := by
  refine T.d__law_take.fn fun f fd F => F.ok sc__law_take (fun vs H Q E h => ?_) (fun cdv A outer s H vs Q E hr h => ?_)
  · obtain ⟨b, c, rfl, _⟩ := h
    rfl
  · obtain ⟨b, c, rfl, ⟨x, y, hb, x0, y0, y1⟩, c0, c1, q⟩ := h
    have hS : SqL K H b [.int x, .int y] := SqL.of hb
    have a0 : atI [V.int x, .int y] 0 = some (.int x) := rfl
    have a1 : atI [V.int x, .int y] 1 = some (.int y) := rfl
    refine ⟨_, pss_cons (ps_if (pt_cmpR op_gt (pe_ix ix_list (pv 0) pe_int (fun _ _ => rfl)) pe_int (nomark _))
        (pss_cons (ps_set (i := 2) sc__law_take.nd rfl (.inl rfl) (pe_op op_mod (pe_ix ix_list (pv 0) pe_int (fun _ _ => rfl)) (pv 1)))
        (pss_cons (ps_asg (pe_op op_fdiv (pe_ix ix_list (pv 0) pe_int (fun _ _ => rfl)) (pv 1)) (pg_sub (pv 0) pe_int set_list))
        (pss_one (ps_ret (pv 2))))) pss_nil)
      (pss_cons (ps_asg (pe_op op_mod (pe_op op_mul (pe_ix ix_list (pv 0) pe_int (fun _ _ => rfl)) pe_int) pe_int) (pg_sub (pv 0) pe_int set_list))
      (pss_one (ps_ret (pe_op op_mod (pe_op op_fdiv (pe_op op_mod (pe_op op_mul (pe_op op_fdiv (pe_ix ix_list (pv 0) pe_int (fun _ _ => rfl)) pe_int)
        (pe_op op_add (pe_op op_mod (pe_ix ix_list (pv 0) pe_int (fun _ _ => rfl)) pe_int) pe_int)) pe_int) pe_int) (pv 1))))), ?_⟩
    refine ⟨.ref b, rfl, b, _, 0, _, rfl, rfl, hS, a0, _, _, rfl, rfl, _, rfl, ite2 (fun _ => ?_) (fun _ => ?_)⟩
    · refine ⟨.ref b, rfl, b, _, 0, _, rfl, rfl, hS, a0, _, rfl, _, _, rfl, rfl, (by show 0 < c; omega), ?_⟩
      refine ⟨.ref b, rfl, b, _, 0, _, rfl, rfl, hS, a0, _, rfl, _, _, rfl, rfl, ⟨by omega, by omega⟩, ?_⟩
      refine ⟨.ref b, rfl, b, _, 0, 0, rfl, rfl, hb, rfl, _, rfl, ?_⟩
      refine q _ _ (fun a o n e => ?_) ⟨x / c, y, upd_same, Int.ediv_nonneg x0 (by omega), y0, y1⟩ (Int.emod_nonneg _ (by omega)) (Int.emod_lt_of_pos _ (by omega))
      rw [upd_ne n]
      exact e
    · refine ⟨.ref b, rfl, b, _, 1, _, rfl, rfl, hS, a1, _, _, rfl, rfl, .inr ⟨by decide, by decide⟩, _, _, rfl, rfl, pC, ?_⟩
      refine ⟨.ref b, rfl, b, _, 1, 1, rfl, rfl, hb, rfl, ?_⟩
      dsimp only
      have z0 := Int.emod_nonneg (y * 48271) (show (2147483647 : Int) ≠ 0 by decide)
      have z1 := Int.emod_lt_of_pos (y * 48271) (show (0 : Int) < 2147483647 by decide)
      generalize y * 48271 % 2147483647 = z at z0 z1 ⊢
      have hb' : (upd H b (.lst [.int x, .int z])) b = some (.lst [.int x, .int z]) := upd_same
      have hS' : SqL K (upd H b (.lst [.int x, .int z])) b [.int x, .int z] := SqL.of hb'
      have a1' : atI [V.int x, .int z] 1 = some (.int z) := rfl
      have d0 : 0 ≤ z / 13 := Int.ediv_nonneg z0 (by decide)
      have d1 : z / 13 ≤ z := Int.ediv_le_self _ z0
      refine ⟨.ref b, rfl, b, _, 1, _, rfl, rfl, hS', a1', _, _, rfl, rfl, ⟨by decide, by decide⟩, .ref b, rfl, b, _, 1, _, rfl, rfl, hS', a1', _, _, rfl, rfl, pD, _, _, rfl, rfl, _, _, rfl, rfl, .inl ⟨by omega, by omega⟩, _, _, rfl, rfl, pA, _, _, rfl, rfl, ⟨by decide, by decide⟩, _, rfl, _, _, rfl, rfl, (by show 0 < c; omega), ?_⟩
      refine q _ _ (fun a o n e => ?_) ⟨x, z, hb', x0, z0, by omega⟩ (Int.emod_nonneg _ (by omega)) (Int.emod_lt_of_pos _ (by omega))
      rw [upd_ne n]
      exact e
/-- a sign of a text; an item of a list -/
def sp_of (K : PySem.W.Frag) : Sp := fun vs H Q _ => (∃ (b : Addr) (l : List Nat), vs = [.ref b, vS l] ∧ Bag H b ∧ l ≠ [] ∧ l.length ≤ 1000 ∧ ∀ c H', But b H H' → Bag H' b → c ∈ l → Q (vS [c]) H') ∨
  ∃ (b a : Addr) (xs : List V), vs = [.ref b, .ref a] ∧ Bag H b ∧ SqL K H a xs ∧ a ≠ b ∧ xs ≠ [] ∧ xs.length ≤ 1000 ∧ ∀ x H', But b H H' → Bag H' b → x ∈ xs → Q x H'
theorem ok__law_of (T : Txt K mg) : Fn P w K mg base CX0 2 "_law_of" ["bag", "some"] (sp_of K) := by
  have GT := ok__law_take (P := P) (w := w) (base := base) T
  refine T.d__law_of.fn fun f fd F => F.ok sc__law_of (fun vs H Q E h => ?_) (fun cdv A outer s H vs Q E hr h => ?_)
  · rcases h with ⟨b, l, rfl, _⟩ | ⟨b, a, xs, rfl, _⟩ <;> rfl
  · refine ⟨_, pss_one (ps_ret (pe_ix ix_seq (pv 1) (pe_fn GT hr (pa_cons (pv 0) (pa_cons (pe_callB call_len (by rfl) T.b_len PySem.boot_len (pa_cons (pv 1) pa_nil)) pa_nil))) (fun _ _ => rfl))), ?_⟩
    rcases h with ⟨b, l, rfl, hb, hn, hl, q⟩ | ⟨b, a, xs, rfl, hb, hS, na, hn, hl, q⟩
    · have hp := List.length_pos_iff.mpr hn
      have hz : (S l).length ≤ sizeLine := by rw [S_len]; exact Nat.le_trans hl (by decide)
      refine ⟨_, rfl, .ref b, rfl, _, rfl, vS l, l.length, rfl, ⟨hz, (S_len l).symm⟩, b, _, rfl, hb, by omega, by omega, fun r H' bt hb' r0 r1 => ?_⟩
      have hr' : r.toNat < l.length := by omega
      refine .inr (.inr ⟨S l, r, l[r.toNat], rfl, rfl, hz, ?_, ?_⟩)
      · have e : ((r.toNat : Nat) : Int) = r := by omega
        exact (congrArg (atI l) e.symm).trans (atI_nat (List.getElem?_eq_getElem hr'))
      · exact q _ _ bt hb' (List.getElem_mem hr')
    · have hp := List.length_pos_iff.mpr hn
      refine ⟨_, rfl, .ref b, rfl, _, rfl, .ref a, xs.length, rfl, .inl ⟨xs, hS, rfl⟩, b, _, rfl, hb, by omega, by omega, fun r H' bt hb' r0 r1 => ?_⟩
      have hr' : r.toNat < xs.length := by omega
      refine .inl ⟨a, xs, r, xs[r.toNat], rfl, rfl, bt.seq na hS, at_of (j := r.toNat) (by omega) (List.getElem?_eq_getElem hr'), ?_⟩
      exact q _ _ bt hb' (List.getElem_mem hr')
end
end Lk

namespace Lk
open PySem PySem.Spec PyProof.Rows L2
/-! ### texts drawn -/
open Fo
section
variable {P : Program} {w : World} {K : PySem.W.Frag} {mg : Str → Option Value} {base : Heap}
theorem Sg.one {c : Nat} (h : 97 ≤ c ∧ c ≤ 100) : Sg [c] := fun x hx => by
  rw [List.mem_singleton.mp hx]
  exact h
def sp_any : Sp := fun vs H Q _ => ∃ (b : Addr) (m k : Int), vs = [.ref b, .int m, .int k] ∧ Bag H b ∧ 1 ≤ m ∧ m ≤ 100 ∧ 1 ≤ k ∧ k ≤ 4 ∧ ∀ (l : List Nat) H', But b H H' → Bag H' b → 1 ≤ l.length → (l.length : Int) ≤ m → Sg l → Q (vS l) H'
theorem abcd_take {k : Int} (h1 : 1 ≤ k) (h2 : k ≤ 4) : cutL [97, 98, 99, 100] none (some k) ≠ [] ∧ (cutL [97, 98, 99, 100] none (some k)).length ≤ 4 ∧ Sg (cutL [97, 98, 99, 100] none (some k)) := by
  rw [cut_to _ (by omega)]
  have : k.toNat = 1 ∨ k.toNat = 2 ∨ k.toNat = 3 ∨ k.toNat = 4 := by omega
  rcases this with e | e | e | e <;> rw [e] <;> refine ⟨by decide, by decide, fun c hc => ?_⟩ <;> simp at hc <;> omega
theorem ok__law_any_text (T : Txt K mg) : Fn P w K mg base CX0 3 "_law_any_text" ["bag", "most", "signs"] sp_any := by
  have GT := ok__law_take (P := P) (w := w) (base := base) T
  have GO := ok__law_of (P := P) (w := w) (base := base) T
  refine T.d__law_any_text.fn fun f fd F => F.ok sc__law_any_text (fun vs H Q E h => ?_) (fun cdv A outer s H vs Q E hr h => ?_)
  · obtain ⟨b, m, k, rfl, _⟩ := h
    rfl
  · obtain ⟨b, m, k, rfl, hb, m1, m2, k1, k2, q⟩ := h
    refine ⟨_, pss_one (ps_ret (pe_joinS pe_str (pe_lc (own := [("turn", 3)]) (g := gName 3) (tt := tYes) rfl sc__law_any_text.nd (pi_range1 rfl T.b_range (pa_cons (pe_op op_add pe_int (pe_fn GT hr (pa_cons (pv 0) (pa_cons (pv 1) pa_nil)))) pa_nil))
      (blkOk_by (own := [("turn", 3)]) (N := ["bag", "most", "signs", "turn"]) (sc := defScope s__law_any_text) (by decide +kernel)) (fun _ _ _ _ _ => pg_name (i := 3) sc__law_any_text.nd rfl (Or.inl rfl)) (fun _ _ _ _ _ => pts_nil)
      (fun _ _ _ _ _ => pe_fn GO hr (pa_cons (pv 0) (pa_cons (pe_slice sl_S pe_str po_none (po_some (pv 2))) pa_nil)))))), ?_⟩
    obtain ⟨n1, n2, n3⟩ := abcd_take k1 k2
    refine ⟨⟨S [], rfl⟩, _, rfl, _, rfl, b, m, rfl, hb, m1, by omega, fun r H' bt hb' r0 r1 => ?_⟩
    refine ⟨1, r, rfl, rfl, 1 + r, rfl, by omega, by omega, fun D hD => ?_⟩
    have nDb : b ≠ D := hb'.ne hD
    have fD : H D = none := bt.free nDb.symm hD
    refine lc_range (lo := 0) (n := (1 + r).toNat) (fun i H2 => But b H (H2) ∧ Bag H2 b ∧ ∃ ys : List (List Nat), H2 D = some (.lst (ys.map vS)) ∧ ys.length = i ∧ (∀ y ∈ ys, y.length = 1) ∧ Sg ys.flatten)
      ⟨?_, ?_, [], upd_same, rfl, (fun y hy => nomatch hy), (fun c hc => nomatch hc)⟩ ?_ ?_
    · exact bt.same (Same.upd hD)
    · exact hb'.same (Same.upd hD)
    · rintro i H2 hi ⟨bt2, hb2, ys, hys, el, e1, e2⟩
      refine ⟨rfl, .ref b, rfl, .int k, rfl, k, rfl, [97, 98, 99, 100], rfl, by decide, ?_⟩
      refine .inl ⟨b, _, rfl, hb2, n1, by omega, fun c H3 bt3 hb3 hc => ?_⟩
      refine ⟨ys.map vS, bt3 _ _ nDb.symm hys, ?_, ?_⟩
      · rw [List.length_map, el]
        exact small1000 (by omega)
      · refine ⟨(bt2.trans bt3).upd2 fD, hb3.upd nDb, ys ++ [[c]], ?_, ?_, ?_, ?_⟩
        · rw [upd_same, List.map_append]
          rfl
        · rw [List.length_append, el]
          rfl
        · intro y hy
          rcases List.mem_append.mp hy with hy | hy
          · exact e1 y hy
          · rw [List.mem_singleton.mp hy]
            rfl
        · rw [List.flatten_append]
          exact e2.app (by simpa using Sg.one (n3 c hc))
    · rintro H2 ⟨bt2, hb2, ys, hys, el, e1, e2⟩
      have efl : ys.flatten.length = ys.length := by
        rw [List.length_flatten]
        clear e2 hys el
        induction ys with
        | nil => rfl
        | cons y r ih =>
          rw [List.map_cons, List.sum_cons, ih fun z hz => e1 z (List.mem_cons_of_mem _ hz), e1 y (List.mem_cons_self ..), List.length_cons]
          omega
      have esum : (ys.map (·.length)).sum = ys.length := by rw [← List.length_flatten, efl]
      refine ⟨[], D, ys, rfl, rfl, .inl (SqL.of hys), by rw [esum, el]; simp only [List.length_nil, Nat.mul_zero]; omega, ?_⟩
      rw [joinL_flat]
      exact q ys.flatten H2 bt2 hb2 (by omega) (by omega) e2
/-- text, or what is unfolded of it at its ends -/
def sp_grown : Sp := fun vs H Q _ => ∃ (b : Addr) (l : List Nat) (m : Int), vs = [.ref b, vS l, .int m] ∧ Bag H b ∧ 1 ≤ l.length ∧ l.length ≤ 100 ∧ Sg l ∧ m ≤ 100 ∧
  ∀ (r : List Nat) H', But b H H' → Bag H' b → Up r l → Sg r → ((r.length : Int) ≤ m ∨ r = l) → Q (vS r) H'
theorem ok__law_grown (T : Txt K mg) : Fn P w K mg base CX0 3 "_law_grown" ["bag", "text", "most"] sp_grown := by
  have GT := ok__law_take (P := P) (w := w) (base := base) T
  have GO := ok__law_of (P := P) (w := w) (base := base) T
  refine T.d__law_grown.fn fun f fd F => F.ok sc__law_grown (fun vs H Q E h => ?_) (fun cdv A outer s H vs Q E hr h => ?_)
  · obtain ⟨b, l, m, rfl, _⟩ := h
    rfl
  · obtain ⟨b, l, m, rfl, hb, l1, l2, sg, hm, q⟩ := h
    refine ⟨_, pss_cons (ps_for PassesOwn.never rfl (pi_range1 rfl T.b_range (pa_cons (pe_fn GT hr (pa_cons (pv 0) (pa_cons pe_int pa_nil))) pa_nil)) (pg_name (i := 3) sc__law_grown.nd rfl (.inl rfl))
        (pss_cons (ps_set (i := 4) sc__law_grown.nd rfl (.inl rfl) (pe_op op_add pe_int (pe_fn GT hr (pa_cons (pv 0) (pa_cons (pe_callB call_lenS (by rfl) T.b_len PySem.boot_len (pa_cons (pv 1) pa_nil)) pa_nil)))))
        (pss_one (ps_if (pt_cmpR op_le (pe_op op_add (pe_callB call_lenS (by rfl) T.b_len PySem.boot_len (pa_cons (pv 1) pa_nil)) (pv 4)) (pv 2) (nomark _))
          (pss_one (ps_set (i := 1) sc__law_grown.nd rfl (.inl rfl) (pe_fn GO hr (pa_cons (pv 0) (pa_cons (pe_lst (pa_cons (pe_op op_catS (pe_revS (pe_slice sl_S (pv 1) po_none (po_some (pv 4)))) (pv 1))
            (pa_cons (pe_op op_catS (pv 1) (pe_revS (pe_slice sl_S (pv 1) (po_some (pe_un un_neg (pv 4))) po_none))) pa_nil))) pa_nil))))) pss_nil))))
      (pss_one (ps_ret (pv 1))), ?_⟩
    refine ⟨.ref b, rfl, b, 9, rfl, hb, by decide, by decide, fun r H1 bt1 hb1 r0 r1 => ⟨r, rfl, by omega, by omega, ?_⟩⟩
    refine for_range (lo := 0) (n := r.toNat) (fun i σ H2 => But b H H2 ∧ Bag H2 b ∧ ∃ (t : List Nat) (v3 v4 : Option V), σ = [some (.ref b), some (vS t), some (.int m), v3, v4] ∧ Up t l ∧ Sg t ∧ ((t.length : Int) ≤ m ∨ t = l) ∧ 1 ≤ t.length ∧ t.length ≤ 100)
      ⟨bt1, hb1, l, none, none, rfl, .refl l, sg, .inr rfl, l1, l2⟩ ?_ ?_
    · rintro i σ H2 hi ⟨bt2, hb2, t, v3, v4, rfl, up, st, ht, t1, t2⟩
      refine ⟨.ref b, rfl, vS t, rfl, t, rfl, by omega, b, _, rfl, hb2, by omega, by omega, fun z H3 bt3 hb3 z0 z1 => ?_⟩
      refine ⟨_, _, rfl, rfl, ?_⟩
      have hz : 1 ≤ (1 + z).toNat ∧ (1 + z).toNat ≤ t.length := by omega
      refine ⟨_, rfl, t, rfl, by omega, _, rfl, _, _, rfl, rfl, _, rfl, _, _, rfl, rfl, _, rfl, ite2 (fun c => ?_) (fun _ => ?_)⟩
      · have c' : (t.length : Int) + (1 + z) ≤ m := of_decide_eq_true c
        have ln1 : (cutL t none (some (1 + z))).length ≤ 1000000 := Nat.le_trans (cut_len _ _ _) (by omega)
        have ln2 : (cutL t (some (-(1 + z))) none).length ≤ 1000000 := Nat.le_trans (cut_len _ _ _) (by omega)
        refine ⟨.ref b, rfl, vS t, rfl, _, rfl, _, rfl, t, rfl, by omega, _, rfl, big ln1, vS t, rfl, _, _, rfl, rfl, ?_, vS t, rfl, vS t, rfl, _, rfl, _, rfl, _, rfl, t, rfl, by omega, _, rfl, big ln2, _, _, rfl, rfl, ?_, ?_, fun p hp => ?_⟩
        · have := cut_len t none (some (1 + z))
          rw [List.length_reverse]
          omega
        · have := cut_len t (some (-(1 + z))) none
          rw [List.length_reverse]
          omega
        · show 2 ≤ sizeLine
          decide
        · have npb : b ≠ p := hb3.ne hp
          have fp : H p = none := (bt2.trans bt3).free npb.symm hp
          refine .inr ⟨b, p, _, rfl, hb3.upd npb, SqL.of upd_same, npb.symm, by simp, by show 2 ≤ 1000; decide, fun x H4 bt4 hb4 hx => ?_⟩
          have fin : ∀ u : List Nat, Up u t → Sg u → u.length = t.length + (1 + z).toNat → (But b H H4 ∧ Bag H4 b ∧ ∃ (t' : List Nat) (v3' v4' : Option V), ([some (V.ref b), some (vS u), some (.int m), some (.int (0 + (i : Int))), some (.int (1 + z))] : L2.St) = [some (.ref b), some (vS t'), some (.int m), v3', v4'] ∧ Up t' l ∧ Sg t' ∧ ((t'.length : Int) ≤ m ∨ t' = l) ∧ 1 ≤ t'.length ∧ t'.length ≤ 100) := fun u hu su hl => by
            refine ⟨?_, hb4, u, _, _, rfl, hu.trans up, su, .inl (by omega), by omega, by omega⟩
            exact ((bt2.trans bt3).upd2 fp).trans bt4
          rcases List.mem_cons.mp hx with e | hx
          · subst e
            rw [cut_to _ (by omega)]
            exact fin _ (up_left hz.1 hz.2) ((st.take _).rev.app st) (by rw [List.length_append, List.length_reverse, List.length_take]; omega)
          · have e := List.mem_singleton.mp hx
            subst e
            rw [cut_neg _ (by omega) (by omega)]
            have e2 : ((t.length : Int) + -(1 + z)).toNat = t.length - (1 + z).toNat := by omega
            rw [e2]
            exact fin _ (up_right hz.1 hz.2) (st.app (st.drop _).rev) (by rw [List.length_append, List.length_reverse, List.length_drop]; omega)
      · exact ⟨bt2.trans bt3, hb3, t, _, _, rfl, up, st, ht, t1, t2⟩
    · rintro σ H2 ⟨bt2, hb2, t, v3, v4, rfl, up, st, ht, t1, t2⟩
      exact ⟨_, rfl, q t H2 bt2 hb2 up st ht⟩
/-- any strip of at most so many cells -/
def sp_strip : Sp := fun vs H Q _ => ∃ (b : Addr) (m : Int), vs = [.ref b, .int m] ∧ Bag H b ∧ 5 ≤ m ∧ m ≤ 100 ∧ ∀ (r : List Nat) H', But b H H' → Bag H' b → 1 ≤ r.length → (r.length : Int) ≤ m → Sg r → Q (vS r) H'
theorem ok__law_strip (T : Txt K mg) : Fn P w K mg base CX0 4 "_law_strip" ["bag", "most"] sp_strip := by
  have GT := ok__law_take (P := P) (w := w) (base := base) T
  have GA := ok__law_any_text (P := P) (w := w) (base := base) T
  have GG := ok__law_grown (P := P) (w := w) (base := base) T
  refine T.d__law_strip.fn fun f fd F => F.ok sc__law_strip (fun vs H Q E h => ?_) (fun cdv A outer s H vs Q E hr h => ?_)
  · obtain ⟨b, m, rfl, _⟩ := h
    rfl
  · obtain ⟨b, m, rfl, hb, m1, m2, q⟩ := h
    refine ⟨_, pss_cons (ps_set (i := 2) sc__law_strip.nd rfl (.inl rfl) (pe_fn GT hr (pa_cons (pv 0) (pa_cons pe_int pa_nil))))
      (pss_cons (ps_if (pt_cmpR op_eq (pv 2) pe_int (nomark _)) (pss_one (ps_ret (pe_fn GA hr (pa_cons (pv 0) (pa_cons (pv 1) (pa_cons (pe_op op_add pe_int (pe_fn GT hr (pa_cons (pv 0) (pa_cons pe_int pa_nil)))) pa_nil)))))) pss_nil)
      (pss_one (ps_ret (pe_fn GG hr (pa_cons (pv 0) (pa_cons (pe_fn GA hr (pa_cons (pv 0) (pa_cons (pe_ix ix_list (pe_lst (pa_cons pe_int (pa_cons pe_int (pa_cons pe_int (pa_cons pe_int pa_nil))))) (pv 2) (fun _ _ => rfl))
        (pa_cons (pe_ix ix_list (pe_lst (pa_cons pe_int (pa_cons pe_int (pa_cons pe_int (pa_cons pe_int pa_nil))))) (pv 2) (fun _ _ => rfl)) pa_nil)))) (pa_cons (pv 1) pa_nil))))))), ?_⟩
    refine ⟨.ref b, rfl, b, 4, rfl, hb, by decide, by decide, fun r H1 bt1 hb1 r0 r1 => ?_⟩
    refine ⟨_, rfl, rfl, _, rfl, ite2 (fun c => ?_) (fun _ => ?_)⟩
    · refine ⟨.ref b, rfl, .int m, rfl, _, rfl, b, 3, rfl, hb1, by decide, by decide, fun z H2 bt2 hb2 z0 z1 => ?_⟩
      refine ⟨_, _, rfl, rfl, b, m, _, rfl, hb2, by omega, by omega, by omega, by omega, fun l H3 bt3 hb3 l1 l2 sg => ?_⟩
      exact q l H3 ((bt1.trans bt2).trans bt3) hb3 l1 l2 sg
    · refine ⟨.ref b, rfl, .ref b, rfl, (by show 4 ≤ sizeLine; decide), fun p hp => ?_⟩
      have npb : b ≠ p := hb1.ne hp
      have hr4 : r = 0 ∨ r = 1 ∨ r = 2 ∨ r = 3 := by omega
      obtain ⟨u, eu, u1, u2⟩ : ∃ u : Int, atI [V.int 1, .int 3, .int 5, .int 4] r = some (.int u) ∧ 1 ≤ u ∧ u ≤ 5 := by
        rcases hr4 with e | e | e | e <;> subst e
        · exact ⟨1, rfl, by decide, by decide⟩
        · exact ⟨3, rfl, by decide, by decide⟩
        · exact ⟨5, rfl, by decide, by decide⟩
        · exact ⟨4, rfl, by decide, by decide⟩
      obtain ⟨u', eu', u1', u2'⟩ : ∃ u : Int, atI [V.int 2, .int 2, .int 3, .int 4] r = some (.int u) ∧ 1 ≤ u ∧ u ≤ 4 := by
        rcases hr4 with e | e | e | e <;> subst e
        · exact ⟨2, rfl, by decide, by decide⟩
        · exact ⟨2, rfl, by decide, by decide⟩
        · exact ⟨3, rfl, by decide, by decide⟩
        · exact ⟨4, rfl, by decide, by decide⟩
      refine ⟨_, rfl, p, _, r, _, rfl, rfl, SqL.of upd_same, eu, (by show 4 ≤ sizeLine; decide), fun p2 hp2 => ?_⟩
      have npb2 : b ≠ p2 := (hb1.upd npb).ne hp2
      refine ⟨_, rfl, p2, _, r, _, rfl, rfl, SqL.of upd_same, eu', b, _, _, rfl, (hb1.upd npb).upd npb2, u1, by omega, u1', u2', fun l H2 bt2 hb2 l1 l2 sg => ?_⟩
      refine ⟨.int m, rfl, b, l, m, rfl, hb2, l1, by omega, sg, m2, fun t H3 bt3 hb3 up st ht => ?_⟩
      have fp : H p = none := bt1.free npb.symm hp
      have fp2 : H p2 = none := (bt1.upd2 fp).free npb2.symm hp2
      refine q t H3 ((((bt1.upd2 fp).upd2 fp2).trans bt2).trans bt3) hb3 ?_ ?_ st
      · obtain ⟨x, c1, c2⟩ := up
        have := c1.len
        have := c2.len
        omega
      · rcases ht with ht | ht
        · exact ht
        · subst ht
          omega
end
end Lk

namespace Lk
open PySem PySem.Spec PyProof.Rows L2
/-! ### creases -/
open Fo
section
variable {P : Program} {w : World} {K : PySem.W.Frag} {mg : Str → Option Value} {base : Heap}
def sp_lies : Sp := fun vs H Q _ => ∃ (l : List Nat) (c : Nat), vs = [vS l, vI c] ∧ l.length ≤ 1000 ∧ 1 ≤ c ∧ c < l.length ∧ Q (.bl (decide (Lies l c))) H
theorem ok__law_lies (T : Txt K mg) : Fn P w K mg base CX0 1 "_law_lies" ["text", "crease"] sp_lies := by
  refine T.d__law_lies.fn fun f fd F => F.ok sc__law_lies (fun vs H Q E h => ?_) (fun cdv A outer s H vs Q E hr h => ?_)
  · obtain ⟨l, c, rfl, _⟩ := h
    rfl
  · obtain ⟨l, c, rfl, hl, c1, c2, q⟩ := h
    refine ⟨_, pss_cons (ps_for PassesOwn.never rfl (pi_range1 rfl T.b_range (pa_cons (pe_callB call_lenS (by rfl) T.b_len PySem.boot_len (pa_cons (pv 0) pa_nil)) pa_nil)) (pg_name (i := 2) sc__law_lies.nd rfl (.inl rfl))
        (pss_cons (ps_par (i := 3) (j := 4) (by rfl) sc__law_lies.nd rfl rfl (by decide) rfl rfl (pa_cons (pe_op op_sub (pe_op op_sub (pv 1) pe_int) (pv 2)) (pa_cons (pe_op op_add (pv 1) (pv 2)) pa_nil)) (by rfl))
        (pss_one (ps_if (PW.pt (pw_and (pt_cmpR op_ge (pv 3) pe_int (nomark _)) (pw_and (pt_cmpR op_lt (pv 4) (pe_callB call_lenS (by rfl) T.b_len PySem.boot_len (pa_cons (pv 0) pa_nil)) (nomark _))
          (pw_and1 (pt_cmpR op_ne (pe_ix ix_S (pv 0) (pv 3) (fun _ _ => rfl)) (pe_ix ix_S (pv 0) (pv 4) (fun _ _ => rfl)) (nomark _)))))) (pss_one (ps_ret pe_bl)) pss_nil))))
      (pss_one (ps_ret pe_bl)), ?_⟩
    refine ⟨_, rfl, l, rfl, by omega, _, rfl, by omega, by omega, ?_⟩
    refine for_range (lo := 0) (n := ((l.length : Nat) : Int).toNat) (fun i σ H2 => H2 = H ∧ (∀ j, j < i → j < c → c + j < l.length → l[c - 1 - j]? = l[c + j]?) ∧ ∃ v2 v3 v4 : Option V, σ = [some (vS l), some (vI c), v2, v3, v4])
      ⟨rfl, (fun j hj => absurd hj (Nat.not_lt_zero _)), none, none, none, rfl⟩ ?_ ?_
    · rintro i σ H2 hi ⟨rfl, hj, v2, v3, v4, rfl⟩
      refine ⟨_, rfl, _, _, rfl, rfl, _, rfl, _, _, rfl, rfl, _, rfl, _, rfl, _, _, rfl, rfl, _, _, rfl, ?_⟩
      have next : (i < c → c + i < l.length → l[c - 1 - i]? = l[c + i]?) → ∀ j, j < i + 1 → j < c → c + j < l.length → l[c - 1 - j]? = l[c + j]? := fun h j h1 h2 h3 => by
        by_cases e : j = i
        · subst e
          exact h h2 h3
        · exact hj j (by omega) h2 h3
      refine ⟨_, rfl, _, _, rfl, rfl, _, rfl, ite2 (fun c3 => ?_) (fun c3 => ?_)⟩
      · have c3' : (0 : Int) ≤ (c : Int) - 1 - (0 + (i : Int)) := of_decide_eq_true c3
        refine ⟨_, rfl, _, rfl, l, rfl, by omega, _, _, rfl, rfl, _, rfl, ite2 (fun c4 => ?_) (fun c4 => ?_)⟩
        · have c4' : (c : Int) + (0 + (i : Int)) < (l.length : Int) := of_decide_eq_true c4
          have g1 : c - 1 - i < l.length := by omega
          have g2 : c + i < l.length := by omega
          have i1 : (c : Int) - 1 - (0 + (i : Int)) = ((c - 1 - i : Nat) : Int) := by omega
          have i2 : (c : Int) + (0 + (i : Int)) = ((c + i : Nat) : Int) := by omega
          refine ⟨_, rfl, _, rfl, l, _, l[c - 1 - i], rfl, rfl, by omega, (congrArg (atI l) i1).trans (atI_nat (List.getElem?_eq_getElem g1)), _, rfl, _, rfl, l, _, l[c + i], rfl, rfl, by omega, (congrArg (atI l) i2).trans (atI_nat (List.getElem?_eq_getElem g2)), rfl, _, rfl, ?_⟩
          by_cases e : l[c - 1 - i] = l[c + i]
          · rw [e]
            refine iteNS rfl ?_
            exact ⟨rfl, next fun _ _ => by rw [List.getElem?_eq_getElem g1, List.getElem?_eq_getElem g2, e], _, _, _, rfl⟩
          · have hne : ¬ (vS [l[c - 1 - i]] = vS [l[c + i]]) := fun z => e (List.cons.inj (vS_inj.mp z)).1
            rw [decide_eq_false hne]
            refine iteT ?_
            have hf : decide (Lies l c) = false := decide_eq_false fun z => e (by
              have := z i (by omega) g2
              rw [List.getElem?_eq_getElem g1, List.getElem?_eq_getElem g2] at this
              exact Option.some.inj this)
            rw [hf] at q
            exact q
        · have c4' : ¬ (c : Int) + (0 + (i : Int)) < (l.length : Int) := fun z => c4 (decide_eq_true z)
          refine iteF ?_
          exact ⟨rfl, next fun _ h => absurd h (by omega), _, _, _, rfl⟩
      · have c3' : ¬ (0 : Int) ≤ (c : Int) - 1 - (0 + (i : Int)) := fun z => c3 (decide_eq_true z)
        refine iteF ?_
        exact ⟨rfl, next fun h _ => absurd h (by omega), _, _, _, rfl⟩
    · rintro σ H2 ⟨rfl, hj, v2, v3, v4, rfl⟩
      have ht : decide (Lies l c) = true := decide_eq_true fun i h1 h2 => hj i (by omega) h1 h2
      rw [ht] at q
      exact q
def sp_creases : Sp := fun vs H Q _ => ∃ (l : List Nat), vs = [vS l] ∧ l.length ≤ 1000 ∧ ∀ p, H p = none → Q (.ref p) (upd H p (.lst ((creases l).map vI)))
theorem ok__law_creases (T : Txt K mg) : Fn P w K mg base CX0 2 "_law_creases" ["text"] sp_creases := by
  have GL := ok__law_lies (P := P) (w := w) (base := base) T
  refine T.d__law_creases.fn fun f fd F => F.ok sc__law_creases (fun vs H Q E h => ?_) (fun cdv A outer s H vs Q E hr h => ?_)
  · obtain ⟨l, rfl, _⟩ := h
    rfl
  · obtain ⟨l, rfl, hl, q⟩ := h
    refine ⟨_, pss_one (ps_ret (pe_lc (own := [("crease", 1)]) (g := gName 1) rfl sc__law_creases.nd (pi_range2 rfl T.b_range (pa_cons pe_int (pa_cons (pe_callB call_lenS (by rfl) T.b_len PySem.boot_len (pa_cons (pv 0) pa_nil)) pa_nil)))
      (blkOk_by (own := [("crease", 1)]) (N := ["text", "crease"]) (sc := defScope s__law_creases) (by decide +kernel)) (fun _ _ _ _ _ => pg_name (i := 1) sc__law_creases.nd rfl (Or.inl rfl))
      (fun _ _ _ _ _ => pts_one (pt_val (pe_fn GL hr (pa_cons (pv 0) (pa_cons (pv 1) pa_nil))))) (fun _ _ _ _ _ => pv 1))), ?_⟩
    refine ⟨_, rfl, l, rfl, by omega, _, _, rfl, ⟨by decide, by decide, by omega, by omega⟩, fun D hD => ?_⟩
    refine lc_range (lo := 1) (n := ((l.length : Int) - 1).toNat) (fun i H2 => H2 = upd H D (.lst ((crTo l i).map vI))) rfl ?_ ?_
    · rintro i H2 hi rfl
      refine ⟨rfl, vS l, rfl, .int (1 + (i : Int)), rfl, l, 1 + i, congrArg (fun z => [vS l, V.int z]) (by omega), hl, by omega, by omega, ?_⟩
      by_cases e : Lies l (1 + i)
      · rw [decide_eq_true e]
        refine ⟨_, rfl, iteT ?_⟩
        refine ⟨_, rfl, _, upd_same, ?_, ?_⟩
        · rw [List.length_map]
          have := crTo_len l i
          exact small1000 (by omega)
        · rw [upd_upd, crTo_yes e, List.map_append]
          rfl
      · rw [decide_eq_false e]
        refine ⟨_, rfl, iteF ?_⟩
        rw [crTo_no e]
    · rintro H2 rfl
      have e : ((l.length : Int) - 1).toNat = l.length - 1 := by omega
      rw [e, crTo_all]
      exact q D hD
def sp_left : Sp := fun vs H Q _ => ∃ (l : List Nat) (c : Nat), vs = [vS l, vI c] ∧ l.length ≤ 1000 ∧ c ≤ l.length ∧ Q (vS (left l c)) H
theorem ok__law_left (T : Txt K mg) : Fn P w K mg base CX0 1 "_law_left" ["text", "crease"] sp_left := by
  refine T.d__law_left.fn fun f fd F => F.ok sc__law_left (fun vs H Q E h => ?_) (fun cdv A outer s H vs Q E hr h => ?_)
  · obtain ⟨l, c, rfl, _⟩ := h
    rfl
  · obtain ⟨l, c, rfl, hl, hc, q⟩ := h
    refine ⟨_, pss_one (ps_ret (pe_ifExp (pt_cmpR op_gt (pv 1) (pe_op op_sub (pe_callB call_lenS (by rfl) T.b_len PySem.boot_len (pa_cons (pv 0) pa_nil)) (pv 1)) (nomark _))
      (pe_slice sl_S (pv 0) po_none (po_some (pv 1))) (pe_slice sl_S (pv 0) (po_some (pv 1)) po_none))), ?_⟩
    refine ⟨_, rfl, _, rfl, l, rfl, by omega, _, rfl, _, _, rfl, rfl, _, _, rfl, rfl, _, rfl, ite2 (fun k => ?_) (fun k => ?_)⟩
    · have c' : (l.length : Int) - (c : Int) < (c : Int) := of_decide_eq_true k
      refine ⟨_, rfl, _, rfl, _, rfl, l, rfl, by omega, ?_⟩
      rw [cut_to _ (by omega), Int.toNat_natCast]
      unfold left at q
      rw [if_neg (by omega)] at q
      exact q
    · have c' : ¬ (l.length : Int) - (c : Int) < (c : Int) := fun z => k (decide_eq_true z)
      refine ⟨_, rfl, _, rfl, _, rfl, l, rfl, by omega, ?_⟩
      rw [cut_from _ (by omega), Int.toNat_natCast]
      unfold left at q
      rw [if_pos (by omega)] at q
      exact q
/-! ### the program's -/
theorem ok_lies_well (T : Txt K mg) : Fn P w K mg base CX0 1 "lies_well" ["strip", "crease"] sp_lies := by
  refine T.d_lies_well.fn fun f fd F => F.ok sc_lies_well (fun vs H Q E h => ?_) (fun cdv A outer s H vs Q E hr h => ?_)
  · obtain ⟨l, c, rfl, _⟩ := h
    rfl
  · obtain ⟨l, c, rfl, hl, c1, c2, q⟩ := h
    refine ⟨_, pss_cons (ps_set (i := 2) sc_lies_well.nd rfl (.inl rfl) (pe_callB (call_min2 rfl) (by rfl) T.b_min (by decide +kernel) (pa_cons (pv 1) (pa_cons (pe_op op_sub (pe_callB call_lenS (by rfl) T.b_len PySem.boot_len (pa_cons (pv 0) pa_nil)) (pv 1)) pa_nil))))
      (pss_one (ps_ret (pe_cmpR op_eq (pe_slice sl_S (pv 0) (po_some (pe_op op_sub (pv 1) (pv 2))) (po_some (pv 1))) (pe_revS (pe_slice sl_S (pv 0) (po_some (pv 1)) (po_some (pe_op op_add (pv 1) (pv 2))))) (nomark _)))), ?_⟩
    refine ⟨_, rfl, _, rfl, l, rfl, by omega, _, rfl, _, _, rfl, rfl, _, _, rfl, ?_⟩
    have em : (if (l.length : Int) - (c : Int) < (c : Int) then (l.length : Int) - (c : Int) else (c : Int)) = ((min c (l.length - c) : Nat) : Int) := by split <;> omega
    rw [em]
    have hr1 : min c (l.length - c) ≤ c := Nat.min_le_left _ _
    have hr2 : min c (l.length - c) ≤ l.length - c := Nat.min_le_right _ _
    have main := lies_rev_iff c1 c2
    generalize min c (l.length - c) = r at hr1 hr2 main ⊢
    refine ⟨vS l, rfl, _, rfl, _, rfl, _, _, rfl, rfl, _, rfl, _, rfl, _, rfl, l, rfl, by omega, vS l, rfl, _, rfl, _, rfl, _, rfl, _, rfl, _, _, rfl, rfl, _, rfl, l, rfl, by omega, _, rfl, big (Nat.le_trans (cut_len _ _ _) (by omega)), rfl, ?_⟩
    rw [vS_dec]
    have e1 : cutL l (some ((c : Int) - (r : Int))) (some (c : Int)) = (l.drop (c - r)).take (c - (c - r)) := by
      rw [cut_mid _ (by omega) (by omega) (by omega)]
      congr 1
      · omega
      · congr 1
        omega
    have e2 : cutL l (some (c : Int)) (some ((c : Int) + (r : Int))) = (l.drop c).take (c + r - c) := by
      rw [cut_mid _ (by omega) (by omega) (by omega)]
      congr 1
    rw [e1, e2, decide_eq_decide.mpr main]
    exact q
theorem ok_left_of (T : Txt K mg) : Fn P w K mg base CX0 1 "left_of" ["strip", "crease"] sp_left := by
  refine T.d_left_of.fn fun f fd F => F.ok sc_left_of (fun vs H Q E h => ?_) (fun cdv A outer s H vs Q E hr h => ?_)
  · obtain ⟨l, c, rfl, _⟩ := h
    rfl
  · obtain ⟨l, c, rfl, hl, hc, q⟩ := h
    refine ⟨_, pss_one (ps_ret (pe_ifExp (pt_cmpR op_le (pe_op op_mul pe_int (pv 1)) (pe_callB call_lenS (by rfl) T.b_len PySem.boot_len (pa_cons (pv 0) pa_nil)) (nomark _))
      (pe_slice sl_S (pv 0) (po_some (pv 1)) po_none) (pe_slice sl_S (pv 0) po_none (po_some (pv 1))))), ?_⟩
    refine ⟨_, rfl, _, _, rfl, rfl, .inl ⟨by decide, by decide⟩, _, rfl, l, rfl, by omega, _, _, rfl, rfl, _, rfl, ite2 (fun k => ?_) (fun k => ?_)⟩
    · have c' : 2 * (c : Int) ≤ (l.length : Int) := of_decide_eq_true k
      refine ⟨_, rfl, _, rfl, _, rfl, l, rfl, by omega, ?_⟩
      rw [cut_from _ (by omega), Int.toNat_natCast]
      unfold left at q
      rw [if_pos (by omega)] at q
      exact q
    · have c' : ¬ 2 * (c : Int) ≤ (l.length : Int) := fun z => k (decide_eq_true z)
      refine ⟨_, rfl, _, rfl, _, rfl, l, rfl, by omega, ?_⟩
      rw [cut_to _ (by omega), Int.toNat_natCast]
      unfold left at q
      rw [if_neg (by omega)] at q
      exact q
end
end Lk

namespace Lk
open PySem PySem.Spec PyProof.Rows L2
/-! ### is_from, is_crease, folded -/
open Fo
section
variable {P : Program} {w : World} {K : PySem.W.Frag} {mg : Str → Option Value} {base : Heap}
/-- not an int -/
def NoInt (K : PySem.W.Frag) (H : Hp) (x : V) : Prop := (∃ b, x = .bl b) ∨ ∃ t, TyX K H x t ∧ PySem.W.kitOne K t (.type "int") = some false
def sp_is_from (K : PySem.W.Frag) : Sp := fun vs H Q _ => (∃ x lo hi : Int, vs = [.int x, .int lo, .int hi] ∧ Q (.bl (decide (lo ≤ x ∧ x ≤ hi))) H) ∨
  ∃ (x : V) (lo hi : Int), vs = [x, .int lo, .int hi] ∧ NoInt K H x ∧ Q (.bl false) H
theorem ok_is_from (T : Txt K mg) : Fn P w K mg base CX0 1 "is_from" ["thing", "low", "high"] (sp_is_from K) := by
  refine T.d_is_from.fn fun f fd F => F.ok sc_is_from (fun vs H Q E h => ?_) (fun cdv A outer s H vs Q E hr h => ?_)
  · rcases h with ⟨x, lo, hi, rfl, _⟩ | ⟨x, lo, hi, rfl, _⟩ <;> rfl
  · 
    refine ⟨_, pss_one (ps_ret (pe_and (pe_callB call_isi (by rfl) T.b_isinstance (by decide +kernel) (pa_cons (pv 0) (pa_cons (pe_bltn (v := .ty "int") (by rfl) T.b_int (by decide +kernel) rfl) pa_nil))) (pe_and (pe_not (pe_callB call_isi (by rfl) T.b_isinstance (by decide +kernel) (pa_cons (pv 0) (pa_cons (pe_bltn (v := .ty "bool") (by rfl) T.b_bool (by decide +kernel) rfl) pa_nil)))) (pe_one (pe_chain op_le op_le (pv 1) (pv 0) (pv 2)))))), ?_⟩
    rcases h with ⟨x, lo, hi, rfl, q⟩ | ⟨x, lo, hi, rfl, ⟨b, rfl⟩ | ⟨t, ht, hk⟩, q⟩
    · refine ⟨_, rfl, .int x, .ty "int", .type "int", .type "int", true, rfl, .ty _, .base (.int _), kit_ty (by decide +kernel), true, rfl, iteT ?_⟩
      refine ⟨_, rfl, .int x, .ty "bool", .type "int", .type "bool", false, rfl, .ty _, .base (.int _), kit_ty (by decide +kernel), false, rfl, true, rfl, iteT ?_⟩
      refine ⟨_, rfl, _, rfl, _, _, rfl, rfl, _, rfl, ite2 (fun c => ?_) (fun c => ?_)⟩
      · have c' : lo ≤ x := of_decide_eq_true c
        refine ⟨_, rfl, _, _, rfl, rfl, ?_⟩
        rw [decide_eq_decide.mpr (show (lo ≤ x ∧ x ≤ hi) ↔ x ≤ hi from ⟨fun z => z.2, fun z => ⟨c', z⟩⟩)] at q
        exact q
      · have c' : ¬ lo ≤ x := fun z => c (decide_eq_true z)
        rw [decide_eq_false (fun z => c' z.1)] at q
        exact q
    · refine ⟨_, rfl, .bl b, .ty "int", .type "bool", .type "int", true, rfl, .ty _, .base (.bl _), kit_ty (by decide +kernel), true, rfl, iteT ?_⟩
      exact ⟨_, rfl, .bl b, .ty "bool", .type "bool", .type "bool", true, rfl, .ty _, .base (.bl _), kit_ty (by decide +kernel), true, rfl, false, rfl, q⟩
    · exact ⟨_, rfl, x, .ty "int", t, .type "int", false, rfl, .ty _, ht, hk, false, rfl, q⟩
def sp_is_crease (K : PySem.W.Frag) : Sp := fun vs H Q _ => (∃ (l : L) (x : Int), vs = [vS l, .int x] ∧ l.length ≤ 1000 ∧ Q (.bl (decide (0 ≤ x ∧ Cr l x.toNat))) H) ∨
  ∃ (l : L) (x : V), vs = [vS l, x] ∧ l.length ≤ 1000 ∧ NoInt K H x ∧ Q (.bl false) H
theorem ok_is_crease (T : Txt K mg) : Fn P w K mg base CX0 2 "is_crease" ["strip", "thing"] (sp_is_crease K) := by
  have G_is_from := ok_is_from (P := P) (w := w) (base := base) T
  have G_lies_well := ok_lies_well (P := P) (w := w) (base := base) T
  refine T.d_is_crease.fn fun f fd F => F.ok sc_is_crease (fun vs H Q E h => ?_) (fun cdv A outer s H vs Q E hr h => ?_)
  · rcases h with ⟨l, x, rfl, _⟩ | ⟨l, x, rfl, _⟩ <;> rfl
  · 
    refine ⟨_, pss_one (ps_ret (pe_and (pe_fn G_is_from hr (pa_cons (pv 1) (pa_cons pe_int (pa_cons (pe_op op_sub (pe_callB call_lenS (by rfl) T.b_len PySem.boot_len (pa_cons (pv 0) pa_nil)) pe_int) pa_nil)))) (pe_one (pe_fn G_lies_well hr (pa_cons (pv 0) (pa_cons (pv 1) pa_nil)))))), ?_⟩
    rcases h with ⟨l, x, rfl, hl, q⟩ | ⟨l, x, rfl, hl, hx, q⟩
    · refine ⟨_, rfl, _, rfl, l, rfl, by omega, _, _, rfl, rfl, .inl ⟨x, 1, _, rfl, ?_⟩⟩
      refine ⟨_, rfl, ite2 (fun c => ?_) (fun c => ?_)⟩
      · have c' : 1 ≤ x ∧ x ≤ (l.length : Int) - 1 := of_decide_eq_true c
        refine ⟨_, rfl, _, rfl, l, x.toNat, by show [vS l, V.int x] = [vS l, V.int ((x.toNat : Nat) : Int)]; rw [Int.toNat_of_nonneg (by omega)], hl, by omega, by omega, ?_⟩
        rw [decide_eq_decide.mpr (show (0 ≤ x ∧ Cr l x.toNat) ↔ Lies l x.toNat from ⟨fun z => z.2.2.2, fun z => ⟨by omega, by omega, by omega, z⟩⟩)] at q
        exact q
      · have c' : ¬ (1 ≤ x ∧ x ≤ (l.length : Int) - 1) := fun z => c (decide_eq_true z)
        rw [decide_eq_false (fun z => c' ⟨by have := z.2.1; omega, by have := z.2.2.1; omega⟩)] at q
        exact q
    · exact ⟨_, rfl, _, rfl, l, rfl, by omega, _, _, rfl, rfl, .inr ⟨x, 1, _, rfl, hx, false, rfl, q⟩⟩
end
end Lk

namespace Lk
open PySem PySem.Spec PyProof.Rows L2
/-! ### best_row, folded_row -/
open Fo
section
variable {P : Program} {w : World} {K : PySem.W.Frag} {mg : Str → Option Value} {base : Heap}
theorem Same.of_but {r : Addr} {H H4 H3 : Hp} (s : Same H H4) (n : H r = none) (e : But r H4 H3) : Same H H3 := fun a o q => e a o (ne_of_none q n) (s a o q)
/-- what is found at r: pairs of a length and a row -/
structure FoundAt (H0 H : Hp) (r : Addr) (zs : List (Addr × Addr × List Nat)) : Prop where
  at_ : H r = some (.lst (zs.map fun z => V.ref z.1))
  tup : ∀ z ∈ zs, H z.1 = some (.tup [.int (z.2.2.length : Int), .ref z.2.1])
  row : ∀ z ∈ zs, H z.2.1 = some (.lst (z.2.2.map vI)) ∧ H0 z.2.1 = none ∧ z.2.1 ≠ r
theorem FoundAt.same {H0 H H' : Hp} {r : Addr} {zs : List (Addr × Addr × List Nat)} (f : FoundAt H0 H r zs) (s : Same H H') : FoundAt H0 H' r zs :=
  ⟨s _ _ f.at_, fun z hz => s _ _ (f.tup z hz), fun z hz => ⟨s _ _ (f.row z hz).1, (f.row z hz).2⟩⟩
/-- best rows known -/
def Known (few : Bool) (H0 H : Hp) (kvs : List (Key × V)) (ts : List L) : Prop := ∀ t ∈ ts, ∃ p, valV kvs (Sum.inr (S t) : Key) = some (.ref p) ∧ H0 p = none ∧ H p = some (.lst ((best few t).map vI))
theorem filt_take9 {α : Type} (p : α → Bool) (xs : List α) (i : Nat) (u : α) (h : xs[i]? = some u) : (xs.take (i + 1)).filter p = (xs.take i).filter p ++ (if p u then [u] else []) := by
  rw [List.take_add_one, h, List.filter_append]
  congr 1
  by_cases hp : p u <;> simp [hp]
def sp_best : Sp := fun vs H Q _ => ∃ (l : L) (few : Bool), vs = [vS l, .bl few] ∧ l.length ≤ 100 ∧ ∀ H' p, H p = none → Same H H' → H' p = some (.lst ((best few l).map vI)) → Q (.ref p) H'
def sp_folds (few : Bool) : Sp := fun vs H Q _ => ∃ (l : L), vs = [vS l] ∧ l.length ≤ 100 ∧ ∀ H' p, H p = none → Same H H' → H' p = some (.lst ((best few l).map vI)) → Q (.ref p) H'
theorem rowOk_snoc {s t u : L} {r : List Nat} {c : Nat} (h : RowOk s r t) (hc : Cr t c) (e : left t c = u) : RowOk s (r ++ [c]) u := by
  induction r generalizing s with
  | nil => rw [show s = t from h]; exact ⟨hc, e⟩
  | cons d r ih => exact ⟨h.1, ih h.2⟩
def sp_folded_row (K : PySem.W.Frag) : Sp := fun vs H Q _ => ∃ (l t : L) (r : List Nat) (a : Addr), vs = [vS l, .ref a] ∧ l.length ≤ 1000 ∧ SqL K H a (r.map vI) ∧ RowOk l r t ∧ ∀ H', Same H H' → Q (vS t) H'
theorem ok_folded_row (T : Txt K mg) : Fn P w K mg base CX0 3 "folded_row" ["strip", "row"] (sp_folded_row K) := by
  have G_is_crease := ok_is_crease (P := P) (w := w) (base := base) T
  have G_left_of := ok_left_of (P := P) (w := w) (base := base) T
  refine T.d_folded_row.fn fun f fd F => F.ok sc_folded_row (fun vs H Q E h => ?_) (fun cdv A outer s H vs Q E hr h => ?_)
  · obtain ⟨l, t, r, a, rfl, _⟩ := h
    rfl
  · obtain ⟨l, t, r, a, rfl, hl, hS, hok, q⟩ := h
    refine ⟨_, pss_cons (ps_for PassesOwn.never rfl (pi_enum (by rfl) T.b_enumerate (pa_cons (pv 1) pa_nil)) (pg_tup rfl (pgs_cons (pg_name (i := 2) sc_folded_row.nd rfl (.inl rfl)) (pgs_cons (pg_name (i := 3) sc_folded_row.nd rfl (.inl rfl)) pgs_nil)))
      (pss_cons (ps_if (pt_not (pt_val (pe_fn G_is_crease hr (pa_cons (pv 0) (pa_cons (pv 3) pa_nil)))))
        (pss_one ps_never)
        pss_nil)
      (pss_one (ps_set (i := 0) sc_folded_row.nd rfl (.inl rfl) (pe_fn G_left_of hr (pa_cons (pv 0) (pa_cons (pv 3) pa_nil)))))))
    (pss_one (ps_ret (pv 0))), ?_⟩
    refine ⟨_, rfl, a, _, rfl, hS, ?_⟩
    refine for_it walk_enum (fun i σ H' => Same H H' ∧ ∃ (s : L) (v2 v3 : Option V), σ = [some (vS s), some (.ref a), v2, v3] ∧ s.length ≤ l.length ∧ RowOk s (r.drop i) t) ⟨Same.refl H, l, none, none, rfl, Nat.le_refl _, hok⟩ (fun i σ H' _ h => h.1.seq hS) ?_ ?_
    · rintro i x σ H1 H' hi ⟨sm, u, v2, v3, rfl, ul, ok⟩ ⟨p, y, z, rfl, hp, rfl, hy, hz⟩
      have hy' : V.int (i : Nat) = y := Option.some.inj hy
      subst hy'
      obtain ⟨c, hc, rfl⟩ := ym_of hz
      have hic : i < r.length := (List.getElem?_eq_some_iff.mp hc).1
      have ed : r.drop i = c :: r.drop (i + 1) := by
        rw [List.drop_eq_getElem_cons hic]
        congr 1
        exact (List.getElem?_eq_some_iff.mp hc).2
      rw [ed] at ok
      have hcr := ok.1
      refine ⟨p, _, rfl, SqT.of upd_same, rfl, _, _, rfl, _, _, rfl, rfl, ?_⟩
      refine ⟨_, rfl, _, rfl, .inl ⟨u, c, rfl, by omega, ?_⟩⟩
      rw [decide_eq_true (show 0 ≤ (c : Int) ∧ Cr u (c : Int).toNat from ⟨by omega, by rw [Int.toNat_natCast]; exact hcr⟩)]
      refine ⟨_, rfl, iteF ?_⟩
      refine ⟨_, rfl, _, rfl, u, c, rfl, by omega, Nat.le_of_lt hcr.2.1, ?_⟩
      have := (left_len hcr).1
      exact ⟨Same.upd' sm hp, left u c, _, _, rfl, by omega, ok.2⟩
    · rintro σ H' ⟨sm, u, v2, v3, rfl, ul, ok⟩
      rw [List.length_map, List.drop_length] at ok
      have e : u = t := ok
      subst e
      exact ⟨_, rfl, q H' sm⟩
end
end Lk

namespace Lk
open PySem PySem.Spec PyProof.Rows L2
/-! ### of every law -/
open Fo
theorem same_but {b : Addr} {H H1 H2 : Hp} (s : Same H H1) (n : H b = none) (e : But b H1 H2) : Same H H2 := fun a o q => e a o (ne_of_none q n) (s a o q)
def sp_law (K : PySem.W.Frag) : Sp := fun vs H Q _ => ∃ (a : Addr) (ns : List Int), vs = [.ref a] ∧ SqL K H a (ns.map V.int) ∧ ns.length ≤ 63 ∧ ∀ H', Q (.bl true) H'
theorem map_get {α : Type} {f : α → V} {xs : List α} {i : Nat} {x : V} (h : (xs.map f)[i]? = some x) : ∃ u, xs[i]? = some u ∧ x = f u := ym_of h
theorem cutV_to {α : Type} (f : α → V) (xs : List α) (n : Nat) : cutV (xs.map f) none (some (n : Int)) = (xs.take n).map f := by
  unfold cutV
  rw [HT.sIx_none, HT.sIx_nat, List.drop_zero, Nat.sub_zero, List.length_map, List.map_take]
  by_cases h : n ≤ xs.length
  · rw [Nat.min_eq_left h]
  · rw [Nat.min_eq_right (by omega), List.take_of_length_le (by rw [List.length_map]; exact Nat.le_refl _), List.take_of_length_le (by rw [List.length_map]; omega)]
/-- x if c else y, both constants -/
theorem ite_tC {c : Bool} {σ : L2.St} {H : Hp} {Q : VK} {x y : V} (h : ∀ v, v = x ∨ v = y → Q v H) : if c = true then tC x σ H Q else tC y σ H Q := by
  cases c
  · exact h y (.inr rfl)
  · exact h x (.inl rfl)
theorem ite_pick {c : Bool} {σ : L2.St} {H : Hp} {Q : VK} {x y v : V} (hv : v = if c = true then x else y) (h : Q v H) : if c = true then tC x σ H Q else tC y σ H Q := by
  subst hv
  cases c
  · exact h
  · exact h
section
variable {X : Cx} {x : Str} {ps : List Str} {k j : Nat} {sp : Sp} {p pos : Pos}
/-- x(), nothing raised -/
theorem pe_fn0 (F : Fn X.prog X.w X.K X.mg X.base CX0 k x ps sp) (hr : Room j X.A) (hj : k ≤ j := by decide) (hg : Gl X x := by rfl) (hdb : (x == ("__debug__" : Str)) = false := by decide) :
    PE X (.Call (.Name x p) [] [] pos) (fun _ H Q => sp [] H Q E0) := by
  obtain ⟨f, fd, a, b, c, d⟩ := F
  have z := pe_call0 (E := E0) (p := p) (pos := pos) d (hr.mono hj) hg a b c .nil pass0 hdb
  exact ⟨fun pins s σ H Q I h => z.run pins s σ H Q I h⟩
end
end Lk

namespace Lk
open PySem PySem.Spec PyProof.Rows L2
/-! ### layers -/
open Fo
theorem pe_imp {X : Cx} {e : Expr} {t t' : TE} (z : PE X e t) (h : ∀ σ H Q, t' σ H Q → t σ H Q) : PE X e t' := ⟨fun pins s σ H Q I q => z.run pins s σ H Q I (h σ H Q q)⟩
theorem nats_of {ns : List Int} {zs : List Nat} (h1 : ns.Perm (zs.map fun n : Nat => (n : Int))) (h2 : ns.Pairwise (· ≤ ·)) : ∃ ws : List Nat, ns = ws.map (fun n : Nat => (n : Int)) ∧ ws.Perm zs ∧ ws.Pairwise (· ≤ ·) := by
  have e : ns = (ns.map Int.toNat).map fun n : Nat => (n : Int) := by
    rw [List.map_map]
    conv => lhs; rw [← List.map_id ns]
    refine List.map_congr_left fun x hx => ?_
    obtain ⟨n, _, rfl⟩ := List.mem_map.mp (h1.mem_iff.mp hx)
    simp
  refine ⟨ns.map Int.toNat, e, ?_, ?_⟩
  · have := h1.map Int.toNat
    rw [List.map_map] at this
    have e2 : zs.map (Int.toNat ∘ fun n : Nat => (n : Int)) = zs := by
      conv => rhs; rw [← List.map_id zs]
      exact List.map_congr_left fun x _ => by simp
    rw [e2] at this
    exact this
  · exact List.pairwise_map.mpr (h2.imp fun {a b} z => Int.toNat_le_toNat z)
/-- tuple(sorted(x + y)), tuples of numbers -/
def tSC (i j : Nat) : TE := fun σ H Q => ∃ (a b : Addr) (xs ys : List Nat), σ[i]? = some (some (V.ref a)) ∧ σ[j]? = some (some (V.ref b)) ∧ H a = some (.tup (xs.map vI)) ∧ H b = some (.tup (ys.map vI)) ∧ xs ≠ [] ∧ xs.length + ys.length ≤ 1000 ∧
  ∀ (zs : List Nat) (H' : Hp) (p : Addr), zs.Perm (xs ++ ys) → zs.Pairwise (· ≤ ·) → Same H H' → H p = none → H' p = some (.tup (zs.map vI)) → Q (.ref p) H'
theorem vI_map (zs : List Nat) : (zs.map fun n : Nat => (n : Int)).map V.int = zs.map vI := by
  rw [List.map_map]
  rfl
/-- one more tuple -/
theorem LT.snoc {H H2 : Hp} {a p : Addr} {cs : List (List Nat)} {c : List Nat} (h : LT H a cs) (s : Same H H2) (hp : H2 p = some (.tup (c.map vI))) : ∃ acc, H2 a = some (.lst acc) ∧ acc.length = cs.length ∧ LT (upd H2 a (.lst (acc ++ [.ref p]))) a (cs ++ [c]) := by
  obtain ⟨ps, rfl, h1, h2⟩ := h
  refine ⟨_, s _ _ h1, by rw [List.length_map, List.length_map], ps ++ [(p, c)], by rw [List.map_append]; rfl, by rw [upd_same, List.map_append]; rfl, fun q hq => ?_⟩
  have ht : H2 q.1 = some (.tup (q.2.map vI)) := by
    rcases List.mem_append.mp hq with hq | hq
    · exact s _ _ (h2 q hq)
    · rw [List.mem_singleton.mp hq]
      exact hp
  have hne : q.1 ≠ a := fun e => by
    rw [e, s _ _ h1] at ht
    cases ht
  rw [upd_ne hne]
  exact ht
theorem cutV_from {α : Type} (f : α → V) (xs : List α) (n : Nat) : cutV (xs.map f) (some (n : Int)) none = (xs.drop n).map f := by
  unfold cutV
  rw [HT.sIx_none, HT.sIx_nat, List.length_map]
  by_cases h : n ≤ xs.length
  · rw [Nat.min_eq_left h, List.take_of_length_le (by rw [List.length_drop, List.length_map]; exact Nat.le_refl _), List.map_drop]
  · rw [Nat.min_eq_right (by omega), Nat.sub_self, List.take_zero, List.drop_of_length_le (by omega : xs.length ≤ n)]
    rfl
theorem cells_len (sp : Nat → Nat) (n q : Nat) : (cellsOf sp n q).length ≤ n := by
  have := List.length_filter_le (fun k => decide (sp k = q)) (List.range n)
  rw [List.length_range] at this
  exact this
theorem lay_len {l t : L} {sp : Nat → Nat} (y : Lay l t sp) : t.length ≤ l.length := by
  have h : (List.range t.length).length ≤ ((List.range l.length).map sp).length := by
    refine List.Nodup.length_le_of_subset List.nodup_range fun q hq => ?_
    obtain ⟨k, h1, h2⟩ := y.ok.onto q (List.mem_range.mp hq)
    exact List.mem_map.mpr ⟨k, List.mem_range.mpr h1, h2⟩
  rw [List.length_range, List.length_map, List.length_range] at h
  exact h
theorem rev_range_map (c : Nat) (f : Nat → List Nat) : ((List.range c).map fun j => f (c - 1 - j)).reverse = (List.range c).map f := by
  refine List.ext_getElem? fun i => ?_
  by_cases h : i < c
  · rw [List.getElem?_reverse (by rw [List.length_map, List.length_range]; exact h), List.length_map, List.length_range, List.getElem?_map, List.getElem?_map, List.getElem?_range (by omega), List.getElem?_range h]
    show some (f (c - 1 - (c - 1 - i))) = some (f i)
    rw [show c - 1 - (c - 1 - i) = i by omega]
  · rw [List.getElem?_eq_none (by rw [List.length_reverse, List.length_map, List.length_range]; omega), List.getElem?_eq_none (by rw [List.length_map, List.length_range]; omega)]
section
variable {P : Program} {w : World} {K : PySem.W.Frag} {mg : Str → Option Value} {base : Heap}
theorem sc_imp {i j : Nat} {σ : L2.St} {H : Hp} {Q : VK} (h : tSC i j σ H Q) : (tCB (fun xs H Q => ∃ (p : Addr) (ys : List V), xs = [V.ref p] ∧ ((SqL K H p ys ∧ ∀ l, H l = none → Q (V.ref l) (upd H l (.tup ys))) ∨ (SqT K H p ys ∧ Q (V.ref p) H))) (tCons (tCB (rSortedTI K) (tCons (tOp (rCatT K) (tVar i) (tVar j)) tNil)) tNil)) σ H Q := by
  obtain ⟨a, b, xs, ys, h1, h2, ha, hb, hne, hl, q⟩ := h
  have srt : ∀ (H1 : Hp) (d : Addr) (zs : List Nat), Same H H1 → H1 d = some (.tup (zs.map vI)) → zs.Perm (xs ++ ys) → ∀ (ns' : List Int) (s1 : Addr), ns'.Perm (zs.map fun n : Nat => (n : Int)) → ns'.Pairwise (· ≤ ·) → H1 s1 = none → ∀ t1, upd H1 s1 (.lst (ns'.map V.int)) t1 = none → Q (.ref t1) (upd (upd H1 s1 (.lst (ns'.map V.int))) t1 (.tup (ns'.map V.int))) := by
    intro H1 d zs sm hd hz ns' s1 p1 p2 hs1 t1 ht1
    obtain ⟨ws, rfl, w1, w2⟩ := nats_of p1 p2
    have s2 := Same.upd' (o := .tup ((ws.map fun n : Nat => (n : Int)).map V.int)) (Same.upd' (o := .lst ((ws.map fun n : Nat => (n : Int)).map V.int)) sm hs1) ht1
    refine q ws _ t1 (w1.trans hz) w2 s2 ?_ (by rw [upd_same, vI_map])
    exact (Same.upd' (o := .lst ((ws.map fun n : Nat => (n : Int)).map V.int)) sm hs1).free ht1
  refine ⟨_, h1, _, h2, a, b, xs.map vI, ys.map vI, rfl, rfl, SqT.of ha, SqT.of hb, fun z => hne (List.map_eq_nil_iff.mp z), by rw [List.length_map, List.length_map]; exact Nat.le_trans hl (by decide), fun hy => ?_, fun hy d hd => ?_⟩
  · have hy' := List.map_eq_nil_iff.mp hy
    subst hy'
    refine ⟨a, xs.map fun n : Nat => (n : Int), rfl, SqT.of (by rw [vI_map]; exact ha), fun ns' s1 p1 p2 hs1 => ⟨s1, _, rfl, .inl ⟨SqL.of upd_same, fun t1 ht1 => ?_⟩⟩⟩
    exact srt H a xs (Same.refl H) ha (by rw [List.append_nil]) ns' s1 p1 p2 hs1 t1 ht1
  · refine ⟨d, (xs ++ ys).map fun n : Nat => (n : Int), rfl, SqT.of (by rw [upd_same, vI_map, List.map_append]), fun ns' s1 p1 p2 hs1 => ⟨s1, _, rfl, .inl ⟨SqL.of upd_same, fun t1 ht1 => ?_⟩⟩⟩
    exact srt _ d (xs ++ ys) (Same.upd hd) (by rw [upd_same, List.map_append]) (List.Perm.refl _) ns' s1 p1 p2 hs1 t1 ht1
def sp_layers : Sp := fun vs H Q _ => ∃ (l t : L) (r : List Nat) (a : Addr), vs = [vS l, .ref a] ∧ l.length ≤ 100 ∧ H a = some (.lst (r.map vI)) ∧ RowOk l r t ∧ ∀ H' p, H p = none → Same H H' → LT H' p (layersOf l.length t.length (spRow r l.length fun k => k)) → Q (.ref p) H'
theorem ok_layers (T : Txt K mg) : Fn P w K mg base CX0 1 "layers" ["strip", "row"] sp_layers := by
  refine T.d_layers.fn fun f fd F => F.ok sc_layers (fun vs H Q E h => ?_) (fun cdv A outer s H vs Q E hr h => ?_)
  · obtain ⟨l, t, r, a, rfl, _⟩ := h
    rfl
  · obtain ⟨l, t, r, a, rfl, hl, ea, hok, q⟩ := h
    refine ⟨_, pss_cons (ps_setLc (i := 2) (own := [("place", 11)]) (g := gName 11) (tt := tYes)  (by rfl) sc_layers.nd rfl rfl (sw_true rfl rfl rfl (by decide +kernel)) (pi_range1 rfl T.b_range (pa_cons (pe_callB call_lenS (by rfl) T.b_len PySem.boot_len (pa_cons (pv 0) pa_nil)) pa_nil)) (blkOk_by (own := [("place", 11)]) (N := ["strip", "row", "found", "crease", "stays_right", "kept", "gone", "laid", "at", "cells", "more", "place"]) (sc := defScope s_layers) (by decide +kernel)) (fun _ _ _ _ _ => pg_name (i := 11) sc_layers.nd rfl (Or.inl rfl)) (fun _ _ _ _ _ => pts_nil) (fun _ _ _ _ _ => (pe_tup (pa_cons (pv 11) pa_nil))))
    (pss_cons (ps_for PassesOwn.never rfl (pi_list (pv 1)) (pg_name (i := 3) sc_layers.nd rfl (.inl rfl))
      (pss_cons (ps_set (i := 4) sc_layers.nd rfl (.inl rfl) (pe_cmpR op_le (pe_op op_mul pe_int (pv 3)) (pe_callB call_len_seq (by rfl) T.b_len PySem.boot_len (pa_cons (pv 2) pa_nil)) (by rfl)))
      (pss_cons (ps_set (i := 5) sc_layers.nd rfl (.inl rfl) (pe_ifExp (pt_val (pv 4)) (pe_slice sl_list (pv 2) (po_some (pv 3)) po_none) (pe_slice sl_list (pv 2) po_none (po_some (pv 3)))))
      (pss_cons (ps_set (i := 6) sc_layers.nd rfl (.inl rfl) (pe_ifExp (pt_val (pv 4)) (pe_revL (pe_slice sl_list (pv 2) po_none (po_some (pv 3)))) (pe_slice sl_list (pv 2) (po_some (pv 3)) po_none)))
      (pss_cons (ps_set (i := 7) sc_layers.nd rfl (.inl rfl) (pe_lst pa_nil))
      (pss_cons (ps_for PassesOwn.never rfl (pi_enum (by rfl) T.b_enumerate (pa_cons (pe_ifExp (pt_val (pv 4)) (pv 5) (pe_revL (pv 5))) pa_nil)) (pg_tup rfl (pgs_cons (pg_name (i := 8) sc_layers.nd rfl (.inl rfl)) (pgs_cons (pg_name (i := 9) sc_layers.nd rfl (.inl rfl)) pgs_nil)))
        (C8.pss_cut (ps_set (i := 10) sc_layers.nd rfl (.inl rfl) (pe_ifExp (pt_cmpR op_lt (pv 8) (pe_callB call_len_seq (by rfl) T.b_len PySem.boot_len (pa_cons (pv 6) pa_nil)) (nomark _)) (pe_ix ix_list (pv 6) (pv 8) (fun _ _ => rfl)) (pe_tup pa_nil)))
        (pss_one (ps_expr (pe_bm PySem.F.plainAttrs_list PySem.F.slot_list_append PySem.F.type_list_append mt_append (pv 7) (pa_cons (pe_imp (t' := tSC 9 10) (pe_callTy call_tuple_of (by rfl) T.b_tuple (by decide +kernel) (pa_cons (pe_callB cr_sortedTI (by rfl) T.b_sorted (by decide +kernel) (pa_cons (pe_op op_catT (pv 9) (pv 10)) pa_nil)) pa_nil)) (fun σ H Q h => sc_imp h)) pa_nil))))))
      (pss_one (ps_set (i := 2) sc_layers.nd rfl (.inl rfl) (pe_ifExp (pt_val (pv 4)) (pv 7) (pe_revL (pv 7)))))))))))
    (pss_one (ps_ret (pv 2)))), ?_⟩
    refine ⟨_, rfl, l, rfl, by omega, _, rfl, by omega, by omega, fun D hD => ?_⟩
    refine lc_range (lo := 0) (n := ((l.length : Nat) : Int).toNat) (fun i H2 => Same H H2 ∧ LT H2 D ((List.range i).map fun k => [k])) ⟨Same.upd hD, [], rfl, upd_same, fun p hp => nomatch hp⟩ ?_ ?_
    · rintro i H2 hi ⟨sm, lt⟩
      refine ⟨rfl, _, rfl, (by show 1 ≤ sizeLine; decide), fun p hp => ?_⟩
      have e0 : V.int (0 + (i : Int)) = vI i := congrArg V.int (Int.zero_add _)
      rw [e0]
      obtain ⟨acc, h1, h2, h3⟩ := lt.snoc (p := p) (c := [i]) (Same.upd hp) (by rw [upd_same])
      refine ⟨acc, h1, ?_, ?_, ?_⟩
      · rw [h2, List.length_map, List.length_range]
        exact small1000 (by omega)
      · intro b o e
        rw [upd_ne (ne_of_none e hD)]
        exact Same.upd' sm hp _ _ e
      · rw [List.range_succ, List.map_append]
        exact h3
    · rintro H2 ⟨sm0, lt0⟩
      rw [Int.toNat_natCast, ← layers_id] at lt0
      refine ⟨_, rfl, a, rfl, ⟨_, SqL.of (sm0 _ _ ea)⟩, ?_⟩
      refine for_it (wk_list (K := K) vI r) (fun i σ H' => Same H H' ∧ ∃ (u : L) (sp : Nat → Nat) (fa : Addr) (v3 v4 v5 v6 v7 v8 v9 v10 : Option V), σ = [some (vS l), some (.ref a), some (.ref fa), v3, v4, v5, v6, v7, v8, v9, v10, none] ∧ H fa = none ∧ LT H' fa (layersOf l.length u.length sp) ∧ Lay l u sp ∧ RowOk u (r.drop i) t ∧ spRow (r.drop i) u.length sp = spRow r l.length fun k => k)
        ⟨sm0, l, fun k => k, D, none, none, none, none, none, none, none, none, rfl, hD, lt0, Lay.start l, hok, rfl⟩ (fun i σ H' _ h => SqL.of (h.1 _ _ ea)) ?_ ?_
      · rintro i x σ _ H1 hi ⟨sm, u, sp, fa, v3, v4, v5, v6, v7, v8, v9, v10, rfl, nfa, ⟨ps, hps, efa, etp⟩, lay, ok, esp⟩ ⟨rfl, c, hc, rfl⟩
        have hic : i < r.length := (List.getElem?_eq_some_iff.mp hc).1
        have ed : r.drop i = c :: r.drop (i + 1) := by
          rw [List.drop_eq_getElem_cons hic]
          congr 1
          exact (List.getElem?_eq_some_iff.mp hc).2
        rw [ed] at ok esp
        have hcr : Cr u c := ok.1
        have c1 := hcr.1
        have c2 := hcr.2.1
        have ul : ps.length = u.length := by
          have := congrArg List.length hps
          rw [List.length_map] at this
          rw [this]
          unfold layersOf
          rw [List.length_map, List.length_range]
        have ul100 : u.length ≤ 100 := by
          have h1 := hok.comes.len
          have h2 : u.length ≤ l.length := lay_len lay
          omega
        have psq : ∀ (k : Nat) (p : Addr × List Nat), ps[k]? = some p → k < u.length ∧ p.2 = cellsOf sp l.length k := fun k p hp => by
          have h1 : (ps.map (·.2))[k]? = some p.2 := by rw [List.getElem?_map, hp]; rfl
          have h2 : k < u.length := by rw [← ul]; exact (List.getElem?_eq_some_iff.mp hp).1
          rw [hps] at h1
          unfold layersOf at h1
          rw [List.getElem?_map, List.getElem?_range h2] at h1
          exact ⟨h2, (Option.some.inj h1).symm⟩
        have hmm : ∀ p ∈ ps, ∃ k, ps[k]? = some p := fun p hp => List.getElem?_of_mem hp
        refine ⟨_, rfl, _, _, rfl, rfl, .inl ⟨by decide, by decide⟩, _, rfl, fa, _, rfl, .inl (SqL.of efa), _, _, rfl, rfl, ?_⟩
        by_cases hr2 : 2 * c ≤ u.length
        · have hd : decide ((2 : Int) * (c : Int) ≤ ((ps.map fun p => V.ref p.1).length : Int)) = true := decide_eq_true (by rw [List.length_map, ul]; omega)
          dsimp only
          rw [hd]
          refine ⟨_, rfl, true, rfl, iteT ?_⟩
          refine ⟨_, rfl, _, rfl, _, rfl, fa, _, rfl, SqL.of efa, fun ka hka => ?_⟩
          have s1 := Same.upd (o := .lst (cutV (ps.map fun p => V.ref p.1) (some (c : Int)) none)) hka
          refine ⟨_, rfl, true, rfl, iteT ?_⟩
          refine ⟨_, rfl, _, rfl, _, rfl, fa, _, rfl, SqL.of (s1 _ _ efa), fun g0 hg0 => ⟨g0, _, rfl, SqL.of upd_same, fun ga hga => ?_⟩⟩
          have s2 := Same.upd' (o := .lst (cutV (ps.map fun p => V.ref p.1) none (some (c : Int)))) s1 hg0
          have sG := Same.upd' (o := .lst (cutV (ps.map fun p => V.ref p.1) none (some (c : Int))).reverse) s2 hga
          have eka : (upd (upd (upd H1 ka (.lst (cutV (ps.map fun p => V.ref p.1) (some (c : Int)) none))) g0 (.lst (cutV (ps.map fun p => V.ref p.1) none (some (c : Int))))) ga (.lst (cutV (ps.map fun p => V.ref p.1) none (some (c : Int))).reverse)) ka = some (.lst ((ps.drop c).map fun p => V.ref p.1)) := by
            rw [upd_ne (ne_of_none (by rw [upd_ne (ne_of_none upd_same hg0)]; exact upd_same) hga), upd_ne (ne_of_none upd_same hg0), upd_same, cutV_from]
          have ega : (upd (upd (upd H1 ka (.lst (cutV (ps.map fun p => V.ref p.1) (some (c : Int)) none))) g0 (.lst (cutV (ps.map fun p => V.ref p.1) none (some (c : Int))))) ga (.lst (cutV (ps.map fun p => V.ref p.1) none (some (c : Int))).reverse)) ga = some (.lst ((ps.take c).reverse.map fun p => V.ref p.1)) := by
            rw [upd_same, cutV_to, List.map_reverse]
          generalize (upd (upd (upd H1 ka (.lst (cutV (ps.map fun p => V.ref p.1) (some (c : Int)) none))) g0 (.lst (cutV (ps.map fun p => V.ref p.1) none (some (c : Int))))) ga (.lst (cutV (ps.map fun p => V.ref p.1) none (some (c : Int))).reverse)) = G at sG eka ega ⊢
          obtain ⟨gs, hgs⟩ : ∃ gs, gs = (ps.take c).reverse := ⟨_, rfl⟩
          rw [← hgs] at ega
          have gmem : ∀ g ∈ gs, g ∈ ps := fun g hg => List.mem_of_mem_take (List.mem_reverse.mp (hgs ▸ hg))
          refine ⟨(by show 0 ≤ sizeLine; decide), fun la hla => ?_⟩
          refine ⟨_, rfl, true, rfl, iteT ⟨_, rfl, ka, _, rfl, SqL.of (Same.upd hla _ _ eka), ?_⟩⟩
          have kfact : ∀ (j : Nat) (p : Addr × List Nat), (ps.drop c)[j]? = some p → p ∈ ps ∧ p.2 = cellsOf sp l.length (c + j) := fun j p hp => by
            rw [List.getElem?_drop] at hp
            exact ⟨List.mem_of_getElem? hp, (psq _ _ hp).2⟩
          have klt : ∀ (j : Nat) (p : Addr × List Nat), (ps.drop c)[j]? = some p → c + j < u.length := fun j p hp => by
            rw [List.getElem?_drop] at hp
            exact (psq _ _ hp).1
          obtain ⟨RR, hRR⟩ : ∃ RR : Nat → List Nat, RR = fun j => cellsOf (fun k => foldSp u.length c (sp k)) l.length j := ⟨_, rfl⟩
          have RRok : ∀ (j : Nat) (zs : List Nat) (p : Addr × List Nat), (ps.drop c)[j]? = some p → zs.Perm (p.2 ++ ((gs[j]?).map (·.2)).getD []) → zs.Pairwise (· ≤ ·) → zs = RR j := fun j zs p hp perm srt => by
            have hlt := klt j p hp
            rw [(kfact j p hp).2] at perm
            rw [hRR]
            by_cases hjc : j < c
            · have hg : gs[j]? = ps[c - 1 - j]? := by
                rw [hgs, List.getElem?_reverse (by rw [List.length_take]; omega), List.length_take, List.getElem?_take, if_pos (by omega), show min c ps.length - 1 - j = c - 1 - j by omega]
              obtain ⟨g, hg2⟩ : ∃ g, ps[c - 1 - j]? = some g := ⟨_, List.getElem?_eq_getElem (by omega)⟩
              rw [hg, hg2] at perm
              have e2 : ((some g).map (fun p : Addr × List Nat => p.2)).getD [] = cellsOf sp l.length (c - 1 - j) := (psq _ _ hg2).2
              rw [e2] at perm
              refine cells_two perm srt (by omega) fun k hk => ?_
              have := lay.ok.lt k hk
              unfold foldSp
              rw [if_pos hr2]
              split <;> omega
            · have hg : gs[j]? = none := List.getElem?_eq_none (by rw [hgs, List.length_reverse, List.length_take]; omega)
              rw [hg] at perm
              have perm : zs.Perm (cellsOf sp l.length (c + j)) := by
                have := perm
                rw [show ((none : Option (Addr × List Nat)).map (·.2)).getD [] = [] from rfl, List.append_nil] at this
                exact this
              refine cells_one perm srt fun k hk => ?_
              have := lay.ok.lt k hk
              unfold foldSp
              rw [if_pos hr2]
              split <;> omega
          refine for_it walk_enum (fun j σ H' => Same G H' ∧ LT H' la ((List.range j).map RR) ∧ ∃ w8 w9 w10 : Option V, σ = [some (vS l), some (.ref a), some (.ref fa), some (vI c), some (.bl true), some (.ref ka), some (.ref ga), some (.ref la), w8, w9, w10, none])
            ⟨Same.upd hla, ⟨[], rfl, upd_same, fun p hp => nomatch hp⟩, v8, v9, v10, rfl⟩ (fun j σ H' _ h => SqL.of (h.1 _ _ eka)) ?_ ?_
          · rintro j x σ H2 H' hj ⟨sm2, lt2, w8, w9, w10, rfl⟩ ⟨Tq, y, z, rfl, hT, rfl, hy, hz⟩
            have hy' : V.int (j : Nat) = y := Option.some.inj hy
            subst hy'
            obtain ⟨p, hp, rfl⟩ := ym_of hz
            refine ⟨Tq, _, rfl, SqT.of upd_same, rfl, _, _, rfl, _, _, rfl, rfl, ?_⟩
            have sT := Same.upd' (o := .tup [V.int (j : Nat), V.ref p.1]) sm2 hT
            obtain ⟨hpm, hpk⟩ := kfact j p hp
            refine ⟨fun σ' H3 => Same (upd H2 Tq (.tup [V.int (j : Nat), V.ref p.1])) H3 ∧ ∃ (b : Addr) (ys : List Nat), σ' = [some (vS l), some (.ref a), some (.ref fa), some (vI c), some (.bl true), some (.ref ka), some (.ref ga), some (.ref la), some (.int (j : Nat)), some (.ref p.1), some (.ref b), none] ∧ H3 b = some (.tup (ys.map vI)) ∧ ys = (((gs)[j]?).map (·.2)).getD [], ?first, ?rest⟩
            case first =>
              refine ⟨_, rfl, _, rfl, ga, _, rfl, .inl (SqL.of (sT _ _ ega)), _, _, rfl, rfl, _, rfl, ite2 (fun z => ?_) (fun z => ?_)⟩
              · have z' : (j : Int) < ((gs.map fun p => V.ref p.1).length : Int) := of_decide_eq_true z
                rw [List.length_map] at z'
                have hg : gs[j]? = some gs[j] := List.getElem?_eq_getElem (by omega)
                refine ⟨_, rfl, _, rfl, ga, _, _, .ref (gs[j]).1, rfl, rfl, SqL.of (sT _ _ ega), atI_nat (by rw [List.getElem?_map, hg]; rfl), Same.refl _, (gs[j]).1, (gs[j]).2, rfl, ?_, by rw [hg]; rfl⟩
                exact sT _ _ (sG _ _ (etp _ (gmem _ (List.mem_of_getElem? hg))))
              · have z' : ¬ (j : Int) < ((gs.map fun p => V.ref p.1).length : Int) := fun e => z (decide_eq_true e)
                rw [List.length_map] at z'
                refine ⟨(by show 0 ≤ sizeLine; decide), fun b hb => ⟨Same.upd hb, b, [], rfl, upd_same, ?_⟩⟩
                rw [List.getElem?_eq_none (by omega)]
                rfl
            case rest =>
              rintro σ' H3 ⟨s3, b, ys, rfl, eb, ey⟩
              have sm3 := sT.trans s3
              obtain ⟨acc0, hacc, _, _⟩ := lt2.snoc (p := p.1) (c := p.2) ((Same.upd hT).trans s3) (sm3 _ _ (sG _ _ (etp _ hpm)))
              refine ⟨_, rfl, .inl ⟨rfl, _, SqL.of hacc⟩, p.1, b, p.2, ys, rfl, rfl, sm3 _ _ (sG _ _ (etp _ hpm)), eb, ?_, ?_, fun zs H4 b4 perm srt s4 nb4 e4 => ?_⟩
              · rw [hpk]
                exact lay.ok.ne (klt j p hp)
              · have y1 : ys.length ≤ 200 := by
                  rw [ey]
                  cases hg : gs[j]? with
                  | none => exact Nat.zero_le _
                  | some g =>
                    obtain ⟨k, hk⟩ := hmm g (gmem _ (List.mem_of_getElem? hg))
                    show g.2.length ≤ 200
                    rw [(psq k g hk).2]
                    have := cells_len sp l.length k
                    omega
                rw [hpk]
                have := cells_len sp l.length (c + j)
                omega
              · obtain ⟨acc, h1, h2, h3⟩ := lt2.snoc (p := b4) (c := RR j) (((Same.upd hT).trans s3).trans s4) (by rw [e4, RRok j zs p hp (ey ▸ perm) srt])
                refine ⟨la, acc, .ref b4, rfl, rfl, h1, ?_, ?_, ?_, _, _, _, rfl⟩
                · rw [h2, List.length_map, List.length_range]
                  have : j < 101 := by have := klt j p hp; omega
                  exact small1000 (by omega)
                · intro d o e
                  rw [upd_ne (ne_of_none e hla)]
                  exact (sm3.trans s4) _ _ e
                · rw [List.range_succ, List.map_append]
                  exact h3
          · rintro σ H' ⟨sm2, lt2, w8, w9, w10, rfl⟩
            refine ⟨_, rfl, true, rfl, iteT ⟨_, rfl, ?_⟩⟩
            have e5 : ((ps.drop c).map fun p => V.ref p.1).length = (left u c).length := by
              rw [List.length_map, List.length_drop, ul, ← newLen_left hcr]
              unfold newLen
              rw [if_pos hr2]
            rw [e5, hRR] at lt2
            have nla : H la = none := (sm.trans sG).free hla
            exact ⟨(sm.trans sG).trans sm2, left u c, _, la, _, _, _, _, _, _, _, _, rfl, nla, lt2, lay.step hcr, ok.2, by rw [← newLen_left hcr]; exact esp⟩
        · have hd : decide ((2 : Int) * (c : Int) ≤ ((ps.map fun p => V.ref p.1).length : Int)) = false := decide_eq_false (by rw [List.length_map, ul]; omega)
          dsimp only
          rw [hd]
          refine ⟨_, rfl, false, rfl, iteF ?_⟩
          refine ⟨_, rfl, _, rfl, _, rfl, fa, _, rfl, SqL.of efa, fun ka hka => ?_⟩
          have s1 := Same.upd (o := .lst (cutV (ps.map fun p => V.ref p.1) none (some (c : Int)))) hka
          refine ⟨_, rfl, false, rfl, iteF ?_⟩
          refine ⟨_, rfl, _, rfl, _, rfl, fa, _, rfl, SqL.of (s1 _ _ efa), fun ga hga => ?_⟩
          have sG0 := Same.upd' (o := .lst (cutV (ps.map fun p => V.ref p.1) (some (c : Int)) none)) s1 hga
          have eka : (upd (upd H1 ka (.lst (cutV (ps.map fun p => V.ref p.1) none (some (c : Int))))) ga (.lst (cutV (ps.map fun p => V.ref p.1) (some (c : Int)) none))) ka = some (.lst ((ps.take c).map fun p => V.ref p.1)) := by
            rw [upd_ne (ne_of_none upd_same hga), upd_same, cutV_to]
          have ega : (upd (upd H1 ka (.lst (cutV (ps.map fun p => V.ref p.1) none (some (c : Int))))) ga (.lst (cutV (ps.map fun p => V.ref p.1) (some (c : Int)) none))) ga = some (.lst ((ps.drop c).map fun p => V.ref p.1)) := by
            rw [upd_same, cutV_from]
          generalize (upd (upd H1 ka (.lst (cutV (ps.map fun p => V.ref p.1) none (some (c : Int))))) ga (.lst (cutV (ps.map fun p => V.ref p.1) (some (c : Int)) none))) = G0 at sG0 eka ega ⊢
          obtain ⟨gs, hgs⟩ : ∃ gs, gs = ps.drop c := ⟨_, rfl⟩
          rw [← hgs] at ega
          have gmem : ∀ g ∈ gs, g ∈ ps := fun g hg => List.mem_of_mem_drop (hgs ▸ hg)
          refine ⟨(by show 0 ≤ sizeLine; decide), fun la hla => ?_⟩
          refine ⟨_, rfl, false, rfl, iteF ⟨_, rfl, ka, _, rfl, SqL.of (Same.upd hla _ _ eka), fun kr hkr => ⟨kr, _, rfl, SqL.of upd_same, ?_⟩⟩⟩
          have nlk : la ≠ kr := ne_of_none upd_same hkr
          have sG := sG0
          have hkr0 : G0 kr = none := (Same.upd hla).free hkr
          have kfact : ∀ (j : Nat) (p : Addr × List Nat), ((ps.take c).reverse)[j]? = some p → p ∈ ps ∧ p.2 = cellsOf sp l.length (c - 1 - j) := fun j p hp => by
            have hj : j < c := by
              have := (List.getElem?_eq_some_iff.mp hp).1
              rw [List.length_reverse, List.length_take] at this
              omega
            rw [List.getElem?_reverse (by rw [List.length_take]; omega), List.length_take, List.getElem?_take, if_pos (by omega), show min c ps.length - 1 - j = c - 1 - j by omega] at hp
            exact ⟨List.mem_of_getElem? hp, (psq _ _ hp).2⟩
          have klt : ∀ (j : Nat) (p : Addr × List Nat), ((ps.take c).reverse)[j]? = some p → j < c := fun j p hp => by
            have := (List.getElem?_eq_some_iff.mp hp).1
            rw [List.length_reverse, List.length_take] at this
            omega
          obtain ⟨RR, hRR⟩ : ∃ RR : Nat → List Nat, RR = fun j => cellsOf (fun k => foldSp u.length c (sp k)) l.length (c - 1 - j) := ⟨_, rfl⟩
          have RRok : ∀ (j : Nat) (zs : List Nat) (p : Addr × List Nat), ((ps.take c).reverse)[j]? = some p → zs.Perm (p.2 ++ ((gs[j]?).map (·.2)).getD []) → zs.Pairwise (· ≤ ·) → zs = RR j := fun j zs p hp perm srt => by
            have hlt := klt j p hp
            rw [(kfact j p hp).2] at perm
            rw [hRR]
            by_cases hjc : c + j < u.length
            · have hg : gs[j]? = ps[c + j]? := by rw [hgs, List.getElem?_drop]
              obtain ⟨g, hg2⟩ : ∃ g, ps[c + j]? = some g := ⟨_, List.getElem?_eq_getElem (by omega)⟩
              rw [hg, hg2] at perm
              have e2 : ((some g).map (fun p : Addr × List Nat => p.2)).getD [] = cellsOf sp l.length (c + j) := (psq _ _ hg2).2
              rw [e2] at perm
              refine cells_two perm srt (by omega) fun k hk => ?_
              have := lay.ok.lt k hk
              unfold foldSp
              rw [if_neg hr2]
              split <;> omega
            · have hg : gs[j]? = none := List.getElem?_eq_none (by rw [hgs, List.length_drop]; omega)
              rw [hg] at perm
              have perm : zs.Perm (cellsOf sp l.length (c - 1 - j)) := by
                have := perm
                rw [show ((none : Option (Addr × List Nat)).map (·.2)).getD [] = [] from rfl, List.append_nil] at this
                exact this
              refine cells_one perm srt fun k hk => ?_
              have := lay.ok.lt k hk
              unfold foldSp
              rw [if_neg hr2]
              split <;> omega
          have sk := Same.upd (o := .lst ((ps.take c).map fun p => V.ref p.1).reverse) hkr0
          refine for_it walk_enum (fun j σ H' => Same (upd G0 kr (.lst ((ps.take c).map fun p => V.ref p.1).reverse)) H' ∧ LT H' la ((List.range j).map RR) ∧ ∃ w8 w9 w10 : Option V, σ = [some (vS l), some (.ref a), some (.ref fa), some (vI c), some (.bl false), some (.ref ka), some (.ref ga), some (.ref la), w8, w9, w10, none])
            ⟨fun b o e => by
              by_cases h : b = kr
              · subst h
                rw [upd_same] at e ⊢
                exact e
              · rw [upd_ne h] at e ⊢
                rw [upd_ne (ne_of_none e hla)]
                exact e, ⟨[], rfl, by rw [upd_ne nlk, upd_same]; rfl, fun p hp => nomatch hp⟩, v8, v9, v10, rfl⟩ (fun j σ H' _ h => SqL.of (h.1 _ _ upd_same)) ?_ ?_
          · rintro j x σ H2 H' hj ⟨sm2, lt2, w8, w9, w10, rfl⟩ ⟨Tq, y, z, rfl, hT, rfl, hy, hz⟩
            have hy' : V.int (j : Nat) = y := Option.some.inj hy
            subst hy'
            rw [← List.map_reverse] at hz
            obtain ⟨p, hp, rfl⟩ := ym_of hz
            refine ⟨Tq, _, rfl, SqT.of upd_same, rfl, _, _, rfl, _, _, rfl, rfl, ?_⟩
            have sT := Same.upd' (o := .tup [V.int (j : Nat), V.ref p.1]) sm2 hT
            obtain ⟨hpm, hpk⟩ := kfact j p hp
            refine ⟨fun σ' H3 => Same (upd H2 Tq (.tup [V.int (j : Nat), V.ref p.1])) H3 ∧ ∃ (b : Addr) (ys : List Nat), σ' = [some (vS l), some (.ref a), some (.ref fa), some (vI c), some (.bl false), some (.ref ka), some (.ref ga), some (.ref la), some (.int (j : Nat)), some (.ref p.1), some (.ref b), none] ∧ H3 b = some (.tup (ys.map vI)) ∧ ys = (((gs)[j]?).map (·.2)).getD [], ?first, ?rest⟩
            case first =>
              refine ⟨_, rfl, _, rfl, ga, _, rfl, .inl (SqL.of (sT _ _ (sk _ _ ega))), _, _, rfl, rfl, _, rfl, ite2 (fun z => ?_) (fun z => ?_)⟩
              · have z' : (j : Int) < ((gs.map fun p => V.ref p.1).length : Int) := of_decide_eq_true z
                rw [List.length_map] at z'
                have hg : gs[j]? = some gs[j] := List.getElem?_eq_getElem (by omega)
                refine ⟨_, rfl, _, rfl, ga, _, _, .ref (gs[j]).1, rfl, rfl, SqL.of (sT _ _ (sk _ _ ega)), atI_nat (by rw [List.getElem?_map, hg]; rfl), Same.refl _, (gs[j]).1, (gs[j]).2, rfl, ?_, by rw [hg]; rfl⟩
                exact sT _ _ (sk _ _ (sG _ _ (etp _ (gmem _ (List.mem_of_getElem? hg)))))
              · have z' : ¬ (j : Int) < ((gs.map fun p => V.ref p.1).length : Int) := fun e => z (decide_eq_true e)
                rw [List.length_map] at z'
                refine ⟨(by show 0 ≤ sizeLine; decide), fun b hb => ⟨Same.upd hb, b, [], rfl, upd_same, ?_⟩⟩
                rw [List.getElem?_eq_none (by omega)]
                rfl
            case rest =>
              rintro σ' H3 ⟨s3, b, ys, rfl, eb, ey⟩
              have sm3 := sT.trans s3
              obtain ⟨acc0, hacc, _, _⟩ := lt2.snoc (p := p.1) (c := p.2) ((Same.upd hT).trans s3) (sm3 _ _ (sk _ _ (sG _ _ (etp _ hpm))))
              refine ⟨_, rfl, .inl ⟨rfl, _, SqL.of hacc⟩, p.1, b, p.2, ys, rfl, rfl, sm3 _ _ (sk _ _ (sG _ _ (etp _ hpm))), eb, ?_, ?_, fun zs H4 b4 perm srt s4 nb4 e4 => ?_⟩
              · rw [hpk]
                exact lay.ok.ne (by have := klt j p hp; omega)
              · have y1 : ys.length ≤ 200 := by
                  rw [ey]
                  cases hg : gs[j]? with
                  | none => exact Nat.zero_le _
                  | some g =>
                    obtain ⟨k, hk⟩ := hmm g (gmem _ (List.mem_of_getElem? hg))
                    show g.2.length ≤ 200
                    rw [(psq k g hk).2]
                    have := cells_len sp l.length k
                    omega
                rw [hpk]
                have := cells_len sp l.length (c - 1 - j)
                omega
              · obtain ⟨acc, h1, h2, h3⟩ := lt2.snoc (p := b4) (c := RR j) (((Same.upd hT).trans s3).trans s4) (by rw [e4, RRok j zs p hp (ey ▸ perm) srt])
                refine ⟨la, acc, .ref b4, rfl, rfl, h1, ?_, ?_, ?_, _, _, _, rfl⟩
                · rw [h2, List.length_map, List.length_range]
                  have : j < 101 := by have := klt j p hp; omega
                  exact small1000 (by omega)
                · intro d o e
                  by_cases h : d = la
                  · subst h
                    rw [upd_ne nlk, hla] at e
                    cases e
                  rw [upd_ne h]
                  exact (sm3.trans s4) _ _ e
                · rw [List.range_succ, List.map_append]
                  exact h3
          · rintro σ H' ⟨sm2, lt2, w8, w9, w10, rfl⟩
            refine ⟨_, rfl, false, rfl, iteF ?_⟩
            obtain ⟨qs, hqs, eqs, tqs⟩ := lt2
            refine ⟨_, rfl, la, _, rfl, SqL.of eqs, fun fb hfb => ?_⟩
            have s9 := Same.upd (o := .lst (qs.map fun p => V.ref p.1).reverse) hfb
            have nfb : H fb = none := (((sm.trans sG).trans sk).trans sm2).free hfb
            have e5 : (((ps.take c).map fun p => V.ref p.1).reverse).length = c := by
              rw [List.length_reverse, List.length_map, List.length_take, ul]
              omega
            have e6 : (left u c).length = c := by
              rw [← newLen_left hcr]
              unfold newLen
              rw [if_neg hr2]
            have lt3 : LT (upd H' fb (.lst (qs.map fun p => V.ref p.1).reverse)) fb (layersOf l.length (left u c).length fun k => foldSp u.length c (sp k)) := by
              refine ⟨qs.reverse, ?_, by rw [upd_same, List.map_reverse], fun p hp => s9 _ _ (tqs p (List.mem_reverse.mp hp))⟩
              rw [List.map_reverse, hqs, e6, hRR]
              unfold layersOf
              rw [e5]
              exact rev_range_map c _
            exact ⟨(((sm.trans sG).trans sk).trans sm2).trans s9, left u c, _, fb, _, _, _, _, _, _, _, _, rfl, nfb, lt3, lay.step hcr, ok.2, by rw [← newLen_left hcr]; exact esp⟩
      · rintro σ H' ⟨sm, u, sp, fa, v3, v4, v5, v6, v7, v8, v9, v10, rfl, nfa, lt, lay, ok, esp⟩
        rw [List.drop_length] at ok esp
        have e : u = t := ok
        subst e
        have e2 : sp = spRow r l.length fun k => k := esp
        subst e2
        exact ⟨_, rfl, q H' fa nfa sm lt⟩
end
end Lk

namespace Lk
open PySem PySem.Spec PyProof.Rows L2
/-! ### what a comprehension has laid -/
open Fo
/-- what a comprehension over xs has laid at D before turn i -/
def PF {α : Type} (H0 : Hp) (D : Addr) (xs : List α) (p : α → Bool) (h : α → V) (i : Nat) (H : Hp) : Prop := Same H0 H ∧ H D = some (.lst (((xs.take i).filter p).map h))
theorem PF.init {α : Type} {H0 : Hp} {D : Addr} {xs : List α} {p : α → Bool} {h : α → V} (hD : H0 D = none) : PF H0 D xs p h 0 (upd H0 D (.lst [])) := ⟨Same.upd hD, upd_same⟩
theorem PF.acc {α : Type} {H0 H H4 : Hp} {D : Addr} {xs : List α} {p : α → Bool} {h : α → V} {i : Nat} {u : α} (f : PF H0 D xs p h i H) (hu : xs[i]? = some u) (hp : p u = true) (s : Same H H4) (hD : H0 D = none) (hl : xs.length ≤ 5000) :
    ∃ acc, H4 D = some (.lst acc) ∧ acc.length < sizeLine ∧ PF H0 D xs p h (i + 1) (upd H4 D (.lst (acc ++ [h u]))) := by
  refine ⟨_, s _ _ f.2, ?_, ?_, ?_⟩
  · rw [List.length_map]
    have h1 := List.length_filter_le p (xs.take i)
    rw [List.length_take] at h1
    rw [sizeLine_eq]
    omega
  · intro c o e
    rw [upd_ne (ne_of_none e hD)]
    exact s _ _ (f.1 _ _ e)
  · rw [upd_same, List.take_add_one, hu, List.filter_append, List.map_append]
    have e : (Option.toList (some u)).filter p = [u] := List.filter_cons_of_pos (p := p) hp
    rw [e]
    rfl
theorem PF.rej {α : Type} {H0 H H4 : Hp} {D : Addr} {xs : List α} {p : α → Bool} {h : α → V} {i : Nat} {u : α} (f : PF H0 D xs p h i H) (hu : xs[i]? = some u) (hp : p u = false) (s : Same H H4) : PF H0 D xs p h (i + 1) H4 := by
  refine ⟨f.1.trans s, ?_⟩
  rw [s _ _ f.2, List.take_add_one, hu, List.filter_append]
  have e : (Option.toList (some u)).filter p = [] := List.filter_cons_of_neg (p := p) (by rw [hp]; decide)
  rw [e, List.append_nil]
theorem PF.done {α : Type} {H0 H : Hp} {D : Addr} {xs : List α} {p : α → Bool} {h : α → V} (f : PF H0 D xs p h xs.length H) : H D = some (.lst ((xs.filter p).map h)) := by
  have := f.2
  rw [List.take_length] at this
  exact this
/-- list(x), what it asks told -/
def rListOf (K : PySem.W.Frag) : List V → Hp → VK → Prop := fun xs H Q => ∃ (p : Addr) (ys : List V), xs = [.ref p] ∧ (SqL K H p ys ∨ SqT K H p ys) ∧ ∀ l, H l = none → Q (.ref l) (upd H l (.lst ys))
theorem call_list_ofK {X : Cx} (K : PySem.W.Frag) (hk : X.K = K) : CallR X (.type "list") (rListOf K) := by subst hk; exact call_list_of
end Lk

namespace Lk
open PySem PySem.Spec PyProof.Rows L2
/-! ### where each cell lies, by the law's own words -/
open Fo
theorem ixN_nat {n j : Nat} (h : j < n) : ixN n (j : Int) = some j := by
  unfold ixN
  simp
  omega
theorem set_range {n j : Nat} (f : Nat → V) (v : V) : ((List.range n).map f).set j v = (List.range n).map fun k => if k = j then v else f k := by
  refine List.ext_getElem? fun i => ?_
  simp only [List.getElem?_set, List.getElem?_map, List.length_map, List.length_range]
  by_cases hi : i < n
  · rw [List.getElem?_range hi]
    by_cases h : j = i
    · subst h
      rw [if_pos rfl, if_pos hi]
      show some v = some (if j = j then v else f j)
      rw [if_pos rfl]
    · rw [if_neg h]
      show some (f i) = some (if i = j then v else f i)
      rw [if_neg (Ne.symm h)]
  · have e : (List.range n)[i]? = none := List.getElem?_eq_none (by rw [List.length_range]; omega)
    rw [e]
    by_cases h : j = i
    · rw [if_pos h, if_neg (by omega)]
      rfl
    · rw [if_neg h]
      rfl
theorem rgV_nat (n : Nat) : rgV 0 (n : Int) = (List.range n).map vI := by
  unfold rgV
  rw [show ((n : Int) - 0).toNat = n by omega]
  exact List.map_congr_left fun k _ => congrArg V.int (Int.zero_add _)
def turnSp (rb : Bool) (c s : Nat) : Nat := if rb = true then (if s < c then 2 * c - 1 - s else s) else (if s < c then s else 2 * c - 1 - s)
section
variable {P : Program} {w : World} {K : PySem.W.Frag} {mg : Str → Option Value} {base : Heap}
def sp_laid : Sp := fun vs H Q _ => ∃ (l t : L) (r : List Nat) (a : Addr), vs = [vS l, .ref a] ∧ l.length ≤ 100 ∧ H a = some (.lst (r.map vI)) ∧ RowOk l r t ∧ ∀ H' T sa, Same H H' → H' T = some (.tup [vS t, .ref sa]) → H' sa = some (.lst ((List.range l.length).map fun k => vI (spRow r l.length (fun k => k) k))) → Q (.ref T) H'
theorem ok__law_laid (T : Txt K mg) : Fn P w K mg base CX0 2 "_law_laid" ["text", "row"] sp_laid := by
  have G__law_left := ok__law_left (P := P) (w := w) (base := base) T
  refine T.d__law_laid.fn fun f fd F => F.ok sc__law_laid (fun vs H Q E h => ?_) (fun cdv A outer s H vs Q E hr h => ?_)
  · obtain ⟨l, t, r, a, rfl, _⟩ := h
    rfl
  · obtain ⟨l, t, r, a, rfl, hl, ea, hok, q⟩ := h
    refine ⟨_, pss_cons (ps_set (i := 2) sc__law_laid.nd rfl (.inl rfl) (pe_listRg rfl (by rfl) T.b_list (prg_1 (by rfl) T.b_range (pe_callB call_lenS (by rfl) T.b_len PySem.boot_len (pa_cons (pv 0) pa_nil)))))
    (pss_cons (ps_for PassesOwn.never rfl (pi_list (pv 1)) (pg_name (i := 3) sc__law_laid.nd rfl (.inr rfl))
      (pss_cons (ps_set (i := 4) sc__law_laid.nd rfl (.inl rfl) (pe_callB call_lenS (by rfl) T.b_len PySem.boot_len (pa_cons (pv 0) pa_nil)))
      (pss_cons (ps_set (i := 5) sc__law_laid.nd rfl (.inl rfl) (pe_cmpR op_le (pv 3) (pe_op op_sub (pv 4) (pv 3)) (by rfl)))
      (pss_cons (ps_for PassesOwn.never rfl (pi_enum (by rfl) T.b_enumerate (pa_cons (pe_callTy call_list_of (by rfl) T.b_list (by decide +kernel) (pa_cons (pv 2) pa_nil)) pa_nil)) (pg_tup rfl (pgs_cons (pg_name (i := 6) sc__law_laid.nd rfl (.inl rfl)) (pgs_cons (pg_name (i := 7) sc__law_laid.nd rfl (.inl rfl)) pgs_nil)))
        (pss_one (ps_if (PW.pt (pw_or (PW.pt (pw_and (pt_val (pv 5)) (pw_and1 (pt_cmpR op_lt (pv 7) (pv 3) (nomark _))))) (pw_or1 (PW.pt (pw_and (pt_not (pt_val (pv 5))) (pw_and1 (pt_cmpR op_ge (pv 7) (pv 3) (nomark _))))))))
          (pss_one (ps_asg (pe_op op_sub (pe_op op_sub (pe_op op_mul pe_int (pv 3)) pe_int) (pv 7)) (pg_sub (pv 2) (pv 6) set_list)))
          pss_nil)))
      (pss_cons (ps_if (pt_val (pv 5))
        (pss_one (ps_setLc (i := 2) (own := [("spot", 7)]) (g := gName 7) (tt := tYes)  (by rfl) sc__law_laid.nd rfl rfl (sw_true rfl rfl rfl (by decide +kernel)) (pi_list (pv 2)) (blkOk_by (own := [("spot", 7)]) (N := ["text", "row", "spots", "crease", "long", "right", "cell", "spot"]) (sc := defScope s__law_laid) (by decide +kernel)) (fun _ _ _ _ _ => pg_name (i := 7) sc__law_laid.nd rfl (Or.inl rfl)) (fun _ _ _ _ _ => pts_nil) (fun _ _ _ _ _ => (pe_op op_sub (pv 7) (pv 3)))))
        pss_nil)
      (pss_one (ps_set (i := 0) sc__law_laid.nd rfl (.inl rfl) (pe_fn G__law_left hr (pa_cons (pv 0) (pa_cons (pv 3) pa_nil))))))))))
    (pss_one (ps_ret (pe_tup (pa_cons (pv 0) (pa_cons (pv 2) pa_nil)))))), ?_⟩
    refine ⟨_, rfl, l, rfl, by omega, _, rfl, ⟨by omega, by omega, by omega, by omega, by omega⟩, fun s0 hs0 => ?_⟩
    rw [rgV_nat]
    have sm0 := Same.upd (o := .lst ((List.range l.length).map vI)) hs0
    refine ⟨_, rfl, a, rfl, ⟨_, SqL.of (sm0 _ _ ea)⟩, ?_⟩
    refine for_it (wk_list (K := K) vI r) (fun i σ H' => Same H H' ∧ ∃ (u : L) (sp : Nat → Nat) (sa : Addr) (v3 v4 v5 v6 v7 : Option V), σ = [some (vS u), some (.ref a), some (.ref sa), v3, v4, v5, v6, v7] ∧ H sa = none ∧ H' sa = some (.lst ((List.range l.length).map fun k => vI (sp k))) ∧ Lay l u sp ∧ RowOk u (r.drop i) t ∧ spRow (r.drop i) u.length sp = spRow r l.length fun k => k)
      ⟨sm0, l, fun k => k, s0, none, none, none, none, none, rfl, hs0, upd_same, Lay.start l, hok, rfl⟩ (fun i σ H' _ h => SqL.of (h.1 _ _ ea)) ?_ ?_
    · rintro i x σ _ H1 hi ⟨sm, u, sp, sa, v3, v4, v5, v6, v7, rfl, nsa, esa, lay, ok, esp⟩ ⟨rfl, c, hc, rfl⟩
      have hic : i < r.length := (List.getElem?_eq_some_iff.mp hc).1
      have ed : r.drop i = c :: r.drop (i + 1) := by
        rw [List.drop_eq_getElem_cons hic]
        congr 1
        exact (List.getElem?_eq_some_iff.mp hc).2
      rw [ed] at ok esp
      have hcr : Cr u c := ok.1
      have c1 := hcr.1
      have c2 := hcr.2.1
      have ul : u.length ≤ l.length := lay_len lay
      obtain ⟨rb, hrb⟩ : ∃ rb, rb = decide (2 * c ≤ u.length) := ⟨_, rfl⟩
      have hd : decide ((c : Int) ≤ (u.length : Int) - (c : Int)) = rb := by
        rw [hrb]
        exact decide_eq_decide.mpr ⟨by omega, by omega⟩
      refine ⟨_, rfl, u, rfl, by omega, ?_⟩
      refine ⟨_, rfl, _, rfl, _, rfl, _, _, rfl, rfl, _, _, rfl, rfl, ?_⟩
      dsimp only
      rw [hd]
      refine ⟨_, rfl, sa, _, rfl, .inl (SqL.of esa), fun cp hcp => ⟨cp, _, rfl, SqL.of upd_same, ?_⟩⟩
      have s1 := Same.upd (o := .lst ((List.range l.length).map fun k => vI (sp k))) hcp
      have ecp : (upd H1 cp (.lst ((List.range l.length).map fun k => vI (sp k)))) cp = some (.lst ((List.range l.length).map fun k => vI (sp k))) := upd_same
      have esa1 := s1 _ _ esa
      have nsc : cp ≠ sa := (ne_of_none esa hcp).symm
      generalize upd H1 cp (.lst ((List.range l.length).map fun k => vI (sp k))) = G at s1 ecp esa1 ⊢
      refine for_it walk_enum (fun j σ H' => But sa G H' ∧ H' sa = some (.lst ((List.range l.length).map fun k => vI (if k < j then turnSp rb c (sp k) else sp k))) ∧ ∃ w6 w7 : Option V, σ = [some (vS u), some (.ref a), some (.ref sa), some (vI c), some (.int (u.length : Nat)), some (.bl rb), w6, w7])
        ⟨But.refl _ _, by rw [esa1]; congr 3, v6, v7, rfl⟩ (fun j σ H' _ h => SqL.of (h.1 _ _ nsc ecp)) ?_ ?_
      · rintro j x σ H2 H' hj ⟨bt, es2, w6, w7, rfl⟩ ⟨Tq, y, z, rfl, hT, rfl, hy, hz⟩
        have hy' : V.int (j : Nat) = y := Option.some.inj hy
        subst hy'
        obtain ⟨k, hk, rfl⟩ := ym_of hz
        have hjn : j < l.length := by
          have := (List.getElem?_eq_some_iff.mp hk).1
          rw [List.length_range] at this
          exact this
        have ek : k = j := by
          rw [List.getElem?_range hjn] at hk
          exact (Option.some.inj hk).symm
        subst ek
        have hsk := lay.ok.lt k hjn
        have nT : sa ≠ Tq := ne_of_none es2 hT
        have e3 : (upd H2 Tq (.tup [V.int (k : Nat), vI (sp k)])) sa = some (.lst ((List.range l.length).map fun j => vI (if j < k then turnSp rb c (sp j) else sp j))) := by rw [upd_ne nT]; exact es2
        have bt3 : But sa G (upd H2 Tq (.tup [V.int (k : Nat), vI (sp k)])) := bt.same (Same.upd hT)
        have no : turnSp rb c (sp k) = sp k → But sa G (upd H2 Tq (.tup [V.int (k : Nat), vI (sp k)])) ∧ (upd H2 Tq (.tup [V.int (k : Nat), vI (sp k)])) sa = some (.lst ((List.range l.length).map fun j => vI (if j < k + 1 then turnSp rb c (sp j) else sp j))) := fun e => by
          refine ⟨bt3, ?_⟩
          rw [e3]
          congr 3
          funext j
          by_cases h1 : j < k
          · rw [if_pos h1, if_pos (by omega)]
          · by_cases h2 : j = k
            · subst h2
              rw [if_neg h1, if_pos (by omega), e]
            · rw [if_neg h1, if_neg (by omega)]
        have yes : ∀ v, v = vI (turnSp rb c (sp k)) → But sa G (upd (upd H2 Tq (.tup [V.int (k : Nat), vI (sp k)])) sa (.lst (((List.range l.length).map fun j => vI (if j < k then turnSp rb c (sp j) else sp j)).set k v))) ∧ (upd (upd H2 Tq (.tup [V.int (k : Nat), vI (sp k)])) sa (.lst (((List.range l.length).map fun j => vI (if j < k then turnSp rb c (sp j) else sp j)).set k v))) sa = some (.lst ((List.range l.length).map fun j => vI (if j < k + 1 then turnSp rb c (sp j) else sp j))) := fun v e => by
          subst e
          refine ⟨fun b o n e => ?_, ?_⟩
          · rw [upd_ne n]
            exact bt3 b o n e
          · rw [upd_same, set_range]
            congr 3
            funext j
            by_cases h2 : j = k
            · subst h2
              rw [if_pos rfl, if_pos (by omega)]
            · by_cases h1 : j < k
              · rw [if_neg h2, if_pos h1, if_pos (by omega)]
              · rw [if_neg h2, if_neg h1, if_neg (by omega)]
        refine ⟨Tq, _, rfl, SqT.of upd_same, rfl, _, _, rfl, _, _, rfl, rfl, ?_⟩
        refine ⟨_, rfl, rb, rfl, ?_⟩
        cases hb : rb with
        | true =>
          rw [hb] at hrb yes no e3
          have hr2 : 2 * c ≤ u.length := of_decide_eq_true hrb.symm
          refine iteT ⟨_, rfl, _, rfl, _, _, rfl, rfl, _, rfl, ite2 (fun z => ?_) (fun z => ?_)⟩
          · have z' : (sp k : Int) < (c : Int) := of_decide_eq_true z
            refine iteT ⟨_, rfl, _, _, rfl, rfl, .inl ⟨by decide, by decide⟩, _, _, rfl, rfl, _, rfl, _, _, rfl, rfl, _, rfl, _, rfl, sa, _, _, k, rfl, rfl, e3, ixN_nat (by rw [List.length_map, List.length_range]; exact hjn), ?_⟩
            have e5 : V.int ((2 : Int) * (c : Int) - 1 - (sp k : Int)) = vI (turnSp true c (sp k)) := by
              unfold turnSp
              rw [if_pos rfl, if_pos (by omega)]
              exact congrArg V.int (by omega)
            obtain ⟨y1, y2⟩ := yes _ e5
            exact ⟨y1, y2, _, _, rfl⟩
          · have z' : ¬ (sp k : Int) < (c : Int) := fun e => z (decide_eq_true e)
            refine ⟨_, rfl, true, rfl, ?_⟩
            refine iteF ?_
            refine iteF ?_
            obtain ⟨y1, y2⟩ := no (by unfold turnSp; rw [if_pos rfl, if_neg (by omega)])
            exact ⟨y1, y2, _, _, rfl⟩
        | false =>
          rw [hb] at hrb yes no e3
          have hr2 : ¬ 2 * c ≤ u.length := of_decide_eq_false hrb.symm
          refine iteF ?_
          refine iteF ⟨_, rfl, false, rfl, iteT ⟨_, rfl, _, rfl, _, _, rfl, rfl, _, rfl, ?_⟩⟩
          refine ite2 (fun z => ?_) (fun z => ?_)
          · have z' : (sp k : Int) ≥ (c : Int) := of_decide_eq_true z
            refine ⟨_, rfl, _, _, rfl, rfl, .inl ⟨by decide, by decide⟩, _, _, rfl, rfl, _, rfl, _, _, rfl, rfl, _, rfl, _, rfl, sa, _, _, k, rfl, rfl, e3, ixN_nat (by rw [List.length_map, List.length_range]; exact hjn), ?_⟩
            have e5 : V.int ((2 : Int) * (c : Int) - 1 - (sp k : Int)) = vI (turnSp false c (sp k)) := by
              unfold turnSp
              rw [if_neg (by decide), if_neg (by omega)]
              exact congrArg V.int (by omega)
            obtain ⟨y1, y2⟩ := yes _ e5
            exact ⟨y1, y2, _, _, rfl⟩
          · have z' : ¬ (sp k : Int) ≥ (c : Int) := fun e => z (decide_eq_true e)
            obtain ⟨y1, y2⟩ := no (by unfold turnSp; rw [if_neg (by decide), if_pos (by omega)])
            exact ⟨y1, y2, _, _, rfl⟩
      · rintro σ H' ⟨bt, es2, w6, w7, rfl⟩
        rw [List.length_map, List.length_range] at es2
        have es3 : H' sa = some (.lst ((List.range l.length).map fun k => vI (turnSp rb c (sp k)))) := by
          rw [es2]
          congr 2
          exact List.map_congr_left fun k hk => by rw [if_pos (List.mem_range.mp hk)]
        have smH : Same H H' := fun b o e => bt _ _ (fun z => by rw [z, nsa] at e; cases e) (s1 _ _ (sm _ _ e))
        have nl := newLen_left hcr
        refine ⟨_, rfl, rb, rfl, ?_⟩
        cases hb : rb with
        | true =>
          rw [hb] at hrb es3
          have hr2 : 2 * c ≤ u.length := of_decide_eq_true hrb.symm
          refine iteT ⟨_, rfl, sa, rfl, ⟨_, SqL.of es3⟩, fun D hD => ?_⟩
          refine it_gen (wk_list (K := K) (fun k => vI (turnSp true c (sp k))) (List.range l.length)) (PF H' D (List.range l.length) (fun _ => true) fun k => vI (foldSp u.length c (sp k))) (PF.init hD) (fun j H7 _ z => SqL.of (z.1 _ _ es3)) ?_ ?_
          · rintro j x H7 H8 hj pf ⟨rfl, k, hk, rfl⟩
            have hkn := List.mem_range.mp (List.mem_of_getElem? hk)
            have hsk := lay.ok.lt k hkn
            refine ⟨rfl, _, rfl, _, rfl, _, _, rfl, rfl, ?_⟩
            have e : V.int ((turnSp true c (sp k) : Int) - (c : Int)) = vI (foldSp u.length c (sp k)) := by
              unfold turnSp foldSp
              rw [if_pos rfl, if_pos hr2]
              refine congrArg V.int ?_
              split <;> omega
            dsimp only
            rw [e]
            exact pf.acc hk rfl (Same.refl _) hD (by rw [List.length_range]; omega)
          · rintro H7 pf
            have eD := pf.done
            rw [List.filter_eq_self.mpr (fun _ _ => rfl)] at eD
            refine ⟨_, rfl, _, rfl, u, c, rfl, by omega, Nat.le_of_lt c2, ?_⟩
            exact ⟨smH.trans pf.1, left u c, _, D, _, _, _, _, _, rfl, smH.free hD, eD, lay.step hcr, ok.2, by rw [← nl]; exact esp⟩
        | false =>
          rw [hb] at hrb es3
          have hr2 : ¬ 2 * c ≤ u.length := of_decide_eq_false hrb.symm
          refine iteF ?_
          refine ⟨_, rfl, _, rfl, u, c, rfl, by omega, Nat.le_of_lt c2, ?_⟩
          refine ⟨smH, left u c, fun k => foldSp u.length c (sp k), sa, _, _, _, _, _, rfl, nsa, ?_, lay.step hcr, ok.2, by rw [← nl]; exact esp⟩
          rw [es3]
          congr 3
          funext k
          unfold turnSp foldSp
          dsimp only
          rw [if_neg (by decide), if_neg hr2]
    · rintro σ H' ⟨sm, u, sp, sa, v3, v4, v5, v6, v7, rfl, nsa, esa, lay, ok, esp⟩
      rw [List.drop_length] at ok esp
      have e : u = t := ok
      subst e
      have e2 : sp = spRow r l.length fun k => k := esp
      subst e2
      refine ⟨_, rfl, _, rfl, (by show 2 ≤ sizeLine; decide), fun Tq hT => ?_⟩
      exact q _ Tq sa (Same.upd' sm hT) upd_same (Same.upd hT _ _ esa)
end
end Lk

namespace Lk
open PySem PySem.Spec PyProof.Rows L2
/-! ### the law -/
open Fo
theorem atI_last {α : Type} (xs : List α) (x : α) : atI (xs ++ [x]) (-1) = some x := by
  unfold atI
  have e1 : ixN (xs ++ [x]).length (-1) = some xs.length := by
    unfold ixN
    rw [List.length_append]
    simp
    omega
  rw [e1]
  simp
theorem lt_mk2 {H : Hp} {a p q : Addr} {x y : List Nat} (h : H a = some (.lst [.ref p, .ref q])) (h1 : H p = some (.tup (x.map vI))) (h2 : H q = some (.tup (y.map vI))) : LT H a [x, y] :=
  ⟨[(p, x), (q, y)], rfl, h, fun r hr => by
    simp only [List.mem_cons, List.not_mem_nil, or_false] at hr
    rcases hr with rfl | rfl
    · exact h1
    · exact h2⟩
section
variable {P : Program} {w : World} {K : PySem.W.Frag} {mg : Str → Option Value} {base : Heap}
theorem ok_law (T : Txt K mg) {f : Addr} {fd : FuncData} (F : Fun K "law" "law" s_law f fd) : FnOk P w K mg base CX0 60 f fd ["script"] (sp_law K) := by
  have G__law_bag := ok__law_bag (P := P) (w := w) (base := base) T
  have G__law_creases := ok__law_creases (P := P) (w := w) (base := base) T
  have G__law_laid := ok__law_laid (P := P) (w := w) (base := base) T
  have G__law_left := ok__law_left (P := P) (w := w) (base := base) T
  have G__law_of := ok__law_of (P := P) (w := w) (base := base) T
  have G__law_strip := ok__law_strip (P := P) (w := w) (base := base) T
  have G__law_take := ok__law_take (P := P) (w := w) (base := base) T
  have G_folded_row := ok_folded_row (P := P) (w := w) (base := base) T
  have G_layers := ok_layers (P := P) (w := w) (base := base) T
  refine F.ok sc_law (fun vs H Q E h => ?_) (fun cdv A outer s H vs Q E hr h => ?_)
  · obtain ⟨a, ns, rfl, _⟩ := h
    rfl
  · obtain ⟨a, ns, rfl, hS, hlen, q⟩ := h
    refine ⟨_, pss_cons (ps_for PassesOwn.never rfl (pi_range1 rfl T.b_range (pa_cons (pe_op op_add (pe_callB (call_min2 rfl) (by rfl) T.b_min (by decide +kernel) (pa_cons (pe_callB call_len_seq (by rfl) T.b_len PySem.boot_len (pa_cons (pv 0) pa_nil)) (pa_cons pe_int pa_nil))) pe_int) pa_nil)) (pg_name (i := 1) sc_law.nd rfl (.inl rfl))
      (pss_cons (ps_set (i := 2) sc_law.nd rfl (.inl rfl) (pe_fn G__law_bag hr (pa_cons (pv 0) (pa_cons (pv 1) pa_nil))))
      (pss_cons (ps_asg (pe_tup (pa_cons (pe_fn G__law_strip hr (pa_cons (pv 2) (pa_cons pe_int pa_nil))) (pa_cons (pe_lst pa_nil) pa_nil))) (pg_tup rfl (pgs_cons (pg_name (i := 3) sc_law.nd rfl (.inr rfl)) (pgs_cons (pg_name (i := 4) sc_law.nd rfl (.inl rfl)) pgs_nil))))
      (pss_cons (ps_set (i := 5) sc_law.nd rfl (.inl rfl) (pv 3))
      (C8.pss_cut (ps_while PassesOwn.never (PW.pt (pw_and (pt_cmpR (op_neLI hr.units) (pe_fn G__law_creases hr (pa_cons (pv 5) pa_nil)) (pe_lst pa_nil) (nomark _)) (pw_and1 (pt_cmpR op_gt (pe_fn G__law_take hr (pa_cons (pv 2) (pa_cons pe_int pa_nil))) pe_int (nomark _)))))
        (pss_cons (ps_expr (pe_bm PySem.F.plainAttrs_list PySem.F.slot_list_append PySem.F.type_list_append mt_append (pv 4) (pa_cons (pe_fn G__law_of hr (pa_cons (pv 2) (pa_cons (pe_fn G__law_creases hr (pa_cons (pv 5) pa_nil)) pa_nil))) pa_nil)))
        (pss_one (ps_set (i := 5) sc_law.nd rfl (.inl rfl) (pe_fn G__law_left hr (pa_cons (pv 5) (pa_cons (pe_ix ix_list (pv 4) (pe_un un_neg pe_int) (fun _ _ => rfl)) pa_nil)))))))
      (pss_cons (ps_asg (pe_fn G__law_laid hr (pa_cons (pv 3) (pa_cons (pv 4) pa_nil))) (pg_tup rfl (pgs_cons (pg_name (i := 6) sc_law.nd rfl (.inl rfl)) (pgs_cons (pg_name (i := 7) sc_law.nd rfl (.inl rfl)) pgs_nil))))
      (pss_cons (ps_set (i := 8) sc_law.nd rfl (.inl rfl) (pe_lst pa_nil))
      (pss_cons (ps_for PassesOwn.never rfl (pi_range1 rfl T.b_range (pa_cons (pe_callB call_lenS (by rfl) T.b_len PySem.boot_len (pa_cons (pv 6) pa_nil)) pa_nil)) (pg_name (i := 9) sc_law.nd rfl (.inr rfl))
        (pss_one (ps_expr (pe_bm PySem.F.plainAttrs_list PySem.F.slot_list_append PySem.F.type_list_append mt_append (pv 8) (pa_cons (pe_callTy call_tuple_of (by rfl) T.b_tuple (by decide +kernel) (pa_cons (pe_lc (own := [("cell", 11), ("spot", 12)]) (g := gTup K 2 (gCons (gName 11) (gCons (gName 12) gNil)))  rfl sc_law.nd (pi_enum (by rfl) T.b_enumerate (pa_cons (pv 7) pa_nil)) (blkOk_by (own := [("cell", 11), ("spot", 12)]) (N := ["script", "k", "bag", "text", "row", "here", "last", "spots", "due", "place", "told", "cell", "spot", "cells", "sign", "other"]) (sc := defScope s_law) (by decide +kernel)) (fun _ _ _ _ _ => pg_tup rfl (pgs_cons (pg_name (i := 11) sc_law.nd rfl (Or.inl rfl)) (pgs_cons (pg_name (i := 12) sc_law.nd rfl (Or.inl rfl)) pgs_nil))) (fun _ _ _ _ _ => pts_one (pt_cmpR op_eqI (pv 12) (pv 9) (nomark _))) (fun _ _ _ _ _ => (pv 11))) pa_nil)) pa_nil)))))
      (pss_cons (ps_set (i := 10) sc_law.nd rfl (.inl rfl) (pe_fn G_layers hr (pa_cons (pv 3) (pa_cons (pv 4) pa_nil))))
      (pss_cons (ps_if (PW.pt (pw_or (pt_cmpR (op_neLT hr.units) (pv 10) (pv 8) (nomark _)) (pw_or1 (pt_cmpR op_neS (pe_fn G_folded_row hr (pa_cons (pv 3) (pa_cons (pv 4) pa_nil))) (pv 6) (nomark _)))))
        (pss_one (ps_ret pe_bl))
        pss_nil)
      (pss_cons (ps_if (pt_cmpR (op_neLI hr.units) (pe_callB cr_sortedI (by rfl) T.b_sorted (by decide +kernel) (pa_cons (pe_callB (cr_sumL rfl) (by rfl) T.b_sum (by decide +kernel) (pa_cons (pe_lc (own := [("cells", 13)]) (g := gName 13) (tt := tYes)  rfl sc_law.nd (pi_list (pv 10)) (blkOk_by (own := [("cells", 13)]) (N := ["script", "k", "bag", "text", "row", "here", "last", "spots", "due", "place", "told", "cell", "spot", "cells", "sign", "other"]) (sc := defScope s_law) (by decide +kernel)) (fun _ _ _ _ _ => pg_name (i := 13) sc_law.nd rfl (Or.inl rfl)) (fun _ _ _ _ _ => pts_nil) (fun _ _ _ _ _ => (pe_callTy (call_list_ofK K rfl) (by rfl) T.b_list (by decide +kernel) (pa_cons (pv 13) pa_nil)))) (pa_cons (pe_lst pa_nil) pa_nil))) pa_nil)) (pe_listRg rfl (by rfl) T.b_list (prg_1 (by rfl) T.b_range (pe_callB call_lenS (by rfl) T.b_len PySem.boot_len (pa_cons (pv 3) pa_nil)))) (nomark _))
        (pss_one (ps_ret pe_bl))
        pss_nil)
      (pss_cons (ps_if (pt_cmpR (op_neLI hr.units) (pe_lc (own := [("cells", 13), ("sign", 14)]) (g := gTup K 2 (gCons (gName 13) (gCons (gName 14) gNil)))  rfl sc_law.nd (pi_zipS (by rfl) T.b_zip (pa_cons (pv 10) (pa_cons (pv 6) pa_nil))) (blkOk_by (own := [("cells", 13), ("sign", 14)]) (N := ["script", "k", "bag", "text", "row", "here", "last", "spots", "due", "place", "told", "cell", "spot", "cells", "sign", "other"]) (sc := defScope s_law) (by decide +kernel)) (fun _ _ _ _ _ => pg_tup rfl (pgs_cons (pg_name (i := 13) sc_law.nd rfl (Or.inl rfl)) (pgs_cons (pg_name (i := 14) sc_law.nd rfl (Or.inr rfl)) pgs_nil))) (fun _ _ _ _ _ => pts_one (pt_cmpR (r := rEqLI K true) (op_neLI hr.units) (pe_lc (own := [("cell", 11)]) (g := gName 11)  rfl sc_law.nd (pi_tupK K rfl (pv 13)) (blkOk_by (own := [("cell", 11)]) (N := ["script", "k", "bag", "text", "row", "here", "last", "spots", "due", "place", "told", "cell", "spot", "cells", "sign", "other"]) (sc := relS { kind := .function, names := [(PySem.Str.ofString ".0", .local), (PySem.Str.ofString "cells", .local), (PySem.Str.ofString "sign", .cell), (PySem.Str.ofString "text", .free)], isGenerator := false, isCoroutine := false, more := [] } (defScope s_law)) (by decide +kernel)) (fun _ _ _ _ _ => pg_name (i := 11) sc_law.nd rfl (Or.inl rfl)) (fun _ _ _ _ _ => pts_one (pt_cmpR op_neS (pe_ix ix_S (pv 3) (pv 11) (fun _ _ => rfl)) (pv 14) (nomark _))) (fun _ _ _ _ _ => (pv 11))) (pe_lst pa_nil) (nomark _))) (fun _ _ _ _ _ => pe_int)) (pe_lst pa_nil) (nomark _))
        (pss_one (ps_ret pe_bl))
        pss_nil)
      (pss_cons (ps_if (pt_cmpR (op_neLI hr.units) (pe_lc (own := [("spot", 12), ("other", 15)]) (g := gTup K 2 (gCons (gName 12) (gCons (gName 15) gNil)))  rfl sc_law.nd (pi_zip (by rfl) T.b_zip (pa_cons (pv 7) (pa_cons (pe_slice sl_list (pv 7) (po_some pe_int) po_none) pa_nil))) (blkOk_by (own := [("spot", 12), ("other", 15)]) (N := ["script", "k", "bag", "text", "row", "here", "last", "spots", "due", "place", "told", "cell", "spot", "cells", "sign", "other"]) (sc := defScope s_law) (by decide +kernel)) (fun _ _ _ _ _ => pg_tup rfl (pgs_cons (pg_name (i := 12) sc_law.nd rfl (Or.inl rfl)) (pgs_cons (pg_name (i := 15) sc_law.nd rfl (Or.inl rfl)) pgs_nil))) (fun _ _ _ _ _ => pts_one (pt_cmpR op_gt (pe_callB call_abs (by rfl) T.b_abs (by decide +kernel) (pa_cons (pe_op op_sub (pv 12) (pv 15)) pa_nil)) pe_int (nomark _))) (fun _ _ _ _ _ => pe_int)) (pe_lst pa_nil) (nomark _))
        (pss_one (ps_ret pe_bl))
        pss_nil)
      (pss_cons (ps_expr (pe_bm PySem.F.plainAttrs_list PySem.F.slot_list_append PySem.F.type_list_append mt_append (pv 10) (pa_cons (pe_tup pa_nil) pa_nil)))
      (pss_one (ps_if (PW.pt (pw_or (pt_cmpR (op_neLT hr.units) (pe_fn G_layers hr (pa_cons (pv 3) (pa_cons (pv 4) pa_nil))) (pv 8) (nomark _)) (pw_or1 (pt_cmpR (op_neLT hr.units) (pe_fn G_layers hr (pa_cons (pv 3) (pa_cons (pe_lst pa_nil) pa_nil))) (pe_lc (own := [("cell", 11)]) (g := gName 11) (tt := tYes)  rfl sc_law.nd (pi_range1 rfl T.b_range (pa_cons (pe_callB call_lenS (by rfl) T.b_len PySem.boot_len (pa_cons (pv 3) pa_nil)) pa_nil)) (blkOk_by (own := [("cell", 11)]) (N := ["script", "k", "bag", "text", "row", "here", "last", "spots", "due", "place", "told", "cell", "spot", "cells", "sign", "other"]) (sc := defScope s_law) (by decide +kernel)) (fun _ _ _ _ _ => pg_name (i := 11) sc_law.nd rfl (Or.inl rfl)) (fun _ _ _ _ _ => pts_nil) (fun _ _ _ _ _ => (pe_tup (pa_cons (pv 11) pa_nil)))) (nomark _)))))
        (pss_one (ps_ret pe_bl))
        pss_nil))))))))))))))))
    (pss_one (ps_ret (pe_and (pe_cmpR (op_eqLT hr.units) (pe_fn G_layers hr (pa_cons pe_str (pa_cons (pe_lst (pa_cons pe_int pa_nil)) pa_nil))) (pe_lst (pa_cons (pe_tup (pa_cons pe_int (pa_cons pe_int pa_nil))) (pa_cons (pe_tup (pa_cons pe_int (pa_cons pe_int pa_nil))) pa_nil))) (by rfl)) (pe_one (pe_cmpR (op_eqLT hr.units) (pe_fn G_layers hr (pa_cons pe_str (pa_cons (pe_lst (pa_cons pe_int (pa_cons pe_int pa_nil))) pa_nil))) (pe_lst (pa_cons (pe_tup (pa_cons pe_int (pa_cons pe_int (pa_cons pe_int pa_nil)))) (pa_cons (pe_tup (pa_cons pe_int pa_nil)) pa_nil))) (by rfl)))))), ?_⟩
    refine ⟨_, rfl, a, _, rfl, .inl hS, _, _, rfl, _, _, rfl, rfl, _, rfl, ?_, ?_, ?_⟩
    · split <;> (try rw [List.length_map]) <;> omega
    · split <;> (try rw [List.length_map]) <;> omega
    refine for_range (lo := 0) (n := _) (fun i σ H' => Same H H' ∧ ∃ v1 v2 v3 v4 v5 v6 v7 v8 v9 v10 : Option V, σ = [some (.ref a), v1, v2, v3, v4, v5, v6, v7, v8, v9, v10, none, none, none, none, none]) ⟨Same.refl H, none, none, none, none, none, none, none, none, none, none, rfl⟩ ?_ ?_
    · rintro i σ H1 hi ⟨sm1, v1, v2, v3, v4, v5, v6, v7, v8, v9, v10, rfl⟩
      have hi' : i ≤ 20 := by
        revert hi
        split <;> omega
      refine ⟨_, rfl, _, rfl, a, ns, _, rfl, sm1.seq hS, by omega, by omega, fun b H2 hb2 sm2 bag2 => ?_⟩
      have smb : Same H H2 := sm1.trans sm2
      have fb : H b = none := sm1.free hb2
      -- text, row
      refine ⟨_, rfl, b, 24, rfl, bag2, by decide, by decide, fun l H3 bt3 bag3 l1 l2 sg => ?_⟩
      have sm3 := same_but smb fb bt3
      have l24 : l.length ≤ 24 := by omega
      refine ⟨(by show 0 ≤ sizeLine; decide), fun rp hrp => ⟨(by show 2 ≤ sizeLine; decide), fun Tq hTq => ⟨Tq, _, rfl, SqT.of upd_same, rfl, _, _, rfl, ?_⟩⟩⟩
      have sm4 := Same.upd' (o := .tup [vS l, .ref rp]) (Same.upd' (o := .lst []) sm3 hrp) hTq
      have nrp : H rp = none := sm3.free hrp
      have nrb : b ≠ rp := bag3.ne hrp
      have bag4 : Bag (upd (upd H3 rp (.lst [])) Tq (.tup [vS l, .ref rp])) b := (bag3.upd nrb).upd ((bag3.upd (o := .lst []) nrb).ne hTq)
      have er4 : (upd (upd H3 rp (.lst [])) Tq (.tup [vS l, .ref rp])) rp = some (.lst (([] : List Nat).map vI)) := by rw [upd_ne (ne_of_none upd_same hTq), upd_same]; rfl
      refine ⟨_, _, rfl, rfl, ?_⟩
      refine ⟨_, rfl, ?_⟩
      refine ⟨fun σ' H' => ∃ (t : L) (rs : List Nat), σ' = [some (.ref a), some (.int (0 + (i : Int))), some (.ref b), some (vS l), some (.ref rp), some (vS t), v6, v7, v8, v9, v10, none, none, none, none, none] ∧ Same H H' ∧ H' rp = some (.lst (rs.map vI)) ∧ RowOk l rs t, ?wh, ?rest⟩
      case wh =>
        refine ⟨fun m σ H' => ∃ (t : L) (rs : List Nat), σ = [some (.ref a), some (.int (0 + (i : Int))), some (.ref b), some (vS l), some (.ref rp), some (vS t), v6, v7, v8, v9, v10, none, none, none, none, none] ∧ Same H H' ∧ Bag H' b ∧ H' rp = some (.lst (rs.map vI)) ∧ RowOk l rs t ∧ rs.length + t.length ≤ l.length ∧ m = t.length,
          ⟨_, l, [], rfl, sm4, bag4, er4, rfl, by simp, rfl⟩, ?_⟩
        rintro m σ H5 ⟨t, rs, rfl, sm5, bag5, er5, ok, tl, rfl⟩
        refine ⟨_, rfl, t, rfl, by omega, fun cp hcp => ⟨Nat.zero_le _, fun z hz => ?_⟩⟩
        have ncz : cp ≠ z := ne_of_none upd_same hz
        have s6 := Same.upd' (o := .lst []) (Same.upd (o := .lst ((creases t).map vI)) hcp) hz
        have bag6 := bag5.same s6
        have er6 := s6 _ _ er5
        refine ⟨cp, z, creases t, [], rfl, rfl, SqL.of (by rw [upd_ne ncz, upd_same]), SqL.of upd_same, _, rfl, ?_⟩
        by_cases ec : creases t = []
        · rw [show (if true = true then !decide (creases t = []) else decide (creases t = [])) = false by simp [ec]]
          refine iteF (iteF ?_)
          exact ⟨t, rs, rfl, sm5.trans s6, er6, ok⟩
        · rw [show (if true = true then !decide (creases t = []) else decide (creases t = [])) = true by simp [ec]]
          refine iteT ?_
          refine ⟨_, rfl, b, 8, rfl, bag6, by decide, by decide, fun v H7 bt7 b7 v0 v1 => ⟨_, _, rfl, rfl, _, rfl, ?_⟩⟩
          have e7 := bt7 _ _ nrb.symm er6
          have sm7 := same_but (sm5.trans s6) fb bt7
          refine ite2 (fun _ => ?_) (fun _ => ?_)
          · refine ⟨fun σ' H2 => ∃ m', m' < t.length ∧ ∃ (t : L) (rs : List Nat), σ' = [some (.ref a), some (.int (0 + (i : Int))), some (.ref b), some (vS l), some (.ref rp), some (vS t), v6, v7, v8, v9, v10, none, none, none, none, none] ∧ Same H H2 ∧ Bag H2 b ∧ H2 rp = some (.lst (rs.map vI)) ∧ RowOk l rs t ∧ rs.length + t.length ≤ l.length ∧ m' = t.length, fun _ _ z => z, ?_⟩
            refine ⟨_, rfl, .inl ⟨rfl, _, SqL.of e7⟩, _, rfl, _, rfl, t, rfl, by omega, fun c2 hc2 => ?_⟩
            have cl := creases_len t
            refine .inr ⟨b, c2, (creases t).map vI, rfl, b7.upd (b7.ne hc2), SqL.of upd_same, (b7.ne hc2).symm, fun z => ec (List.map_eq_nil_iff.mp z), by rw [List.length_map]; omega, fun x H8 bt8 b8 hx => ?_⟩
            obtain ⟨c, hc, rfl⟩ := List.mem_map.mp hx
            have hcr := mem_creases.mp hc
            have hll := left_len hcr
            have sm8 := same_but (Same.upd' (o := .lst ((creases t).map vI)) sm7 hc2) fb bt8
            have e8 : H8 rp = some (.lst (rs.map vI)) := bt8 _ _ nrb.symm (by rw [upd_ne (ne_of_none e7 hc2)]; exact e7)
            refine ⟨rp, _, _, rfl, rfl, e8, by rw [List.length_map]; exact small1000 (by omega), ?_⟩
            have e9 : (upd H8 rp (.lst (rs.map vI ++ [vI c]))) rp = some (.lst ((rs ++ [c]).map vI)) := by rw [upd_same, List.map_append]; rfl
            refine ⟨_, rfl, _, rfl, 1, rfl, rp, _, -1, vI c, rfl, rfl, SqL.of upd_same, atI_last _ _, t, c, rfl, by omega, Nat.le_of_lt hcr.2.1, ?_⟩
            refine ⟨_, hll.1, left t c, rs ++ [c], rfl, fun d o e => ?_, b8.upd nrb, e9, rowOk_snoc ok hcr rfl, by rw [List.length_append]; simp only [List.length_singleton]; omega, rfl⟩
            rw [upd_ne (fun z => by rw [z, nrp] at e; cases e)]
            exact sm8 _ _ e
          · exact ⟨t, rs, rfl, sm7, e7, ok⟩
      case rest =>
        rintro σ' H5 ⟨t, rs, rfl, sm5, er5, ok⟩
        have t24 : t.length ≤ 24 := by have := ok.len; omega
        have lay := Lay.row (Lay.start l) ok
        -- where each cell lies
        refine ⟨_, rfl, _, rfl, l, t, rs, rp, rfl, by omega, er5, ok, fun H6 Tl sa sm6 eT esa => ⟨Tl, _, rfl, SqT.of eT, rfl, _, _, rfl, _, _, rfl, rfl, ?_⟩⟩
        obtain ⟨sp, hsp⟩ : ∃ sp, sp = spRow rs l.length fun k => k := ⟨_, rfl⟩
        rw [← hsp] at lay esa
        refine ⟨(by show 0 ≤ sizeLine; decide), fun dp hdp => ?_⟩
        have sm7 := (sm5.trans sm6).trans (Same.upd (o := .lst []) hdp)
        have ndp : H dp = none := (sm5.trans sm6).free hdp
        refine ⟨_, rfl, t, rfl, by omega, _, rfl, by omega, by omega, ?_⟩
        refine for_range (lo := 0) (n := ((t.length : Nat) : Int).toNat) (fun j σ H' => Same H6 H' ∧ LT H' dp ((List.range j).map (cellsOf sp l.length)) ∧ ∃ w9 : Option V, σ = [some (.ref a), some (.int (0 + (i : Int))), some (.ref b), some (vS l), some (.ref rp), some (vS t), some (vS t), some (.ref sa), some (.ref dp), w9, v10, none, none, none, none, none])
          ⟨Same.upd hdp, ⟨[], rfl, upd_same, fun p hp => nomatch hp⟩, v9, rfl⟩ ?_ ?_
        · rintro j σ H8 hj ⟨sm8, lt8, w9, rfl⟩
          have ejj : (0 : Int) + (j : Int) = (j : Int) := Int.zero_add _
          obtain ⟨ps8, _, ep8, _⟩ := id lt8
          have esa8 := (sm8 _ _ esa)
          refine ⟨_, rfl, .inl ⟨rfl, _, SqL.of ep8⟩, _, rfl, sa, _, rfl, SqL.of esa8, fun D hD => ?_⟩
          refine it_gen walk_enum (PF H8 D (List.range l.length) (fun k => decide (sp k = j)) vI) (PF.init hD) (fun q H9 _ z => SqL.of (z.1 _ _ esa8)) ?_ ?_
          · rintro k x H9 H' hk pf ⟨Tk, y, z, rfl, hT, rfl, hy, hz⟩
            have hy' : V.int (k : Nat) = y := Option.some.inj hy
            subst hy'
            obtain ⟨k2, hk2, rfl⟩ := ym_of hz
            have hkn : k < l.length := by
              have := (List.getElem?_eq_some_iff.mp hk2).1
              rw [List.length_range] at this
              exact this
            have ek : k2 = k := by
              rw [List.getElem?_range hkn] at hk2
              exact (Option.some.inj hk2).symm
            subst ek
            refine ⟨Tk, _, rfl, SqT.of upd_same, rfl, _, _, rfl, _, _, rfl, rfl, rfl, _, rfl, _, rfl, _, _, rfl, rfl, _, rfl, ite2 (fun z => ?_) (fun z => ?_)⟩
            · have z' : (sp k2 : Int) = 0 + (j : Int) := of_decide_eq_true z
              exact ⟨_, rfl, pf.acc hk2 (decide_eq_true (by omega)) (Same.upd hT) hD (by rw [List.length_range]; omega)⟩
            · have z' : ¬ (sp k2 : Int) = 0 + (j : Int) := fun e => z (decide_eq_true e)
              exact pf.rej hk2 (decide_eq_false (by omega)) (Same.upd hT)
          · rintro H9 pf
            rw [List.length_map] at pf
            have eD : H9 D = some (.lst ((cellsOf sp l.length j).map vI)) := pf.done
            refine ⟨D, _, rfl, .inl ⟨SqL.of eD, fun t1 ht1 => ?_⟩⟩
            obtain ⟨acc, h1, h2, h3⟩ := lt8.snoc (p := t1) (c := cellsOf sp l.length j) (Same.upd' (o := .tup ((cellsOf sp l.length j).map vI)) pf.1 ht1) (by rw [upd_same])
            refine ⟨dp, acc, .ref t1, rfl, rfl, h1, ?_, fun d o e => ?_, ?_, _, rfl⟩
            · rw [h2, List.length_map, List.length_range]
              exact small1000 (by omega)
            · rw [upd_ne (ne_of_none e hdp)]
              exact Same.upd' (sm8.trans pf.1) ht1 _ _ e
            · rw [List.range_succ, List.map_append]
              exact h3
        · rintro σ H8 ⟨sm8, lt8, w9, rfl⟩
          rw [Int.toNat_natCast] at lt8
          have ltd : LT H8 dp (layersOf l.length t.length sp) := lt8
          clear lt8
          have ltd8 := ltd
          have er8 := sm8 _ _ (sm6 _ _ er5)
          have esa8 := sm8 _ _ esa
          have smA := (sm5.trans sm6).trans sm8
          -- what is told
          refine ⟨_, rfl, _, rfl, l, t, rs, rp, rfl, by omega, er8, ok, fun H9 tp htp sm9 ltt => ?_⟩
          rw [← hsp] at ltt
          refine ⟨_, rfl, _, rfl, tp, dp, _, _, rfl, rfl, ltt, ltd.same sm9, _, rfl, iteNS rfl ?_⟩
          refine ⟨_, rfl, _, rfl, l, t, rs, rp, rfl, by omega, SqL.of (sm9 _ _ er8), ok, fun H10 sm10 => ⟨_, rfl, t, t, rfl, rfl, _, rfl, iteNS rfl ?_⟩⟩
          have ltt := ltt.same sm10
          have ltd := (ltd.same sm9).same sm10
          have smB := (smA.trans sm9).trans sm10
          have er10 := sm10 _ _ (sm9 _ _ er8)
          have esa10 := sm10 _ _ (sm9 _ _ esa8)
          have t1 : 1 ≤ t.length := ok.comes.pos l1
          obtain ⟨ps, hps, eps, htps⟩ := id ltt
          have psl : ps.length = t.length := by
            have := congrArg List.length hps
            rw [List.length_map] at this
            rw [this]
            unfold layersOf
            rw [List.length_map, List.length_range]
          -- each cell in just one
          refine ⟨_, rfl, tp, rfl, ⟨_, SqL.of eps⟩, fun D hD => ?_⟩
          refine it_gen (wk_list (K := K) (fun p : Addr × List Nat => V.ref p.1) ps) (fun j H' => Same H10 H' ∧ ∃ qs : List (Addr × List V), H' D = some (.lst (qs.map fun p => V.ref p.1)) ∧ qs.map (·.2) = (ps.take j).map (fun p => p.2.map vI) ∧ ∀ q ∈ qs, H' q.1 = some (.lst q.2) ∧ q.1 ≠ D)
            ⟨Same.upd hD, [], upd_same, rfl, fun q hq => nomatch hq⟩ (fun j H7 _ z => SqL.of (z.1 _ _ eps)) ?_ ?_
          · rintro j x H11 H' hj ⟨sm11, qs, eD, hq, hl⟩ ⟨rfl, p, hp, rfl⟩
            refine ⟨rfl, _, rfl, p.1, p.2.map vI, rfl, .inr (SqT.of (sm11 _ _ (htps p (List.mem_of_getElem? hp)))), fun l0 hl0 => ?_⟩
            have nl0 : l0 ≠ D := fun e => by rw [e, eD] at hl0; cases hl0
            refine ⟨_, by rw [upd_ne nl0.symm]; exact eD, ?_, fun d o e => ?_, qs ++ [(l0, p.2.map vI)], ?_, ?_, fun q hq2 => ?_⟩
            · have := congrArg List.length hq
              rw [List.length_map, List.length_map, List.length_take] at this
              rw [List.length_map]
              exact small1000 (by omega)
            · rw [upd_ne (ne_of_none e hD)]
              exact Same.upd' sm11 hl0 _ _ e
            · rw [upd_same, List.map_append]
              rfl
            · rw [List.map_append, hq, List.take_add_one, hp, List.map_append]
              rfl
            · rcases List.mem_append.mp hq2 with hq2 | hq2
              · obtain ⟨y1, y2⟩ := hl q hq2
                refine ⟨?_, y2⟩
                rw [upd_ne y2, upd_ne (ne_of_none y1 hl0)]
                exact y1
              · rw [List.mem_singleton.mp hq2]
                exact ⟨by rw [upd_ne nl0, upd_same], nl0⟩
          · rintro H11 ⟨sm11, qs, eD, hq, hl⟩
            rw [List.take_length] at hq
            have eflat : qs.flatMap (·.2) = ((layersOf l.length t.length sp).flatMap fun c => c).map vI := by
              rw [flat_lay, ← hps, List.flatMap_def, hq, List.map_flatten, List.map_map]
              rfl
            have flen := layers_len sp l.length t.length
            refine ⟨(by show 0 ≤ sizeLine; decide), fun e0 he0 => ?_⟩
            have s12 := Same.upd' (o := .lst []) sm11 he0
            refine ⟨D, e0, qs, rfl, by rw [upd_ne (ne_of_none eD he0)]; exact eD, upd_same, ?_, fun q hq2 => by rw [upd_ne (ne_of_none (hl q hq2).1 he0)]; exact (hl q hq2).1, by rw [eflat, List.length_map]; exact big (by omega), fun s0 hs0 => ?_⟩
            · intro e
              have := congrArg List.length hq
              rw [e, List.length_map, List.length_map] at this
              rw [← psl, ← this] at t1
              exact absurd t1 (by decide)
            have s13 := Same.upd' (o := .lst (qs.flatMap (·.2))) s12 hs0
            refine ⟨s0, ((layersOf l.length t.length sp).flatMap fun c => c).map fun n : Nat => (n : Int), rfl, SqL.of (by rw [upd_same, eflat, vI_map]), fun ns' so perm srt hso => ?_⟩
            obtain ⟨ws, rfl, w1, w2⟩ := nats_of perm srt
            have ew : ws = List.range l.length := layers_all lay.ok w1 w2
            have s14 := Same.upd' (o := .lst ((ws.map fun n : Nat => (n : Int)).map V.int)) s13 hso
            refine ⟨_, rfl, l, rfl, by omega, _, rfl, ⟨by omega, by omega, by omega, by omega, by omega⟩, fun g hg => ⟨so, g, ws, List.range l.length, rfl, rfl, SqL.of (by rw [upd_ne (ne_of_none upd_same hg), upd_same, vI_map]), SqL.of (by rw [upd_same, rgV_nat]), _, rfl, iteNS ew ?_⟩⟩
            have s15 := Same.upd' (o := .lst (rgV 0 (l.length : Int))) s14 hg
            have psq : ∀ (k : Nat) (p : Addr × List Nat), ps[k]? = some p → k < t.length ∧ p.2 = cellsOf sp l.length k := fun k p hp => by
              have h1 : (ps.map (·.2))[k]? = some p.2 := by rw [List.getElem?_map, hp]; rfl
              have h2 : k < t.length := by rw [← psl]; exact (List.getElem?_eq_some_iff.mp hp).1
              rw [hps] at h1
              unfold layersOf at h1
              rw [List.getElem?_map, List.getElem?_range h2] at h1
              exact ⟨h2, (Option.some.inj h1).symm⟩
            -- like signs
            refine ⟨_, rfl, _, rfl, tp, S t, _, rfl, SqL.of (s15 _ _ eps), fun D2 hD2 => ?_⟩
            refine it_gen (walk_zipS (K := K) (fun p : Addr × List Nat => V.ref p.1) ps t psl) (PF _ D2 ps (fun _ => false) (fun _ => vI 1)) (PF.init hD2) (fun j H' _ z => SqL.of (z.1 _ _ (s15 _ _ eps))) ?_ ?_
            · rintro j x H12 H' hj pf ⟨Tz, p, c, rfl, hT, hp, hc, rfl⟩
              refine ⟨Tz, _, rfl, SqT.of upd_same, rfl, _, _, rfl, _, _, rfl, rfl, rfl, ?_⟩
              have sTz := Same.upd (o := .tup [V.ref p.1, vS [c]]) hT
              have etp := sTz _ _ (pf.1 _ _ (s15 _ _ (htps p (List.mem_of_getElem? hp))))
              refine ⟨_, rfl, p.1, rfl, ⟨_, SqT.of etp⟩, fun D3 hD3 => ?_⟩
              refine it_gen (wk_tup (K := K) vI p.2) (PF _ D3 p.2 (fun _ => false) vI) (PF.init hD3) (fun k H' _ z => SqT.of (z.1 _ _ etp)) ?_ ?_
              · rintro k x H13 H' hk pf3 ⟨rfl, q, hq, rfl⟩
                have hq2 : q ∈ cellsOf sp l.length j := by
                  rw [← (psq j p hp).2]
                  exact List.mem_of_getElem? hq
                obtain ⟨q1, q2⟩ := mem_cells.mp hq2
                have hlq := lay.sign q q1
                rw [q2, hc, List.getElem?_eq_getElem q1] at hlq
                have hlq := Option.some.inj hlq
                refine ⟨rfl, _, rfl, _, rfl, l, _, l[q], rfl, rfl, by omega, atI_nat (List.getElem?_eq_getElem q1), _, rfl, [l[q]], [c], rfl, rfl, _, rfl, ?_⟩
                refine iteNS (by rw [hlq]) ?_
                exact pf3.rej hq rfl (Same.refl _)
              · rintro H13 pf3
                have eD3 := pf3.done
                rw [List.filter_eq_nil_iff.mpr (fun _ _ => by decide)] at eD3
                refine ⟨(by show 0 ≤ sizeLine; decide), fun z hz => ⟨D3, z, [], [], rfl, rfl, SqL.of (by rw [upd_ne (ne_of_none eD3 hz)]; exact eD3), SqL.of upd_same, _, rfl, iteF ?_⟩⟩
                exact pf.rej hp rfl ((sTz.trans pf3.1).trans (Same.upd hz))
            · rintro H12 pf
              have eD2 := pf.done
              rw [List.filter_eq_nil_iff.mpr (fun _ _ => by decide)] at eD2
              refine ⟨(by show 0 ≤ sizeLine; decide), fun z2 hz2 => ⟨D2, z2, [], [], rfl, rfl, SqL.of (by rw [upd_ne (ne_of_none eD2 hz2)]; exact eD2), SqL.of upd_same, _, rfl, iteF ?_⟩⟩
              have s16 := (s15.trans pf.1).trans (Same.upd (o := .lst []) hz2)
              -- neighbours
              refine ⟨_, rfl, _, rfl, _, rfl, sa, _, rfl, SqL.of (s16 _ _ esa10), fun s1 hs1 => ?_⟩
              have s17 := Same.upd' (o := .lst (cutV ((List.range l.length).map fun k => vI (sp k)) (some 1) none)) s16 hs1
              have es1 : (upd (upd H12 z2 (.lst [])) s1 (.lst (cutV ((List.range l.length).map fun k => vI (sp k)) (some 1) none))) s1 = some (.lst (((List.range l.length).drop 1).map fun k => vI (sp k))) := by
                rw [upd_same, show cutV ((List.range l.length).map fun k => vI (sp k)) (some 1) none = ((List.range l.length).drop 1).map fun k => vI (sp k) from cutV_from _ _ 1]
              refine ⟨sa, s1, _, _, rfl, SqL.of (s17 _ _ esa10), SqL.of es1, fun D4 hD4 => ?_⟩
              refine it_gen (walk_zip rfl) (PF _ D4 (List.range l.length) (fun _ => false) vI) (PF.init hD4) (fun j H' _ z => ⟨SqL.of (z.1 _ _ (s17 _ _ esa10)), SqL.of (z.1 _ _ es1)⟩) ?_ ?_
              · rintro j x H14 H' hj pf4 ⟨Tz, y, z, rfl, hT, rfl, hy, hz⟩
                obtain ⟨k, hk, rfl⟩ := ym_of hy
                obtain ⟨k2, hk2, rfl⟩ := ym_of hz
                have jn : j < l.length := by
                  have := (List.getElem?_eq_some_iff.mp hk).1
                  rw [List.length_range] at this
                  exact this
                have ek : k = j := by
                  rw [List.getElem?_range jn] at hk
                  exact (Option.some.inj hk).symm
                rw [List.getElem?_drop] at hk2
                have jn2 : 1 + j < l.length := by
                  have := (List.getElem?_eq_some_iff.mp hk2).1
                  rw [List.length_range] at this
                  exact this
                have ek2 : k2 = 1 + j := by
                  rw [List.getElem?_range jn2] at hk2
                  exact (Option.some.inj hk2).symm
                subst ek ek2
                obtain ⟨n1, n2⟩ := lay.near k (by omega)
                rw [show k + 1 = 1 + k by omega] at n1 n2
                refine ⟨Tz, _, rfl, SqT.of upd_same, rfl, _, _, rfl, _, _, rfl, rfl, rfl, _, rfl, _, rfl, _, _, rfl, rfl, _, rfl, _, _, rfl, rfl, _, rfl, ite2 (fun z => absurd (of_decide_eq_true z) ?_) (fun _ => ?_)⟩
                · split <;> omega
                · exact pf4.rej hk rfl (Same.upd hT)
              · rintro H14 pf4
                have eD4 := pf4.2
                rw [List.filter_eq_nil_iff.mpr (fun _ _ => by decide)] at eD4
                refine ⟨(by show 0 ≤ sizeLine; decide), fun z4 hz4 => ⟨D4, z4, [], [], rfl, rfl, SqL.of (by rw [upd_ne (ne_of_none eD4 hz4)]; exact eD4), SqL.of upd_same, _, rfl, iteF ?_⟩⟩
                have s18 := (s17.trans pf4.1).trans (Same.upd (o := .lst []) hz4)
                -- one more put to what was told
                have ep18 := s18 _ _ eps
                refine ⟨_, rfl, .inl ⟨rfl, _, SqL.of ep18⟩, (by show 0 ≤ sizeLine; decide), fun e1 he1 => ⟨tp, _, .ref e1, rfl, rfl, by rw [upd_ne (ne_of_none ep18 he1)]; exact ep18, by rw [List.length_map, psl]; exact small1000 (by omega), ?_⟩⟩
                have s19 : Same H8 (upd (upd (upd H14 z4 (.lst [])) e1 (.tup [])) tp (.lst (ps.map (fun p => V.ref p.1) ++ [V.ref e1]))) := fun d o e => by
                  rw [upd_ne (ne_of_none e htp)]
                  exact Same.upd' ((sm9.trans sm10).trans s18) he1 _ _ e
                have ltd8 : LT H8 dp (layersOf l.length t.length sp) := ltd8
                refine ⟨_, rfl, _, rfl, l, t, rs, rp, rfl, by omega, s19 _ _ er8, ok, fun H16 tp2 htp2 sm16 lt16 => ?_⟩
                rw [← hsp] at lt16
                refine ⟨_, rfl, tp2, dp, _, _, rfl, rfl, lt16, (ltd8.same s19).same sm16, _, rfl, iteNS rfl ?_⟩
                refine ⟨_, rfl, (by show 0 ≤ sizeLine; decide), fun e2 he2 => ⟨l, l, [], e2, rfl, by omega, upd_same, rfl, fun H17 tp3 htp3 sm17 lt17 => ?_⟩⟩
                refine ⟨_, rfl, l, rfl, by omega, _, rfl, by omega, by omega, fun D5 hD5 => ?_⟩
                refine lc_range (lo := 0) (n := ((l.length : Nat) : Int).toNat) (fun i H2 => Same H17 H2 ∧ LT H2 D5 ((List.range i).map fun k => [k])) ⟨Same.upd hD5, [], rfl, upd_same, fun p hp => nomatch hp⟩ ?_ ?_
                · rintro k H2 hi ⟨sm, lt⟩
                  refine ⟨rfl, _, rfl, (by show 1 ≤ sizeLine; decide), fun p hp => ?_⟩
                  have e0 : V.int (0 + (k : Int)) = vI k := congrArg V.int (Int.zero_add _)
                  rw [e0]
                  obtain ⟨acc, h1, h2, h3⟩ := lt.snoc (p := p) (c := [k]) (Same.upd hp) (by rw [upd_same])
                  refine ⟨acc, h1, ?_, ?_, ?_⟩
                  · rw [h2, List.length_map, List.length_range]
                    exact small1000 (by omega)
                  · intro d o e
                    rw [upd_ne (ne_of_none e hD5)]
                    exact Same.upd' sm hp _ _ e
                  · rw [List.range_succ, List.map_append]
                    exact h3
                · rintro H2 ⟨sm20, lt20⟩
                  rw [Int.toNat_natCast] at lt20
                  refine ⟨tp3, D5, _, _, rfl, rfl, lt17.same sm20, lt20, _, rfl, iteNS (layers_id l.length) ?_⟩
                  have sF := ((((smA.trans s19).trans sm16).trans (Same.upd (o := .lst []) he2)).trans sm17).trans sm20
                  exact ⟨sF, _, _, _, _, _, _, _, _, _, _, rfl⟩
    · rintro σ H' ⟨sm, _⟩
      refine ⟨(by show 1 ≤ sizeLine; decide), fun r1 hr1 => ⟨[97, 98, 98, 97], [98, 97], [2], r1, rfl, by decide, upd_same, ⟨mem_creases.mp (by decide), rfl⟩, fun H2 p hp sm2 lt => ?_⟩⟩
      refine ⟨(by show 2 ≤ sizeLine; decide), fun t1 ht1 => ⟨(by show 2 ≤ sizeLine; decide), fun t2 ht2 => ⟨(by show 2 ≤ sizeLine; decide), fun o1 ho1 => ?_⟩⟩⟩
      have n1 : t1 ≠ t2 := ne_of_none upd_same ht2
      have s3 := Same.upd' (o := .lst [V.ref t1, V.ref t2]) (Same.upd' (o := .tup [V.int 0, V.int 3]) (Same.upd (o := .tup [V.int 1, V.int 2]) ht1) ht2) ho1
      have n2 : t2 ≠ o1 := ne_of_none upd_same ho1
      have n3 : t1 ≠ o1 := ne_of_none (by rw [upd_ne n1]; exact upd_same) ho1
      refine ⟨p, o1, _, [[1, 2], [0, 3]], rfl, rfl, lt.same s3, lt_mk2 upd_same (by rw [upd_ne n3, upd_ne n1, upd_same]; rfl) (by rw [upd_ne n2, upd_same]; rfl), _, rfl, ?_⟩
      refine ite2 (fun _ => ?_) (fun z => absurd (show decide (layersOf 4 2 (spRow [2] 4 fun k => k) = [[1, 2], [0, 3]]) = true by decide) z)
      refine ⟨(by show 2 ≤ sizeLine; decide), fun r2 hr2 => ⟨[97, 97, 97, 98], [97, 98], [1, 1], r2, rfl, by decide, upd_same, ⟨mem_creases.mp (by decide), mem_creases.mp (by decide), rfl⟩, fun H4 p2 hp2 sm4 lt2 => ?_⟩⟩
      refine ⟨(by show 3 ≤ sizeLine; decide), fun t3 ht3 => ⟨(by show 1 ≤ sizeLine; decide), fun t4 ht4 => ⟨(by show 2 ≤ sizeLine; decide), fun o2 ho2 => ?_⟩⟩⟩
      have m1 : t3 ≠ t4 := ne_of_none upd_same ht4
      have s5 := Same.upd' (o := .lst [V.ref t3, V.ref t4]) (Same.upd' (o := .tup [V.int 3]) (Same.upd (o := .tup [V.int 0, V.int 1, V.int 2]) ht3) ht4) ho2
      have m2 : t4 ≠ o2 := ne_of_none upd_same ho2
      have m3 : t3 ≠ o2 := ne_of_none (by rw [upd_ne m1]; exact upd_same) ho2
      refine ⟨p2, o2, _, [[0, 1, 2], [3]], rfl, rfl, lt2.same s5, lt_mk2 upd_same (by rw [upd_ne m3, upd_ne m1, upd_same]; rfl) (by rw [upd_ne m2, upd_same]; rfl), ?_⟩
      show Q (.bl (decide (layersOf 4 2 (spRow [1, 1] 4 fun k => k) = [[0, 1, 2], [3]]))) _
      rw [show layersOf 4 2 (spRow [1, 1] 4 fun k => k) = [[0, 1, 2], [3]] by decide]
      exact q _
end
end Lk
namespace Lk
open PySem PySem.Spec PyProof.Rows L2
/-! ### what the top has left -/
theorem txt_mk {K : PySem.W.Frag} {h : Heap} {mg : Str → Option Value} (X : K.In h) (G : h.Ns mainGlobals mg)
    (z_abs : PySem.W.nsIn K mainGlobals "abs" = some none)
    (z_bool : PySem.W.nsIn K mainGlobals "bool" = some none)
    (z_enumerate : PySem.W.nsIn K mainGlobals "enumerate" = some none)
    (z_int : PySem.W.nsIn K mainGlobals "int" = some none)
    (z_isinstance : PySem.W.nsIn K mainGlobals "isinstance" = some none)
    (z_len : PySem.W.nsIn K mainGlobals "len" = some none)
    (z_list : PySem.W.nsIn K mainGlobals "list" = some none)
    (z_min : PySem.W.nsIn K mainGlobals "min" = some none)
    (z_range : PySem.W.nsIn K mainGlobals "range" = some none)
    (z_sorted : PySem.W.nsIn K mainGlobals "sorted" = some none)
    (z_sum : PySem.W.nsIn K mainGlobals "sum" = some none)
    (z_tuple : PySem.W.nsIn K mainGlobals "tuple" = some none)
    (z_zip : PySem.W.nsIn K mainGlobals "zip" = some none)
    {f1 : Addr} {od_f1 an_f1 : Option Addr} {sl_f1 : Array (Option Value)} {oc_f1 kV_f1 dc_f1 pm_f1 cd_f1 ct_f1 : Value} (a_f1 : PySem.W.nsIn K mainGlobals "layers" = some (some (.ref f1))) (l_f1 : K.lookup f1 = some ⟨oc_f1, od_f1, .func (PySem.W.fnOf "layers" "layers" (defArgs s_layers) (defBody s_layers) (defScope s_layers) .none kV_f1 dc_f1 pm_f1 an_f1 cd_f1 ct_f1), sl_f1⟩) (c_f1 : PySem.W.codeIn K cd_f1 "layers" = true) (k_f1 : PySem.W.keepIn K (.ref f1) = true)
    {f6 : Addr} {od_f6 an_f6 : Option Addr} {sl_f6 : Array (Option Value)} {oc_f6 kV_f6 dc_f6 pm_f6 cd_f6 ct_f6 : Value} (a_f6 : PySem.W.nsIn K mainGlobals "is_from" = some (some (.ref f6))) (l_f6 : K.lookup f6 = some ⟨oc_f6, od_f6, .func (PySem.W.fnOf "is_from" "is_from" (defArgs s_is_from) (defBody s_is_from) (defScope s_is_from) .none kV_f6 dc_f6 pm_f6 an_f6 cd_f6 ct_f6), sl_f6⟩) (c_f6 : PySem.W.codeIn K cd_f6 "is_from" = true) (k_f6 : PySem.W.keepIn K (.ref f6) = true)
    {f7 : Addr} {od_f7 an_f7 : Option Addr} {sl_f7 : Array (Option Value)} {oc_f7 kV_f7 dc_f7 pm_f7 cd_f7 ct_f7 : Value} (a_f7 : PySem.W.nsIn K mainGlobals "lies_well" = some (some (.ref f7))) (l_f7 : K.lookup f7 = some ⟨oc_f7, od_f7, .func (PySem.W.fnOf "lies_well" "lies_well" (defArgs s_lies_well) (defBody s_lies_well) (defScope s_lies_well) .none kV_f7 dc_f7 pm_f7 an_f7 cd_f7 ct_f7), sl_f7⟩) (c_f7 : PySem.W.codeIn K cd_f7 "lies_well" = true) (k_f7 : PySem.W.keepIn K (.ref f7) = true)
    {f8 : Addr} {od_f8 an_f8 : Option Addr} {sl_f8 : Array (Option Value)} {oc_f8 kV_f8 dc_f8 pm_f8 cd_f8 ct_f8 : Value} (a_f8 : PySem.W.nsIn K mainGlobals "is_crease" = some (some (.ref f8))) (l_f8 : K.lookup f8 = some ⟨oc_f8, od_f8, .func (PySem.W.fnOf "is_crease" "is_crease" (defArgs s_is_crease) (defBody s_is_crease) (defScope s_is_crease) .none kV_f8 dc_f8 pm_f8 an_f8 cd_f8 ct_f8), sl_f8⟩) (c_f8 : PySem.W.codeIn K cd_f8 "is_crease" = true) (k_f8 : PySem.W.keepIn K (.ref f8) = true)
    {f9 : Addr} {od_f9 an_f9 : Option Addr} {sl_f9 : Array (Option Value)} {oc_f9 kV_f9 dc_f9 pm_f9 cd_f9 ct_f9 : Value} (a_f9 : PySem.W.nsIn K mainGlobals "left_of" = some (some (.ref f9))) (l_f9 : K.lookup f9 = some ⟨oc_f9, od_f9, .func (PySem.W.fnOf "left_of" "left_of" (defArgs s_left_of) (defBody s_left_of) (defScope s_left_of) .none kV_f9 dc_f9 pm_f9 an_f9 cd_f9 ct_f9), sl_f9⟩) (c_f9 : PySem.W.codeIn K cd_f9 "left_of" = true) (k_f9 : PySem.W.keepIn K (.ref f9) = true)
    {f10 : Addr} {od_f10 an_f10 : Option Addr} {sl_f10 : Array (Option Value)} {oc_f10 kV_f10 dc_f10 pm_f10 cd_f10 ct_f10 : Value} (a_f10 : PySem.W.nsIn K mainGlobals "folded_row" = some (some (.ref f10))) (l_f10 : K.lookup f10 = some ⟨oc_f10, od_f10, .func (PySem.W.fnOf "folded_row" "folded_row" (defArgs s_folded_row) (defBody s_folded_row) (defScope s_folded_row) .none kV_f10 dc_f10 pm_f10 an_f10 cd_f10 ct_f10), sl_f10⟩) (c_f10 : PySem.W.codeIn K cd_f10 "folded_row" = true) (k_f10 : PySem.W.keepIn K (.ref f10) = true)
    {f12 : Addr} {od_f12 an_f12 : Option Addr} {sl_f12 : Array (Option Value)} {oc_f12 kV_f12 dc_f12 pm_f12 cd_f12 ct_f12 : Value} (a_f12 : PySem.W.nsIn K mainGlobals "_law_bag" = some (some (.ref f12))) (l_f12 : K.lookup f12 = some ⟨oc_f12, od_f12, .func (PySem.W.fnOf "_law_bag" "_law_bag" (defArgs s__law_bag) (defBody s__law_bag) (defScope s__law_bag) .none kV_f12 dc_f12 pm_f12 an_f12 cd_f12 ct_f12), sl_f12⟩) (c_f12 : PySem.W.codeIn K cd_f12 "_law_bag" = true) (k_f12 : PySem.W.keepIn K (.ref f12) = true)
    {f13 : Addr} {od_f13 an_f13 : Option Addr} {sl_f13 : Array (Option Value)} {oc_f13 kV_f13 dc_f13 pm_f13 cd_f13 ct_f13 : Value} (a_f13 : PySem.W.nsIn K mainGlobals "_law_take" = some (some (.ref f13))) (l_f13 : K.lookup f13 = some ⟨oc_f13, od_f13, .func (PySem.W.fnOf "_law_take" "_law_take" (defArgs s__law_take) (defBody s__law_take) (defScope s__law_take) .none kV_f13 dc_f13 pm_f13 an_f13 cd_f13 ct_f13), sl_f13⟩) (c_f13 : PySem.W.codeIn K cd_f13 "_law_take" = true) (k_f13 : PySem.W.keepIn K (.ref f13) = true)
    {f14 : Addr} {od_f14 an_f14 : Option Addr} {sl_f14 : Array (Option Value)} {oc_f14 kV_f14 dc_f14 pm_f14 cd_f14 ct_f14 : Value} (a_f14 : PySem.W.nsIn K mainGlobals "_law_of" = some (some (.ref f14))) (l_f14 : K.lookup f14 = some ⟨oc_f14, od_f14, .func (PySem.W.fnOf "_law_of" "_law_of" (defArgs s__law_of) (defBody s__law_of) (defScope s__law_of) .none kV_f14 dc_f14 pm_f14 an_f14 cd_f14 ct_f14), sl_f14⟩) (c_f14 : PySem.W.codeIn K cd_f14 "_law_of" = true) (k_f14 : PySem.W.keepIn K (.ref f14) = true)
    {f15 : Addr} {od_f15 an_f15 : Option Addr} {sl_f15 : Array (Option Value)} {oc_f15 kV_f15 dc_f15 pm_f15 cd_f15 ct_f15 : Value} (a_f15 : PySem.W.nsIn K mainGlobals "_law_any_text" = some (some (.ref f15))) (l_f15 : K.lookup f15 = some ⟨oc_f15, od_f15, .func (PySem.W.fnOf "_law_any_text" "_law_any_text" (defArgs s__law_any_text) (defBody s__law_any_text) (defScope s__law_any_text) .none kV_f15 dc_f15 pm_f15 an_f15 cd_f15 ct_f15), sl_f15⟩) (c_f15 : PySem.W.codeIn K cd_f15 "_law_any_text" = true) (k_f15 : PySem.W.keepIn K (.ref f15) = true)
    {f16 : Addr} {od_f16 an_f16 : Option Addr} {sl_f16 : Array (Option Value)} {oc_f16 kV_f16 dc_f16 pm_f16 cd_f16 ct_f16 : Value} (a_f16 : PySem.W.nsIn K mainGlobals "_law_grown" = some (some (.ref f16))) (l_f16 : K.lookup f16 = some ⟨oc_f16, od_f16, .func (PySem.W.fnOf "_law_grown" "_law_grown" (defArgs s__law_grown) (defBody s__law_grown) (defScope s__law_grown) .none kV_f16 dc_f16 pm_f16 an_f16 cd_f16 ct_f16), sl_f16⟩) (c_f16 : PySem.W.codeIn K cd_f16 "_law_grown" = true) (k_f16 : PySem.W.keepIn K (.ref f16) = true)
    {f17 : Addr} {od_f17 an_f17 : Option Addr} {sl_f17 : Array (Option Value)} {oc_f17 kV_f17 dc_f17 pm_f17 cd_f17 ct_f17 : Value} (a_f17 : PySem.W.nsIn K mainGlobals "_law_strip" = some (some (.ref f17))) (l_f17 : K.lookup f17 = some ⟨oc_f17, od_f17, .func (PySem.W.fnOf "_law_strip" "_law_strip" (defArgs s__law_strip) (defBody s__law_strip) (defScope s__law_strip) .none kV_f17 dc_f17 pm_f17 an_f17 cd_f17 ct_f17), sl_f17⟩) (c_f17 : PySem.W.codeIn K cd_f17 "_law_strip" = true) (k_f17 : PySem.W.keepIn K (.ref f17) = true)
    {f18 : Addr} {od_f18 an_f18 : Option Addr} {sl_f18 : Array (Option Value)} {oc_f18 kV_f18 dc_f18 pm_f18 cd_f18 ct_f18 : Value} (a_f18 : PySem.W.nsIn K mainGlobals "_law_lies" = some (some (.ref f18))) (l_f18 : K.lookup f18 = some ⟨oc_f18, od_f18, .func (PySem.W.fnOf "_law_lies" "_law_lies" (defArgs s__law_lies) (defBody s__law_lies) (defScope s__law_lies) .none kV_f18 dc_f18 pm_f18 an_f18 cd_f18 ct_f18), sl_f18⟩) (c_f18 : PySem.W.codeIn K cd_f18 "_law_lies" = true) (k_f18 : PySem.W.keepIn K (.ref f18) = true)
    {f19 : Addr} {od_f19 an_f19 : Option Addr} {sl_f19 : Array (Option Value)} {oc_f19 kV_f19 dc_f19 pm_f19 cd_f19 ct_f19 : Value} (a_f19 : PySem.W.nsIn K mainGlobals "_law_creases" = some (some (.ref f19))) (l_f19 : K.lookup f19 = some ⟨oc_f19, od_f19, .func (PySem.W.fnOf "_law_creases" "_law_creases" (defArgs s__law_creases) (defBody s__law_creases) (defScope s__law_creases) .none kV_f19 dc_f19 pm_f19 an_f19 cd_f19 ct_f19), sl_f19⟩) (c_f19 : PySem.W.codeIn K cd_f19 "_law_creases" = true) (k_f19 : PySem.W.keepIn K (.ref f19) = true)
    {f20 : Addr} {od_f20 an_f20 : Option Addr} {sl_f20 : Array (Option Value)} {oc_f20 kV_f20 dc_f20 pm_f20 cd_f20 ct_f20 : Value} (a_f20 : PySem.W.nsIn K mainGlobals "_law_left" = some (some (.ref f20))) (l_f20 : K.lookup f20 = some ⟨oc_f20, od_f20, .func (PySem.W.fnOf "_law_left" "_law_left" (defArgs s__law_left) (defBody s__law_left) (defScope s__law_left) .none kV_f20 dc_f20 pm_f20 an_f20 cd_f20 ct_f20), sl_f20⟩) (c_f20 : PySem.W.codeIn K cd_f20 "_law_left" = true) (k_f20 : PySem.W.keepIn K (.ref f20) = true)
    {f21 : Addr} {od_f21 an_f21 : Option Addr} {sl_f21 : Array (Option Value)} {oc_f21 kV_f21 dc_f21 pm_f21 cd_f21 ct_f21 : Value} (a_f21 : PySem.W.nsIn K mainGlobals "_law_laid" = some (some (.ref f21))) (l_f21 : K.lookup f21 = some ⟨oc_f21, od_f21, .func (PySem.W.fnOf "_law_laid" "_law_laid" (defArgs s__law_laid) (defBody s__law_laid) (defScope s__law_laid) .none kV_f21 dc_f21 pm_f21 an_f21 cd_f21 ct_f21), sl_f21⟩) (c_f21 : PySem.W.codeIn K cd_f21 "_law_laid" = true) (k_f21 : PySem.W.keepIn K (.ref f21) = true)
    {f22 : Addr} {od_f22 an_f22 : Option Addr} {sl_f22 : Array (Option Value)} {oc_f22 kV_f22 dc_f22 pm_f22 cd_f22 ct_f22 : Value} (a_f22 : PySem.W.nsIn K mainGlobals "law" = some (some (.ref f22))) (l_f22 : K.lookup f22 = some ⟨oc_f22, od_f22, .func (PySem.W.fnOf "law" "law" (defArgs s_law) (defBody s_law) (defScope s_law) .none kV_f22 dc_f22 pm_f22 an_f22 cd_f22 ct_f22), sl_f22⟩) (c_f22 : PySem.W.codeIn K cd_f22 "law" = true) (k_f22 : PySem.W.keepIn K (.ref f22) = true)
    {C_FoldError : Addr} (z_C_FoldError : PySem.W.nsIn K mainGlobals "FoldError" = some (some (.ref C_FoldError)))
    (k_C_FoldError : PySem.W.keepIn K (.ref C_FoldError) = true)
    (b_C_FoldError : PySem.W.subIn K (.ref C_FoldError) (.type "BaseException") = some true)
    (t_C_FoldError : PySem.W.typeIn K (.ref C_FoldError) = some (.type "type"))
    (i_C_FoldError : PySem.W.isClsIn K C_FoldError = true)
    (s_C_FoldError : PySem.W.subIn K (.ref C_FoldError) (.ref C_FoldError) = some true)
    (eg_C_FoldError : PySem.W.findIn K (.ref C_FoldError) "__getattribute__" = some (some (.builtin "BaseException.__getattribute__")))
    (ek_C_FoldError : PySem.W.findIn K (.ref C_FoldError) "__getattr__" = some none)
    (ed_C_FoldError : PySem.W.hasDictIn K C_FoldError = true)
    (ea_C_FoldError : PySem.W.findIn K (.ref C_FoldError) "__class__" = some (some (.builtin "object.__class__")))
    (em_C_FoldError : PySem.W.mroIn K C_FoldError (.type "object") = some true)
    {C_NoFold : Addr} (z_C_NoFold : PySem.W.nsIn K mainGlobals "NoFold" = some (some (.ref C_NoFold)))
    (k_C_NoFold : PySem.W.keepIn K (.ref C_NoFold) = true)
    (b_C_NoFold : PySem.W.subIn K (.ref C_NoFold) (.type "BaseException") = some true)
    (t_C_NoFold : PySem.W.typeIn K (.ref C_NoFold) = some (.type "type"))
    (i_C_NoFold : PySem.W.isClsIn K C_NoFold = true)
    (s_C_NoFold : PySem.W.subIn K (.ref C_NoFold) (.ref C_NoFold) = some true)
    (eg_C_NoFold : PySem.W.findIn K (.ref C_NoFold) "__getattribute__" = some (some (.builtin "BaseException.__getattribute__")))
    (ek_C_NoFold : PySem.W.findIn K (.ref C_NoFold) "__getattr__" = some none)
    (ed_C_NoFold : PySem.W.hasDictIn K C_NoFold = true)
    (ea_C_NoFold : PySem.W.findIn K (.ref C_NoFold) "__class__" = some (some (.builtin "object.__class__")))
    (em_C_NoFold : PySem.W.mroIn K C_NoFold (.type "object") = some true)
    {nm_NoFold qn_NoFold : Str} {N_NoFold : Addr} {bs_NoFold : List Value} {sn_NoFold : List Str} {sub_NoFold : List Value} {ab_NoFold : Bool} {col_NoFold : Option Bool} {dd_NoFold : Option Addr} {m0_NoFold m1_NoFold m2_NoFold m3_NoFold m5_NoFold : Option Value}
    (xl_NoFold : K.lookup C_NoFold = some (excClassObj nm_NoFold qn_NoFold C_NoFold N_NoFold bs_NoFold [.ref C_FoldError, .type "ValueError", .type "Exception", .type "BaseException", .type "object"] true sn_NoFold sub_NoFold ab_NoFold col_NoFold dd_NoFold m0_NoFold m1_NoFold m2_NoFold m3_NoFold m5_NoFold "ValueError.__new__"))
    (xa_NoFold : PySem.W.findIn K (.ref C_NoFold) "__setattr__" = some (some (.builtin "object.__setattr__")))
    (xf_NoFold : PySem.W.findIn K (.ref C_NoFold) "at" = some none)
    (xi_NoFold : PySem.W.findCls K (.ref C_FoldError) (.type "type") "__init__" = some (.val (.builtin "ValueError.__init__")))
    (xr_NoFold : PySem.W.readsIn K C_FoldError (.type "type") = true)
    (xs_NoFold : PySem.W.specialIn K (.ref C_FoldError) "__getattribute__" = some (some (.builtin "type.__getattribute__")))
    {g4_0 : Addr} {od_g4_0 an_g4_0 : Option Addr} {sl_g4_0 : Array (Option Value)} {oc_g4_0 kV_g4_0 dc_g4_0 pm_g4_0 cd_g4_0 ct_g4_0 : Value} (i_g4_0 : PySem.W.findIn K (.ref C_NoFold) "__init__" = some (some (.ref g4_0))) (t_g4_0 : PySem.W.typeIn K (.ref g4_0) = some (.type "function")) (l_g4_0 : K.lookup g4_0 = some ⟨oc_g4_0, od_g4_0, .func (PySem.W.fnOf "__init__" "NoFold.__init__" (defArgs m_NoFold___init__) (defBody m_NoFold___init__) (defScope m_NoFold___init__) .none kV_g4_0 dc_g4_0 pm_g4_0 an_g4_0 cd_g4_0 ct_g4_0), sl_g4_0⟩) (c_g4_0 : PySem.W.codeIn K cd_g4_0 "NoFold.__init__" = true) (k_g4_0 : PySem.W.keepIn K (.ref g4_0) = true)
    (xe_FoldError : PySem.W.excIn K C_FoldError [.type "ValueError", .type "Exception", .type "BaseException", .type "object"] "ValueError.__new__" = true)
    (sx_FoldError_FoldError : PySem.W.subIn K (.ref C_FoldError) (.ref C_FoldError) = some true)
    (sx_FoldError_NoFold : PySem.W.subIn K (.ref C_FoldError) (.ref C_NoFold) = some false)
    (sx_NoFold_FoldError : PySem.W.subIn K (.ref C_NoFold) (.ref C_FoldError) = some true)
    (sx_NoFold_NoFold : PySem.W.subIn K (.ref C_NoFold) (.ref C_NoFold) = some true)
    (en_exc : PySem.W.specialIn K (.builtin "object.__class__") "__get__" = some (some (.builtin "getset_descriptor.__get__")))
    (et_exc : PySem.W.takesIn K (.builtin "object.__class__") = some true)
    : Txt K mg :=
  { b_abs := PySem.W.mg_none_of X G z_abs,
    b_bool := PySem.W.mg_none_of X G z_bool,
    b_enumerate := PySem.W.mg_none_of X G z_enumerate,
    b_int := PySem.W.mg_none_of X G z_int,
    b_isinstance := PySem.W.mg_none_of X G z_isinstance,
    b_len := PySem.W.mg_none_of X G z_len,
    b_list := PySem.W.mg_none_of X G z_list,
    b_min := PySem.W.mg_none_of X G z_min,
    b_range := PySem.W.mg_none_of X G z_range,
    b_sorted := PySem.W.mg_none_of X G z_sorted,
    b_sum := PySem.W.mg_none_of X G z_sum,
    b_tuple := PySem.W.mg_none_of X G z_tuple,
    b_zip := PySem.W.mg_none_of X G z_zip,
    d_layers := def_mk X G (fun _ _ _ _ _ _ us hl => match us, hl with | [_, _], _ => rfl) a_f1 l_f1 c_f1 k_f1,
    d_is_from := def_mk X G (fun _ _ _ _ _ _ us hl => match us, hl with | [_, _, _], _ => rfl) a_f6 l_f6 c_f6 k_f6,
    d_lies_well := def_mk X G (fun _ _ _ _ _ _ us hl => match us, hl with | [_, _], _ => rfl) a_f7 l_f7 c_f7 k_f7,
    d_is_crease := def_mk X G (fun _ _ _ _ _ _ us hl => match us, hl with | [_, _], _ => rfl) a_f8 l_f8 c_f8 k_f8,
    d_left_of := def_mk X G (fun _ _ _ _ _ _ us hl => match us, hl with | [_, _], _ => rfl) a_f9 l_f9 c_f9 k_f9,
    d_folded_row := def_mk X G (fun _ _ _ _ _ _ us hl => match us, hl with | [_, _], _ => rfl) a_f10 l_f10 c_f10 k_f10,
    d__law_bag := def_mk X G (fun _ _ _ _ _ _ us hl => match us, hl with | [_, _], _ => rfl) a_f12 l_f12 c_f12 k_f12,
    d__law_take := def_mk X G (fun _ _ _ _ _ _ us hl => match us, hl with | [_, _], _ => rfl) a_f13 l_f13 c_f13 k_f13,
    d__law_of := def_mk X G (fun _ _ _ _ _ _ us hl => match us, hl with | [_, _], _ => rfl) a_f14 l_f14 c_f14 k_f14,
    d__law_any_text := def_mk X G (fun _ _ _ _ _ _ us hl => match us, hl with | [_, _, _], _ => rfl) a_f15 l_f15 c_f15 k_f15,
    d__law_grown := def_mk X G (fun _ _ _ _ _ _ us hl => match us, hl with | [_, _, _], _ => rfl) a_f16 l_f16 c_f16 k_f16,
    d__law_strip := def_mk X G (fun _ _ _ _ _ _ us hl => match us, hl with | [_, _], _ => rfl) a_f17 l_f17 c_f17 k_f17,
    d__law_lies := def_mk X G (fun _ _ _ _ _ _ us hl => match us, hl with | [_, _], _ => rfl) a_f18 l_f18 c_f18 k_f18,
    d__law_creases := def_mk X G (fun _ _ _ _ _ _ us hl => match us, hl with | [_], _ => rfl) a_f19 l_f19 c_f19 k_f19,
    d__law_left := def_mk X G (fun _ _ _ _ _ _ us hl => match us, hl with | [_, _], _ => rfl) a_f20 l_f20 c_f20 k_f20,
    d__law_laid := def_mk X G (fun _ _ _ _ _ _ us hl => match us, hl with | [_, _], _ => rfl) a_f21 l_f21 c_f21 k_f21,
    d_law := def_mk X G (fun _ _ _ _ _ _ us hl => match us, hl with | [_], _ => rfl) a_f22 l_f22 c_f22 k_f22,
    x_FoldError := ⟨⟨C_FoldError, PySem.W.mg_of X G z_C_FoldError, k_C_FoldError, b_C_FoldError, t_C_FoldError, i_C_FoldError, s_C_FoldError, ⟨eg_C_FoldError, ek_C_FoldError, b_C_FoldError, ed_C_FoldError, ea_C_FoldError, en_exc, et_exc, em_C_FoldError⟩⟩⟩,
    x_NoFold := ⟨⟨C_NoFold, PySem.W.mg_of X G z_C_NoFold, k_C_NoFold, b_C_NoFold, t_C_NoFold, i_C_NoFold, s_C_NoFold, ⟨eg_C_NoFold, ek_C_NoFold, b_C_NoFold, ed_C_NoFold, ea_C_NoFold, en_exc, et_exc, em_C_NoFold⟩⟩⟩,
    o_NoFold := ⟨C_NoFold, C_FoldError, PySem.W.mg_of X G z_C_NoFold, PySem.W.mg_of X G z_C_FoldError, ⟨⟨nm_NoFold, qn_NoFold, N_NoFold, bs_NoFold, _, sn_NoFold, sub_NoFold, ab_NoFold, col_NoFold, dd_NoFold, m0_NoFold, m1_NoFold, m2_NoFold, m3_NoFold, m5_NoFold, xl_NoFold, rfl⟩, xa_NoFold, b_C_NoFold, t_C_NoFold, k_C_NoFold⟩, xf_NoFold, xi_NoFold, ⟨xr_NoFold, xs_NoFold⟩⟩,
    me_NoFold___init__ := defM_mk X G (fun _ _ _ _ _ _ us hl => match us, hl with | [_, _], _ => rfl) z_C_NoFold i_g4_0 t_g4_0 l_g4_0 c_g4_0 k_g4_0,
    e_FoldError := ⟨C_FoldError, PySem.W.mg_of X G z_C_FoldError, xe_FoldError⟩,
    k_FoldError_FoldError := ⟨C_FoldError, C_FoldError, PySem.W.mg_of X G z_C_FoldError, PySem.W.mg_of X G z_C_FoldError, kit_own i_C_FoldError t_C_FoldError s_C_FoldError sx_FoldError_FoldError⟩,
    k_FoldError_NoFold := ⟨C_FoldError, C_NoFold, PySem.W.mg_of X G z_C_FoldError, PySem.W.mg_of X G z_C_NoFold, kit_own i_C_NoFold t_C_NoFold s_C_NoFold sx_FoldError_NoFold⟩,
    k_NoFold_FoldError := ⟨C_NoFold, C_FoldError, PySem.W.mg_of X G z_C_NoFold, PySem.W.mg_of X G z_C_FoldError, kit_own i_C_FoldError t_C_FoldError s_C_FoldError sx_NoFold_FoldError⟩,
    k_NoFold_NoFold := ⟨C_NoFold, C_NoFold, PySem.W.mg_of X G z_C_NoFold, PySem.W.mg_of X G z_C_NoFold, kit_own i_C_NoFold t_C_NoFold s_C_NoFold sx_NoFold_NoFold⟩ }
theorem all_mk {l : PySem.W.OpenLaw} {w : World} {K : PySem.W.Frag} {mg : Str → Option Value} {fa : Addr} (T : Txt K mg) (hfa : mg "law" = some (.ref fa)) :
    ∃ fd : FuncData, (∀ (s : Shared) (v : Value), BindsTo s fd ⟨[v], []⟩ [("script", v)]) ∧ ∀ base : Heap, K.In base → base.Ns mainGlobals mg → FnOk l.prog w K mg base CX0 60 fa fd ["script"] (sp_law K) := by
  obtain ⟨f, fd, a, F, b, bt⟩ := T.d_law.ex
  have e := hfa.symm.trans a
  cases e
  exact ⟨fd, fun s v => bt s [v] rfl, fun base _ _ => ok_law T F⟩
end Lk
open PySem PySem.W PyProof.Rows
set_option maxRecDepth 100000 in
set_option maxHeartbeats 0 in
theorem PySem.Challenge.cw_likefolds_k06_whole_what_lies_on_what_holds : PySem.Challenge.rw_likefolds_k06_whole_what_lies_on_what.Holds := by
  w_on; o_law; k_head; (case hw => w_witness2)
  k_fill
  refine L2.walk_of (l := PySem.Challenge.rw_likefolds_k06_whole_what_lies_on_what) (n := 63) (k := 60) (x := "script") (CX := fun _ => L2.CX0) (sp := fun w => Lk.sp_law _) rfl (by decide) rfl ⟨rfl, by decide, by decide⟩ (fun w h Y => PySem.W.kIn_of Y) ?F (fun _ _ a ns hl _ hS => ⟨a, ns, rfl, hS, hl, fun _ => rfl⟩) (fun _ _ _ _ _ h => h)
  case F =>
    intro w mg fa h KX G hmg
    refine Lk.all_mk ?T hmg
    refine' Lk.txt_mk KX G ?z_abs ?z_bool ?z_enumerate ?z_int ?z_isinstance ?z_len ?z_list ?z_min ?z_range ?z_sorted ?z_sum ?z_tuple ?z_zip ?a_f1 ?l_f1 ?c_f1 ?k_f1 ?a_f6 ?l_f6 ?c_f6 ?k_f6 ?a_f7 ?l_f7 ?c_f7 ?k_f7 ?a_f8 ?l_f8 ?c_f8 ?k_f8 ?a_f9 ?l_f9 ?c_f9 ?k_f9 ?a_f10 ?l_f10 ?c_f10 ?k_f10 ?a_f12 ?l_f12 ?c_f12 ?k_f12 ?a_f13 ?l_f13 ?c_f13 ?k_f13 ?a_f14 ?l_f14 ?c_f14 ?k_f14 ?a_f15 ?l_f15 ?c_f15 ?k_f15 ?a_f16 ?l_f16 ?c_f16 ?k_f16 ?a_f17 ?l_f17 ?c_f17 ?k_f17 ?a_f18 ?l_f18 ?c_f18 ?k_f18 ?a_f19 ?l_f19 ?c_f19 ?k_f19 ?a_f20 ?l_f20 ?c_f20 ?k_f20 ?a_f21 ?l_f21 ?c_f21 ?k_f21 ?a_f22 ?l_f22 ?c_f22 ?k_f22 ?z_C_FoldError ?k_C_FoldError ?b_C_FoldError ?t_C_FoldError ?i_C_FoldError ?s_C_FoldError ?eg_C_FoldError ?ek_C_FoldError ?ed_C_FoldError ?ea_C_FoldError ?em_C_FoldError ?z_C_NoFold ?k_C_NoFold ?b_C_NoFold ?t_C_NoFold ?i_C_NoFold ?s_C_NoFold ?eg_C_NoFold ?ek_C_NoFold ?ed_C_NoFold ?ea_C_NoFold ?em_C_NoFold ?xl_NoFold ?xa_NoFold ?xf_NoFold ?xi_NoFold ?xr_NoFold ?xs_NoFold ?i_g4_0 ?t_g4_0 ?l_g4_0 ?c_g4_0 ?k_g4_0 ?xe_FoldError ?sx_FoldError_FoldError ?sx_FoldError_NoFold ?sx_NoFold_FoldError ?sx_NoFold_NoFold ?en_exc ?et_exc
    (case z_abs => k_is)
    (case z_bool => k_is)
    (case z_enumerate => k_is)
    (case z_int => k_is)
    (case z_isinstance => k_is)
    (case z_len => k_is)
    (case z_list => k_is)
    (case z_min => k_is)
    (case z_range => k_is)
    (case z_sorted => k_is)
    (case z_sum => k_is)
    (case z_tuple => k_is)
    (case z_zip => k_is)
    (case a_f1 => k_is)
    (case l_f1 => k_is)
    (case c_f1 => k_is)
    (case k_f1 => k_is)
    (case a_f6 => k_is)
    (case l_f6 => k_is)
    (case c_f6 => k_is)
    (case k_f6 => k_is)
    (case a_f7 => k_is)
    (case l_f7 => k_is)
    (case c_f7 => k_is)
    (case k_f7 => k_is)
    (case a_f8 => k_is)
    (case l_f8 => k_is)
    (case c_f8 => k_is)
    (case k_f8 => k_is)
    (case a_f9 => k_is)
    (case l_f9 => k_is)
    (case c_f9 => k_is)
    (case k_f9 => k_is)
    (case a_f10 => k_is)
    (case l_f10 => k_is)
    (case c_f10 => k_is)
    (case k_f10 => k_is)
    (case a_f12 => k_is)
    (case l_f12 => k_is)
    (case c_f12 => k_is)
    (case k_f12 => k_is)
    (case a_f13 => k_is)
    (case l_f13 => k_is)
    (case c_f13 => k_is)
    (case k_f13 => k_is)
    (case a_f14 => k_is)
    (case l_f14 => k_is)
    (case c_f14 => k_is)
    (case k_f14 => k_is)
    (case a_f15 => k_is)
    (case l_f15 => k_is)
    (case c_f15 => k_is)
    (case k_f15 => k_is)
    (case a_f16 => k_is)
    (case l_f16 => k_is)
    (case c_f16 => k_is)
    (case k_f16 => k_is)
    (case a_f17 => k_is)
    (case l_f17 => k_is)
    (case c_f17 => k_is)
    (case k_f17 => k_is)
    (case a_f18 => k_is)
    (case l_f18 => k_is)
    (case c_f18 => k_is)
    (case k_f18 => k_is)
    (case a_f19 => k_is)
    (case l_f19 => k_is)
    (case c_f19 => k_is)
    (case k_f19 => k_is)
    (case a_f20 => k_is)
    (case l_f20 => k_is)
    (case c_f20 => k_is)
    (case k_f20 => k_is)
    (case a_f21 => k_is)
    (case l_f21 => k_is)
    (case c_f21 => k_is)
    (case k_f21 => k_is)
    (case a_f22 => k_is)
    (case l_f22 => k_is)
    (case c_f22 => k_is)
    (case k_f22 => k_is)
    (case z_C_FoldError => k_is)
    (case k_C_FoldError => k_is)
    (case b_C_FoldError => k_is)
    (case t_C_FoldError => k_is)
    (case i_C_FoldError => k_is)
    (case s_C_FoldError => k_is)
    (case eg_C_FoldError => k_is)
    (case ek_C_FoldError => k_is)
    (case ed_C_FoldError => k_is)
    (case ea_C_FoldError => k_is)
    (case em_C_FoldError => k_is)
    (case z_C_NoFold => k_is)
    (case k_C_NoFold => k_is)
    (case b_C_NoFold => k_is)
    (case t_C_NoFold => k_is)
    (case i_C_NoFold => k_is)
    (case s_C_NoFold => k_is)
    (case eg_C_NoFold => k_is)
    (case ek_C_NoFold => k_is)
    (case ed_C_NoFold => k_is)
    (case ea_C_NoFold => k_is)
    (case em_C_NoFold => k_is)
    (case xl_NoFold => k_is)
    (case xa_NoFold => k_is)
    (case xf_NoFold => k_is)
    (case xi_NoFold => k_is)
    (case xr_NoFold => k_is)
    (case xs_NoFold => k_is)
    (case i_g4_0 => k_is)
    (case t_g4_0 => k_is)
    (case l_g4_0 => k_is)
    (case c_g4_0 => k_is)
    (case k_g4_0 => k_is)
    (case xe_FoldError => k_exc)
    (case sx_FoldError_FoldError => k_is)
    (case sx_FoldError_NoFold => k_is)
    (case sx_NoFold_FoldError => k_is)
    (case sx_NoFold_NoFold => k_is)
    (case en_exc => k_is)
    (case et_exc => k_is)
#print axioms PySem.Challenge.cw_likefolds_k06_whole_what_lies_on_what_holds
