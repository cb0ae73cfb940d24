/- What a plan's checks say: what stands before what, in every order that may be drawn. -/
import Derived.Test.YtbbkhiapcclnpaaGreatDoorBxDraw
set_option linter.unusedVariables false
set_option linter.unusedSimpArgs false
set_option linter.unusedSectionVars false
namespace Go.Proofs.Bx
open Go

/-- Stands before, through others. -/
inductive Prec (ops : List Oper) : Nat → Nat → Prop where
  | one {j i : Nat} {o : Oper} (h : ops[i]? = some o) (hj : j ∈ depsOf o) : Prec ops j i
  | more {j k i : Nat} {o : Oper} (h : ops[i]? = some o) (hk : k ∈ depsOf o) (p : Prec ops j k) : Prec ops j i

noncomputable def depsGo (l : List Edge) : List Nat := List.rec (motive := fun _ => List Nat) [] (fun (e : Edge) _ ih => cond (Region.binds .any e) (e.on :: ih) ih) l

theorem mem_depsGo {d : Nat} : ∀ {l : List Edge}, d ∈ depsGo l ↔ ∃ e ∈ l, Region.binds .any e = true ∧ e.on = d
  | [] => by
    have : depsGo [] = [] := rfl
    rw [this]; simp
  | e :: l => by
    have : depsGo (e :: l) = cond (Region.binds .any e) (e.on :: depsGo l) (depsGo l) := rfl
    rw [this]
    have ih := mem_depsGo (d := d) (l := l)
    cases hb : Region.binds .any e with
    | true =>
      simp only [cond_true, List.mem_cons, ih]
      constructor
      · rintro (rfl | ⟨e', h1, h2⟩)
        · exact ⟨e, .inl rfl, hb, rfl⟩
        · exact ⟨e', .inr h1, h2⟩
      · rintro ⟨e', rfl | h1, h2, h3⟩
        · exact .inl h3.symm
        · exact .inr ⟨e', h1, h2, h3⟩
    | false =>
      simp only [cond_false, ih, List.mem_cons]
      constructor
      · rintro ⟨e', h1, h2⟩; exact ⟨e', .inr h1, h2⟩
      · rintro ⟨e', rfl | h1, h2, h3⟩
        · rw [hb] at h2; cases h2
        · exact ⟨e', h1, h2, h3⟩

theorem mem_depsOf {o : Oper} {d : Nat} : d ∈ depsOf o ↔ ∃ e ∈ o.after.toList, Region.binds .any e = true ∧ e.on = d := mem_depsGo

theorem mem_iff {i : Nat} : ∀ {l : List Nat}, mem l i = true ↔ i ∈ l
  | [] => by
    have : mem [] i = false := rfl
    rw [this]; simp
  | a :: l => by
    have : mem (a :: l) i = cond (Nat.beq a i) true (mem l i) := rfl
    rw [this]
    by_cases h : a = i
    · subst h; rw [beq_yes rfl]; simp
    · rw [beq_no h]
      simp only [cond_false, mem_iff (l := l), List.mem_cons]
      constructor
      · exact .inr
      · rintro (e | e)
        · exact absurd e.symm h
        · exact e

theorem lall_iff {α : Type} {p : α → Bool} : ∀ {l : List α}, lall p l = true ↔ ∀ a ∈ l, p a = true
  | [] => by
    have : lall p [] = true := rfl
    rw [this]; simp
  | a :: l => by
    have : lall p (a :: l) = cond (p a) (lall p l) false := rfl
    rw [this]
    cases h : p a with
    | true => simp [lall_iff (l := l), h]
    | false => simp [h]

theorem upto_eq : ∀ n, upto n = List.range n
  | 0 => rfl
  | n + 1 => by
    have : upto (n + 1) = lapp (upto n) [n] := rfl
    rw [this, lapp_eq, upto_eq n, List.range_succ]

theorem prec_bit {B : List Nat} {j i : Nat} : prec B j i = (maskOf B i).testBit j := by
  unfold prec
  have h : Nat.land (Nat.shiftRight (maskOf B i) j) 1 = (maskOf B i >>> j) % 2 := land_one' _
  rw [h]
  rw [Nat.testBit_eq_decide_div_mod_eq]
  have e : (maskOf B i >>> j) = maskOf B i / 2 ^ j := Nat.shiftRight_eq_div_pow _ _
  rw [e]
  by_cases hb : maskOf B i / 2 ^ j % 2 = 1
  · rw [beq_yes hb]; simp [hb]
  · rw [beq_no hb]; simp [hb]
where
  land_one' (i : Nat) : Nat.land i 1 = i % 2 := Nat.and_one_is_mod i

noncomputable def maskGo (acc : List Nat) (ds : List Nat) : Nat :=
  List.rec (motive := fun _ => Nat) 0 (fun d _ ih => Nat.lor (Nat.lor (Nat.pow 2 d) (Option.rec 0 (fun m => m) (nth acc d))) ih) ds

theorem maskGo_bit {acc : List Nat} {j : Nat} : ∀ {ds : List Nat}, (maskGo acc ds).testBit j = true → ∃ d ∈ ds, j = d ∨ (maskOf acc d).testBit j = true
  | [], h => by
    have : maskGo acc [] = 0 := rfl
    rw [this] at h; simp at h
  | d :: ds, h => by
    have e : maskGo acc (d :: ds) = ((2 ^ d ||| maskOf acc d) ||| maskGo acc ds) := rfl
    rw [e, Nat.testBit_or, Nat.testBit_or] at h
    simp only [Bool.or_eq_true] at h
    rcases h with (h | h) | h
    · rw [Nat.testBit_two_pow] at h
      exact ⟨d, by simp, .inl (by simpa using (of_decide_eq_true h).symm)⟩
    · exact ⟨d, by simp, .inr h⟩
    · obtain ⟨d', h1, h2⟩ := maskGo_bit h
      exact ⟨d', by simp [h1], h2⟩

theorem maskOf_append {acc : List Nat} {m i : Nat} : maskOf (acc ++ [m]) i = if i < acc.length then maskOf acc i else if i = acc.length then m else 0 := by
  unfold maskOf
  rw [nth_eq, nth_eq, List.getElem?_append]
  split
  · rfl
  · split
    · rename_i h1 h2; subst h2; simp
    · rename_i h1 h2
      rw [List.getElem?_eq_none (by simp; omega)]

theorem masks_prec (ops : List Oper) : ∀ (l : List Oper) (acc : List Nat), ops.drop acc.length = l → (∀ i j, (maskOf acc i).testBit j = true → Prec ops j i) →
    ∀ i j, (maskOf (masks l acc) i).testBit j = true → Prec ops j i
  | [], acc, _, h => h
  | o :: l, acc, hd, h => by
    have e : masks (o :: l) acc = masks l (lapp acc [maskGo acc (depsOf o)]) := rfl
    rw [e, lapp_eq]
    have ho : ops[acc.length]? = some o := by
      have : (ops.drop acc.length)[0]? = some o := by rw [hd]; rfl
      rw [List.getElem?_drop] at this
      simpa using this
    refine masks_prec ops l (acc ++ [maskGo acc (depsOf o)]) ?_ fun i j hb => ?_
    · rw [List.length_append, ← List.drop_drop, hd]; rfl
    · rw [maskOf_append] at hb
      split at hb
      · exact h i j hb
      · split at hb
        · rename_i hi
          subst hi
          obtain ⟨d, h1, h2⟩ := maskGo_bit hb
          rcases h2 with rfl | h2
          · exact .one ho h1
          · exact .more ho h1 (h d j h2)
        · simp at hb

/-- What the bits say is so. -/
theorem prec_sound {ops : List Oper} {j i : Nat} (h : prec (masks ops []) j i = true) : Prec ops j i := by
  rw [prec_bit] at h
  refine masks_prec ops ops [] (by simp) (fun i j hb => ?_) i j h
  have : maskOf ([] : List Nat) i = 0 := by unfold maskOf; rw [nth_eq]; simp
  rw [this] at hb
  simp at hb

/-! What has been listed. -/

def Listed (listed : Array Bool) (i : Nat) : Prop := listed.getD i false = true

structure Closed (ops : List Oper) (listed : Array Bool) : Prop where
  size : listed.size = ops.length
  deps : ∀ i o d, Listed listed i → ops[i]? = some o → d ∈ depsOf o → Listed listed d

theorem Listed.lt {listed : Array Bool} {i : Nat} (h : Listed listed i) : i < listed.size := by
  unfold Listed at h
  rcases Nat.lt_or_ge i listed.size with hl | hl
  · exact hl
  · simp [Array.getD, Nat.not_lt.2 hl] at h

theorem Closed.prec {ops : List Oper} {listed : Array Bool} (hc : Closed ops listed) {j i : Nat} (hp : Prec ops j i) : Listed listed i → Listed listed j := by
  induction hp with
  | one h hj => exact fun hl => hc.deps _ _ _ hl h hj
  | more h hk _ ih => exact fun hl => ih (hc.deps _ _ _ hl h hk)

/-- Ready: nothing is missing before it. -/
theorem ready_spec {ops : Array Oper} {listed : Array Bool} {i : Nat} (hs : listed.size = ops.toList.length) (h : i ∈ Region.ready .any ops listed) :
    ∃ o, ops[i]? = some o ∧ ¬ Listed listed i ∧ ∀ d ∈ depsOf o, Listed listed d := by
  unfold Region.ready at h
  rw [List.mem_filter] at h
  obtain ⟨h1, h2⟩ := h
  simp only [Bool.and_eq_true, Bool.not_eq_true'] at h2
  obtain ⟨h2, h3⟩ := h2
  have hi : i < ops.size := by simpa using h1
  have ho : ops[i]? = some ops[i] := by simp [hi]
  rw [ho] at h3
  refine ⟨ops[i], ho, fun hl => ?_, fun d hd => ?_⟩
  · unfold Listed at hl
    have : i < listed.size := by rw [hs]; simpa using hi
    simp only [Array.getD, this, dif_pos] at hl h2
    rw [hl] at h2; cases h2
  · obtain ⟨e, he, hb, rfl⟩ := mem_depsOf.1 hd
    simp only [Option.map_some, Option.getD_some, Array.all_eq_true_iff_forall_mem] at h3
    have := h3 e (by simpa using he)
    simp only [hb, Bool.not_true, Bool.false_or] at this
    exact this

theorem ready_of {ops : Array Oper} {listed : Array Bool} {i : Nat} {o : Oper} (hs : listed.size = ops.toList.length) (ho : ops[i]? = some o) (hn : ¬ Listed listed i) (hd : ∀ d ∈ depsOf o, Listed listed d) :
    i ∈ Region.ready .any ops listed := by
  have hi : i < ops.size := (Array.getElem?_eq_some_iff.1 ho).1
  unfold Region.ready
  rw [List.mem_filter]
  refine ⟨by simpa using hi, ?_⟩
  simp only [Bool.and_eq_true, Bool.not_eq_true']
  have hl : i < listed.size := by rw [hs]; simpa using hi
  refine ⟨?_, ?_⟩
  · unfold Listed at hn
    simp only [Array.getD, hl, dif_pos] at hn ⊢
    simpa using hn
  · rw [ho]
    simp only [Option.map_some, Option.getD_some, Array.all_eq_true_iff_forall_mem]
    intro e he
    cases hb : Region.binds .any e with
    | false => simp
    | true =>
      have := hd e.on (mem_depsOf.2 ⟨e, by simpa using he, hb, rfl⟩)
      simp only [Bool.not_true, Bool.false_or]
      exact this

theorem listed_set {listed : Array Bool} {i j : Nat} (hi : i < listed.size) : Listed (listed.setIfInBounds i true) j ↔ j = i ∨ Listed listed j := by
  unfold Listed
  simp only [Array.getD_eq_getD_getElem?, Array.getElem?_setIfInBounds]
  by_cases h : i = j
  · subst h; simp [hi]
  · rw [if_neg h]
    constructor
    · exact .inr
    · rintro (e | e)
      · exact absurd e.symm h
      · exact e

theorem Closed.set {ops : Array Oper} {listed : Array Bool} (hc : Closed ops.toList listed) {i : Nat} (h : i ∈ Region.ready .any ops listed) : Closed ops.toList (listed.setIfInBounds i true) := by
  obtain ⟨o, ho, hn, hd⟩ := ready_spec hc.size h
  have hi : i < listed.size := by rw [hc.size]; simpa using (Array.getElem?_eq_some_iff.1 ho).1
  refine ⟨by simp [hc.size], fun k o' d hk ho' hdk => ?_⟩
  rw [listed_set hi] at hk ⊢
  rcases hk with rfl | hk
  · have e : ops.toList[k]? = some o := by simpa using ho
    rw [e] at ho'
    cases ho'
    exact .inr (hd d hdk)
  · exact .inr (hc.deps k o' d hk ho' hdk)

end Go.Proofs.Bx
