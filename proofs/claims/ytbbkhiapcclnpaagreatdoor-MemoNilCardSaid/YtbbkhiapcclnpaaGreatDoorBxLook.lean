/- What an operation is hangs on its operands alone; values that are surely the same. -/
import Derived.Test.YtbbkhiapcclnpaaGreatDoorBxPlan
set_option linter.unusedVariables false
set_option linter.unusedSimpArgs false
set_option linter.unusedSectionVars false
namespace Go.Proofs.Bx
open Go

/-! The same values. -/

theorem listSame_eq {f : AV → AV → Bool} (hf : ∀ x y, f x y = true → x = y) : ∀ {xs ys : List AV}, listSame f xs ys = true → xs = ys
  | [], [], _ => rfl
  | [], y :: ys, h => by cases h
  | x :: xs, [], h => by cases h
  | x :: xs, y :: ys, h => by
    have h' : cond (f x y) (listSame f xs ys) false = true := h
    cases hb : f x y with
    | false => rw [hb] at h'; cases h'
    | true =>
      rw [hb] at h'
      rw [hf x y hb, listSame_eq hf h']

theorem nbeq {a b : Nat} (h : Nat.beq a b = true) : a = b := Nat.eq_of_beq_eq_true h

theorem bytes_eq {a b : ByteArray} (h : (a == b) = true) : a = b := by
  rw [beq_toListBytes] at h
  have h := beq_iff_eq.1 h
  rw [ByteArray.toList_eq, ByteArray.toList_eq] at h
  cases a; cases b
  congr
  exact Array.toList_inj.1 h

theorem capSame_eq {c d : Cap} (h : capSame c d = true) : c = d := by
  unfold capSame at h
  split at h
  · rw [nbeq h]
  · simp only [Bool.and_eq_true] at h
    rw [nbeq h.1.1, nbeq h.1.2, nbeq h.2]
  · cases h

theorem avSame_eq : ∀ (n : Nat) (x y : AV), avSame n x y = true → x = y := by
  intro n
  induction n with
  | zero => intro x y h; cases h
  | succ n ih =>
    intro x y h
    have h' : avStep (avSame n) x y = true := h
    clear h
    unfold avStep at h'
    split at h'
    · rw [beq_iff_eq.1 h']
    · simp only [Bool.and_eq_true] at h'
      rw [of_decide_eq_true h'.1, beq_iff_eq.1 h'.2]
    · rw [bytes_eq h']
    · rfl
    · simp only [Bool.and_eq_true] at h'
      rw [nbeq h'.1, nbeq h'.2]
    · simp only [Bool.and_eq_true] at h'
      rw [nbeq h'.1, capSame_eq h'.2]
    · simp only [Bool.and_eq_true] at h'
      obtain ⟨⟨⟨h1, h2⟩, h3⟩, h4⟩ := h'
      rw [nbeq h1, nbeq h2, nbeq h3, capSame_eq h4]
    · rfl
    · rw [nbeq h']
    · rfl
    · rfl
    · simp only [Bool.and_eq_true] at h'
      rw [nbeq h'.1, ih _ _ h'.2]
    · rw [listSame_eq ih h']
    · rw [listSame_eq ih h']
    · simp only [Bool.and_eq_true] at h'
      rw [nbeq h'.1.1, listSame_eq ih h'.1.2, listSame_eq ih h'.2]
    · cases h'

theorem readsSame_get {f : St → Option AV} {v : AV} : ∀ {hs : List St} {n : Nat}, readsSame f v hs n = true → ∀ (k : Nat) (h : St), k < n → hs[k]? = some h → f h = some v
  | [], n, _, k, h, _, e => by simp at e
  | h0 :: hs, 0, _, k, h, hk, _ => by omega
  | h0 :: hs, n + 1, hr, k, h, hk, e => by
    have hr' : (Option.rec false (fun u => cond (avSame 4 v u) (readsSame f v hs n) false) (f h0) : Bool) = true := hr
    cases hf : f h0 with
    | none => rw [hf] at hr'; cases hr'
    | some u =>
      rw [hf] at hr'
      have hr2 : cond (avSame 4 v u) (readsSame f v hs n) false = true := hr'
      cases hs4 : avSame 4 v u with
      | false => rw [hs4] at hr2; cases hr2
      | true =>
        rw [hs4] at hr2
        cases k with
        | zero =>
          simp at e
          subst e
          rw [hf, ← avSame_eq 4 v u hs4]
        | succ k => exact readsSame_get hr2 k h (by omega) (by simpa using e)

/-! Operands alone. -/

theorem lmapO_congr {α β : Type} {f g : α → Option β} : ∀ {l : List α}, (∀ x ∈ l, f x = g x) → lmapO f l = lmapO g l
  | [], _ => rfl
  | a :: l, h => by
    have e1 : lmapO f (a :: l) = ob (f a) fun b => ob (lmapO f l) fun r => some (b :: r) := rfl
    have e2 : lmapO g (a :: l) = ob (g a) fun b => ob (lmapO g l) fun r => some (b :: r) := rfl
    rw [e1, e2, h a (by simp), lmapO_congr fun x hx => h x (by simp [hx])]

theorem evParts_congr {ev ev' : Ev} {l : List (Nat × Operand)} (h : ∀ x ∈ l.map (·.2), ev x = ev' x) : evParts ev l = evParts ev' l := by
  unfold evParts
  refine lmapO_congr fun p hp => ?_
  have : ev p.2 = ev' p.2 := h _ (List.mem_map.2 ⟨p, hp, rfl⟩)
  rw [this]

theorem evO_congr {ev ev' : Ev} {x : Option Operand} (h : ∀ y ∈ x.toArray.toList, ev y = ev' y) (f : Option AV → Option AV) : evO ev x f = evO ev' x f := by
  cases x with
  | none => rfl
  | some y =>
    have : ev y = ev' y := h y (by simp)
    show ob (ev y) _ = ob (ev' y) _
    rw [this]

theorem pickA_congr {ev ev' : Ev} {c x y : Operand} (hc : ev c = ev' c) (hx : ev x = ev' x) (hy : ev y = ev' y) : pickA ev c x y = pickA ev' c x y := by
  unfold pickA
  rw [hc, hx, hy]

theorem builtinOf_congr {P : Program} {ev ev' : Ev} (o : Oper) (b : Builtin) (args : List Operand) (ts : List TypeId) (h : ∀ x ∈ args, ev x = ev' x) : builtinOf P ev o b args ts = builtinOf P ev' o b args ts := by
  have hl : lmapO ev args = lmapO ev' args := lmapO_congr h
  cases b <;> try rfl
  · -- append
    rcases args with _ | ⟨x, _ | ⟨y, _ | ⟨z, l⟩⟩⟩ <;> rcases ts with _ | ⟨t, _ | ⟨t2, _ | ⟨t3, tl⟩⟩⟩ <;> try rfl
    show K.eff (fun s => ob (ev x) fun a => ob (ev y) fun b => ob (appendAnyA P s t t2 a b) fun r => some (some r.1, r.2)) = K.eff fun s => ob (ev' x) fun a => ob (ev' y) fun b => ob (appendAnyA P s t t2 a b) fun r => some (some r.1, r.2)
    rw [h x (by simp), h y (by simp)]
  · -- clear
    rcases args with _ | ⟨x, _ | ⟨y, l⟩⟩ <;> rcases ts with _ | ⟨t, _ | ⟨t2, tl⟩⟩ <;> try rfl
    show K.eff (fun s => ob (ev x) fun x => ob (clearA P s t x) fun s => some (some .undef, s)) = K.eff fun s => ob (ev' x) fun x => ob (clearA P s t x) fun s => some (some .undef, s)
    rw [h x (by simp)]
  · -- len
    rcases args with _ | ⟨x, _ | ⟨y, l⟩⟩ <;> rcases ts with _ | ⟨t, _ | ⟨t2, tl⟩⟩ <;> try rfl
    show K.read (fun s => ob (ev x) (lenA P s t)) = K.read fun s => ob (ev' x) (lenA P s t)
    rw [h x (by simp)]
  · show K.val (ob (lmapO ev args) _) = K.val (ob (lmapO ev' args) _)
    rw [hl]
  · show K.val (ob (lmapO ev args) _) = K.val (ob (lmapO ev' args) _)
    rw [hl]
  · -- unsafe.SliceData
    rcases args with _ | ⟨x, _ | ⟨y, l⟩⟩ <;> try rfl
    show K.val (ob (ev x) sliceDataA) = K.val (ob (ev' x) sliceDataA)
    rw [h x (by simp)]
  · -- unsafe.String
    rcases args with _ | ⟨x, _ | ⟨y, _ | ⟨z, l⟩⟩⟩ <;> rcases ts with _ | ⟨t, _ | ⟨t2, _ | ⟨t3, tl⟩⟩⟩ <;> try rfl
    show K.eff (fun s => ob (ev x) fun a => ob (ev y) fun b => ob (unsafeStrA P s t a b) fun r => some (some r.1, r.2)) = K.eff fun s => ob (ev' x) fun a => ob (ev' y) fun b => ob (unsafeStrA P s t a b) fun r => some (some r.1, r.2)
    rw [h x (by simp), h y (by simp)]

theorem callOf_congr {ev ev' : Ev} (f : Operand) (args : List Operand) (hf : ev f = ev' f) (h : ∀ x ∈ args, ev x = ev' x) : callOf ev f args = callOf ev' f args := by
  unfold callOf
  rw [hf, lmapO_congr h]

theorem kindOf_congr {P : Program} {ev ev' : Ev} {o : Oper} (h : ∀ x ∈ o.op.operands.toList, ev x = ev' x) : kindOf P ev o = kindOf P ev' o := by
  obtain ⟨dst, op, ty, pos, aft, gd⟩ := o
  have hb := fun b args ts => builtinOf_congr (P := P) (ev := ev) (ev' := ev') ⟨dst, op, ty, pos, aft, gd⟩ b args ts
  dsimp only at h
  unfold kindOf
  dsimp only
  split <;> dsimp only [Op.operands] at h
  · rw [h _ (by simp)]
  · rw [h _ (by simp)]
  · rw [pickA_congr (h _ (by simp)) (h _ (by simp)) (h _ (by simp))]
  · rfl
  · rw [h _ (by simp)]
  · rw [evParts_congr (by simpa using h)]
  · rw [evParts_congr (by simpa using h)]
  · rw [h _ (by simp)]
  · rename_i a v
    rw [h a (by simp), h v (by simp)]
  · rw [h _ (by simp)]
  · rename_i x y _
    rw [h x (by simp), h y (by simp)]
  · rw [h _ (by simp)]
  · rw [h _ (by simp)]
  · rw [h _ (by simp)]
  · rename_i fn f c
    rw [lmapO_congr (l := f.toList) fun x hx => h x (by simp at hx; simp [hx]), lmapO_congr (l := c.toList) fun x hx => h x (by simp at hx; simp [hx])]
  · rfl
  · rename_i t n c
    rw [h n (by simp), h c (by simp)]
  · rename_i t x l hh m
    have e1 : ev x = ev' x := h x (by simp)
    have e2 : ∀ f, evO ev l f = evO ev' l f := fun f => evO_congr (fun y hy => h y (by simp at hy; simp [hy])) f
    have e3 : ∀ f, evO ev hh f = evO ev' hh f := fun f => evO_congr (fun y hy => h y (by simp at hy; simp [hy])) f
    have e4 : ∀ f, evO ev m f = evO ev' m f := fun f => evO_congr (fun y hy => h y (by simp at hy; simp [hy])) f
    simp only [e1, e2, e3, e4]
  · rw [h _ (by simp)]
  · rw [h _ (by simp)]
  · rename_i x i
    rw [h x (by simp), h i (by simp)]
  · rename_i x i
    rw [h x (by simp), h i (by simp)]
  · rename_i x k _
    rw [h x (by simp), h k (by simp)]
  · rename_i m k v
    rw [h m (by simp), h k (by simp), h v (by simp)]
  · rename_i m k v
    rw [h m (by simp), h k (by simp), h v (by simp)]
  · rename_i m k
    rw [h m (by simp), h k (by simp)]
  · rename_i m k v
    rw [h m (by simp), h k (by simp), h v (by simp)]
  · rw [h _ (by simp)]
  · rw [h _ (by simp)]
  · rename_i c
    obtain ⟨callee, args, ts⟩ := c
    cases callee with
    | builtin b =>
      exact hb b args.toList ts.toList fun x hx => h x (by simp at hx; simp [Call.operands, hx])
    | value f =>
      exact callOf_congr f args.toList (h f (by simp [Call.operands])) fun x hx => h x (by simp at hx; simp [Call.operands, hx])
    | invoke r m => rfl
  · rfl

/-- Only what an operation looks at. -/
noncomputable def only (l : List Nat) (ev : Ev) : Ev := fun x =>
  match x with
  | .tmp t => cond (mem l t) (ev (.tmp t)) none
  | x => ev x

noncomputable def tmpsOf (l : List Operand) : List Nat := List.rec (motive := fun _ => List Nat) [] (fun x _ ih => match x with
    | .tmp t => t :: ih
    | _ => ih) l

theorem mem_tmpsOf {t : Nat} : ∀ {l : List Operand}, Operand.tmp t ∈ l → t ∈ tmpsOf l
  | [], h => by simp at h
  | x :: l, h => by
    rcases List.mem_cons.1 h with e | h
    · subst e
      have : tmpsOf (Operand.tmp t :: l) = t :: tmpsOf l := rfl
      rw [this]; simp
    · have ih := mem_tmpsOf h
      cases x with
      | tmp u =>
        have : tmpsOf (Operand.tmp u :: l) = u :: tmpsOf l := rfl
        rw [this]; simp [ih]
      | _ => exact ih

theorem only_eq {ops : List Oper} {o : Oper} {ev : Ev} : ∀ x ∈ o.op.operands.toList, only (looksOf ops o) ev x = ev x := by
  intro x hx
  cases x with
  | tmp t =>
    have : mem (looksOf ops o) t = true := by
      rw [mem_iff]
      have e : looksOf ops o = lapp (tmpsOf o.op.operands.toList) (match o.guard with
     | some (g, _) => match (opAt ops g).dst with
       | some d => [d]
       | none => []
     | none => []) := rfl
      rw [e, lapp_eq]
      exact List.mem_append.2 (.inl (mem_tmpsOf hx))
    show cond (mem (looksOf ops o) t) _ none = _
    rw [this]; rfl
  | _ => rfl

theorem kindOf_only {P : Program} {ops : List Oper} {o : Oper} {ev : Ev} : kindOf P (only (looksOf ops o) ev) o = kindOf P ev o := kindOf_congr only_eq

theorem doV_only {P : Program} {callK : CallK} {ops : List Oper} {o : Oper} {ev : Ev} {s : St} : doV P callK (only (looksOf ops o) ev) o s = doV P callK ev o s := by
  unfold doV; rw [kindOf_only]

theorem looks_guard {ops : List Oper} {o : Oper} {g : Nat} {b : Bool} {og : Oper} {d : Nat} (hg : o.guard = some (g, b)) (ho : ops[g]? = some og) (hd : og.dst = some d) : d ∈ looksOf ops o := by
  have e : looksOf ops o = lapp (tmpsOf o.op.operands.toList) (match o.guard with
     | some (g, _) => match (opAt ops g).dst with
       | some d => [d]
       | none => []
     | none => []) := rfl
  have e2 : opAt ops g = og := by unfold opAt; rw [nth_eq, ho]
  rw [e, lapp_eq, hg]
  simp only [e2, hd]
  exact List.mem_append.2 (.inr (by simp))

end Go.Proofs.Bx
