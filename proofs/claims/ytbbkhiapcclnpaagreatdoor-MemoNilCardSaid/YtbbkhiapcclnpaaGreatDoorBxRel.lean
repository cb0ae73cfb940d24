/- Abstract values and memory, and how a world of the model reads as them: block numbers by a map, capacities of slices known or only bounded. -/
import Derived.Test.YtbbkhiapcclnpaaGreatDoorBxTr
import Derived.Below
set_option linter.unusedVariables false
set_option linter.unusedSimpArgs false
set_option linter.unusedSectionVars false
namespace Go.Proofs.Bx
open Go

inductive Cap where
  | exact (n : Nat)
  | atLeast (n bytes cells : Nat)

/-- A capacity of the model is as an abstract one says; what is not known has been drawn, and lies in the block of z cells, from the o-th on. -/
def Cap.ok : Cap → Nat → Nat → Nat → Prop
  | .exact n, _, _, c => c = n
  | .atLeast n _ k, o, z, c => n ≤ c ∧ o + c * k ≤ z

def Cap.low : Cap → Nat
  | .exact n => n
  | .atLeast n _ _ => n

theorem Cap.ok_low {c : Cap} {o z n : Nat} (h : c.ok o z n) : c.low ≤ n := by
  cases c with
  | exact m => exact Nat.le_of_eq h.symm
  | atLeast m b k => exact h.1

inductive AV where
  | undef
  | bool (b : Bool)
  | int (k : IntKind) (n : Int)
  | str (s : ByteArray)
  | ptr (a : Option (Nat × Nat))
  | slice (a : Option (Nat × Nat)) (len : Nat) (cap : Cap)
  | map (r : Option Nat)
  | func (fn : Fn) (first captured : List AV)
  | nilFunc
  | iface (t : TypeId) (v : AV)
  | nilIface
  | yld (i : Nat)
  | agg (cs : List AV)
  | tuple (vs : List AV)

/-- What an operation leaves that was passed over. -/
abbrev AV.skip : AV := .tuple []

/-- Which block of the model, and of how many cells. -/
abbrev BMap := Nat → Option (Nat × Nat)

/-- The value of the model is as the abstract one, under a map of blocks. -/
inductive VR (ρ : BMap) : AV → Value → Prop where
  | undef (v : Value) : VR ρ .undef v
  | bool (b : Bool) : VR ρ (.bool b) (.bool b)
  | int (k : IntKind) (n : Int) : VR ρ (.int k n) (.int k n)
  | str (s : ByteArray) : VR ρ (.str s) (.string s)
  | ptrNil : VR ρ (.ptr none) (.pointer none)
  | ptr {b o r z : Nat} (h : ρ b = some (r, z)) : VR ρ (.ptr (some (b, o))) (.pointer (some ⟨r, o, none⟩))
  | sliceNil : VR ρ (.slice none 0 (.exact 0)) (.slice none 0 0)
  | slice {b o r z len c : Nat} {cap : Cap} (h : ρ b = some (r, z)) (hc : cap.ok o z c) (hl : len ≤ c) : VR ρ (.slice (some (b, o)) len cap) (.slice (some ⟨r, o, none⟩) len c)
  | mapNil : VR ρ (.map none) (.map none)
  | map {b r z : Nat} (h : ρ b = some (r, z)) : VR ρ (.map (some b)) (.map (some r))
  | func {fn : Fn} {fi ca : List AV} {fi' ca' : Array Value} (h1 : fi.length = fi'.size) (h2 : ca.length = ca'.size)
      (g1 : ∀ (i : Nat) (v : AV) (v' : Value), fi[i]? = some v → fi'[i]? = some v' → VR ρ v v') (g2 : ∀ (i : Nat) (v : AV) (v' : Value), ca[i]? = some v → ca'[i]? = some v' → VR ρ v v') :
      VR ρ (.func fn fi ca) (.func fn fi' ca')
  | nilFunc : VR ρ .nilFunc .nilFunc
  | iface {t : TypeId} {v : AV} {v' : Value} (h : VR ρ v v') : VR ρ (.iface t v) (.iface t v')
  | nilIface : VR ρ .nilIface .nilIface
  | yld {i l z : Nat} (h : ρ i = some (l, z)) : VR ρ (.yld i) (.func (.yield l) #[] #[])
  | agg {cs : List AV} {cs' : Array Value} (h1 : cs.length = cs'.size) (g1 : ∀ (i : Nat) (v : AV) (v' : Value), cs[i]? = some v → cs'[i]? = some v' → VR ρ v v') : VR ρ (.agg cs) (.agg cs')
  | tuple {cs : List AV} {cs' : Array Value} (h1 : cs.length = cs'.size) (g1 : ∀ (i : Nat) (v : AV) (v' : Value), cs[i]? = some v → cs'[i]? = some v' → VR ρ v v') : VR ρ (.tuple cs) (.tuple cs')

theorem VR.skip (ρ : BMap) : VR ρ .skip Go.undef := .tuple (cs := []) (cs' := #[]) rfl (fun i v v' e => by simp at e)

def Sub (ρ ρ' : BMap) : Prop := ∀ i r, ρ i = some r → ρ' i = some r

theorem Sub.refl (ρ : BMap) : Sub ρ ρ := fun _ _ h => h
theorem Sub.trans {a b c : BMap} (h : Sub a b) (k : Sub b c) : Sub a c := fun i r e => k i r (h i r e)

theorem VR.mono {ρ ρ' : BMap} (hs : Sub ρ ρ') {a : AV} {v : Value} (h : VR ρ a v) : VR ρ' a v := by
  induction h with
  | undef v => exact .undef v
  | bool b => exact .bool b
  | int k n => exact .int k n
  | str s => exact .str s
  | ptrNil => exact .ptrNil
  | ptr h => exact .ptr (hs _ _ h)
  | sliceNil => exact .sliceNil
  | slice h hc hl => exact .slice (hs _ _ h) hc hl
  | mapNil => exact .mapNil
  | map h => exact .map (hs _ _ h)
  | func h1 h2 _ _ i1 i2 => exact .func h1 h2 i1 i2
  | nilFunc => exact .nilFunc
  | iface _ ih => exact .iface ih
  | nilIface => exact .nilIface
  | yld h => exact .yld (hs _ _ h)
  | agg h1 _ ih => exact .agg h1 ih
  | tuple h1 _ ih => exact .tuple h1 ih

/-- A list of abstract values, and an array. -/
def VRs (ρ : BMap) (l : List AV) (a : Array Value) : Prop := l.length = a.size ∧ ∀ (i : Nat) (v : AV) (v' : Value), l[i]? = some v → a[i]? = some v' → VR ρ v v'

theorem VRs.mono {ρ ρ' : BMap} (hs : Sub ρ ρ') {l : List AV} {a : Array Value} (h : VRs ρ l a) : VRs ρ' l a :=
  ⟨h.1, fun i v v' e e' => (h.2 i v v' e e').mono hs⟩

theorem VRs.nil (ρ : BMap) : VRs ρ [] #[] := ⟨rfl, fun i v v' e => by simp at e⟩

theorem VRs.get {ρ : BMap} {l : List AV} {a : Array Value} (h : VRs ρ l a) {i : Nat} {v : AV} (e : l[i]? = some v) : ∃ v', a[i]? = some v' ∧ VR ρ v v' := by
  have hi : i < a.size := by
    rw [← h.1]
    exact (List.getElem?_eq_some_iff.1 e).1
  exact ⟨a[i], by simp [hi], h.2 i v _ e (by simp [hi])⟩

theorem VRs.append {ρ : BMap} {l m : List AV} {a b : Array Value} (h : VRs ρ l a) (k : VRs ρ m b) : VRs ρ (l ++ m) (a ++ b) := by
  refine ⟨by simp [h.1, k.1], fun i v v' e e' => ?_⟩
  rw [List.getElem?_append] at e
  rw [Array.getElem?_append] at e'
  split at e
  · rename_i hi
    rw [if_pos (by rw [← h.1]; exact hi)] at e'
    exact h.2 _ _ _ e e'
  · rename_i hi
    rw [if_neg (by rw [← h.1]; exact hi)] at e'
    rw [← h.1] at e'
    exact k.2 _ _ _ e e'

theorem VRs.push {ρ : BMap} {l : List AV} {a : Array Value} (h : VRs ρ l a) {v : AV} {v' : Value} (k : VR ρ v v') : VRs ρ (l ++ [v]) (a.push v') := by
  refine ⟨by simp [h.1], fun i x x' e e' => ?_⟩
  rw [List.getElem?_append] at e
  rw [Array.getElem?_push] at e'
  split at e
  · rename_i hi
    rw [if_neg (by rw [← h.1]; omega)] at e'
    exact h.2 _ _ _ e e'
  · rename_i hi
    by_cases hj : i = a.size
    · rw [if_pos hj] at e'
      have : i - l.length = 0 := by rw [h.1]; omega
      rw [this] at e
      simp at e e'
      subst e; subst e'; exact k
    · have : i - l.length ≠ 0 := by rw [h.1]; rw [h.1] at hi; omega
      rw [List.getElem?_eq_none (by simp; omega)] at e
      cases e

theorem VRs.cons_inv {ρ : BMap} {x : AV} {l : List AV} {a : Array Value} (h : VRs ρ (x :: l) a) :
    ∃ y b, a = #[y] ++ b ∧ VR ρ x y ∧ VRs ρ l b := by
  have hs := h.1
  obtain ⟨l'⟩ := a
  cases l' with
  | nil => simp at hs
  | cons y b =>
    refine ⟨y, ⟨b⟩, by simp, h.2 0 x y (by simp) (by simp), by simpa using hs, fun i v v' e e' => h.2 (i + 1) v v' (by simpa using e) (by simpa using e')⟩

/-! Frames. -/

/-- Slots below 'thr' lie in a tree, the others in a list, the last one first. -/
structure Fr where
  recent : List (Nat × AV)
  loc : Tr AV
  thr : Nat
  size : Nat

noncomputable def assoc (l : List (Nat × AV)) (t : Nat) : Option AV :=
  List.rec (motive := fun _ => Option AV) none (fun p _ ih => Bool.rec ih (some p.2) (Nat.beq p.1 t)) l

noncomputable def Fr.get (F : Fr) (t : Nat) : Option AV := Fr.rec (fun recent loc thr _ => Bool.rec (assoc recent t) (loc.get t) (Nat.blt t thr)) F

/-! How code is left. -/

inductive Out where
  | normal
  | exit (id : Nat)
  | ret

/-- The jump that a round has left. -/
def Out.jump : Out → Option Code
  | .normal => none
  | .exit i => some (.exit i)
  | .ret => some .ret

/-- Where a range over a function stands: between two rounds, in one, or behind one that said 'no more'. -/
inductive Pend where
  | ready
  | busy
  | done (o : Out)

def PendR : Pend → LoopState → Option Code → Prop
  | .ready, s, c => s = .ready ∧ c = none
  | .busy, s, c => s = .busy ∧ c = none
  | .done o, s, c => s = .done ∧ c = o.jump ∧ o ≠ .normal

inductive Blk where
  | cells (cs : List AV) (rw : Bool) (ty : Option TypeId := none)
  | map (es : List (AV × AV × Nat)) (clock : Nat)
  | loop (F : Fr) (ps : List Nat) (asg bd : Code) (p : Pend)
  | dead

/-- May be written. -/
def Blk.rw : Blk → Bool
  | .cells _ b _ => b
  | .map _ _ => true
  | .loop _ _ _ _ _ => true
  | .dead => false

/-- One entry of a map. -/
def ER (ρ : BMap) (x : AV × AV × Nat) (e : MapEntry) : Prop := VR ρ x.1 e.key ∧ VR ρ x.2.1 e.val ∧ e.born = x.2.2

/-- A block of the model holds what the abstract one says. -/
def BR (ρ : BMap) (z : Nat) : Blk → Obj → Prop
  | .cells cs rw ty, .cells arr e fz => arr.size = z ∧ cs.length ≤ arr.size ∧ (∀ (i : Nat) (v : AV) (v' : Value), cs[i]? = some v → arr[i]? = some v' → VR ρ v v') ∧ (rw = true → fz = (0, 0)) ∧ (∀ t, ty = some t → e = t)
  | .map es ck, .map es' ck' => es.length = es'.size ∧ (∀ (i : Nat) (x : AV × AV × Nat) (e : MapEntry), es[i]? = some x → es'[i]? = some e → ER ρ x e) ∧ ck = ck'
  | .loop F ps asg bd p, .loop rec => rec.params.toList = ps ∧ rec.assign = asg ∧ rec.body = bd ∧ rec.tmps.size = F.size ∧ (∀ t v, F.get t = some v → VR ρ v (rec.tmps.getD t undef)) ∧ (∀ t v, F.get t = some v → t < F.size) ∧ PendR p rec.state rec.pending
  | .dead, _ => True
  | _, _ => False

theorem BR.mono {ρ ρ' : BMap} (hs : Sub ρ ρ') {z : Nat} {b : Blk} {o : Obj} (h : BR ρ z b o) : BR ρ' z b o := by
  cases b with
  | dead => trivial
  | cells cs rw ty =>
    cases o <;> simp only [BR] at h ⊢
    exact ⟨h.1, h.2.1, fun i v v' e e' => (h.2.2.1 i v v' e e').mono hs, h.2.2.2⟩
  | map es ck =>
    cases o <;> simp only [BR] at h ⊢
    exact ⟨h.1, fun i v v' e e' => ⟨(h.2.1 i v v' e e').1.mono hs, (h.2.1 i v v' e e').2.1.mono hs, (h.2.1 i v v' e e').2.2⟩, h.2.2⟩
  | loop F ps asg bd p =>
    cases o <;> simp only [BR] at h ⊢
    exact ⟨h.1, h.2.1, h.2.2.1, h.2.2.2.1, fun t v e => (h.2.2.2.2.1 t v e).mono hs, h.2.2.2.2.2.1, h.2.2.2.2.2.2⟩

structure St where
  heap : Tr Blk
  next : Nat

noncomputable def St.get (s : St) (i : Nat) : Option Blk := s.heap.get i
noncomputable def St.set (s : St) (i : Nat) (b : Blk) : St := ⟨s.heap.set b i, s.next⟩
noncomputable def St.new (s : St) (b : Blk) : St := ⟨s.heap.set b s.next, s.next + 1⟩

/-- The world reads as the abstract memory. -/
structure HR (ρ : BMap) (s : St) (w : World) : Prop where
  fresh : ∀ i, s.next ≤ i → ρ i = none
  blk : ∀ i b, s.get i = some b → b ≠ .dead → ∃ r z o, ρ i = some (r, z) ∧ w.heap[r]? = some o ∧ BR ρ z b o
  inj : ∀ i j b c r z y, s.get i = some b → s.get j = some c → b.rw = true → c ≠ .dead → ρ i = some (r, z) → ρ j = some (r, y) → i = j
  below : ∀ i r z, ρ i = some (r, z) → r < w.heap.size

/-- The blocks that may be written. -/
def Mine (ρ : BMap) (s : St) (r : Nat) : Prop := ∃ i b z, s.get i = some b ∧ b.rw = true ∧ ρ i = some (r, z)

/-- The blocks that are in use. -/
def Live (ρ : BMap) (s : St) (r : Nat) : Prop := ∃ i b z, s.get i = some b ∧ b ≠ .dead ∧ ρ i = some (r, z)

/-- From one world to a later one: nothing that was there has turned but what may be written. -/
structure Ext (ρ : BMap) (s : St) (w : World) (ρ' : BMap) (s' : St) (w' : World) : Prop where
  sub : Sub ρ ρ'
  hr : HR ρ' s' w'
  size : w.heap.size ≤ w'.heap.size
  keeps : ∀ r, r < w.heap.size → ¬ Mine ρ s r → w'.heap[r]? = w.heap[r]?
  mine : ∀ r, r < w.heap.size → Mine ρ' s' r → Mine ρ s r
  live : ∀ r, r < w.heap.size → Live ρ' s' r → Live ρ s r
  next : s.next ≤ s'.next
  old : ∀ i, i < s.next → ρ' i = ρ i
  os : w'.os = w.os
  tape : w'.tape = w.tape
  output : w'.output = w.output

theorem Ext.refl {ρ : BMap} {s : St} {w : World} (h : HR ρ s w) : Ext ρ s w ρ s w :=
  ⟨.refl _, h, Nat.le_refl _, fun _ _ _ => rfl, fun _ _ h => h, fun _ _ h => h, Nat.le_refl _, fun _ _ => rfl, rfl, rfl, rfl⟩

theorem Ext.trans {ρ ρ' ρ'' : BMap} {s s' s'' : St} {w w' w'' : World} (h : Ext ρ s w ρ' s' w') (k : Ext ρ' s' w' ρ'' s'' w'') : Ext ρ s w ρ'' s'' w'' where
  sub := h.sub.trans k.sub
  hr := k.hr
  size := Nat.le_trans h.size k.size
  keeps r hr hm := (k.keeps r (Nat.lt_of_lt_of_le hr h.size) fun hm' => hm (h.mine r hr hm')).trans (h.keeps r hr hm)
  mine r hr hm := h.mine r hr (k.mine r (Nat.lt_of_lt_of_le hr h.size) hm)
  live r hr hm := h.live r hr (k.live r (Nat.lt_of_lt_of_le hr h.size) hm)
  next := Nat.le_trans h.next k.next
  old i hi := (k.old i (Nat.lt_of_lt_of_le hi h.next)).trans (h.old i hi)
  os := k.os.trans h.os
  tape := k.tape.trans h.tape
  output := k.output.trans h.output

end Go.Proofs.Bx
