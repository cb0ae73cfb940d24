/- A verified executor of the model, first part: finite maps, abstract values and memory, and the plain operations on them. -/
import Derived.Orders
import Derived.Below
import Derived.WalkKit
import Derived.Laws.IdiomCopy
import Derived.Room.AppendOwn
import Derived.Lib.ConvBytes
import Derived.ChangeKeysEq
set_option linter.unusedVariables false
set_option linter.unusedSimpArgs false
set_option linter.unusedSectionVars false

namespace Go.Proofs.Bx

noncomputable def nth {α : Type} (l : List α) : Nat → Option α :=
  List.rec (motive := fun _ => Nat → Option α) (fun _ => none) (fun a _ ih i => Nat.rec (some a) (fun j _ => ih j) i) l

theorem nth_eq {α : Type} (l : List α) : ∀ i, nth l i = l[i]? := by
  induction l with
  | nil => intro i; simp [nth]
  | cons a l ih =>
    intro i
    cases i with
    | zero => rfl
    | succ i => show nth l i = _; rw [ih]; simp

theorem beq_no {i j : Nat} (h : i ≠ j) : Nat.beq i j = false := by
  cases hb : Nat.beq i j with
  | false => rfl
  | true => exact absurd (Nat.eq_of_beq_eq_true hb) h

theorem beq_yes {i j : Nat} (h : i = j) : Nat.beq i j = true := by
  subst h; exact Nat.beq_refl i

inductive Path where
  | here
  | odd (p : Path)
  | even (p : Path)

noncomputable def Path.num (p : Path) : Nat := Path.rec (motive := fun _ => Nat) 0 (fun _ n => 2 * n + 1) (fun _ n => 2 * n + 2) p

noncomputable def pathGo (f : Nat) : Nat → Path :=
  Nat.rec (motive := fun _ => Nat → Path) (fun _ => .here)
    (fun _ ih i => Bool.rec (Bool.rec (.even (ih (Nat.shiftRight (Nat.sub i 1) 1))) (.odd (ih (Nat.shiftRight i 1))) (Nat.beq (Nat.land i 1) 1)) .here (Nat.beq i 0)) f

noncomputable def path (i : Nat) : Path := pathGo i i

theorem land_one (i : Nat) : Nat.land i 1 = i % 2 := by
  show i &&& 1 = _
  exact Nat.and_one_is_mod i

theorem shr_one (i : Nat) : Nat.shiftRight i 1 = i / 2 := by
  show i >>> 1 = _
  simp [Nat.shiftRight_succ]

theorem pathGo_num : ∀ (f i : Nat), i ≤ f → (pathGo f i).num = i := by
  intro f
  induction f with
  | zero => intro i h; have : i = 0 := by omega
            subst this; rfl
  | succ f ih =>
    intro i h
    have e : pathGo (f + 1) i = Bool.rec (Bool.rec (.even (pathGo f (Nat.shiftRight (Nat.sub i 1) 1))) (.odd (pathGo f (Nat.shiftRight i 1))) (Nat.beq (Nat.land i 1) 1)) .here (Nat.beq i 0) := rfl
    rw [e, land_one, shr_one, shr_one]
    by_cases h0 : i = 0
    · subst h0; rfl
    · rw [beq_no h0]
      by_cases h2 : i % 2 = 1
      · rw [beq_yes h2]
        show 2 * (pathGo f (i / 2)).num + 1 = i
        rw [ih _ (by omega)]; omega
      · rw [beq_no h2]
        show 2 * (pathGo f ((i - 1) / 2)).num + 2 = i
        rw [ih _ (by omega)]; omega

theorem path_inj {i j : Nat} (h : path i = path j) : i = j := by
  have hi := pathGo_num i i (Nat.le_refl _)
  have hj := pathGo_num j j (Nat.le_refl _)
  unfold path at h
  rw [← hi, h, hj]

inductive Tr (α : Type) where
  | nil
  | node (l : Tr α) (v : Option α) (r : Tr α)

namespace Tr
variable {α : Type}

noncomputable def getP (t : Tr α) : Path → Option α :=
  Tr.rec (motive := fun _ => Path → Option α) (fun _ => none) (fun _ v _ gl gr p => Path.rec (motive := fun _ => Option α) v (fun q _ => gl q) (fun q _ => gr q) p) t

noncomputable def singP (x : α) (p : Path) : Tr α :=
  Path.rec (motive := fun _ => Tr α) (.node .nil (some x) .nil) (fun _ s => .node s none .nil) (fun _ s => .node .nil none s) p

noncomputable def setP (t : Tr α) (x : α) : Path → Tr α :=
  Tr.rec (motive := fun _ => Path → Tr α) (fun p => singP x p)
    (fun l v r sl sr p => Path.rec (motive := fun _ => Tr α) (.node l (some x) r) (fun q _ => .node (sl q) v r) (fun q _ => .node l v (sr q)) p) t

noncomputable def get (t : Tr α) (i : Nat) : Option α := getP t (path i)

noncomputable def set (t : Tr α) (x : α) (i : Nat) : Tr α := setP t x (path i)

theorem getP_sing {x y : α} : ∀ {p q : Path}, getP (singP x p) q = some y → q = p ∧ y = x := by
  intro p
  induction p with
  | here =>
    intro q h
    cases q with
    | here => cases h; exact ⟨rfl, rfl⟩
    | odd q => cases h
    | even q => cases h
  | odd p ih =>
    intro q h
    cases q with
    | here => cases h
    | odd q =>
      obtain ⟨a, b⟩ := ih (show getP (singP x p) q = some y from h)
      exact ⟨by rw [a], b⟩
    | even q => cases h
  | even p ih =>
    intro q h
    cases q with
    | here => cases h
    | odd q => cases h
    | even q =>
      obtain ⟨a, b⟩ := ih (show getP (singP x p) q = some y from h)
      exact ⟨by rw [a], b⟩

theorem getP_setP {x y : α} : ∀ {t : Tr α} {p q : Path}, getP (setP t x p) q = some y → (q = p ∧ y = x) ∨ (q ≠ p ∧ getP t q = some y) := by
  intro t
  induction t with
  | nil => intro p q h; exact .inl (getP_sing h)
  | node l v r ihl ihr =>
    intro p q h
    cases p with
    | here =>
      cases q with
      | here => cases h; exact .inl ⟨rfl, rfl⟩
      | odd q => exact .inr ⟨by simp, h⟩
      | even q => exact .inr ⟨by simp, h⟩
    | odd p =>
      cases q with
      | here => exact .inr ⟨by simp, h⟩
      | odd q =>
        rcases ihl (show getP (setP l x p) q = some y from h) with ⟨a, b⟩ | ⟨a, b⟩
        · exact .inl ⟨by rw [a], b⟩
        · exact .inr ⟨by simpa using a, b⟩
      | even q => exact .inr ⟨by simp, h⟩
    | even p =>
      cases q with
      | here => exact .inr ⟨by simp, h⟩
      | odd q => exact .inr ⟨by simp, h⟩
      | even q =>
        rcases ihr (show getP (setP r x p) q = some y from h) with ⟨a, b⟩ | ⟨a, b⟩
        · exact .inl ⟨by rw [a], b⟩
        · exact .inr ⟨by simpa using a, b⟩

theorem get_set {t : Tr α} {x y : α} {i j : Nat} (h : get (set t x i) j = some y) : (j = i ∧ y = x) ∨ (j ≠ i ∧ get t j = some y) := by
  rcases getP_setP h with ⟨a, b⟩ | ⟨a, b⟩
  · exact .inl ⟨path_inj a, b⟩
  · exact .inr ⟨fun e => a (by rw [e]), b⟩

end Tr

namespace Tr
variable {α : Type}

theorem getP_sing_same (x : α) : ∀ p : Path, getP (singP x p) p = some x
  | .here => rfl
  | .odd p => getP_sing_same x p
  | .even p => getP_sing_same x p

theorem getP_sing_other (x : α) : ∀ {p q : Path}, q ≠ p → getP (singP x p) q = none
  | .here, .here, h => absurd rfl h
  | .here, .odd _, _ => rfl
  | .here, .even _, _ => rfl
  | .odd _, .here, _ => rfl
  | .odd p, .odd q, h => getP_sing_other x (p := p) (q := q) (fun e => h (by rw [e]))
  | .odd _, .even _, _ => rfl
  | .even _, .here, _ => rfl
  | .even _, .odd _, _ => rfl
  | .even p, .even q, h => getP_sing_other x (p := p) (q := q) (fun e => h (by rw [e]))

theorem getP_setP_same (x : α) : ∀ (t : Tr α) (p : Path), getP (setP t x p) p = some x
  | .nil, p => getP_sing_same x p
  | .node _ _ _, .here => rfl
  | .node l _ _, .odd p => getP_setP_same x l p
  | .node _ _ r, .even p => getP_setP_same x r p

theorem getP_setP_other (x : α) : ∀ (t : Tr α) {p q : Path}, q ≠ p → getP (setP t x p) q = getP t q
  | .nil, _, _, h => getP_sing_other x h
  | .node _ _ _, .here, .here, h => absurd rfl h
  | .node _ _ _, .here, .odd _, _ => rfl
  | .node _ _ _, .here, .even _, _ => rfl
  | .node _ _ _, .odd _, .here, _ => rfl
  | .node l _ _, .odd p, .odd q, h => getP_setP_other x l (p := p) (q := q) (fun e => h (by rw [e]))
  | .node _ _ _, .odd _, .even _, _ => rfl
  | .node _ _ _, .even _, .here, _ => rfl
  | .node _ _ _, .even _, .odd _, _ => rfl
  | .node _ _ r, .even p, .even q, h => getP_setP_other x r (p := p) (q := q) (fun e => h (by rw [e]))

theorem path_ne {i j : Nat} (h : i ≠ j) : path i ≠ path j := fun e => h (path_inj e)

theorem get_set_same (t : Tr α) (x : α) (i : Nat) : get (set t x i) i = some x := getP_setP_same x t (path i)
theorem get_set_other (t : Tr α) (x : α) {i j : Nat} (h : j ≠ i) : get (set t x i) j = get t j := getP_setP_other x t (path_ne h)

end Tr

end Go.Proofs.Bx

namespace Go.Proofs.Bx
open Go

inductive Cap where
  | exact (n : Nat)
  | atLeast (n bytes cells : Nat)

def Cap.ok : Cap → Nat → Nat → Nat → Prop
  | .exact n, _, _, c => c = n
  | .atLeast n _ k, o, z, c => n ≤ c ∧ o + c * k ≤ z

def Cap.low : Cap → Nat
  | .exact n => n
  | .atLeast n _ _ => n

theorem Cap.ok_low {c : Cap} {o z n : Nat} (h : c.ok o z n) : c.low ≤ n := by
  cases c with
  | exact m => exact Nat.le_of_eq h.symm
  | atLeast m b k => exact h.1

inductive AV where
  | undef
  | bool (b : Bool)
  | int (k : IntKind) (n : Int)
  | sym (d : Int) (m : Nat)
  | res (k : IntKind) (m r : Nat)
  | symk (k : IntKind) (m : Nat)
  | empty
  | str (s : ByteArray)
  | ptr (a : Option (Nat × Nat))
  | slice (a : Option (Nat × Nat)) (len : Nat) (cap : Cap)
  | map (r : Option Nat)
  | func (fn : Fn) (first captured : List AV)
  | nilFunc
  | iface (t : TypeId) (v : AV)
  | nilIface
  | yld (i : Nat)
  | agg (cs : List AV)
  | tuple (vs : List AV)

abbrev AV.skip : AV := .tuple []

abbrev BMap := Nat → Option (Nat × Nat)

class Sym where
  val : Int

variable [Sym]

inductive VR (ρ : BMap) : AV → Value → Prop where
  | undef (v : Value) : VR ρ .undef v
  | bool (b : Bool) : VR ρ (.bool b) (.bool b)
  | int (k : IntKind) (n : Int) : VR ρ (.int k n) (.int k n)
  | sym {d : Int} {m : Nat} (h1 : (m : Int) ≤ Sym.val + d) (h2 : Sym.val + d ≤ 9223372036854775807) : VR ρ (.sym d m) (.int .i64 (Sym.val + d))
  | res {k : IntKind} {m r : Nat} {n : Int} (h0 : 0 ≤ n) (h1 : n ≤ 255) (h2 : n % (m : Int) = (r : Int)) : VR ρ (.res k m r) (.int k n)
  | symk {k : IntKind} {m : Nat} (h1 : (m : Int) ≤ Sym.val) (h2 : Sym.val ≤ 65535) : VR ρ (.symk k m) (.int k Sym.val)
  | empty {a : Option Addr} {c : Nat} : VR ρ .empty (.slice a 0 c)
  | str (s : ByteArray) : VR ρ (.str s) (.string s)
  | ptrNil : VR ρ (.ptr none) (.pointer none)
  | ptr {b o r z : Nat} (h : ρ b = some (r, z)) : VR ρ (.ptr (some (b, o))) (.pointer (some ⟨r, o, none⟩))
  | sliceNil : VR ρ (.slice none 0 (.exact 0)) (.slice none 0 0)
  | slice {b o r z len c : Nat} {cap : Cap} (h : ρ b = some (r, z)) (hc : cap.ok o z c) (hl : len ≤ c) : VR ρ (.slice (some (b, o)) len cap) (.slice (some ⟨r, o, none⟩) len c)
  | mapNil : VR ρ (.map none) (.map none)
  | map {b r z : Nat} (h : ρ b = some (r, z)) : VR ρ (.map (some b)) (.map (some r))
  | func {fn : Fn} {fi ca : List AV} {fi' ca' : Array Value} (h1 : fi.length = fi'.size) (h2 : ca.length = ca'.size)
      (g1 : ∀ (i : Nat) (v : AV) (v' : Value), fi[i]? = some v → fi'[i]? = some v' → VR ρ v v') (g2 : ∀ (i : Nat) (v : AV) (v' : Value), ca[i]? = some v → ca'[i]? = some v' → VR ρ v v') :
      VR ρ (.func fn fi ca) (.func fn fi' ca')
  | nilFunc : VR ρ .nilFunc .nilFunc
  | iface {t : TypeId} {v : AV} {v' : Value} (h : VR ρ v v') : VR ρ (.iface t v) (.iface t v')
  | nilIface : VR ρ .nilIface .nilIface
  | yld {i l z : Nat} (h : ρ i = some (l, z)) : VR ρ (.yld i) (.func (.yield l) #[] #[])
  | agg {cs : List AV} {cs' : Array Value} (h1 : cs.length = cs'.size) (g1 : ∀ (i : Nat) (v : AV) (v' : Value), cs[i]? = some v → cs'[i]? = some v' → VR ρ v v') : VR ρ (.agg cs) (.agg cs')
  | tuple {cs : List AV} {cs' : Array Value} (h1 : cs.length = cs'.size) (g1 : ∀ (i : Nat) (v : AV) (v' : Value), cs[i]? = some v → cs'[i]? = some v' → VR ρ v v') : VR ρ (.tuple cs) (.tuple cs')

theorem VR.skip (ρ : BMap) : VR ρ .skip Go.undef := .tuple (cs := []) (cs' := #[]) rfl (fun i v v' e => by simp at e)

def Sub (ρ ρ' : BMap) : Prop := ∀ i r, ρ i = some r → ρ' i = some r

omit [Sym] in
theorem Sub.refl (ρ : BMap) : Sub ρ ρ := fun _ _ h => h
omit [Sym] in
theorem Sub.trans {a b c : BMap} (h : Sub a b) (k : Sub b c) : Sub a c := fun i r e => k i r (h i r e)

theorem VR.mono {ρ ρ' : BMap} (hs : Sub ρ ρ') {a : AV} {v : Value} (h : VR ρ a v) : VR ρ' a v := by
  induction h with
  | undef v => exact .undef v
  | bool b => exact .bool b
  | int k n => exact .int k n
  | sym h1 h2 => exact .sym h1 h2
  | res h0 h1 h2 => exact .res h0 h1 h2
  | symk h1 h2 => exact .symk h1 h2
  | empty => exact .empty
  | str s => exact .str s
  | ptrNil => exact .ptrNil
  | ptr h => exact .ptr (hs _ _ h)
  | sliceNil => exact .sliceNil
  | slice h hc hl => exact .slice (hs _ _ h) hc hl
  | mapNil => exact .mapNil
  | map h => exact .map (hs _ _ h)
  | func h1 h2 _ _ i1 i2 => exact .func h1 h2 i1 i2
  | nilFunc => exact .nilFunc
  | iface _ ih => exact .iface ih
  | nilIface => exact .nilIface
  | yld h => exact .yld (hs _ _ h)
  | agg h1 _ ih => exact .agg h1 ih
  | tuple h1 _ ih => exact .tuple h1 ih

def VRs (ρ : BMap) (l : List AV) (a : Array Value) : Prop := l.length = a.size ∧ ∀ (i : Nat) (v : AV) (v' : Value), l[i]? = some v → a[i]? = some v' → VR ρ v v'

theorem VRs.mono {ρ ρ' : BMap} (hs : Sub ρ ρ') {l : List AV} {a : Array Value} (h : VRs ρ l a) : VRs ρ' l a :=
  ⟨h.1, fun i v v' e e' => (h.2 i v v' e e').mono hs⟩

theorem VRs.nil (ρ : BMap) : VRs ρ [] #[] := ⟨rfl, fun i v v' e => by simp at e⟩

theorem VRs.get {ρ : BMap} {l : List AV} {a : Array Value} (h : VRs ρ l a) {i : Nat} {v : AV} (e : l[i]? = some v) : ∃ v', a[i]? = some v' ∧ VR ρ v v' := by
  have hi : i < a.size := by
    rw [← h.1]
    exact (List.getElem?_eq_some_iff.1 e).1
  exact ⟨a[i], by simp [hi], h.2 i v _ e (by simp [hi])⟩

theorem VRs.append {ρ : BMap} {l m : List AV} {a b : Array Value} (h : VRs ρ l a) (k : VRs ρ m b) : VRs ρ (l ++ m) (a ++ b) := by
  refine ⟨by simp [h.1, k.1], fun i v v' e e' => ?_⟩
  rw [List.getElem?_append] at e
  rw [Array.getElem?_append] at e'
  split at e
  · rename_i hi
    rw [if_pos (by rw [← h.1]; exact hi)] at e'
    exact h.2 _ _ _ e e'
  · rename_i hi
    rw [if_neg (by rw [← h.1]; exact hi)] at e'
    rw [← h.1] at e'
    exact k.2 _ _ _ e e'

theorem VRs.push {ρ : BMap} {l : List AV} {a : Array Value} (h : VRs ρ l a) {v : AV} {v' : Value} (k : VR ρ v v') : VRs ρ (l ++ [v]) (a.push v') := by
  refine ⟨by simp [h.1], fun i x x' e e' => ?_⟩
  rw [List.getElem?_append] at e
  rw [Array.getElem?_push] at e'
  split at e
  · rename_i hi
    rw [if_neg (by rw [← h.1]; omega)] at e'
    exact h.2 _ _ _ e e'
  · rename_i hi
    by_cases hj : i = a.size
    · rw [if_pos hj] at e'
      have : i - l.length = 0 := by rw [h.1]; omega
      rw [this] at e
      simp at e e'
      subst e; subst e'; exact k
    · have : i - l.length ≠ 0 := by rw [h.1]; rw [h.1] at hi; omega
      rw [List.getElem?_eq_none (by simp; omega)] at e
      cases e

theorem VRs.cons_inv {ρ : BMap} {x : AV} {l : List AV} {a : Array Value} (h : VRs ρ (x :: l) a) :
    ∃ y b, a = #[y] ++ b ∧ VR ρ x y ∧ VRs ρ l b := by
  have hs := h.1
  obtain ⟨l'⟩ := a
  cases l' with
  | nil => simp at hs
  | cons y b =>
    refine ⟨y, ⟨b⟩, by simp, h.2 0 x y (by simp) (by simp), by simpa using hs, fun i v v' e e' => h.2 (i + 1) v v' (by simpa using e) (by simpa using e')⟩


structure Fr where
  recent : List (Nat × AV)
  loc : Tr AV
  thr : Nat
  size : Nat

noncomputable def assoc (l : List (Nat × AV)) (t : Nat) : Option AV :=
  List.rec (motive := fun _ => Option AV) none (fun p _ ih => Bool.rec ih (some p.2) (Nat.beq p.1 t)) l

noncomputable def Fr.get (F : Fr) (t : Nat) : Option AV := Fr.rec (fun recent loc thr _ => Bool.rec (assoc recent t) (loc.get t) (Nat.blt t thr)) F


inductive Out where
  | normal
  | exit (id : Nat)
  | ret

def Out.jump : Out → Option Code
  | .normal => none
  | .exit i => some (.exit i)
  | .ret => some .ret

inductive Pend where
  | ready
  | busy
  | done (o : Out)

def PendR : Pend → LoopState → Option Code → Prop
  | .ready, s, c => s = .ready ∧ c = none
  | .busy, s, c => s = .busy ∧ c = none
  | .done o, s, c => s = .done ∧ c = o.jump ∧ o ≠ .normal

inductive Blk where
  | cells (cs : List AV) (rw : Bool) (ty : Option TypeId := none)
  | map (es : List (AV × AV × Nat)) (clock : Nat)
  | mapR (es : List (AV × AV × Nat)) (clock : Nat)
  | loop (F : Fr) (ps : List Nat) (asg bd : Code) (p : Pend)
  | dead

def Blk.rw : Blk → Bool
  | .cells _ b _ => b
  | .map _ _ => true
  | .mapR _ _ => false
  | .loop _ _ _ _ _ => true
  | .dead => false

def ER (ρ : BMap) (x : AV × AV × Nat) (e : MapEntry) : Prop := VR ρ x.1 e.key ∧ VR ρ x.2.1 e.val ∧ e.born = x.2.2

def BR (ρ : BMap) (z : Nat) : Blk → Obj → Prop
  | .cells cs rw ty, .cells arr e fz => arr.size = z ∧ cs.length ≤ arr.size ∧ (∀ (i : Nat) (v : AV) (v' : Value), cs[i]? = some v → arr[i]? = some v' → VR ρ v v') ∧ (rw = true → fz = (0, 0)) ∧ (∀ t, ty = some t → e = t)
  | .map es ck, .map es' ck' => es.length = es'.size ∧ (∀ (i : Nat) (x : AV × AV × Nat) (e : MapEntry), es[i]? = some x → es'[i]? = some e → ER ρ x e) ∧ ck = ck'
  | .mapR es ck, .map es' ck' => es.length = es'.size ∧ (∀ (i : Nat) (x : AV × AV × Nat) (e : MapEntry), es[i]? = some x → es'[i]? = some e → ER ρ x e) ∧ ck = ck'
  | .loop F ps asg bd p, .loop rec => rec.params.toList = ps ∧ rec.assign = asg ∧ rec.body = bd ∧ rec.tmps.size = F.size ∧ (∀ t v, F.get t = some v → VR ρ v (rec.tmps.getD t undef)) ∧ (∀ t v, F.get t = some v → t < F.size) ∧ PendR p rec.state rec.pending
  | .dead, _ => True
  | _, _ => False

theorem BR.mono {ρ ρ' : BMap} (hs : Sub ρ ρ') {z : Nat} {b : Blk} {o : Obj} (h : BR ρ z b o) : BR ρ' z b o := by
  cases b with
  | dead => trivial
  | cells cs rw ty =>
    cases o <;> simp only [BR] at h ⊢
    exact ⟨h.1, h.2.1, fun i v v' e e' => (h.2.2.1 i v v' e e').mono hs, h.2.2.2⟩
  | map es ck =>
    cases o <;> simp only [BR] at h ⊢
    exact ⟨h.1, fun i v v' e e' => ⟨(h.2.1 i v v' e e').1.mono hs, (h.2.1 i v v' e e').2.1.mono hs, (h.2.1 i v v' e e').2.2⟩, h.2.2⟩
  | mapR es ck =>
    cases o <;> simp only [BR] at h ⊢
    exact ⟨h.1, fun i v v' e e' => ⟨(h.2.1 i v v' e e').1.mono hs, (h.2.1 i v v' e e').2.1.mono hs, (h.2.1 i v v' e e').2.2⟩, h.2.2⟩
  | loop F ps asg bd p =>
    cases o <;> simp only [BR] at h ⊢
    exact ⟨h.1, h.2.1, h.2.2.1, h.2.2.2.1, fun t v e => (h.2.2.2.2.1 t v e).mono hs, h.2.2.2.2.2.1, h.2.2.2.2.2.2⟩

structure St where
  heap : Tr Blk
  next : Nat

noncomputable def St.get (s : St) (i : Nat) : Option Blk := s.heap.get i
noncomputable def St.set (s : St) (i : Nat) (b : Blk) : St := ⟨s.heap.set b i, s.next⟩
noncomputable def St.new (s : St) (b : Blk) : St := ⟨s.heap.set b s.next, s.next + 1⟩

structure HR (ρ : BMap) (s : St) (w : World) : Prop where
  fresh : ∀ i, s.next ≤ i → ρ i = none
  blk : ∀ i b, s.get i = some b → b ≠ .dead → ∃ r z o, ρ i = some (r, z) ∧ w.heap[r]? = some o ∧ BR ρ z b o
  inj : ∀ i j b c r z y, s.get i = some b → s.get j = some c → b.rw = true → c ≠ .dead → ρ i = some (r, z) → ρ j = some (r, y) → i = j
  below : ∀ i r z, ρ i = some (r, z) → r < w.heap.size

def Mine (ρ : BMap) (s : St) (r : Nat) : Prop := ∃ i b z, s.get i = some b ∧ b.rw = true ∧ ρ i = some (r, z)

def Live (ρ : BMap) (s : St) (r : Nat) : Prop := ∃ i b z, s.get i = some b ∧ b ≠ .dead ∧ ρ i = some (r, z)

structure Ext (ρ : BMap) (s : St) (w : World) (ρ' : BMap) (s' : St) (w' : World) : Prop where
  sub : Sub ρ ρ'
  hr : HR ρ' s' w'
  size : w.heap.size ≤ w'.heap.size
  keeps : ∀ r, r < w.heap.size → ¬ Mine ρ s r → w'.heap[r]? = w.heap[r]?
  mine : ∀ r, r < w.heap.size → Mine ρ' s' r → Mine ρ s r
  live : ∀ r, r < w.heap.size → Live ρ' s' r → Live ρ s r
  next : s.next ≤ s'.next
  old : ∀ i, i < s.next → ρ' i = ρ i
  os : w'.os = w.os
  tape : w'.tape = w.tape
  output : w'.output = w.output

theorem Ext.refl {ρ : BMap} {s : St} {w : World} (h : HR ρ s w) : Ext ρ s w ρ s w :=
  ⟨.refl _, h, Nat.le_refl _, fun _ _ _ => rfl, fun _ _ h => h, fun _ _ h => h, Nat.le_refl _, fun _ _ => rfl, rfl, rfl, rfl⟩

theorem Ext.trans {ρ ρ' ρ'' : BMap} {s s' s'' : St} {w w' w'' : World} (h : Ext ρ s w ρ' s' w') (k : Ext ρ' s' w' ρ'' s'' w'') : Ext ρ s w ρ'' s'' w'' where
  sub := h.sub.trans k.sub
  hr := k.hr
  size := Nat.le_trans h.size k.size
  keeps r hr hm := (k.keeps r (Nat.lt_of_lt_of_le hr h.size) fun hm' => hm (h.mine r hr hm')).trans (h.keeps r hr hm)
  mine r hr hm := h.mine r hr (k.mine r (Nat.lt_of_lt_of_le hr h.size) hm)
  live r hr hm := h.live r hr (k.live r (Nat.lt_of_lt_of_le hr h.size) hm)
  next := Nat.le_trans h.next k.next
  old i hi := (k.old i (Nat.lt_of_lt_of_le hi h.next)).trans (h.old i hi)
  os := k.os.trans h.os
  tape := k.tape.trans h.tape
  output := k.output.trans h.output

end Go.Proofs.Bx

namespace Go.Proofs.Bx
open Go
variable [Sym]


noncomputable def lapp {α : Type} (l m : List α) : List α := List.rec (motive := fun _ => List α) m (fun a _ ih => a :: ih) l
omit [Sym] in
theorem lapp_eq {α : Type} (l m : List α) : lapp l m = l ++ m := by
  induction l with
  | nil => rfl
  | cons a l ih => show a :: lapp l m = _; rw [ih]; rfl

noncomputable def ldrop {α : Type} (l : List α) : Nat → List α :=
  List.rec (motive := fun _ => Nat → List α) (fun _ => []) (fun a r ih n => Nat.rec (a :: r) (fun m _ => ih m) n) l
omit [Sym] in
theorem ldrop_eq {α : Type} (l : List α) : ∀ n, ldrop l n = l.drop n := by
  induction l with
  | nil => intro n; simp [ldrop]
  | cons a l ih =>
    intro n
    cases n with
    | zero => rfl
    | succ n => show ldrop l n = _; rw [ih]; rfl

noncomputable def ltake {α : Type} (l : List α) : Nat → Option (List α) :=
  List.rec (motive := fun _ => Nat → Option (List α)) (fun n => Nat.rec (some []) (fun _ _ => none) n)
    (fun a _ ih n => Nat.rec (some []) (fun m _ => Option.rec none (fun r => some (a :: r)) (ih m)) n) l
omit [Sym] in
theorem ltake_eq {α : Type} (l : List α) : ∀ n r, ltake l n = some r → r = l.take n ∧ r.length = n := by
  induction l with
  | nil =>
    intro n r h
    cases n with
    | zero => cases h; exact ⟨rfl, rfl⟩
    | succ n => cases h
  | cons a l ih =>
    intro n r h
    cases n with
    | zero => cases h; exact ⟨rfl, rfl⟩
    | succ n =>
      have h' : (Option.rec none (fun r => some (a :: r)) (ltake l n) : Option (List α)) = some r := h
      cases hx : ltake l n with
      | none => rw [hx] at h'; cases h'
      | some q =>
        rw [hx] at h'
        cases h'
        obtain ⟨h1, h2⟩ := ih n q hx
        exact ⟨by rw [h1]; rfl, by simp [h2]⟩

noncomputable def llen {α : Type} (l : List α) : Nat := List.rec (motive := fun _ => Nat) 0 (fun _ _ ih => Nat.succ ih) l
omit [Sym] in
theorem llen_eq {α : Type} (l : List α) : llen l = l.length := by
  induction l with
  | nil => rfl
  | cons a l ih => show llen l + 1 = _; rw [ih]; rfl

noncomputable def lmapO {α β : Type} (f : α → Option β) (l : List α) : Option (List β) :=
  List.rec (motive := fun _ => Option (List β)) (some []) (fun a _ ih => Option.rec none (fun b => Option.rec none (fun r => some (b :: r)) ih) (f a)) l
omit [Sym] in
theorem lmapO_nil {α β : Type} (f : α → Option β) : lmapO f [] = some [] := rfl
omit [Sym] in
theorem lmapO_cons {α β : Type} {f : α → Option β} {a : α} {l : List α} {r : List β} (h : lmapO f (a :: l) = some r) :
    ∃ b q, f a = some b ∧ lmapO f l = some q ∧ r = b :: q := by
  have h' : (Option.rec none (fun b => Option.rec none (fun r => some (b :: r)) (lmapO f l)) (f a) : Option (List β)) = some r := h
  cases hb : f a with
  | none => rw [hb] at h'; cases h'
  | some b =>
    rw [hb] at h'
    cases hq : lmapO f l with
    | none => rw [hq] at h'; cases h'
    | some q => rw [hq] at h'; cases h'; exact ⟨b, q, rfl, rfl, rfl⟩
omit [Sym] in
theorem lmapO_len {α β : Type} {f : α → Option β} : ∀ {l : List α} {r : List β}, lmapO f l = some r → r.length = l.length
  | [], r, h => by cases h; rfl
  | a :: l, r, h => by
    obtain ⟨b, q, _, hq, rfl⟩ := lmapO_cons h
    simp [lmapO_len hq]
omit [Sym] in
theorem lmapO_get {α β : Type} {f : α → Option β} : ∀ {l : List α} {r : List β}, lmapO f l = some r → ∀ (i : Nat) (a : α), l[i]? = some a → ∃ b, f a = some b ∧ r[i]? = some b
  | [], r, _, i, a, e => by simp at e
  | x :: l, r, h, i, a, e => by
    obtain ⟨b, q, hb, hq, rfl⟩ := lmapO_cons h
    cases i with
    | zero => simp at e; subst e; exact ⟨b, hb, by simp⟩
    | succ i => exact (lmapO_get hq i a (by simpa using e)).imp fun c hc => ⟨hc.1, by simpa using hc.2⟩


def cvAtom : Value → Option AV
  | .bool b => some (.bool b)
  | .int k n => some (.int k n)
  | .string s => some (.str s)
  | .pointer none => some (.ptr none)
  | .slice none 0 0 => some (.slice none 0 (.exact 0))
  | .map none => some (.map none)
  | .nilFunc => some .nilFunc
  | .nilIface => some .nilIface
  | _ => none

theorem cvAtom_vr (ρ : BMap) {v : Value} {a : AV} (h : cvAtom v = some a) : VR ρ a v := by
  unfold cvAtom at h
  split at h <;> first | (cases h; constructor) | cases h

noncomputable def cv (v : Value) : Option AV :=
  match v with
  | .agg cs => Option.rec none (fun l => some (.agg l)) (lmapO cvAtom cs.toList)
  | .tuple cs => Option.rec none (fun l => some (.tuple l)) (lmapO cvAtom cs.toList)
  | v => cvAtom v

theorem lmapO_cvAtom (ρ : BMap) {cs : Array Value} {l : List AV} (h : lmapO cvAtom cs.toList = some l) : VRs ρ l cs := by
  refine ⟨by rw [lmapO_len h]; simp, fun i v v' e e' => ?_⟩
  obtain ⟨b, hb, hr⟩ := lmapO_get h i v' (by simpa using e')
  rw [e] at hr
  cases hr
  exact cvAtom_vr ρ hb

theorem cv_vr (ρ : BMap) {v : Value} {a : AV} (h : cv v = some a) : VR ρ a v := by
  unfold cv at h
  split at h
  · rename_i cs
    cases hl : lmapO cvAtom cs.toList with
    | none => rw [hl] at h; cases h
    | some l => rw [hl] at h; cases h; exact .agg (lmapO_cvAtom ρ hl).1 (lmapO_cvAtom ρ hl).2
  · rename_i cs
    cases hl : lmapO cvAtom cs.toList with
    | none => rw [hl] at h; cases h
    | some l => rw [hl] at h; cases h; exact .tuple (lmapO_cvAtom ρ hl).1 (lmapO_cvAtom ρ hl).2
  · exact cvAtom_vr ρ h


def AV.atom : AV → Bool
  | .undef => false
  | .agg _ => false
  | .tuple _ => false
  | _ => true

theorem VR.oneCell {ρ : BMap} {a : AV} {v : Value} (h : VR ρ a v) (ha : a.atom = true) : v.oneCell' = true := by
  cases h <;> first | rfl | (cases ha)

noncomputable def AV.cells (v : AV) : Option (List AV) :=
  match v with
  | .agg cs => some cs
  | v => cond v.atom (some [v]) none

theorem AV.cells_vr {ρ : BMap} {a : AV} {v : Value} {l : List AV} (h : VR ρ a v) (hc : a.cells = some l) : VRs ρ l v.cells := by
  cases h with
  | agg h1 g1 => cases hc; exact ⟨h1, g1⟩
  | undef v => cases hc
  | tuple h1 g1 => cases hc
  | _ =>
    cases hc
    refine ⟨rfl, fun i x x' e e' => ?_⟩
    have hi : i = 0 := by
      have := (List.getElem?_eq_some_iff.1 e).1
      simp at this; exact this
    subst hi
    simp [Value.cells] at e e'
    subst e; subst e'
    first | constructor <;> assumption | constructor

noncomputable def allAtoms (l : List AV) : Bool := List.rec (motive := fun _ => Bool) true (fun a _ ih => cond a.atom ih false) l
omit [Sym] in
theorem allAtoms_mem : ∀ {l : List AV}, allAtoms l = true → ∀ a ∈ l, a.atom = true
  | [], _, a, h => by simp at h
  | x :: l, h, a, hm => by
    have h' : cond x.atom (allAtoms l) false = true := h
    cases hx : x.atom with
    | false => rw [hx] at h'; cases h'
    | true =>
      rw [hx] at h'
      rcases List.mem_cons.1 hm with rfl | hm
      · exact hx
      · exact allAtoms_mem h' a hm

theorem VRs.oneCell {ρ : BMap} {l : List AV} {a : Array Value} (h : VRs ρ l a) (ha : allAtoms l = true) : ∀ v ∈ a.toList, v.oneCell' = true := by
  intro v hv
  obtain ⟨i, hi⟩ := List.mem_iff_getElem?.1 hv
  have hi' : a[i]? = some v := by simpa using hi
  have hlt : i < l.length := by rw [h.1]; exact (Array.getElem?_eq_some_iff.1 hi').1
  have := h.2 i l[i] v (by simp [hlt]) hi'
  exact this.oneCell (allAtoms_mem ha _ (by simp))

end Go.Proofs.Bx

namespace Go.Proofs.Bx
open Go
variable [Sym]

abbrev Ev := Operand → Option AV

def EvR (ρ : BMap) (ev : Ev) (a : Act) : Prop := ∀ x v, ev x = some v → VR ρ v (a.eval x)

noncomputable abbrev ob {α β : Type} (x : Option α) (f : α → Option β) : Option β := Option.rec none f x

omit [Sym] in
theorem ob_some {α β : Type} {x : Option α} {f : α → Option β} {b : β} (h : ob x f = some b) : ∃ a, x = some a ∧ f a = some b := by
  cases x with
  | none => cases h
  | some a => exact ⟨a, rfl, h⟩

omit [Sym] in
theorem cond_some {α : Type} {c : Bool} {x : Option α} {b : α} (h : cond c x none = some b) : c = true ∧ x = some b := by
  cases c with
  | false => cases h
  | true => exact ⟨rfl, h⟩

omit [Sym] in
theorem cond_some' {α : Type} {c : Bool} {x : Option α} {b : α} (h : cond c none x = some b) : c = false ∧ x = some b := by
  cases c with
  | true => cases h
  | false => exact ⟨rfl, h⟩

variable (P : Program)

noncomputable def size? (t : TypeId) : Option Nat := ob (P.info? t) fun i => some i.size

omit [Sym] in
theorem size?_run {P : Program} {t n : Nat} (h : size? P t = some n) (w : World) : (sizeOf t).run P w = .ok n w := by
  replace h := ob_some h; obtain ⟨i, hi, e⟩ := h
  cases e
  simp [sizeOf, typeInfo, hi]

noncomputable def agg? (t : TypeId) : Option Bool :=
  match P.underlying t with
  | some (.struct _) => some true
  | some (.array _ _) => some true
  | some _ => some false
  | none => none

omit [Sym] in
theorem agg?_run {P : Program} {t : TypeId} {b : Bool} (h : agg? P t = some b) (w : World) : (isAgg t).run P w = .ok b w := by
  unfold agg? at h
  split at h
  · rename_i hu; cases h; simp [isAgg, run_underlying hu]
  · rename_i hu; cases h; simp [isAgg, run_underlying hu]
  · rename_i d h1 h2 hu
    cases h
    simp only [isAgg, Sem.run_bind, run_underlying hu, Result.andThen_ok]
    cases d <;> first | rfl | exact absurd rfl (h1 _) | exact absurd rfl (h2 _ _)
  · cases h

noncomputable def apart (t : TypeId) (cs : List AV) (off : Nat) : Option AV :=
  ob (agg? P t) fun b => cond b (ob (size? P t) fun n => ob (ltake (ldrop cs off) n) fun l => some (.agg l)) (nth cs off)

theorem VRs.extract {ρ : BMap} {l : List AV} {a : Array Value} (h : VRs ρ l a) {off n : Nat} {q : List AV} (hq : ltake (ldrop l off) n = some q) :
    VRs ρ q (a.extract off (off + n)) := by
  rw [ldrop_eq] at hq
  obtain ⟨h1, h2⟩ := ltake_eq _ _ _ hq
  have h3 := congrArg List.length h1
  rw [h2, List.length_take, List.length_drop] at h3
  refine ⟨by simp [h2, ← h.1]; omega, fun i v v' e e' => ?_⟩
  have hi : i < n := by rw [← h2]; exact (List.getElem?_eq_some_iff.1 e).1
  rw [h1, List.getElem?_take, if_pos hi, List.getElem?_drop] at e
  refine h.2 (off + i) v v' e ?_
  rw [Array.getElem?_extract] at e'
  split at e'
  · exact e'
  · cases e'

theorem apart_run {P : Program} {ρ : BMap} {t : TypeId} {cs : List AV} {cs' : Array Value} {off : Nat} {v : AV} (h : apart P t cs off = some v) (hr : VRs ρ cs cs') (w : World) :
    ∃ v', (part t cs' off).run P w = .ok v' w ∧ VR ρ v v' := by
  replace h := ob_some h; obtain ⟨b, hb, h⟩ := h
  cases b with
  | true =>
    replace h := ob_some h; obtain ⟨n, hn, h⟩ := h
    replace h := ob_some h; obtain ⟨l, hl, h⟩ := h
    cases h
    refine ⟨.agg (cs'.extract off (off + n)), ?_, ?_⟩
    · simp [part, agg?_run hb, size?_run hn]
    · have := hr.extract hl
      exact .agg this.1 this.2
  | false =>
    have h' : nth cs off = some v := h
    rw [nth_eq] at h'
    obtain ⟨v', e, hv⟩ := hr.get h'
    exact ⟨v', by simp [part, agg?_run hb, e], hv⟩


def bare : Sem Value → Option Value
  | .pure v => some v
  | _ => none

omit [Sym] in
theorem bare_run {s : Sem Value} {v : Value} (h : bare s = some v) (w : World) : s.run P w = .ok v w := by
  cases s <;> first | (cases h; rfl) | cases h

def AV.plain : AV → Option Value
  | .int k n => some (.int k n)
  | .str s => some (.string s)
  | .bool b => some (.bool b)
  | _ => none

theorem AV.plain_vr {ρ : BMap} {a : AV} {v u : Value} (h : a.plain = some v) (hu : VR ρ a u) : u = v := by
  cases hu <;> first | (cases h; rfl) | cases h

noncomputable def binPlain (op : BinOp) (t : TypeId) (x y : AV) : Option AV :=
  match x, y with
  | .int j a, .int k b => ob (bare (Go.binOp op t (.int j a) (.int k b))) cvAtom
  | .str a, .str b => ob (bare (Go.binOp op t (.string a) (.string b))) cvAtom
  | _, _ => none

omit [Sym] in
theorem eqGuard_int (op : BinOp) (t : TypeId) (x y : Operand) (j k : IntKind) (a b : Int) (w : World) : (eqGuard op t x y (.int j a) (.int k b)).run P w = .ok () w := by
  unfold eqGuard; split <;> rfl
omit [Sym] in
theorem eqGuard_str (op : BinOp) (t : TypeId) (x y : Operand) (a b : ByteArray) (w : World) : (eqGuard op t x y (.string a) (.string b)).run P w = .ok () w := by
  unfold eqGuard; split <;> rfl

theorem binPlain_run {P : Program} {ρ : BMap} {op : BinOp} {t : TypeId} {x y : Operand} {a b : AV} {a' b' : Value} {v : AV} (h : binPlain op t a b = some v)
    (ha : VR ρ a a') (hb : VR ρ b b') (w : World) : ∃ v', (do eqGuard op t x y a' b'; Go.binOp op t a' b' : Sem Value).run P w = .ok v' w ∧ VR ρ v v' := by
  unfold binPlain at h
  split at h
  · cases ha; cases hb
    replace h := ob_some h; obtain ⟨u, hu, h⟩ := h
    exact ⟨u, by simp only [Sem.run_bind, eqGuard_int, Result.andThen_ok, bare_run P hu], cvAtom_vr ρ h⟩
  · cases ha; cases hb
    replace h := ob_some h; obtain ⟨u, hu, h⟩ := h
    exact ⟨u, by simp only [Sem.run_bind, eqGuard_str, Result.andThen_ok, bare_run P hu], cvAtom_vr ρ h⟩
  · cases h

noncomputable def symBin (op : BinOp) (x y : AV) : Option AV :=
  match x, y with
  | .sym d m, .int .i64 c => match op with
    | .sub => match c with
      | .ofNat n => cond (Nat.ble n m) (some (.sym (d - Int.ofNat n) (Nat.sub m n))) none
      | _ => none
    | .lss => cond (decide (c ≤ Int.ofNat m)) (some (.bool false)) none
    | .geq => cond (decide (c ≤ Int.ofNat m)) (some (.bool true)) none
    | .leq => cond (decide (c < Int.ofNat m)) (some (.bool false)) none
    | .gtr => cond (decide (c < Int.ofNat m)) (some (.bool true)) none
    | .eql => cond (decide (c < Int.ofNat m)) (some (.bool false)) none
    | .neq => cond (decide (c < Int.ofNat m)) (some (.bool true)) none
    | _ => none
  | .int .i64 c, .sym _ m => match op with
    | .gtr => cond (decide (c ≤ Int.ofNat m)) (some (.bool false)) none
    | .leq => cond (decide (c ≤ Int.ofNat m)) (some (.bool true)) none
    | .geq => cond (decide (c < Int.ofNat m)) (some (.bool false)) none
    | .lss => cond (decide (c < Int.ofNat m)) (some (.bool true)) none
    | .eql => cond (decide (c < Int.ofNat m)) (some (.bool false)) none
    | .neq => cond (decide (c < Int.ofNat m)) (some (.bool true)) none
    | _ => none
  | _, _ => none

theorem symBin_run {P : Program} {ρ : BMap} {op : BinOp} {t : TypeId} {x y : Operand} {a b : AV} {a' b' : Value} {v : AV} (h : symBin op a b = some v)
    (ha : VR ρ a a') (hb : VR ρ b b') (w : World) : ∃ v', (do eqGuard op t x y a' b'; Go.binOp op t a' b' : Sem Value).run P w = .ok v' w ∧ VR ρ v v' := by
  unfold symBin at h
  split at h
  · rename_i d m c
    cases ha with
    | sym h1 h2 =>
      cases hb
      split at h
      · split at h
        · rename_i n
          replace h := cond_some h; obtain ⟨h3, h⟩ := h
          have h3 := Nat.le_of_ble_eq_true h3
          cases h
          have e : IntKind.i64.wrap (Sym.val + d - Int.ofNat n) = Sym.val + (d - Int.ofNat n) := by
            rw [IntKind.wrap_i64]
            simp only [Int.ofNat_eq_natCast]
            omega
          refine ⟨.int .i64 (Sym.val + (d - Int.ofNat n)), ?_, .sym ?_ ?_⟩
          · simp only [Sem.run_bind, eqGuard_int, Result.andThen_ok]
            simp only [Go.binOp, Op.intArith, ne_eq, not_true_eq_false, if_false, e]
            rfl
          · have : ((Nat.sub m n : Nat) : Int) = (m : Int) - (n : Int) := by
              show ((m - n : Nat) : Int) = _
              omega
            rw [this]; simp only [Int.ofNat_eq_natCast]; omega
          · simp only [Int.ofNat_eq_natCast]; omega
        · cases h
      all_goals first
        | (cases h; done)
        | (replace h := cond_some h; obtain ⟨h3, h⟩ := h
           have h3 := of_decide_eq_true h3
           simp only [Int.ofNat_eq_natCast] at h3
           cases h
           refine ⟨.bool _, ?_, .bool _⟩
           simp only [Sem.run_bind, eqGuard_int, Result.andThen_ok]
           simp only [Go.binOp, Op.intCmp, ne_eq, not_true_eq_false, if_false]
           simp [Sem.run]
           omega)
  · rename_i c d m
    cases hb with
    | sym h1 h2 =>
      cases ha
      split at h
      all_goals first
        | (cases h; done)
        | (replace h := cond_some h; obtain ⟨h3, h⟩ := h
           have h3 := of_decide_eq_true h3
           simp only [Int.ofNat_eq_natCast] at h3
           cases h
           refine ⟨.bool _, ?_, .bool _⟩
           simp only [Sem.run_bind, eqGuard_int, Result.andThen_ok]
           simp only [Go.binOp, Op.intCmp, ne_eq, not_true_eq_false, if_false]
           simp [Sem.run]
           omega)
  · cases h

noncomputable def resBin (op : BinOp) (x y : AV) : Option AV :=
  match op, x, y with
  | .rem, .res .u8 m r, .int .u8 (.ofNat c) => cond (Nat.beq c m) (cond (Nat.blt 0 m) (cond (Nat.blt r 256) (some (.int .u8 (.ofNat r))) none) none) none
  | .rem, .res .i64 m r, .int .i64 (.ofNat c) => cond (Nat.beq c m) (cond (Nat.blt 0 m) (cond (Nat.blt r 256) (some (.int .i64 (.ofNat r))) none) none) none
  | _, _, _ => none

theorem resBin_run {P : Program} {ρ : BMap} {op : BinOp} {t : TypeId} {x y : Operand} {a b : AV} {a' b' : Value} {v : AV} (h : resBin op a b = some v)
    (ha : VR ρ a a') (hb : VR ρ b b') (w : World) : ∃ v', (do eqGuard op t x y a' b'; Go.binOp op t a' b' : Sem Value).run P w = .ok v' w ∧ VR ρ v v' := by
  unfold resBin at h
  split at h
  · rename_i m r c
    replace h := cond_some h; obtain ⟨h1, h⟩ := h
    replace h := cond_some h; obtain ⟨h2, h⟩ := h
    replace h := cond_some h; obtain ⟨h3, h⟩ := h
    cases h
    have h1 := Nat.eq_of_beq_eq_true h1
    have h2 : 0 < m := Nat.blt_eq ▸ h2
    have h3 : r < 256 := Nat.blt_eq ▸ h3
    subst h1
    cases hb
    cases ha with
    | res k0 k1 k2 =>
      rename_i n
      have e1 : Int.tmod n (c : Int) = (r : Int) := by rw [Int.tmod_eq_emod_of_nonneg k0]; exact k2
      have e2 : IntKind.u8.wrap (r : Int) = (r : Int) := by rw [IntKind.wrap_u8]; omega
      have e3 : ¬ ((c : Int) = 0) := by omega
      refine ⟨.int .u8 (r : Int), ?_, .int _ _⟩
      simp only [Sem.run_bind, eqGuard_int, Result.andThen_ok]
      simp [Go.binOp, Op.intDiv, e1, e2, e3]
      intro h; omega
  · rename_i m r c
    replace h := cond_some h; obtain ⟨h1, h⟩ := h
    replace h := cond_some h; obtain ⟨h2, h⟩ := h
    replace h := cond_some h; obtain ⟨h3, h⟩ := h
    cases h
    have h1 := Nat.eq_of_beq_eq_true h1
    have h2 : 0 < m := Nat.blt_eq ▸ h2
    have h3 : r < 256 := Nat.blt_eq ▸ h3
    subst h1
    cases hb
    cases ha with
    | res k0 k1 k2 =>
      rename_i n
      have e1 : Int.tmod n (c : Int) = (r : Int) := by rw [Int.tmod_eq_emod_of_nonneg k0]; exact k2
      have e2 : IntKind.i64.wrap (r : Int) = (r : Int) := by rw [IntKind.wrap_i64]; omega
      have e3 : ¬ ((c : Int) = 0) := by omega
      refine ⟨.int .i64 (r : Int), ?_, .int _ _⟩
      simp only [Sem.run_bind, eqGuard_int, Result.andThen_ok]
      simp [Go.binOp, Op.intDiv, e1, e2, e3]
      intro h; omega
  · cases h

noncomputable def unPlain (op : UnOp) (x : AV) : Option AV := ob x.plain fun v => ob (bare (Op.unary op v)) cvAtom

theorem unPlain_run {P : Program} {ρ : BMap} {op : UnOp} {a : AV} {a' : Value} {v : AV} (h : unPlain op a = some v) (ha : VR ρ a a') (w : World) :
    ∃ v', (Op.unary op a').run P w = .ok v' w ∧ VR ρ v v' := by
  replace h := ob_some h; obtain ⟨u, hu, h2⟩ := h
  obtain ⟨r, hr, h3⟩ := ob_some h2
  have e := a.plain_vr hu ha
  subst e
  exact ⟨r, bare_run P hr w, cvAtom_vr ρ h3⟩


omit [Sym] in
theorem add_addr (r o n : Nat) : (⟨r, o, none⟩ : Addr).add n = ⟨r, o + n, none⟩ := by
  unfold Addr.add; split <;> simp_all

noncomputable def fieldAddrA (s : TypeId) (x : AV) (f : Nat) : Option AV :=
  match P.underlying s with
  | some (.struct fields) => ob (nth fields.toList f) fun fd => ob (size? P fd.type) fun n => cond (Nat.beq n 0) none
      (match x with
       | .ptr (some (b, o)) => some (.ptr (some (b, Nat.add o fd.offset)))
       | _ => none)
  | _ => none

theorem fieldAddrA_run {P : Program} {ρ : BMap} {s : TypeId} {x v : AV} {x' : Value} {f : Nat} (h : fieldAddrA P s x f = some v) (hx : VR ρ x x') (w : World) :
    ∃ v', (Instr.fieldAt s x' f).run P w = .ok v' w ∧ VR ρ v v' := by
  unfold fieldAddrA at h
  split at h
  · rename_i fields hu
    replace h := ob_some h; obtain ⟨fd, hf, h⟩ := h
    replace h := ob_some h; obtain ⟨n, hn, h⟩ := h
    replace h := cond_some' h; obtain ⟨hz, h⟩ := h
    split at h
    · rename_i b o
      cases h
      cases hx with
      | ptr hb =>
        rw [nth_eq] at hf
        have hf' : fields[f]? = some fd := by simpa using hf
        have hnz : n ≠ 0 := by intro e; subst e; cases hz
        refine ⟨_, ?_, .ptr hb⟩
        simp [Instr.fieldAt, run_underlying hu, hf', Instr.sureAddr, fieldPlace, size?_run hn, hnz, add_addr]
    · cases h
  · cases h

def AV.nat : AV → Option Nat
  | .int _ (.ofNat n) => some n
  | _ => none

theorem AV.nat_vr {ρ : BMap} {a : AV} {v : Value} {n : Nat} (h : a.nat = some n) (hv : VR ρ a v) : ∃ k, v = .int k (n : Int) := by
  cases hv <;> try (cases h; done)
  rename_i k m
  cases m with
  | ofNat m => cases h; exact ⟨k, rfl⟩
  | negSucc m => cases h

noncomputable def indexAddrA (t : TypeId) (x ix : AV) : Option AV :=
  ob ix.nat fun i =>
  match P.underlying t, x with
  | some (.array len elem), .ptr (some (b, o)) => cond (Nat.blt i len) (ob (size? P elem) fun n => some (.ptr (some (b, Nat.add o (Nat.mul i n))))) none
  | some (.slice elem), .slice (some (b, o)) len _ => cond (Nat.blt i len) (ob (size? P elem) fun n => some (.ptr (some (b, Nat.add o (Nat.mul i n))))) none
  | _, _ => none

omit [Sym] in
theorem blt_lt {i n : Nat} (h : Nat.blt i n = true) : i < n := Nat.blt_eq ▸ h

theorem indexAddrA_run {P : Program} {ρ : BMap} {t : TypeId} {x ix v : AV} {x' ix' : Value} (h : indexAddrA P t x ix = some v) (hx : VR ρ x x') (hi : VR ρ ix ix') (w : World) :
    ∃ v', (Instr.indexAt t x' ix').run P w = .ok v' w ∧ VR ρ v v' := by
  replace h := ob_some h; obtain ⟨i, hn, h⟩ := h
  obtain ⟨k, rfl⟩ := ix.nat_vr hn hi
  split at h
  · rename_i len elem b o hu
    replace h := cond_some h; obtain ⟨hlt, h⟩ := h
    replace h := ob_some h; obtain ⟨n, hs, h⟩ := h
    cases h
    cases hx with
    | ptr hb =>
      have := blt_lt hlt
      have h0 : (0 : Int) ≤ (i : Int) ∧ (i : Int) < (len : Int) := by omega
      refine ⟨_, ?_, .ptr hb⟩
      simp [Instr.indexAt, asIntOf, run_underlying hu, Instr.sureAddr, size?_run hs, h0, add_addr, this]
  · rename_i elem b o len cap hu
    replace h := cond_some h; obtain ⟨hlt, h⟩ := h
    replace h := ob_some h; obtain ⟨n, hs, h⟩ := h
    cases h
    cases hx with
    | slice hb hc hl =>
      have := blt_lt hlt
      have h0 : (0 : Int) ≤ (i : Int) ∧ (i : Int) < (len : Int) := by omega
      refine ⟨_, ?_, .ptr hb⟩
      simp [Instr.indexAt, asIntOf, run_underlying hu, size?_run hs, h0, add_addr, this]
  · cases h

noncomputable def indexA (t : TypeId) (x ix : AV) : Option AV :=
  ob ix.nat fun i =>
  match P.underlying t, x with
  | some (.array len elem), .agg cs => cond (Nat.blt i len) (ob (size? P elem) fun n => apart P elem cs (Nat.mul i n)) none
  | some .string, .str s => ob (s[i]?) fun b => some (.int .u8 (Int.ofNat b.toNat))
  | _, _ => none

theorem indexA_run {P : Program} {ρ : BMap} {t : TypeId} {x ix v : AV} {x' ix' : Value} (h : indexA P t x ix = some v) (hx : VR ρ x x') (hi : VR ρ ix ix') (w : World) :
    ∃ v', (Instr.index t x' ix').run P w = .ok v' w ∧ VR ρ v v' := by
  replace h := ob_some h; obtain ⟨i, hn, h⟩ := h
  obtain ⟨k, rfl⟩ := ix.nat_vr hn hi
  split at h
  · rename_i len elem cs hu
    replace h := cond_some h; obtain ⟨hlt, h⟩ := h
    replace h := ob_some h; obtain ⟨n, hs, h⟩ := h
    cases hx with
    | agg h1 g1 =>
      rename_i cs'
      have := blt_lt hlt
      have h0 : (0 : Int) ≤ (i : Int) ∧ (i : Int) < (len : Int) := by omega
      obtain ⟨v', hr, hv⟩ := apart_run h ⟨h1, g1⟩ w
      refine ⟨v', ?_, hv⟩
      have hr' : (part elem cs' (i * n)).run P w = .ok v' w := hr
      simp [Instr.index, asIntOf, run_underlying hu, size?_run hs, this, hr']
  · rename_i s hu
    replace h := ob_some h; obtain ⟨b, hb, h⟩ := h
    cases h
    cases hx
    refine ⟨_, ?_, .int _ _⟩
    simp [Instr.index, asIntOf, run_underlying hu, hb]
  · cases h

noncomputable def fieldA (t : TypeId) (x : AV) (f : Nat) : Option AV :=
  match P.underlying t, x with
  | some (.struct fields), .agg cs => ob (nth fields.toList f) fun fd => apart P fd.type cs fd.offset
  | _, _ => none

theorem fieldA_run {P : Program} {ρ : BMap} {t : TypeId} {x v : AV} {x' : Value} {f : Nat} (h : fieldA P t x f = some v) (hx : VR ρ x x') (w : World) :
    ∃ v', (Instr.field t x' f).run P w = .ok v' w ∧ VR ρ v v' := by
  unfold fieldA at h
  split at h
  · rename_i fields cs hu
    replace h := ob_some h; obtain ⟨fd, hf, h⟩ := h
    rw [nth_eq] at hf
    have hf' : fields[f]? = some fd := by simpa using hf
    cases hx with
    | agg h1 g1 =>
      obtain ⟨v', hr, hv⟩ := apart_run h ⟨h1, g1⟩ w
      exact ⟨v', by simp [Instr.field, run_underlying hu, hf', asAgg, hr], hv⟩
  · cases h

noncomputable def extractA (x : AV) (i : Nat) : Option AV :=
  match x with
  | .tuple vs => nth vs i
  | _ => none

theorem extractA_run {P : Program} {ρ : BMap} {x v : AV} {x' : Value} {i : Nat} (h : extractA x i = some v) (hx : VR ρ x x') (w : World) :
    ∃ v', (Instr.extract x' i).run P w = .ok v' w ∧ VR ρ v v' := by
  unfold extractA at h
  split at h
  · rw [nth_eq] at h
    cases hx with
    | tuple h1 g1 =>
      obtain ⟨v', e, hv⟩ := VRs.get (ρ := ρ) ⟨h1, g1⟩ h
      exact ⟨v', by simp [Instr.extract, e], hv⟩
  · cases h

noncomputable def nilCheckA (x : AV) : Option AV :=
  match x with
  | .ptr (some p) => some (.ptr (some p))
  | .func (.func f) fi ca => some (.func (.func f) fi ca)
  | _ => none

noncomputable def ifaceA (t : TypeId) (x : AV) : Option AV :=
  match P.underlying t with
  | some (.interface _) => none
  | some _ => match x with
    | .undef => none
    | x => some (.iface t x)
  | none => none

theorem ifaceA_run {P : Program} {ρ : BMap} {t : TypeId} {x v : AV} {x' : Value} (h : ifaceA P t x = some v) (hx : VR ρ x x') (w : World) :
    ∃ v', (Instr.makeInterface t x').run P w = .ok v' w ∧ VR ρ v v' := by
  unfold ifaceA at h
  split at h
  · cases h
  · rename_i d h1 hu
    refine ⟨.iface t x', ?_, ?_⟩
    · simp only [Instr.makeInterface, Sem.run_bind, run_underlying hu, Result.andThen_ok]
      cases d <;> first | rfl | exact absurd rfl (h1 _)
    · split at h
      · cases h
      · cases h; exact .iface hx
  · cases h

noncomputable def zeroA (t : TypeId) : Option AV := ob (P.info? t) fun i => ob i.zero cv

theorem zeroA_run {P : Program} {t : TypeId} {v : AV} (h : zeroA P t = some v) (ρ : BMap) (w : World) : ∃ v', (zeroValue t).run P w = .ok v' w ∧ VR ρ v v' := by
  replace h := ob_some h; obtain ⟨i, hi, h⟩ := h
  replace h := ob_some h; obtain ⟨z, hz, h⟩ := h
  exact ⟨z, by simp [zeroValue, typeInfo, hi, hz], cv_vr ρ h⟩

noncomputable def concrete? (t : TypeId) : Bool :=
  match P.underlying t with
  | some (.interface _) => false
  | some _ => true
  | none => false

noncomputable def assertA (x : AV) (t : TypeId) (ok : Bool) : Option AV :=
  cond (concrete? P t)
    (match x with
     | .iface u v => cond (Nat.beq u t) (some (cond ok (.tuple [v, .bool true]) v)) (cond ok (ob (zeroA P t) fun z => some (.tuple [z, .bool false])) none)
     | .nilIface => cond ok (ob (zeroA P t) fun z => some (.tuple [z, .bool false])) none
     | _ => none) none

theorem pair_vr {ρ : BMap} {a b : AV} {a' b' : Value} (h : VR ρ a a') (k : VR ρ b b') : VR ρ (.tuple [a, b]) (.tuple #[a', b']) := by
  have := ((VRs.nil ρ).push h).push k
  exact .tuple this.1 this.2

theorem assertA_run {P : Program} {ρ : BMap} {x v : AV} {x' : Value} {xt t : TypeId} {ok : Bool} (h : assertA P x t ok = some v) (hx : VR ρ x x') (w : World) :
    ∃ v', (Instr.typeAssert x' xt t ok).run P w = .ok v' w ∧ VR ρ v v' := by
  replace h := cond_some h; obtain ⟨hc, h⟩ := h
  have hun : ∃ d, P.underlying t = some d ∧ ∀ ms, d ≠ .interface ms := by
    unfold concrete? at hc
    split at hc
    · cases hc
    · rename_i d h1 hu; exact ⟨d, hu, fun ms e => h1 ms e⟩
    · cases hc
  obtain ⟨d, hu, hd⟩ := hun
  split at h
  · rename_i u y
    cases hx with
    | iface hy =>
      rename_i y'
      by_cases e : u = t
      · subst e
        rw [beq_yes rfl] at h
        cases ok with
        | true =>
          cases h
          refine ⟨.tuple #[y', .bool true], ?_, pair_vr hy (.bool _)⟩
          simp only [Instr.typeAssert, Sem.run_bind, run_underlying hu, Result.andThen_ok]
          cases d <;> first | simp | exact absurd rfl (hd _)
        | false =>
          cases h
          refine ⟨y', ?_, hy⟩
          simp only [Instr.typeAssert, Sem.run_bind, run_underlying hu, Result.andThen_ok]
          cases d <;> first | simp | exact absurd rfl (hd _)
      · rw [beq_no e] at h
        cases ok with
        | true =>
          replace h := ob_some (show ob (zeroA P t) _ = _ from h); obtain ⟨z, hz, h⟩ := h
          cases h
          obtain ⟨z', hr, hz'⟩ := zeroA_run hz ρ w
          refine ⟨.tuple #[z', .bool false], ?_, pair_vr hz' (.bool _)⟩
          simp only [Instr.typeAssert, Sem.run_bind, run_underlying hu, Result.andThen_ok]
          cases d <;> first | simp [e, hr] | exact absurd rfl (hd _)
        | false => cases h
  · cases ok with
    | true =>
      replace h := ob_some (show ob (zeroA P t) _ = _ from h); obtain ⟨z, hz, h⟩ := h
      cases h
      cases hx
      obtain ⟨z', hr, hz'⟩ := zeroA_run hz ρ w
      refine ⟨.tuple #[z', .bool false], ?_, pair_vr hz' (.bool _)⟩
      simp only [Instr.typeAssert, Sem.run_bind, run_underlying hu, Result.andThen_ok]
      cases d <;> first | simp [hr] | exact absurd rfl (hd _)
    | false => cases h
  · cases h

noncomputable def convertA (src dst : TypeId) (x : AV) : Option AV :=
  match P.underlying src, P.underlying dst, x with
  | some (.int _), some (.int k), .int _ n => some (.int k (k.wrap n))
  | some .string, some .string, .str s => some (.str s)
  | some (.int _), some (.int .i64), .res _ m r => some (.res .i64 m r)
  | some (.int _), some (.int .i64), .symk _ m => some (.sym 0 m)
  | _, _, _ => none

theorem convertA_run {P : Program} {ρ : BMap} {src dst : TypeId} {x v : AV} {x' : Value} (h : convertA P src dst x = some v) (hx : VR ρ x x') (w : World) :
    ∃ v', (convert src dst x').run P w = .ok v' w ∧ VR ρ v v' := by
  unfold convertA at h
  split at h
  · rename_i hs hd
    cases h; cases hx
    exact ⟨_, by simp [convert, run_underlying hs, run_underlying hd, Conv.intToInt], .int _ _⟩
  · rename_i hs hd
    cases h; cases hx
    exact ⟨_, by simp [convert, run_underlying hs, run_underlying hd], .str _⟩
  · rename_i hs hd
    cases h
    cases hx with
    | res h0 h1 h2 =>
      rename_i n
      have e : IntKind.i64.wrap n = n := by rw [IntKind.wrap_i64]; omega
      exact ⟨.int .i64 n, by simp [convert, run_underlying hs, run_underlying hd, Conv.intToInt, e], .res h0 h1 h2⟩
  · rename_i hs hd
    cases h
    cases hx with
    | symk h1 h2 =>
      have e : IntKind.i64.wrap Sym.val = Sym.val := by rw [IntKind.wrap_i64]; omega
      have q : VR ρ (.sym 0 _) (.int .i64 (Sym.val + 0)) := .sym (ρ := ρ) (d := 0) (by simpa using h1) (by omega)
      exact ⟨.int .i64 (Sym.val + 0), by simp [convert, run_underlying hs, run_underlying hd, Conv.intToInt, e], q⟩
  · cases h

end Go.Proofs.Bx

namespace Go.Proofs.Bx
open Go
variable [Sym]
variable (P : Program)

noncomputable def boundA (x : AV) (y : Nat) : Option Nat := ob x.nat fun n => cond (Nat.ble n y) (some n) none

theorem boundA_run {P : Program} {ρ : BMap} {x : AV} {x' : Value} {y n : Nat} (h : boundA x y = some n) (hx : VR ρ x x') (w : World) (y' : Nat) (hy : y ≤ y') (code : BoundsCode) :
    (Instr.sliceBound x' y' code).run P w = .ok n w ∧ n ≤ y := by
  replace h := ob_some h; obtain ⟨m, hm, h⟩ := h
  replace h := cond_some h; obtain ⟨hle, h⟩ := h
  cases h
  obtain ⟨k, rfl⟩ := x.nat_vr hm hx
  have hle' : n ≤ y := Nat.le_of_ble_eq_true hle
  refine ⟨?_, hle'⟩
  rw [run_sliceBound (P := P) w k (n : Int) y' code (by omega) (by omega)]
  simp

noncomputable def cutA (b o : Nat) (sz l h : Nat) (mc : Cap) : Option AV :=
  cond (Nat.beq l 0) (some (.slice (some (b, o)) h mc))
    (match mc with
     | .exact m => cond (Nat.beq m l) (some (.slice (some (b, o)) (Nat.sub h l) (.exact 0))) (some (.slice (some (b, Nat.add o (Nat.mul l sz))) (Nat.sub h l) (.exact (Nat.sub m l))))
     | .atLeast m bt k => cond (Nat.blt l m) (cond (Nat.beq k sz) (some (.slice (some (b, Nat.add o (Nat.mul l sz))) (Nat.sub h l) (.atLeast (Nat.sub m l) bt k))) none) (cond (Nat.beq h l) (some .empty) none))

theorem cutA_vr {ρ : BMap} {b o r z sz l h m : Nat} {mc : Cap} {v : AV} (hv : cutA b o sz l h mc = some v) (hb : ρ b = some (r, z)) (hm : mc.ok o z m) (hlh : l ≤ h) (hhm : h ≤ m) :
    VR ρ v (.slice (some (if m = l then (⟨r, o, none⟩ : Addr) else (⟨r, o, none⟩ : Addr).add (l * sz))) (h - l) (m - l)) := by
  unfold cutA at hv
  by_cases hl : l = 0
  · subst hl
    cases hv
    have e : (if m = 0 then (⟨r, o, none⟩ : Addr) else (⟨r, o, none⟩ : Addr).add (0 * sz)) = ⟨r, o, none⟩ := by split <;> simp [Addr.add]
    rw [e]
    exact .slice hb hm hhm
  · rw [beq_no hl] at hv
    cases mc with
    | exact n =>
      cases hm
      by_cases hml : m = l
      · subst hml
        rw [if_pos rfl]
        have hv' : cond (Nat.beq m m) (some (AV.slice (some (b, o)) (Nat.sub h m) (.exact 0))) _ = some v := hv
        rw [beq_yes rfl] at hv'
        cases hv'
        exact .slice hb (by show m - m = 0; omega) (by show h - m ≤ m - m; omega)
      · rw [if_neg hml, add_addr]
        have hv' : cond (Nat.beq m l) _ (some (AV.slice (some (b, Nat.add o (Nat.mul l sz))) (Nat.sub h l) (.exact (Nat.sub m l)))) = some v := hv
        rw [beq_no hml] at hv'
        cases hv'
        exact .slice hb rfl (by show h - l ≤ m - l; omega)
    | atLeast n bt k =>
      have hv : cond (Nat.blt l n) (cond (Nat.beq k sz) (some (AV.slice (some (b, Nat.add o (Nat.mul l sz))) (Nat.sub h l) (.atLeast (Nat.sub n l) bt k))) none) (cond (Nat.beq h l) (some AV.empty) none) = some v := hv
      cases hb' : Nat.blt l n with
      | false =>
        rw [hb'] at hv
        replace hv := cond_some (show cond (Nat.beq h l) (some AV.empty) none = some v from hv)
        obtain ⟨he, hv⟩ := hv
        cases hv
        have he := Nat.eq_of_beq_eq_true he
        subst he
        rw [Nat.sub_self]
        exact .empty
      | true =>
        rw [hb'] at hv
        have hlt := hb'
        replace hv := cond_some (show cond (Nat.beq k sz) _ none = some v from hv)
        obtain ⟨hk, hv⟩ := hv
        cases hv
        have hk := Nat.eq_of_beq_eq_true hk
        subst hk
        have := blt_lt hlt
        obtain ⟨h1, h3⟩ := hm
        rw [if_neg (by omega), add_addr]
        refine .slice hb ⟨by show n - l ≤ m - l; omega, ?_⟩ (by show h - l ≤ m - l; omega)
        have e : l * k + (m - l) * k = m * k := by rw [← Nat.add_mul]; congr 1; omega
        show o + l * k + (m - l) * k ≤ z
        omega

noncomputable def boundsA (len : Nat) (cap : Cap) (lo hi mx : Option AV) : Option (Nat × Nat × Cap) :=
  ob (match mx with
    | none => some cap
    | some v => ob (boundA v cap.low) fun m => some (.exact m)) fun mc =>
  ob (match hi with
    | none => (match mx with
      | none => some len
      | some _ => none)
    | some v => boundA v mc.low) fun h =>
  ob (match lo with
    | none => some 0
    | some v => boundA v h) fun l => some (l, h, mc)

def OR (ρ : BMap) : Option AV → Option Value → Prop
  | none, none => True
  | some a, some v => VR ρ a v
  | _, _ => False

theorem boundsA_run {P : Program} {ρ : BMap} {o z len c : Nat} {cap : Cap} {lo hi mx : Option AV} {lo' hi' mx' : Option Value} {l h : Nat} {mc : Cap} (hv : boundsA len cap lo hi mx = some (l, h, mc))
    (hlo : OR ρ lo lo') (hhi : OR ρ hi hi') (hmx : OR ρ mx mx') (hc : cap.ok o z c) (hl : len ≤ c) (isS : Bool) (w : World) :
    ∃ m, (Instr.sliceBounds isS len c lo' hi' mx').run P w = .ok (l, h, m) w ∧ mc.ok o z m ∧ l ≤ h ∧ h ≤ m ∧ m ≤ c := by
  replace hv := ob_some hv; obtain ⟨mc', hmc, hv⟩ := hv
  replace hv := ob_some hv; obtain ⟨h', hh, hv⟩ := hv
  replace hv := ob_some hv; obtain ⟨l', hll, hv⟩ := hv
  cases hv
  have L : (lo = none ∧ lo' = none ∧ l = 0) ∨ ∃ a v, lo = some a ∧ lo' = some v ∧ ∀ code, (Instr.sliceBound v h code).run P w = .ok l w ∧ l ≤ h := by
    cases lo with
    | none =>
      cases lo' with
      | some v => exact hlo.elim
      | none => cases hll; exact .inl ⟨rfl, rfl, rfl⟩
    | some a =>
      cases lo' with
      | none => exact hlo.elim
      | some v => exact .inr ⟨a, v, rfl, rfl, fun code => boundA_run (P := P) hll hlo w h (Nat.le_refl _) code⟩
  have hlh : l ≤ h := by
    rcases L with ⟨_, _, e⟩ | ⟨a, v, _, _, g⟩
    · omega
    · exact (g .sliceB).2
  cases mx with
  | none =>
    cases mx' with
    | some v => exact hmx.elim
    | none =>
      cases hmc
      cases hi with
      | none =>
        cases hi' with
        | some v => exact hhi.elim
        | none =>
          cases hh
          refine ⟨c, ?_, hc, hlh, hl, Nat.le_refl _⟩
          rcases L with ⟨rfl, rfl, rfl⟩ | ⟨a, v, rfl, rfl, g⟩
          · simp [Instr.sliceBounds]
          · simp [Instr.sliceBounds, (g _).1]
      | some a =>
        cases hi' with
        | none => exact hhi.elim
        | some v =>
          have G := fun code => boundA_run (P := P) hh hhi w c (Cap.ok_low hc) code
          refine ⟨c, ?_, hc, hlh, Nat.le_trans (G .sliceB).2 (Cap.ok_low hc), Nat.le_refl _⟩
          rcases L with ⟨rfl, rfl, rfl⟩ | ⟨a, v, rfl, rfl, g⟩
          · simp [Instr.sliceBounds, (G _).1]
          · simp [Instr.sliceBounds, (G _).1, (g _).1]
  | some b =>
    cases mx' with
    | none => exact hmx.elim
    | some u =>
      replace hmc := ob_some (show ob (boundA b cap.low) _ = _ from hmc)
      obtain ⟨m, hm, hmc⟩ := hmc
      cases hmc
      have M := fun code => boundA_run (P := P) hm hmx w c (Cap.ok_low hc) code
      cases hi with
      | none => cases hh
      | some a =>
        cases hi' with
        | none => exact hhi.elim
        | some v =>
          have G := fun code => boundA_run (P := P) hh hhi w m (Nat.le_refl _) code
          refine ⟨m, ?_, rfl, hlh, (G .sliceB).2, Nat.le_trans (M .sliceB).2 (Cap.ok_low hc)⟩
          rcases L with ⟨rfl, rfl, rfl⟩ | ⟨a, v, rfl, rfl, g⟩
          · simp [Instr.sliceBounds, (G _).1, (M _).1]
          · simp [Instr.sliceBounds, (G _).1, (g _).1, (M _).1]

noncomputable def sliceA (t : TypeId) (x : AV) (lo hi mx : Option AV) : Option AV :=
  match P.underlying t, x with
  | some (.slice elem), .slice (some (b, o)) len cap => ob (size? P elem) fun sz => ob (boundsA len cap lo hi mx) fun r => cutA b o sz r.1 r.2.1 r.2.2
  | some (.slice elem), .slice none _ _ => ob (size? P elem) fun _ => ob (boundsA 0 (.exact 0) lo hi mx) fun r => cond (Nat.beq r.2.1 0) (some (.slice none 0 (.exact 0))) none
  | some (.array n elem), .ptr (some (b, o)) => ob (size? P elem) fun sz => ob (boundsA n (.exact n) lo hi mx) fun r => cutA b o sz r.1 r.2.1 r.2.2
  | some .string, .str s => match mx with
    | none => ob (boundsA s.size (.exact s.size) lo hi none) fun r => some (.str (s.extract r.1 r.2.1))
    | some _ => none
  | _, _ => none

theorem sliceA_run {P : Program} {ρ : BMap} {t : TypeId} {x v : AV} {x' : Value} {lo hi mx : Option AV} {lo' hi' mx' : Option Value} (h : sliceA P t x lo hi mx = some v)
    (hx : VR ρ x x') (hlo : OR ρ lo lo') (hhi : OR ρ hi hi') (hmx : OR ρ mx mx') (w : World) : ∃ v', (Instr.sliceAt t x' lo' hi' mx').run P w = .ok v' w ∧ VR ρ v v' := by
  unfold sliceA at h
  split at h
  · rename_i elem b o len cap hu
    replace h := ob_some h; obtain ⟨sz, hs, h⟩ := h
    replace h := ob_some h; obtain ⟨⟨l, hh, mc⟩, hb, h⟩ := h
    cases hx with
    | slice hr hc hl =>
      obtain ⟨m, h1, h2, h3, h4, h5⟩ := boundsA_run (P := P) hb hlo hhi hmx hc hl true w
      refine ⟨_, ?_, cutA_vr h hr h2 h3 h4⟩
      simp only [Instr.sliceAt, Instr.slice, Sem.run_bind, run_underlying hu, Result.andThen_ok, h1, size?_run hs, Sem.run_pure]
      split <;> rfl
  · rename_i elem len cap hu
    replace h := ob_some h; obtain ⟨sz, hs, h⟩ := h
    replace h := ob_some h; obtain ⟨⟨l, hh, mc⟩, hb, h⟩ := h
    replace h := cond_some h; obtain ⟨h0, h⟩ := h
    cases h
    cases hx with
    | sliceNil =>
      obtain ⟨m, h1, h2, h3, h4, h5⟩ := boundsA_run (P := P) (o := 0) (z := 0) (c := 0) hb hlo hhi hmx rfl (Nat.le_refl _) true w
      have e : hh = 0 := Nat.eq_of_beq_eq_true h0
      subst e
      have e : l = 0 := by omega
      subst e
      refine ⟨.slice none 0 0, ?_, .sliceNil⟩
      have hm : m = 0 := by omega
      subst hm
      simp [Instr.sliceAt, Instr.slice, run_underlying hu, h1, size?_run hs]
  · rename_i n elem b o hu
    replace h := ob_some h; obtain ⟨sz, hs, h⟩ := h
    replace h := ob_some h; obtain ⟨⟨l, hh, mc⟩, hb, h⟩ := h
    cases hx with
    | ptr hr =>
      obtain ⟨m, h1, h2, h3, h4, h5⟩ := boundsA_run (P := P) (o := o) (z := _) (c := n) hb hlo hhi hmx rfl (Nat.le_refl _) false w
      refine ⟨_, ?_, cutA_vr h hr h2 h3 h4⟩
      simp only [Instr.sliceAt, Instr.sureAddr, Sem.run_bind, run_underlying hu, Result.andThen_ok, h1, size?_run hs, Sem.run_pure]
  · rename_i s hu
    split at h
    · replace h := ob_some h; obtain ⟨⟨l, hh, mc⟩, hb, h⟩ := h
      cases h
      cases hx
      cases mx' with
      | some u => exact hmx.elim
      | none =>
        obtain ⟨m, h1, h2, h3, h4, h5⟩ := boundsA_run (P := P) (o := 0) (z := 0) (mx := none) (mx' := none) (c := s.size) hb hlo hhi trivial rfl (Nat.le_refl _) false w
        refine ⟨_, ?_, .str _⟩
        simp [Instr.sliceAt, Instr.slice, run_underlying hu, h1]
    · cases h
  · cases h


noncomputable def lput (l : List AV) (off : Nat) (new : List AV) : Option (List AV) :=
  ob (ltake l off) fun pre => ob (ltake (ldrop l off) (llen new)) fun _ => some (lapp pre (lapp new (ldrop l (Nat.add off (llen new)))))

omit [Sym] in
theorem foldl_put (new : List Value) : ∀ (k off : Nat) (cells : Array Value) (j : Nat),
    ((new.zipIdx k).foldl (fun cs (p : Value × Nat) => cs.setIfInBounds (off + p.2) p.1) cells)[j]? =
      if off + k ≤ j ∧ j < off + k + new.length ∧ j < cells.size then new[j - (off + k)]? else cells[j]? := by
  induction new with
  | nil => intro k off cells j; simp; omega
  | cons x new ih =>
    intro k off cells j
    simp only [List.zipIdx_cons, List.foldl_cons, ih, Array.size_setIfInBounds, List.length_cons]
    by_cases h1 : j = off + k
    · subst h1
      rw [if_neg (by omega)]
      by_cases h2 : off + k < cells.size
      · rw [if_pos (by omega)]
        simp [h2]
      · rw [if_neg (by omega)]
        rw [Array.getElem?_eq_none (by simp; omega), Array.getElem?_eq_none (by omega)]
    · by_cases h2 : off + k ≤ j ∧ j < off + k + (new.length + 1) ∧ j < cells.size
      · rw [if_pos (by omega), if_pos h2, show j - (off + k) = j - (off + (k + 1)) + 1 by omega]
        simp
      · rw [if_neg (by omega), if_neg h2, Array.getElem?_setIfInBounds_ne (by omega)]

omit [Sym] in
theorem foldl_put_size (new : List Value) : ∀ (k off : Nat) (cells : Array Value),
    ((new.zipIdx k).foldl (fun cs (p : Value × Nat) => cs.setIfInBounds (off + p.2) p.1) cells).size = cells.size := by
  induction new with
  | nil => intro k off cells; rfl
  | cons x new ih => intro k off cells; simp only [List.zipIdx_cons, List.foldl_cons, ih, Array.size_setIfInBounds]

theorem lput_vr {ρ : BMap} {l new r : List AV} {off : Nat} {a b : Array Value} (h : lput l off new = some r) (hl : VRs ρ l a) (hn : VRs ρ new b) :
    off + b.size ≤ a.size ∧ VRs ρ r (b.zipIdx.foldl (fun cs (p : Value × Nat) => cs.setIfInBounds (off + p.2) p.1) a) := by
  replace h := ob_some h; obtain ⟨pre, hp, h⟩ := h
  replace h := ob_some h; obtain ⟨q, hq, h⟩ := h
  cases h
  obtain ⟨p1, p2⟩ := ltake_eq _ _ _ hp
  rw [ldrop_eq] at hq
  obtain ⟨q1, q2⟩ := ltake_eq _ _ _ hq
  rw [llen_eq] at q1 q2
  have q3 := congrArg List.length q1
  rw [q2, List.length_take, List.length_drop] at q3
  have p3 := congrArg List.length p1
  rw [p2, List.length_take] at p3
  have hlen := hl.1
  have hnl := hn.1
  have hfit : off + b.size ≤ a.size := by
    by_cases hb : b.size = 0
    · omega
    · omega
  refine ⟨hfit, ?_⟩
  have hfold : b.zipIdx.foldl (fun cs (p : Value × Nat) => cs.setIfInBounds (off + p.2) p.1) a = (b.toList.zipIdx 0).foldl (fun cs (p : Value × Nat) => cs.setIfInBounds (off + p.2) p.1) a := by
    rw [← Array.foldl_toList]
    simp
  rw [hfold]
  simp only [lapp_eq, ldrop_eq, llen_eq]
  refine ⟨?_, fun i v v' e e' => ?_⟩
  · rw [foldl_put_size]
    simp only [List.length_append, List.length_drop, p2]
    show off + (new.length + (l.length - (off + new.length))) = a.size
    omega
  · rw [foldl_put] at e'
    simp only [Nat.add_zero, Array.length_toList] at e'
    by_cases h1 : i < off
    · rw [if_neg (by omega)] at e'
      rw [List.getElem?_append_left (by omega), p1, List.getElem?_take, if_pos h1] at e
      exact hl.2 _ _ _ e e'
    · rw [List.getElem?_append_right (by omega), p2] at e
      by_cases h2 : i < off + b.size
      · rw [if_pos (by omega)] at e'
        rw [List.getElem?_append_left (by omega)] at e
        exact hn.2 _ _ _ e (by simpa using e')
      · rw [if_neg (by omega)] at e'
        rw [List.getElem?_append_right (by omega), List.getElem?_drop] at e
        refine hl.2 i v v' ?_ e'
        rw [← e]
        congr 1
        show i = off + new.length + (i - off - new.length)
        omega

noncomputable def fillA (place : Nat → Option (Nat × Nat)) (parts : List (Nat × AV)) : List AV → Option (List AV) :=
  List.rec (motive := fun _ => List AV → Option (List AV)) (fun cells => some cells)
    (fun p _ ih cells => ob (place p.1) fun pl => ob p.2.cells fun new => cond (Nat.beq (llen new) pl.2) (ob (lput cells pl.1 new) ih) none) parts

theorem fillA_run {ρ : BMap} {place : Nat → Option (Nat × Nat)} : ∀ {parts : List (Nat × AV)} {parts' : List (Nat × Value)} {cells r : List AV} {cells' : Array Value},
    fillA place parts cells = some r → parts.length = parts'.length → (∀ (i : Nat) (p : Nat × AV) (q : Nat × Value), parts[i]? = some p → parts'[i]? = some q → p.1 = q.1 ∧ VR ρ p.2 q.2) → VRs ρ cells cells' →
    ∃ r', Instr.fill place cells' parts' = some r' ∧ VRs ρ r r' := by
  intro parts
  induction parts with
  | nil =>
    intro parts' cells r cells' h hl _ hc
    cases parts' with
    | nil => cases h; exact ⟨cells', rfl, hc⟩
    | cons q parts' => simp at hl
  | cons p parts ih =>
    intro parts' cells r cells' h hl hp hc
    cases parts' with
    | nil => simp at hl
    | cons q parts' =>
      obtain ⟨qi, qv⟩ := q
      obtain ⟨e1, e2⟩ := hp 0 p (qi, qv) (by simp) (by simp)
      dsimp only at e1 e2
      replace h := ob_some (show ob (place p.1) _ = _ from h); obtain ⟨pl, hpl, h⟩ := h
      replace h := ob_some h; obtain ⟨new, hnew, h⟩ := h
      replace h := cond_some h; obtain ⟨hsz, h⟩ := h
      replace h := ob_some h; obtain ⟨cells2, hput, h⟩ := h
      have hn := AV.cells_vr e2 hnew
      have hsz' := Nat.eq_of_beq_eq_true hsz
      rw [llen_eq, hn.1] at hsz'
      obtain ⟨hfit, hc2⟩ := lput_vr hput hc hn
      obtain ⟨r', hr, hv⟩ := ih (parts' := parts') h (by simpa using hl) (fun i p q a b => hp (i + 1) p q (by simpa using a) (by simpa using b)) hc2
      refine ⟨r', ?_, hv⟩
      rw [e1] at hpl
      obtain ⟨off, size⟩ := pl
      simp only at hsz' hfit hr
      simp only [Instr.fill, hpl]
      rw [if_neg (by simp; omega)]
      exact hr

noncomputable def placesA (fields : List Field) : Option (List (Nat × Nat)) := lmapO (fun f => ob (size? P f.type) fun n => some (f.offset, n)) fields

omit [Sym] in
theorem placesA_run {P : Program} {fields : Array Field} {l : List (Nat × Nat)} (h : placesA P fields.toList = some l) (w : World) :
    (fields.mapM fun f => do pure (f.offset, ← sizeOf f.type) : Sem (Array (Nat × Nat))).run P w = .ok l.toArray w := by
  have key : ∀ (fs : List Field) (l : List (Nat × Nat)), placesA P fs = some l →
      (fs.mapM fun f => do pure (f.offset, ← sizeOf f.type) : Sem (List (Nat × Nat))).run P w = .ok l w := by
    intro fs
    induction fs with
    | nil => intro l h; cases h; rfl
    | cons f fs ih =>
      intro l h
      obtain ⟨b, q, hb, hq, rfl⟩ := lmapO_cons h
      replace hb := ob_some hb; obtain ⟨n, hn, hb⟩ := hb
      cases hb
      simp only [List.mapM_cons, Sem.run_bind, size?_run hn, Result.andThen_ok, Sem.run_pure, ih q hq]
  rw [Array.mapM_eq_mapM_toList]
  simp only [Sem.run_map, key _ _ h, Result.andThen_ok]

noncomputable def buildA (t : TypeId) (parts : List (Nat × AV)) : Option AV :=
  ob (zeroA P t) fun z => ob z.cells fun zero =>
  match P.underlying t with
  | some (.struct fields) => ob (placesA P fields.toList) fun pl => ob (fillA (nth pl) parts zero) fun r => some (.agg r)
  | some (.array _ elem) => ob (size? P elem) fun n => ob (fillA (fun i => some (Nat.mul i n, n)) parts zero) fun r => some (.agg r)
  | _ => none

def PR (ρ : BMap) (parts : List (Nat × AV)) (parts' : Array (Nat × Value)) : Prop :=
  parts.length = parts'.toList.length ∧ ∀ (i : Nat) (p : Nat × AV) (q : Nat × Value), parts[i]? = some p → parts'.toList[i]? = some q → p.1 = q.1 ∧ VR ρ p.2 q.2

theorem buildA_run {P : Program} {ρ : BMap} {t : TypeId} {parts : List (Nat × AV)} {parts' : Array (Nat × Value)} {v : AV} (h : buildA P t parts = some v) (hp : PR ρ parts parts') (w : World) :
    ∃ v', (Instr.build t parts').run P w = .ok v' w ∧ VR ρ v v' := by
  replace h := ob_some h; obtain ⟨z, hz, h⟩ := h
  replace h := ob_some h; obtain ⟨zero, hzc, h⟩ := h
  obtain ⟨z', hzr, hzv⟩ := zeroA_run hz ρ w
  have hc := AV.cells_vr hzv hzc
  split at h
  · rename_i fields hu
    replace h := ob_some h; obtain ⟨pl, hpl, h⟩ := h
    replace h := ob_some h; obtain ⟨r, hr, h⟩ := h
    cases h
    obtain ⟨r', hf, hv⟩ := fillA_run hr hp.1 hp.2 hc
    have hf' : Instr.fill (fun i => pl.toArray[i]?) z'.cells parts'.toList = some r' := by
      rw [← hf]; congr 1; funext i; simp [nth_eq]
    refine ⟨.agg r', ?_, .agg hv.1 hv.2⟩
    simp only [Instr.build, Sem.run_bind, hzr, Result.andThen_ok, run_underlying hu, placesA_run hpl, hf', Sem.run_pure]
  · rename_i n elem hu
    replace h := ob_some h; obtain ⟨sz, hs, h⟩ := h
    replace h := ob_some h; obtain ⟨r, hr, h⟩ := h
    cases h
    obtain ⟨r', hf, hv⟩ := fillA_run hr hp.1 hp.2 hc
    have hf' : Instr.fill (fun i => some (i * sz, sz)) z'.cells parts'.toList = some r' := hf
    refine ⟨.agg r', ?_, .agg hv.1 hv.2⟩
    simp only [Instr.build, Sem.run_bind, hzr, Result.andThen_ok, run_underlying hu, size?_run hs, hf', Sem.run_pure]
  · cases h

noncomputable def lrep (z : List AV) (n : Nat) : List AV := Nat.rec (motive := fun _ => List AV) [] (fun _ ih => lapp z ih) n

omit [Sym] in
theorem lrep_len (z : List AV) : ∀ n, (lrep z n).length = n * z.length
  | 0 => by show ([] : List AV).length = _; simp
  | n + 1 => by show (lapp z (lrep z n)).length = _; rw [lapp_eq, List.length_append, lrep_len z n, Nat.succ_mul]; omega

omit [Sym] in
theorem lrep_get (z : List AV) : ∀ (n i : Nat) (v : AV), (lrep z n)[i]? = some v → z[i % z.length]? = some v
  | 0, i, v, h => by have h' : ([] : List AV)[i]? = some v := h; simp at h'
  | n + 1, i, v, h => by
    have h' : (lapp z (lrep z n))[i]? = some v := h
    rw [lapp_eq, List.getElem?_append] at h'
    split at h'
    · rename_i hi; rw [Nat.mod_eq_of_lt hi]; exact h'
    · rename_i hi
      have := lrep_get z n _ v h'
      rw [Nat.mod_eq_sub_mod (by omega)]
      exact this

theorem zeros_vr {ρ : BMap} {z : List AV} {a : Array Value} (h : VRs ρ z a) (n : Nat) : VRs ρ (lrep z n) ((Array.range (n * a.size)).map (a[· % a.size]!)) := by
  refine ⟨by rw [lrep_len, h.1]; simp, fun i v v' e e' => ?_⟩
  have h1 := lrep_get z n i v e
  rw [h.1] at h1
  have hlt : i % a.size < a.size := by rw [← h.1]; rw [← h.1] at h1; exact (List.getElem?_eq_some_iff.1 h1).1
  refine h.2 _ _ _ h1 ?_
  simp only [Array.getElem?_map, Array.getElem?_range] at e'
  split at e'
  · simp only [Option.map_some, Option.some.injEq] at e'
    rw [← e']
    simp [hlt]
  · simp at e'

noncomputable def rowA (elem : TypeId) (len : Nat) (parts : List (Nat × AV)) : Option (List AV) :=
  ob (size? P elem) fun n => cond (Nat.ble (Nat.mul len n) 16777216)
    (ob (cond (Nat.beq (Nat.mul len n) 0) (some []) (ob (zeroA P elem) fun z => ob z.cells fun zero => cond (Nat.beq (llen zero) n) (some (lrep zero len)) none)) fun zs =>
      fillA (fun i => some (Nat.mul i n, n)) parts zs) none

end Go.Proofs.Bx

namespace Go.Proofs.Bx
open Go
variable [Sym]
variable (P : Program)


theorem HR.cells {ρ : BMap} {s : St} {w : World} (h : HR ρ s w) {b r z : Nat} {cs : List AV} {rw : Bool} {ty : Option TypeId} (hs : s.get b = some (.cells cs rw ty)) (hb : ρ b = some (r, z)) :
    ∃ arr elem fz, w.heap[r]? = some (.cells arr elem fz) ∧ arr.size = z ∧ cs.length ≤ arr.size ∧ (∀ (i : Nat) (v : AV) (v' : Value), cs[i]? = some v → arr[i]? = some v' → VR ρ v v') ∧ (rw = true → fz = (0, 0)) ∧ (∀ t, ty = some t → elem = t) := by
  obtain ⟨r', z', o, e, ho, hr⟩ := h.blk b _ hs (by simp)
  rw [hb] at e
  cases e
  cases o <;> simp only [BR] at hr
  exact ⟨_, _, _, ho, hr⟩

theorem HR.map {ρ : BMap} {s : St} {w : World} (h : HR ρ s w) {b r z : Nat} {es : List (AV × AV × Nat)} {ck : Nat} (hs : s.get b = some (.map es ck)) (hb : ρ b = some (r, z)) :
    ∃ es', w.heap[r]? = some (.map es' ck) ∧ es.length = es'.size ∧ (∀ (i : Nat) (x : AV × AV × Nat) (e : MapEntry), es[i]? = some x → es'[i]? = some e → ER ρ x e) := by
  obtain ⟨r', z', o, e, ho, hr⟩ := h.blk b _ hs (by simp)
  rw [hb] at e
  cases e
  cases o <;> simp only [BR] at hr
  obtain ⟨h1, h2, rfl⟩ := hr
  exact ⟨_, ho, h1, h2⟩

theorem HR.mapR {ρ : BMap} {s : St} {w : World} (h : HR ρ s w) {b r z : Nat} {es : List (AV × AV × Nat)} {ck : Nat} (hs : s.get b = some (.mapR es ck)) (hb : ρ b = some (r, z)) :
    ∃ es', w.heap[r]? = some (.map es' ck) ∧ es.length = es'.size ∧ (∀ (i : Nat) (x : AV × AV × Nat) (e : MapEntry), es[i]? = some x → es'[i]? = some e → ER ρ x e) := by
  obtain ⟨r', z', o, e, ho, hr⟩ := h.blk b _ hs (by simp)
  rw [hb] at e
  cases e
  cases o <;> simp only [BR] at hr
  obtain ⟨h1, h2, rfl⟩ := hr
  exact ⟨_, ho, h1, h2⟩

noncomputable def cellsAt (s : St) (b o n : Nat) : Option (List AV) :=
  match s.get b with
  | some (.cells cs _ _) => ltake (ldrop cs o) n
  | _ => none

theorem cellsAt_run {ρ : BMap} {s : St} {w : World} (h : HR ρ s w) {b r z o n : Nat} {l : List AV} (hc : cellsAt s b o n = some l) (hb : ρ b = some (r, z)) :
    ∃ vs : List Value, vs.length = n ∧ (∀ (j : Nat) (v : Value), vs[j]? = some v → w.cell? ((⟨r, o, none⟩ : Addr).add j) = some v) ∧ VRs ρ l vs.toArray := by
  unfold cellsAt at hc
  split at hc
  · rename_i cs rw ty hs
    obtain ⟨arr, elem, fz, ho, hz, hlen, hv, _⟩ := h.cells hs hb
    rw [ldrop_eq] at hc
    obtain ⟨h1, h2⟩ := ltake_eq _ _ _ hc
    have h3 := congrArg List.length h1
    rw [h2, List.length_take, List.length_drop] at h3
    refine ⟨(arr.toList.drop o).take n, ?_, fun j v e => ?_, ?_, fun i v v' e e' => ?_⟩
    · rw [List.length_take, List.length_drop, Array.length_toList]; omega
    · rw [List.getElem?_take] at e
      split at e
      · rw [List.getElem?_drop] at e
        rw [add_addr]
        simp only [World.cell?, ho]
        simpa using e
      · cases e
    · simp [h2]; omega
    · have hi : i < n := by rw [← h2]; exact (List.getElem?_eq_some_iff.1 e).1
      rw [h1, List.getElem?_take, if_pos hi, List.getElem?_drop] at e
      simp only [List.getElem?_toArray, List.getElem?_take, hi, if_true, List.getElem?_drop, Array.getElem?_toList] at e'
      exact hv _ _ _ e e'
  · cases hc

noncomputable def loadA (s : St) (t : TypeId) (x : AV) : Option AV :=
  match x with
  | .ptr (some (b, o)) => ob (agg? P t) fun g => cond g (ob (size? P t) fun n => ob (cellsAt s b o n) fun l => some (.agg l))
      (match s.get b with
       | some (.cells cs _ _) => nth (ldrop cs o) 0
       | _ => none)
  | _ => none

theorem loadA_run {P : Program} {ρ : BMap} {s : St} {w : World} {t : TypeId} {x v : AV} {x' : Value} (h : loadA P s t x = some v) (hr : HR ρ s w) (hx : VR ρ x x') :
    ∃ v', (Instr.loadAt t x').run P w = .ok v' w ∧ VR ρ v v' := by
  unfold loadA at h
  split at h
  · rename_i b o
    replace h := ob_some h; obtain ⟨g, hg, h⟩ := h
    cases hx with
    | ptr hb =>
      rename_i r z
      cases g with
      | true =>
        replace h := ob_some (show ob (size? P t) _ = _ from h); obtain ⟨n, hn, h⟩ := h
        replace h := ob_some h; obtain ⟨l, hl, h⟩ := h
        cases h
        obtain ⟨vs, h1, h2, h3⟩ := cellsAt_run hr hl hb
        refine ⟨.agg vs.toArray, ?_, .agg h3.1 h3.2⟩
        have := run_loadCells_list (P := P) w ⟨r, o, none⟩ vs h2
        rw [h1] at this
        simp [Instr.loadAt, Instr.sureAddr, loadVar, agg?_run hg, size?_run hn, this]
      | false =>
        have h' : (match s.get b with
       | some (.cells cs _ _) => nth (ldrop cs o) 0
       | _ => none) = some v := h
        split at h'
        · rename_i cs rw ty hs
          rw [nth_eq, ldrop_eq, List.getElem?_drop] at h'
          obtain ⟨arr, elem, fz, ho, hz, hlen, hv, _⟩ := hr.cells hs hb
          have hlt : o + 0 < arr.size := Nat.lt_of_lt_of_le (List.getElem?_eq_some_iff.1 h').1 hlen
          have e' : arr[o + 0]? = some arr[o + 0] := by simp
          refine ⟨arr[o + 0], ?_, hv _ _ _ h' e'⟩
          simp only [Nat.add_zero] at e'
          simp [Instr.loadAt, Instr.sureAddr, loadVar, agg?_run hg, World.cell?, ho, e']
        · cases h'
  · cases h


def upd (ρ : BMap) (i r z : Nat) : BMap := fun j => if j = i then some (r, z) else ρ j

omit [Sym] in
theorem upd_sub {ρ : BMap} {i r z : Nat} (h : ρ i = none) : Sub ρ (upd ρ i r z) := fun j q e => by
  unfold upd
  split
  · subst_vars; rw [h] at e; cases e
  · exact e

omit [Sym] in
theorem upd_self (ρ : BMap) (i r z : Nat) : upd ρ i r z i = some (r, z) := by simp [upd]

theorem Ext.new {ρ : BMap} {s : St} {w w' : World} {z : Nat} {blk : Blk} {obj : Obj} (h : HR ρ s w) (hh : w'.heap = w.heap.push obj) (ho : w'.os = w.os) (ht : w'.tape = w.tape) (hp : w'.output = w.output)
    (hb : BR (upd ρ s.next w.heap.size z) z blk obj) : Ext ρ s w (upd ρ s.next w.heap.size z) (s.new blk) w' := by
  have hsub := upd_sub (r := w.heap.size) (z := z) (h.fresh s.next (Nat.le_refl _))
  have hget : ∀ {i b}, (s.new blk).get i = some b → (i = s.next ∧ b = blk) ∨ (i ≠ s.next ∧ s.get i = some b) := fun e => Tr.get_set e
  have hold : ∀ {i}, i ≠ s.next → upd ρ s.next w.heap.size z i = ρ i := fun e => by simp [upd, e]
  refine ⟨hsub, ⟨fun i hi => ?_, fun i b e hd => ?_, fun i j b c r y y' e1 e2 hw hd r1 r2 => ?_, fun i r y e => ?_⟩, ?_, fun r hr _ => ?_, fun r hr hm => ?_, fun r hr hm => ?_, ?_, fun i hi => ?_, ho, ht, hp⟩
  · have hi' : s.next + 1 ≤ i := hi
    rw [hold (by omega)]
    exact h.fresh i (by omega)
  · rcases hget e with ⟨rfl, rfl⟩ | ⟨hn, e⟩
    · exact ⟨w.heap.size, z, obj, upd_self _ _ _ _, by rw [hh]; simp, hb⟩
    · obtain ⟨r, y, o, h1, h2, h3⟩ := h.blk i b e hd
      refine ⟨r, y, o, by rw [hold hn]; exact h1, ?_, h3.mono hsub⟩
      rw [hh, Array.getElem?_push, if_neg (by have := h.below i r y h1; omega)]
      exact h2
  · rcases hget e1 with ⟨rfl, rfl⟩ | ⟨hn1, f1⟩
    · rcases hget e2 with ⟨rfl, rfl⟩ | ⟨hn2, f2⟩
      · rfl
      · rw [upd_self] at r1; cases r1
        rw [hold hn2] at r2
        have := h.below j _ _ r2; omega
    · rcases hget e2 with ⟨rfl, rfl⟩ | ⟨hn2, f2⟩
      · rw [upd_self] at r2; cases r2
        rw [hold hn1] at r1
        have := h.below i _ _ r1; omega
      · rw [hold hn1] at r1; rw [hold hn2] at r2
        exact h.inj i j b c r _ _ f1 f2 hw hd r1 r2
  · rw [hh, Array.size_push]
    by_cases hi : i = s.next
    · subst hi; rw [upd_self] at e; cases e; omega
    · rw [hold hi] at e; have := h.below i r _ e; omega
  · rw [hh, Array.size_push]; omega
  · rw [hh, Array.getElem?_push, if_neg (by omega)]
  · obtain ⟨i, b, y, e, hw, hρ⟩ := hm
    rcases hget e with ⟨rfl, rfl⟩ | ⟨hn, e⟩
    · rw [upd_self] at hρ; cases hρ; omega
    · rw [hold hn] at hρ; exact ⟨i, b, y, e, hw, hρ⟩
  · obtain ⟨i, b, y, e, hw, hρ⟩ := hm
    rcases hget e with ⟨rfl, rfl⟩ | ⟨hn, e⟩
    · rw [upd_self] at hρ; cases hρ; omega
    · rw [hold hn] at hρ; exact ⟨i, b, y, e, hw, hρ⟩
  · show s.next ≤ s.next + 1; omega
  · exact hold (by omega)

theorem Ext.write {ρ : BMap} {s : St} {w w' : World} {b r z : Nat} {blk0 blk : Blk} {obj : Obj} (h : HR ρ s w) (hs : s.get b = some blk0) (hw : blk0.rw = true) (hb : ρ b = some (r, z))
    (hsz : w'.heap.size = w.heap.size) (hr : w'.heap[r]? = some obj) (hk : ∀ k, k ≠ r → w'.heap[k]? = w.heap[k]?) (ho : w'.os = w.os) (ht : w'.tape = w.tape) (hp : w'.output = w.output)
    (hbr : BR ρ z blk obj) : Ext ρ s w ρ (s.set b blk) w' := by
  have hget : ∀ {i c}, (s.set b blk).get i = some c → (i = b ∧ c = blk) ∨ (i ≠ b ∧ s.get i = some c) := fun e => Tr.get_set e
  have hnd : blk0 ≠ .dead := by intro e; subst e; cases hw
  refine ⟨.refl _, ⟨h.fresh, fun i c e hd => ?_, fun i j c d q y y' e1 e2 hw1 hd r1 r2 => ?_, fun i q y e => by rw [hsz]; exact h.below i q y e⟩, by rw [hsz]; exact Nat.le_refl _, fun q hq hm => ?_, fun q hq hm => ?_, fun q hq hm => ?_, Nat.le_refl _, fun _ _ => rfl, ho, ht, hp⟩
  · rcases hget e with ⟨rfl, rfl⟩ | ⟨hn, e⟩
    · exact ⟨r, z, obj, hb, hr, hbr⟩
    · obtain ⟨q, y, o, h1, h2, h3⟩ := h.blk i c e hd
      refine ⟨q, y, o, h1, ?_, h3⟩
      rw [hk q ?_]
      · exact h2
      · intro e'; subst e'
        exact hn (h.inj b i blk0 c q _ _ hs e hw hd hb h1).symm
  · rcases hget e1 with ⟨rfl, rfl⟩ | ⟨hn1, f1⟩
    · rcases hget e2 with ⟨rfl, rfl⟩ | ⟨hn2, f2⟩
      · rfl
      · exact h.inj _ _ _ _ _ _ _ hs f2 hw hd r1 r2
    · rcases hget e2 with ⟨rfl, rfl⟩ | ⟨hn2, f2⟩
      · exact h.inj _ _ _ _ _ _ _ f1 hs hw1 hnd r1 r2
      · exact h.inj _ _ _ _ _ _ _ f1 f2 hw1 hd r1 r2
  · refine hk q fun e => ?_
    subst e
    exact hm ⟨b, blk0, z, hs, hw, hb⟩
  · obtain ⟨i, c, y, e, hw1, hρ⟩ := hm
    rcases hget e with ⟨rfl, rfl⟩ | ⟨hn, e⟩
    · exact ⟨_, blk0, y, hs, hw, hρ⟩
    · exact ⟨i, c, y, e, hw1, hρ⟩
  · obtain ⟨i, c, y, e, hw1, hρ⟩ := hm
    rcases hget e with ⟨rfl, rfl⟩ | ⟨hn, e⟩
    · exact ⟨_, blk0, y, hs, hnd, hρ⟩
    · exact ⟨i, c, y, e, hw1, hρ⟩

theorem Ext.kill {ρ : BMap} {s : St} {w : World} (h : HR ρ s w) (b : Nat) : Ext ρ s w ρ (s.set b .dead) w := by
  have hget : ∀ {i c}, (s.set b .dead).get i = some c → (i = b ∧ c = .dead) ∨ (i ≠ b ∧ s.get i = some c) := fun e => Tr.get_set e
  refine ⟨.refl _, ⟨h.fresh, fun i c e hd => ?_, fun i j c d q y y' e1 e2 hw1 hd r1 r2 => ?_, h.below⟩, Nat.le_refl _, fun _ _ _ => rfl, fun q _ hm => ?_, fun q _ hm => ?_, Nat.le_refl _, fun _ _ => rfl, rfl, rfl, rfl⟩
  · rcases hget e with ⟨rfl, rfl⟩ | ⟨hn, e⟩
    · exact absurd rfl hd
    · exact h.blk i c e hd
  · rcases hget e1 with ⟨rfl, rfl⟩ | ⟨hn1, f1⟩
    · cases hw1
    · rcases hget e2 with ⟨rfl, rfl⟩ | ⟨hn2, f2⟩
      · exact absurd rfl hd
      · exact h.inj _ _ _ _ _ _ _ f1 f2 hw1 hd r1 r2
  · obtain ⟨i, c, y, e, hw1, hρ⟩ := hm
    rcases hget e with ⟨rfl, rfl⟩ | ⟨hn, e⟩
    · cases hw1
    · exact ⟨i, c, y, e, hw1, hρ⟩
  · obtain ⟨i, c, y, e, hw1, hρ⟩ := hm
    rcases hget e with ⟨rfl, rfl⟩ | ⟨hn, e⟩
    · exact absurd rfl hw1
    · exact ⟨i, c, y, e, hw1, hρ⟩

theorem Ext.move {ρ : BMap} {s : St} {w w' : World} {b r z : Nat} {blk0 blk : Blk} {obj : Obj} (h : HR ρ s w) (hs : s.get b = some blk0) (hw : blk0.rw = true) (hb : ρ b = some (r, z))
    (hsz : w'.heap.size = w.heap.size) (hr : w'.heap[r]? = some obj) (hk : ∀ k, k ≠ r → w'.heap[k]? = w.heap[k]?) (ho : w'.os = w.os) (ht : w'.tape = w.tape) (hp : w'.output = w.output)
    (hbr : BR (upd ρ s.next r z) z blk obj) : Ext ρ s w (upd ρ s.next r z) ((s.set b .dead).new blk) w' := by
  have hsub := upd_sub (r := r) (z := z) (h.fresh s.next (Nat.le_refl _))
  have hget : ∀ {i c}, ((s.set b .dead).new blk).get i = some c → (i = s.next ∧ c = blk) ∨ (i ≠ s.next ∧ ((i = b ∧ c = .dead) ∨ (i ≠ b ∧ s.get i = some c))) := fun e => by
    rcases Tr.get_set e with h1 | ⟨h1, h2⟩
    · exact .inl h1
    · exact .inr ⟨h1, Tr.get_set h2⟩
  have hold : ∀ {i}, i ≠ s.next → upd ρ s.next r z i = ρ i := fun e => by simp [upd, e]
  refine ⟨hsub, ⟨fun i hi => ?_, fun i c e hd => ?_, fun i j c d q y y' e1 e2 hw1 hd r1 r2 => ?_, fun i q y e => ?_⟩, by rw [hsz]; exact Nat.le_refl _, fun q hq hm => ?_, fun q hq hm => ?_, fun q hq hm => ?_, ?_, fun i hi => hold (by omega), ho, ht, hp⟩
  · have hi' : s.next + 1 ≤ i := hi
    rw [hold (by omega)]
    exact h.fresh i (by omega)
  · rcases hget e with ⟨rfl, rfl⟩ | ⟨hn, ⟨rfl, rfl⟩ | ⟨hnb, e⟩⟩
    · exact ⟨r, z, obj, upd_self _ _ _ _, hr, hbr⟩
    · exact absurd rfl hd
    · obtain ⟨q, y, o, h1, h2, h3⟩ := h.blk i c e hd
      refine ⟨q, y, o, by rw [hold hn]; exact h1, ?_, h3.mono hsub⟩
      rw [hk q ?_]
      · exact h2
      · intro e'; subst e'
        exact hnb (h.inj b i blk0 c q _ _ hs e hw hd hb h1).symm
  · rcases hget e1 with ⟨rfl, rfl⟩ | ⟨hn1, ⟨rfl, rfl⟩ | ⟨hb1, f1⟩⟩
    · rcases hget e2 with ⟨rfl, rfl⟩ | ⟨hn2, ⟨rfl, rfl⟩ | ⟨hb2, f2⟩⟩
      · rfl
      · exact absurd rfl hd
      · rw [upd_self] at r1; cases r1
        rw [hold hn2] at r2
        exact absurd (h.inj b j blk0 d _ _ _ hs f2 hw hd hb r2).symm hb2
    · cases hw1
    · rcases hget e2 with ⟨rfl, rfl⟩ | ⟨hn2, ⟨rfl, rfl⟩ | ⟨hb2, f2⟩⟩
      · rw [upd_self] at r2; cases r2
        rw [hold hn1] at r1
        have hcd : c ≠ .dead := by intro e; subst e; cases hw1
        exact absurd (h.inj b i blk0 c _ _ _ hs f1 hw hcd hb r1).symm hb1
      · exact absurd rfl hd
      · rw [hold hn1] at r1; rw [hold hn2] at r2
        exact h.inj _ _ _ _ _ _ _ f1 f2 hw1 hd r1 r2
  · rw [hsz]
    by_cases hi : i = s.next
    · subst hi; rw [upd_self] at e; cases e; exact h.below b _ _ hb
    · rw [hold hi] at e; exact h.below i q _ e
  · refine hk q fun e => ?_
    subst e
    exact hm ⟨b, blk0, z, hs, hw, hb⟩
  · obtain ⟨i, c, y, e, hw1, hρ⟩ := hm
    rcases hget e with ⟨rfl, rfl⟩ | ⟨hn, ⟨rfl, rfl⟩ | ⟨hnb, e⟩⟩
    · rw [upd_self] at hρ; cases hρ; exact ⟨b, blk0, z, hs, hw, hb⟩
    · cases hw1
    · rw [hold hn] at hρ; exact ⟨i, c, y, e, hw1, hρ⟩
  · obtain ⟨i, c, y, e, hw1, hρ⟩ := hm
    rcases hget e with ⟨rfl, rfl⟩ | ⟨hn, ⟨rfl, rfl⟩ | ⟨hnb, e⟩⟩
    · rw [upd_self] at hρ; cases hρ; exact ⟨b, blk0, z, hs, (by intro e'; subst e'; cases hw), hb⟩
    · exact absurd rfl hw1
    · rw [hold hn] at hρ; exact ⟨i, c, y, e, hw1, hρ⟩
  · show s.next ≤ s.next + 1; omega

end Go.Proofs.Bx

namespace Go.Proofs.Bx
open Go
variable [Sym]
variable (P : Program)

omit [Sym] in
theorem setCells_heap (b : Nat) : ∀ (vs : List Value) (o : Nat) (w : World) (arr : Array Value) (t : TypeId) (fz : Nat × Nat), w.heap[b]? = some (.cells arr t fz) →
    (w.setCells b o vs).heap[b]? = some (.cells ((vs.zipIdx 0).foldl (fun cs (p : Value × Nat) => cs.setIfInBounds (o + p.2) p.1) arr) t fz) ∧
    (∀ k, k ≠ b → (w.setCells b o vs).heap[k]? = w.heap[k]?) ∧ (w.setCells b o vs).heap.size = w.heap.size ∧ (w.setCells b o vs).os = w.os ∧ (w.setCells b o vs).tape = w.tape ∧ (w.setCells b o vs).output = w.output
  | [], o, w, arr, t, fz, h => ⟨h, fun _ _ => rfl, rfl, rfl, rfl, rfl⟩
  | v :: vs, o, w, arr, t, fz, h => by
    have h1 : (w.setCell ⟨b, o, none⟩ v).heap[b]? = some (.cells (arr.setIfInBounds o v) t fz) := by
      simp [World.setCell, Array.getElem?_modify, h]
    obtain ⟨i1, i2, i3, i4, i5, i6⟩ := setCells_heap b vs (o + 1) (w.setCell ⟨b, o, none⟩ v) _ t fz h1
    have e : w.setCells b o (v :: vs) = (w.setCell ⟨b, o, none⟩ v).setCells b (o + 1) vs := rfl
    rw [e]
    refine ⟨?_, fun k hk => ?_, ?_, i4, i5, i6⟩
    · rw [i1]
      simp only [List.zipIdx_cons, List.foldl_cons, Nat.add_zero, Nat.zero_add]
      congr 2
      have : ∀ (l : List Value) (k : Nat) (a : Array Value), ((l.zipIdx k).foldl (fun cs (p : Value × Nat) => cs.setIfInBounds (o + 1 + p.2) p.1) a) =
          ((l.zipIdx (k + 1)).foldl (fun cs (p : Value × Nat) => cs.setIfInBounds (o + p.2) p.1) a) := by
        intro l
        induction l with
        | nil => intro k a; rfl
        | cons x l ih => intro k a; simp only [List.zipIdx_cons, List.foldl_cons, ih]; rw [show o + 1 + k = o + (k + 1) by omega]
      exact this vs 0 _
    · rw [i2 k hk]
      simp only [World.setCell, Array.getElem?_modify]
      rw [if_neg (by exact fun e => hk e.symm)]
    · rw [i3]; simp [World.setCell]

noncomputable def putA (s : St) (b o : Nat) (new : List AV) : Option St :=
  match s.get b with
  | some (.cells cs rw ty) => cond rw (ob (lput cs o new) fun cs' => some (s.set b (.cells cs' true ty))) none
  | _ => none

theorem putA_run {P : Program} {ρ : BMap} {s s' : St} {w : World} {b r z o : Nat} {new : List AV} {vs : List Value} (h : putA s b o new = some s') (hr : HR ρ s w) (hb : ρ b = some (r, z))
    (hn : VRs ρ new vs.toArray) (h1 : ∀ v ∈ vs, v.oneCell' = true) :
    (storeCells ⟨r, o, none⟩ vs).run P w = .ok () (w.setCells r o vs) ∧ Ext ρ s w ρ s' (w.setCells r o vs) := by
  unfold putA at h
  split at h
  · rename_i cs rw ty hs
    replace h := cond_some h; obtain ⟨hrw, h⟩ := h
    replace h := ob_some h; obtain ⟨cs', hput, h⟩ := h
    cases h
    subst hrw
    obtain ⟨arr, elem, fz, ho, hz, hlen, hv, hfz, hty⟩ := hr.cells hs hb
    have hfz := hfz rfl
    subst hfz
    -- the part of the row that is known
    have hk : VRs ρ cs (arr.extract 0 cs.length) := by
      refine ⟨by simp; omega, fun i v v' e e' => hv i v v' e ?_⟩
      rw [Array.getElem?_extract] at e'
      split at e'
      · simpa using e'
      · cases e'
    obtain ⟨hfit, hput2⟩ := lput_vr hput hk hn
    have hfit' : o + vs.length ≤ arr.size := by
      simp at hfit; omega
    have hfit2 : o + vs.length ≤ cs.length := by
      simp at hfit; omega
    have hcell : ∀ j, j < vs.length → (w.cell? ⟨r, o + 0 + j, none⟩).isSome = true := by
      intro j hj
      simp [World.cell?, ho]
      omega
    have hfroz : ∀ j, j < vs.length → w.frozen? ⟨r, o + 0 + j, none⟩ = false := by
      intro j hj
      simp [World.frozen?, ho]
    have hrun := run_storeCells_cells (P := P) r o vs 0 w hcell hfroz h1
    rw [Nat.add_zero] at hrun
    obtain ⟨i1, i2, i3, i4, i5, i6⟩ := setCells_heap r vs o w arr elem (0, 0) ho
    refine ⟨hrun, Ext.write hr hs rfl hb i3 i1 i2 i4 i5 i6 ⟨by rw [foldl_put_size]; exact hz, ?_, fun i v v' e e' => ?_, fun _ => rfl, hty⟩⟩
    · rw [foldl_put_size, hput2.1]
      have : ((vs.toArray).zipIdx.foldl (fun cs (p : Value × Nat) => cs.setIfInBounds (o + p.2) p.1) (arr.extract 0 cs.length)) =
          ((vs.zipIdx 0).foldl (fun cs (p : Value × Nat) => cs.setIfInBounds (o + p.2) p.1) (arr.extract 0 cs.length)) := by
        rw [← Array.foldl_toList]; simp
      rw [this, foldl_put_size]
      simp; omega
    · have hfold : ((vs.toArray).zipIdx.foldl (fun cs (p : Value × Nat) => cs.setIfInBounds (o + p.2) p.1) (arr.extract 0 cs.length)) =
          ((vs.zipIdx 0).foldl (fun cs (p : Value × Nat) => cs.setIfInBounds (o + p.2) p.1) (arr.extract 0 cs.length)) := by
        rw [← Array.foldl_toList]; simp
      rw [hfold] at hput2
      have hi : i < cs.length := by
        have a1 := (List.getElem?_eq_some_iff.1 e).1
        rw [hput2.1, foldl_put_size] at a1
        simp at a1; omega
      refine hput2.2 i v v' e ?_
      rw [foldl_put] at e' ⊢
      have hsz : (arr.extract 0 cs.length).size = cs.length := by simp; omega
      rw [hsz]
      by_cases hc : o + 0 ≤ i ∧ i < o + 0 + vs.length ∧ i < arr.size
      · rw [if_pos hc] at e'
        rw [if_pos ⟨hc.1, hc.2.1, hi⟩]
        exact e'
      · rw [if_neg hc] at e'
        rw [if_neg (fun hc2 => hc ⟨hc2.1, hc2.2.1, by omega⟩), Array.getElem?_extract]
        rw [if_pos (by omega)]
        simpa using e'
  · cases h

noncomputable def storeA (s : St) (t : TypeId) (x v : AV) : Option St :=
  match x with
  | .ptr (some (b, o)) => ob v.cells fun new => ob (size? P t) fun n => cond (Nat.beq (llen new) n) (cond (allAtoms new) (putA s b o new) none) none
  | _ => none

theorem storeA_run {P : Program} {ρ : BMap} {s s' : St} {w : World} {t : TypeId} {x v : AV} {x' v' : Value} (h : storeA P s t x v = some s') (hr : HR ρ s w) (hx : VR ρ x x') (hv : VR ρ v v') :
    ∃ w', (Instr.storeAt t x' v').run P w = .ok () w' ∧ Ext ρ s w ρ s' w' := by
  unfold storeA at h
  split at h
  · rename_i b o
    replace h := ob_some h; obtain ⟨new, hnew, h⟩ := h
    replace h := ob_some h; obtain ⟨n, hn, h⟩ := h
    replace h := cond_some h; obtain ⟨hsz, h⟩ := h
    replace h := cond_some h; obtain ⟨hat, h⟩ := h
    cases hx with
    | ptr hb =>
      rename_i r
      have hc := AV.cells_vr hv hnew
      have hsz' := Nat.eq_of_beq_eq_true hsz
      rw [llen_eq, hc.1] at hsz'
      obtain ⟨h1, h2⟩ := putA_run (P := P) (vs := v'.cells.toList) h hr hb (by simpa using hc) (hc.oneCell hat)
      refine ⟨_, ?_, h2⟩
      simp only [Instr.storeAt, Instr.sureAddr, storeVar, Sem.run_bind, Sem.run_pure, Result.andThen_ok, size?_run hn]
      simp [hsz', h1]
  · cases h


structure New where
  blk : Blk
  res : Nat → AV

def MakeR (P : Program) (sem : Sem Value) (n : New) (ρ : BMap) (w : World) : Prop :=
  ∃ v' w' z obj, sem.run P w = .ok v' w' ∧ w'.heap = w.heap.push obj ∧ w'.os = w.os ∧ w'.tape = w.tape ∧ w'.output = w.output ∧
    ∀ id, ρ id = none → BR (upd ρ id w.heap.size z) z n.blk obj ∧ VR (upd ρ id w.heap.size z) (n.res id) v'

theorem cells_BR {ρ : BMap} {w : World} {cs : List AV} {arr : Array Value} (elem : TypeId) (hc : VRs ρ cs arr) {id : Nat} (h : ρ id = none) :
    BR (upd ρ id w.heap.size arr.size) arr.size (.cells cs true) (.cells arr elem) :=
  ⟨rfl, Nat.le_of_eq hc.1, fun i v v' e e' => (hc.2 i v v' e e').mono (upd_sub h), fun _ => rfl, nofun⟩

theorem cells_BR_ty {ρ : BMap} {w : World} {cs : List AV} {arr : Array Value} (elem : TypeId) (hc : VRs ρ cs arr) {id : Nat} (h : ρ id = none) :
    BR (upd ρ id w.heap.size arr.size) arr.size (.cells cs true (some elem)) (.cells arr elem) :=
  ⟨rfl, Nat.le_of_eq hc.1, fun i v v' e e' => (hc.2 i v v' e e').mono (upd_sub h), fun _ => rfl, fun t e => by cases e; rfl⟩

theorem newCells_run {P : Program} {ρ : BMap} {s : St} {w : World} {cs : List AV} {arr : Array Value} (elem : TypeId) (hr : HR ρ s w) (hc : VRs ρ cs arr) :
    (newRow elem arr).run P w = .ok ⟨w.heap.size, 0, none⟩ (w.alloc (.cells arr elem)) ∧ Ext ρ s w (upd ρ s.next w.heap.size arr.size) (s.new (.cells cs true)) (w.alloc (.cells arr elem)) := by
  refine ⟨by simp [newRow], Ext.new hr rfl rfl rfl rfl ⟨rfl, Nat.le_of_eq hc.1, fun i v v' e e' => (hc.2 i v v' e e').mono (upd_sub (hr.fresh _ (Nat.le_refl _))), fun _ => rfl, nofun⟩⟩

noncomputable def allocA (t : TypeId) : Option New := ob (zeroA P t) fun z => ob z.cells fun cs => some ⟨.cells cs true (some t), fun i => .ptr (some (i, 0))⟩

noncomputable def boxA (v : AV) : Option New := ob v.cells fun cs => some ⟨.cells cs true, fun i => .ptr (some (i, 0))⟩

noncomputable def buildSliceA (t : TypeId) (len : Nat) (parts : List (Nat × AV)) : Option New :=
  match P.underlying t with
  | some (.slice elem) => ob (rowA P elem len parts) fun cs => some ⟨.cells cs true, fun i => .slice (some (i, 0)) len (.exact len)⟩
  | _ => none

noncomputable def makeMapA (r : Option AV) : Option New :=
  match r with
  | none => some ⟨.map [] 0, fun i => .map (some i)⟩
  | some _ => none

theorem allocA_run {P : Program} {ρ : BMap} {w : World} {t : TypeId} {n : New} (h : allocA P t = some n) : MakeR P (Instr.alloc t true (.tuple #[])) n ρ w := by
  replace h := ob_some h; obtain ⟨z, hz, h⟩ := h
  replace h := ob_some h; obtain ⟨cs, hcs, h⟩ := h
  cases h
  obtain ⟨z', hzr, hzv⟩ := zeroA_run hz ρ w
  exact ⟨.pointer (some ⟨w.heap.size, 0, none⟩), w.alloc (.cells z'.cells t), z'.cells.size, .cells z'.cells t, by simp [Instr.alloc, hzr, newVar, newRow], rfl, rfl, rfl, rfl,
    fun id hid => ⟨cells_BR_ty t (AV.cells_vr hzv hcs) hid, .ptr (upd_self _ _ _ _)⟩⟩

theorem boxA_run {P : Program} {ρ : BMap} {w : World} {t : TypeId} {v : AV} {v' : Value} {n : New} (h : boxA v = some n) (hv : VR ρ v v') : MakeR P (Instr.box t v') n ρ w := by
  replace h := ob_some h; obtain ⟨cs, hcs, h⟩ := h
  cases h
  exact ⟨.pointer (some ⟨w.heap.size, 0, none⟩), w.alloc (.cells v'.cells t), v'.cells.size, .cells v'.cells t, by simp [Instr.box, newVar, newRow], rfl, rfl, rfl, rfl,
    fun id hid => ⟨cells_BR t (AV.cells_vr hv hcs) hid, .ptr (upd_self _ _ _ _)⟩⟩

theorem rowA_run {P : Program} {ρ : BMap} {elem : TypeId} {len : Nat} {parts : List (Nat × AV)} {parts' : Array (Nat × Value)} {cs : List AV} (h : rowA P elem len parts = some cs) (hp : PR ρ parts parts') (t : TypeId) (hu : P.underlying t = some (.slice elem)) (w : World) :
    ∃ arr, VRs ρ cs arr ∧ (Instr.buildSlice t len parts').run P w = .ok (.slice (some ⟨w.heap.size, 0, none⟩) len len) (w.alloc (.cells arr elem)) := by
  replace h := ob_some h; obtain ⟨n, hn, h⟩ := h
  replace h := cond_some h; obtain ⟨hle, h⟩ := h
  replace h := ob_some h; obtain ⟨zs, hzs, h⟩ := h
  have hle' : len * n ≤ 16777216 := Nat.le_of_ble_eq_true hle
  have hnle : ¬ (16777216 < len * n) := by omega
  by_cases h0 : len * n = 0
  · have hzs' : cond (Nat.beq (Nat.mul len n) 0) (some ([] : List AV)) _ = some zs := hzs
    rw [beq_yes (show Nat.mul len n = 0 from h0)] at hzs'
    cases hzs'
    obtain ⟨r', hf, hv⟩ := fillA_run (cells' := #[]) h hp.1 hp.2 (VRs.nil ρ)
    refine ⟨r', hv, ?_⟩
    have hf' : Instr.fill (fun i => some (i * n, n)) #[] parts'.toList = some r' := hf
    have hzero : ∀ f : Nat → Value, (Array.range 0).map f = #[] := fun f => by apply Array.ext' <;> simp
    simp only [Instr.buildSlice, Sem.run_bind, run_underlying hu, Result.andThen_ok, size?_run hn]
    simp [h0, hzero, hf', newRow]
  · have hzs' : cond (Nat.beq (Nat.mul len n) 0) _ (ob (zeroA P elem) fun z => ob z.cells fun zero => cond (Nat.beq (llen zero) n) (some (lrep zero len)) none) = some zs := hzs
    rw [beq_no (show Nat.mul len n ≠ 0 from h0)] at hzs'
    replace hzs' := ob_some (show ob (zeroA P elem) _ = _ from hzs'); obtain ⟨z, hz, hzs'⟩ := hzs'
    replace hzs' := ob_some hzs'; obtain ⟨zero, hzero, hzs'⟩ := hzs'
    replace hzs' := cond_some hzs'; obtain ⟨hzn, hzs'⟩ := hzs'
    cases hzs'
    obtain ⟨z', hzr, hzv⟩ := zeroA_run hz ρ w
    have hc := AV.cells_vr hzv hzero
    have hzn' := Nat.eq_of_beq_eq_true hzn
    rw [llen_eq, hc.1] at hzn'
    have hrep := zeros_vr hc len
    obtain ⟨r', hf, hv⟩ := fillA_run h hp.1 hp.2 hrep
    refine ⟨r', hv, ?_⟩
    rw [hzn'] at hf
    have hf' : Instr.fill (fun i => some (i * n, n)) ((Array.range (len * n)).map (z'.cells[· % n]!)) parts'.toList = some r' := hf
    simp only [Instr.buildSlice, Sem.run_bind, run_underlying hu, Result.andThen_ok, size?_run hn]
    simp [h0, hnle, hzr, hzn', hf', newRow]

theorem buildSliceA_run {P : Program} {ρ : BMap} {w : World} {t : TypeId} {len : Nat} {parts : List (Nat × AV)} {parts' : Array (Nat × Value)} {n : New} (h : buildSliceA P t len parts = some n) (hp : PR ρ parts parts') :
    MakeR P (Instr.buildSlice t len parts') n ρ w := by
  unfold buildSliceA at h
  split at h
  · rename_i elem hu
    replace h := ob_some h; obtain ⟨cs, hcs, h⟩ := h
    cases h
    obtain ⟨arr, hv, hrun⟩ := rowA_run hcs hp t hu w
    exact ⟨_, _, arr.size, .cells arr elem, hrun, rfl, rfl, rfl, rfl, fun id hid => ⟨cells_BR elem hv hid, .slice (upd_self _ _ _ _) rfl (Nat.le_refl _)⟩⟩
  · cases h

theorem makeMapA_run {P : Program} {ρ : BMap} {w : World} {t : TypeId} {r : Option AV} {r' : Option Value} {n : New} (h : makeMapA r = some n) (ho : OR ρ r r') : MakeR P (Instr.makeMap t r') n ρ w := by
  cases r with
  | some v => cases h
  | none =>
    cases r' with
    | some v => exact ho.elim
    | none =>
      cases h
      have hb : ∀ id, BR (upd ρ id w.heap.size 0) 0 (.map [] 0) (.map #[] 0) := fun id => ⟨rfl, fun i x e h => by simp at h, rfl⟩
      exact ⟨.map (some w.heap.size), w.alloc (.map #[] 0), 0, .map #[] 0, by simp [Instr.makeMap], rfl, rfl, rfl, rfl, fun id _ => ⟨hb id, .map (upd_self _ _ _ _)⟩⟩


noncomputable def bytesA (src dst : TypeId) (x : AV) : Option New :=
  match P.underlying src, P.underlying dst, x with
  | some .string, some (.slice e), .str s => match P.underlying e with
    | some (.int .u8) => some ⟨.cells (s.data.toList.map fun b => .int .u8 (Int.ofNat b.toNat)) false, fun i => .slice (some (i, 0)) s.size (.atLeast s.size 0 1)⟩
    | _ => none
  | _, _, _ => none

omit [Sym] in
theorem bytesWorld_heap (w : World) (e : TypeId) (s : ByteArray) :
    (Lib.bytesWorld w e s).heap = w.heap.push (.cells (Lib.bytesCells w e s) e ((Lib.bytesCells w e s).size, (Lib.bytesCells w e s).size + 1)) := by
  apply Array.ext
  · rw [Lib.bytesWorld_size, Array.size_push]
  · intro j h1 h2
    rw [Lib.bytesWorld_size] at h1
    apply Option.some_inj.1
    rw [← Array.getElem?_eq_getElem, ← Array.getElem?_eq_getElem]
    rcases Nat.lt_or_ge j w.heap.size with h | h
    · rw [Lib.bytesWorld_at_old _ _ _ _ h, Array.getElem?_push, if_neg (by omega)]
    · have : j = w.heap.size := by omega
      subst this
      rw [Lib.bytesWorld_at_new]; simp

theorem bytesA_run {P : Program} {ρ : BMap} {w : World} {src dst : TypeId} {x : AV} {x' : Value} {n : New} (h : bytesA P src dst x = some n) (hx : VR ρ x x') : MakeR P (convert src dst x') n ρ w := by
  unfold bytesA at h
  split at h
  · rename_i e s hs hd
    split at h
    · rename_i he
      cases h
      cases hx
      have hsz : (Lib.bytesCells w e s).size = grownCap w s.size 0 e := by
        have := grownCap_ge w s.size 0 e
        have e1 : s.data.size = s.size := rfl
        simp only [Lib.bytesCells, Array.size_append, Array.size_map, Array.size_replicate, e1]
        omega
      have hge := grownCap_ge w s.size 0 e
      refine ⟨_, _, (Lib.bytesCells w e s).size, _, Lib.run_convert_string_bytes w src dst e s hs hd he, bytesWorld_heap w e s, rfl, rfl, rfl, fun id hid => ⟨⟨rfl, ?_, fun i v v' e1 e2 => ?_, (fun hf => by cases hf), nofun⟩, ?_⟩⟩
      · rw [hsz]; simp only [List.length_map, Array.length_toList]; exact hge
      · simp only [List.getElem?_map, Array.getElem?_toList, Option.map_eq_some_iff] at e1
        obtain ⟨b, hb, rfl⟩ := e1
        have hi : i < s.data.size := (Array.getElem?_eq_some_iff.1 hb).1
        have : (Lib.bytesCells w e s)[i]? = some (.int .u8 b.toNat) := by
          unfold Lib.bytesCells
          rw [Array.getElem?_append_left (by simpa using hi), Array.getElem?_map, hb]; rfl
        rw [this] at e2
        cases e2
        exact .int _ _
      · exact .slice (upd_self _ _ _ _) ⟨hge, by rw [hsz]; omega⟩ hge
    · cases h
  · cases h

end Go.Proofs.Bx

namespace Go.Proofs.Bx
open Go
variable [Sym]

def room : Nat := 140737488355328

section runs
variable {P : Program} (w : World)

omit [Sym] in
theorem run_append_place (t tx ty e ex : TypeId) (i : TypeInfo) (ht : P.underlying t = some (.slice e)) (htx : P.underlying tx = some (.slice ex)) (hi : P.info? e = some i)
    (b : Addr) (l c : Nat) (a : Addr) (n c2 : Nat) (news : List Value) (hl : news.length = n * i.size) (hnews : ∀ j v, news[j]? = some v → w.cell? (a.add j) = some v)
    (hroom : l + n ≤ c) {w' : World} (hst : (storeCells (b.add (l * i.size)) news).run P w = .ok () w') :
    (Builtin.append_ #[t, tx] ty #[.slice (some b) l c, .slice (some a) n c2]).run P w = .ok (.slice (some b) (l + n) c) w' := by
  have hf := run_firstCells_some (P := P) w i.size n a n c2 news hl hnews
  simp [Builtin.append_, run_underlying ht, run_underlying htx, sizeOf, typeInfo, hi, Builtin.lenOf, hroom, hf, hst]

omit [Sym] in
theorem run_append_none (t tx ty e ex : TypeId) (i : TypeInfo) (ht : P.underlying t = some (.slice e)) (htx : P.underlying tx = some (.slice ex)) (hi : P.info? e = some i)
    (b : Option Addr) (l c : Nat) (a : Option Addr) (c2 : Nat) (hroom : l ≤ c) :
    (Builtin.append_ #[t, tx] ty #[.slice b l c, .slice a 0 c2]).run P w = .ok (.slice b l c) w := by
  cases a <;> cases b <;> simp [Builtin.append_, run_underlying ht, run_underlying htx, sizeOf, typeInfo, hi, Builtin.lenOf, hroom, Builtin.firstCells, loadCells, loadCellsFrom, storeCells]

omit [Sym] in
theorem run_append_new (t tx ty e ex : TypeId) (i : TypeInfo) (z : Value) (ht : P.underlying t = some (.slice e)) (htx : P.underlying tx = some (.slice ex)) (hi : P.info? e = some i) (hz : i.zero = some z)
    (b : Option Addr) (l c : Nat) (olds : List Value) (hfo : (Builtin.firstCells i.size l (.slice b l c)).run P w.drew = .ok olds.toArray w.drew)
    (a : Addr) (n c2 : Nat) (news : List Value) (hl : news.length = n * i.size) (hnews : ∀ j v, news[j]? = some v → w.cell? (a.add j) = some v)
    (hg : c < l + n) (h63 : ((l + n : Nat) : Int) ≤ 9223372036854775807) (hfit : Builtin.nextslicecap (l + n) c * i.bytes ≤ 281474976710656) :
    (Builtin.append_ #[t, tx] ty #[.slice b l c, .slice (some a) n c2]).run P w =
      .ok (.slice (some ⟨w.heap.size, 0, none⟩) (l + n) (grownCap w (l + n) c e))
        (w.drew.alloc (.cells (olds.toArray ++ news.toArray ++ Builtin.zeroCells z.cells (grownCap w (l + n) c e - (l + n))) e)) := by
  have hn : ¬ (l + n ≤ c) := by omega
  have h63' : ¬ (9223372036854775807 < ((l : Int) + (n : Int))) := by omega
  have h48' : ¬ (281474976710656 < Builtin.nextslicecap (l + n) c * i.bytes) := by omega
  have hf := run_firstCells_some (P := P) w.drew i.size n a n c2 news hl (by simpa using hnews)
  simp [Builtin.append_, run_underlying ht, run_underlying htx, sizeOf, typeInfo, zeroValue, hi, hz, Builtin.lenOf, hn, h63', h48', Question.forced, hf, hfo, newRow, grownCap]
  congr 2
  apply Array.ext'
  simp [List.append_assoc]
end runs

omit [Sym] in
theorem cap_cells (sz need c : Nat) (h : need ≤ c) : need * sz + (c - need) * sz = c * sz := by
  rw [← Nat.add_mul]; congr 1; omega

noncomputable def appendA (P : Program) (s : St) (t tx : TypeId) (x y : AV) : Option (AV × St) :=
  match P.underlying t, P.underlying tx with
  | some (.slice elem), some (.slice _) =>
    ob (P.info? elem) fun i => ob i.zero fun z => cond (Nat.beq z.cells.size i.size) (
    match x, y with
    | .slice a l cap, .slice yb m _ =>
      cond (Nat.beq m 0) (some (.slice a l cap, s))
        (match yb with
         | none => none
         | some (b2, o2) => ob (cellsAt s b2 o2 (Nat.mul m i.size)) fun new => cond (allAtoms new)
            (match a with
             | none => cond (Nat.ble m room) (cond (Nat.ble (Nat.mul m i.bytes) room) (some (.slice (some (s.next, 0)) m (.atLeast m i.bytes i.size), s.new (.cells new true))) none) none
             | some (b, o) => cond (Nat.ble (Nat.add l m) cap.low)
                (ob (putA s b (Nat.add o (Nat.mul l i.size)) new) fun s' => some (.slice (some (b, o)) (Nat.add l m) cap, s'))
                (cond (Nat.ble (Nat.add l m) room) (cond (Nat.ble (Nat.mul (Nat.add l m) i.bytes) room)
                  (ob (cellsAt s b o (Nat.mul l i.size)) fun old =>
                    match cap with
                    | .exact _ => some (.slice (some (s.next, 0)) (Nat.add l m) (.atLeast (Nat.add l m) i.bytes i.size), s.new (.cells (lapp old new) true))
                    | .atLeast _ bt k => cond (Nat.beq o 0) (cond (Nat.beq bt i.bytes) (cond (Nat.beq k i.size)
                        (match s.get b with
                         | some (.cells _ true _) => some (.slice (some (s.next, 0)) (Nat.add l m) (.atLeast (Nat.add l m) i.bytes i.size), (s.set b .dead).new (.cells (lapp old new) true))
                         | _ => none) none) none) none) none) none))
            none)
    | .slice a l cap, .empty => some (.slice a l cap, s)
    | _, _ => none) none
  | _, _ => none

def EffR (P : Program) (sem : Sem Value) (ρ : BMap) (s : St) (w : World) (v : AV) (s' : St) : Prop :=
  (∃ ρ' v' w', sem.run P w = .ok v' w' ∧ Ext ρ s w ρ' s' w' ∧ VR ρ' v v') ∨ False

theorem VRs.ofList {ρ : BMap} {l : List AV} {vs : List Value} (h : VRs ρ l vs.toArray) {m : List AV} {us : List Value} (k : VRs ρ m us.toArray) : VRs ρ (lapp l m) (vs ++ us).toArray := by
  rw [lapp_eq]
  have := h.append k
  simpa using this

theorem appendA_run {P : Program} {ρ : BMap} {s s' : St} {w : World} {t tx ty : TypeId} {x y v : AV} {x' y' : Value} (h : appendA P s t tx x y = some (v, s')) (hr : HR ρ s w) (hx : VR ρ x x') (hy : VR ρ y y') :
    EffR P (Builtin.append_ #[t, tx] ty #[x', y']) ρ s w v s' := by
  unfold appendA at h
  split at h
  · rename_i elem ex ht htx
    replace h := ob_some h; obtain ⟨i, hi, h⟩ := h
    replace h := ob_some h; obtain ⟨z, hz, h⟩ := h
    replace h := cond_some h; obtain ⟨hzs, h⟩ := h
    have hzs : z.cells.size = i.size := Nat.eq_of_beq_eq_true hzs
    split at h
    · rename_i a l cap yb m mc
      by_cases hm : m = 0
      · subst hm
        rw [beq_yes rfl] at h
        cases h
        cases hx with
        | sliceNil =>
          cases hy with
          | sliceNil => exact .inl ⟨ρ, _, w, run_append_none w t tx ty elem ex i ht htx hi none 0 0 none 0 (Nat.le_refl _), .refl hr, .sliceNil⟩
          | slice hb hc hl => exact .inl ⟨ρ, _, w, run_append_none w t tx ty elem ex i ht htx hi none 0 0 _ _ (Nat.le_refl _), .refl hr, .sliceNil⟩
        | slice hb hc hl =>
          cases hy with
          | sliceNil => exact .inl ⟨ρ, _, w, run_append_none w t tx ty elem ex i ht htx hi _ _ _ none 0 hl, .refl hr, .slice hb hc hl⟩
          | slice hb2 hc2 hl2 => exact .inl ⟨ρ, _, w, run_append_none w t tx ty elem ex i ht htx hi _ _ _ _ _ hl, .refl hr, .slice hb hc hl⟩
      · rw [beq_no hm] at h
        cases hy with
        | sliceNil => cases h
        | slice hb2 hc2 hl2 =>
          rename_i b2 o2 r2 z2 c2
          replace h := ob_some (show ob (cellsAt s b2 o2 (Nat.mul m i.size)) _ = _ from h); obtain ⟨new, hnew, h⟩ := h
          replace h := cond_some h; obtain ⟨hat, h⟩ := h
          obtain ⟨news, n1, n2, n3⟩ := cellsAt_run hr hnew hb2
          have n1 : news.length = m * i.size := n1
          have h1c : ∀ u ∈ news, u.oneCell' = true := by simpa using n3.oneCell hat
          cases hx with
          | sliceNil =>
            replace h := cond_some (show cond (Nat.ble m room) _ none = _ from h); obtain ⟨hle, h⟩ := h
            replace h := cond_some h; obtain ⟨hle2, h⟩ := h
            cases h
            have hle := Nat.le_of_ble_eq_true hle
            have hle2 : m * i.bytes ≤ room := Nat.le_of_ble_eq_true hle2
            unfold room at hle hle2
            have hfit : Builtin.nextslicecap (0 + m) 0 * i.bytes ≤ 281474976710656 := growslice_fits (by omega) (by rw [Nat.zero_add]; exact hle2)
            have hrun := run_append_new (P := P) w t tx ty elem ex i z ht htx hi hz none 0 0 [] (by simp [run_firstCells_none]) ⟨r2, o2, none⟩ m c2 news n1 n2 (by omega) (by omega) hfit
            · refine .inl ⟨_, _, _, hrun, Ext.new (w' := w.drew.alloc _) hr rfl rfl rfl rfl ⟨rfl, ?_, fun j u u' e e' => ?_, fun _ => rfl, nofun⟩, ?_⟩
              · simp only [List.size_toArray, Array.size_append, n3.1, List.length_nil]; omega
              · refine (n3.2 j u u' e ?_).mono (upd_sub (hr.fresh _ (Nat.le_refl _)))
                have hj : j < news.length := by
                  have := (List.getElem?_eq_some_iff.1 e).1
                  rw [n3.1] at this; simpa using this
                simp only [Array.empty_append] at e'
                rw [Array.getElem?_append_left (by simpa using hj)] at e'
                exact e'
              · rw [Nat.zero_add]
                refine .slice (upd_self _ _ _ _) ⟨?_, ?_⟩ ?_
                · have := grownCap_ge w m 0 elem; exact this
                · have hge := grownCap_ge w m 0 elem
                  have := cap_cells i.size m (grownCap w m 0 elem) hge
                  simp only [List.size_toArray, Array.size_append, List.length_nil, n1, Nat.zero_add, size_zeroCells, hzs]
                  omega
                · exact grownCap_ge w m 0 elem
          | slice hb hc hl =>
            rename_i b o r zb c
            have h' : cond (Nat.ble (Nat.add l m) cap.low) _ _ = some (v, s') := h
            cases hfit0 : Nat.ble (Nat.add l m) cap.low with
            | true =>
              rw [hfit0] at h'
              replace h' := ob_some (show ob (putA s b (Nat.add o (Nat.mul l i.size)) new) _ = _ from h'); obtain ⟨s2, hput, h'⟩ := h'
              cases h'
              have hle : l + m ≤ cap.low := Nat.le_of_ble_eq_true hfit0
              have hcl := Cap.ok_low hc
              obtain ⟨p1, p2⟩ := putA_run (P := P) hput hr hb n3 h1c
              have hst : (storeCells ((⟨r, o, none⟩ : Addr).add (l * i.size)) news).run P w = .ok () (w.setCells r (Nat.add o (Nat.mul l i.size)) news) := by
                rw [add_addr]; exact p1
              exact .inl ⟨ρ, _, _, run_append_place (P := P) w t tx ty elem ex i ht htx hi ⟨r, o, none⟩ l c ⟨r2, o2, none⟩ m c2 news n1 n2 (by omega) hst, p2, .slice hb hc (by show l + m ≤ c; omega)⟩
            | false =>
              rw [hfit0] at h'
              replace h' := cond_some (show cond (Nat.ble (Nat.add l m) room) _ none = _ from h'); obtain ⟨hle, h'⟩ := h'
              replace h' := cond_some h'; obtain ⟨hle2, h'⟩ := h'
              replace h' := ob_some h'; obtain ⟨old, hold, h'⟩ := h'
              have hle : l + m ≤ room := Nat.le_of_ble_eq_true hle
              have hle2 : (l + m) * i.bytes ≤ room := Nat.le_of_ble_eq_true hle2
              unfold room at hle hle2
              obtain ⟨olds, o1, o2', o3⟩ := cellsAt_run hr hold hb
              have o1 : olds.length = l * i.size := o1
              have hfo := run_firstCells_some (P := P) w.drew i.size l ⟨r, o, none⟩ l c olds o1 (by simpa using o2')
              -- the new block, if there is no room
              have grow : c < l + m → ∀ {ρ0 : BMap} {s0 : St}, HR ρ0 s0 w → Sub ρ ρ0 →
                  (∃ v' w' z0, (Builtin.append_ #[t, tx] ty #[.slice (some ⟨r, o, none⟩) l c, .slice (some ⟨r2, o2, none⟩) m c2]).run P w = .ok v' w' ∧
                    Ext ρ0 s0 w (upd ρ0 s0.next w.heap.size z0) (s0.new (.cells (lapp old new) true)) w' ∧ VR (upd ρ0 s0.next w.heap.size z0) (.slice (some (s0.next, 0)) (l + m) (.atLeast (l + m) i.bytes i.size)) v') ∨ False := by
                intro hg ρ0 s0 hr0 hsub
                have hfit : Builtin.nextslicecap (l + m) c * i.bytes ≤ 281474976710656 := growslice_fits hg hle2
                have hrun := run_append_new (P := P) w t tx ty elem ex i z ht htx hi hz (some ⟨r, o, none⟩) l c olds hfo ⟨r2, o2, none⟩ m c2 news n1 n2 hg (by omega) hfit
                · have hall := fun zz => (VRs.ofList o3 n3).mono (hsub.trans (upd_sub (r := w.heap.size) (z := zz) (hr0.fresh _ (Nat.le_refl _))))
                  refine .inl ⟨_, _, _, hrun, Ext.new (w' := w.drew.alloc _) hr0 rfl rfl rfl rfl ⟨rfl, ?_, fun j u u' e e' => ?_, fun _ => rfl, nofun⟩, .slice (upd_self _ _ _ _) ⟨grownCap_ge w _ c elem, ?_⟩ (grownCap_ge w _ c elem)⟩
                  · rw [(hall 0).1]; simp only [List.size_toArray, Array.size_append, List.length_append]; omega
                  · refine (hall _).2 j u u' e ?_
                    have hj := (List.getElem?_eq_some_iff.1 e).1
                    rw [(hall 0).1] at hj
                    have hj' : j < (olds.toArray ++ news.toArray).size := by simpa using hj
                    rw [Array.getElem?_append_left hj'] at e'
                    simpa using e'
                  · have hge := grownCap_ge w (l + m) c elem
                    have := cap_cells i.size (l + m) (grownCap w (l + m) c elem) hge
                    have e3 : (l + m) * i.size = l * i.size + m * i.size := Nat.add_mul _ _ _
                    simp only [List.size_toArray, Array.size_append, n1, o1, Nat.zero_add, size_zeroCells, hzs]
                    omega
              cases cap with
              | exact n =>
                cases h'
                cases hc
                have hg : c < l + m := by
                  rcases Nat.lt_or_ge c (l + m) with hlt | hge
                  · exact hlt
                  · have : Nat.ble (l + m) c = true := Nat.ble_eq_true_of_le hge
                    rw [show Nat.ble (Nat.add l m) (Cap.low (.exact c)) = Nat.ble (l + m) c from rfl, this] at hfit0
                    cases hfit0
                rcases grow hg hr (.refl _) with ⟨v', w', z0, g1, g2, g3⟩ | g
                · exact .inl ⟨_, v', w', g1, g2, g3⟩
                · exact .inr g
              | atLeast n bt k =>
                replace h' := cond_some (show cond (Nat.beq o 0) _ none = _ from h'); obtain ⟨ho0, h'⟩ := h'
                replace h' := cond_some h'; obtain ⟨hbt, h'⟩ := h'
                replace h' := cond_some h'; obtain ⟨hkk, h'⟩ := h'
                have hkk := Nat.eq_of_beq_eq_true hkk
                subst hkk
                have ho0 := Nat.eq_of_beq_eq_true ho0
                have hbt := Nat.eq_of_beq_eq_true hbt
                subst ho0
                subst hbt
                split at h'
                · rename_i cs ety hs
                  cases h'
                  by_cases hg : c < l + m
                  · have hk := Ext.kill hr b
                    rcases grow hg hk.hr (.refl _) with ⟨v', w', z0, g1, g2, g3⟩ | g
                    · exact .inl ⟨_, v', w', g1, hk.trans g2, g3⟩
                    · exact .inr g
                  · -- there was room
                    obtain ⟨arr, elem', fz, hh, hzz, hlen, hv, hfz, _⟩ := hr.cells hs hb
                    have hfz := hfz rfl
                    subst hfz
                    obtain ⟨c1, c3⟩ := hc
                    have e3 : (l + m) * i.size = l * i.size + m * i.size := Nat.add_mul _ _ _
                    have e4 : (l + m) * i.size ≤ c * i.size := Nat.mul_le_mul_right _ (by omega)
                    have hfit : l * i.size + news.length ≤ arr.size := by rw [n1]; omega
                    have hcell : ∀ j, j < news.length → (w.cell? ⟨r, l * i.size + 0 + j, none⟩).isSome = true := by
                      intro j hj
                      simp [World.cell?, hh]
                      omega
                    have hfroz : ∀ j, j < news.length → w.frozen? ⟨r, l * i.size + 0 + j, none⟩ = false := by
                      intro j hj
                      simp [World.frozen?, hh]
                    have hst := run_storeCells_cells (P := P) r (l * i.size) news 0 w hcell hfroz h1c
                    rw [Nat.add_zero] at hst
                    have hst' : (storeCells ((⟨r, 0, none⟩ : Addr).add (l * i.size)) news).run P w = .ok () (w.setCells r (l * i.size) news) := by
                      rw [add_addr, Nat.zero_add]; exact hst
                    obtain ⟨i1, i2, i3, i4, i5, i6⟩ := setCells_heap r news (l * i.size) w arr elem' (0, 0) hh
                    have hall := (VRs.ofList o3 n3).mono (upd_sub (r := r) (z := zb) (hr.fresh s.next (Nat.le_refl _)))
                    refine .inl ⟨_, _, _, run_append_place (P := P) w t tx ty elem ex i ht htx hi ⟨r, 0, none⟩ l c ⟨r2, o2, none⟩ m c2 news n1 n2 (by omega) hst',
                      Ext.move hr hs rfl hb i3 i1 i2 i4 i5 i6 ⟨by rw [foldl_put_size]; exact hzz, ?_, fun j u u' e e' => ?_, fun _ => rfl, nofun⟩, .slice (upd_self _ _ _ _) ⟨by show l + m ≤ c; omega, c3⟩ (by show l + m ≤ c; omega)⟩
                    · rw [hall.1, foldl_put_size]
                      simp only [List.size_toArray, List.length_append]
                      omega
                    · have hj := (List.getElem?_eq_some_iff.1 e).1
                      rw [hall.1] at hj
                      simp only [List.size_toArray, List.length_append] at hj
                      refine hall.2 j u u' e ?_
                      rw [foldl_put] at e'
                      simp only [Nat.add_zero] at e'
                      simp only [List.getElem?_toArray]
                      by_cases hjl : j < l * i.size
                      · rw [if_neg (by omega)] at e'
                        rw [List.getElem?_append_left (by omega)]
                        have ho := o2' j (olds[j]'(by omega)) (by simp)
                        rw [add_addr] at ho
                        simp only [World.cell?, hh, Nat.zero_add] at ho
                        simp only [Option.isSome_none, Bool.false_eq_true, if_false] at ho
                        rw [ho] at e'
                        rw [← e']
                        simp
                      · rw [if_pos (by omega)] at e'
                        rw [List.getElem?_append_right (by omega), o1]
                        exact e'
                · cases h'
    · rename_i a l cap
      cases h
      cases hy
      cases hx with
      | sliceNil => exact .inl ⟨ρ, _, w, run_append_none w t tx ty elem ex i ht htx hi none 0 0 _ _ (Nat.le_refl _), .refl hr, .sliceNil⟩
      | slice hb hc hl => exact .inl ⟨ρ, _, w, run_append_none w t tx ty elem ex i ht htx hi _ _ _ _ _ hl, .refl hr, .slice hb hc hl⟩
    · cases h
  · cases h

noncomputable def clearA (P : Program) (s : St) (t : TypeId) (x : AV) : Option St :=
  match P.underlying t with
  | some (.slice elem) =>
    match x with
    | .slice a n _ => cond (Nat.beq n 0) (some s)
        (match a with
         | none => none
         | some (b, o) => ob (zeroA P elem) fun z => ob z.cells fun zero => cond (allAtoms zero) (putA s b o (lrep zero n)) none)
    | _ => none
  | _ => none

omit [Sym] in
theorem allAtoms_lrep {z : List AV} (h : allAtoms z = true) : ∀ n, allAtoms (lrep z n) = true := by
  intro n
  induction n with
  | zero => rfl
  | succ n ih =>
    have e : lrep z (n + 1) = lapp z (lrep z n) := rfl
    rw [e, lapp_eq]
    have key : ∀ (l m : List AV), allAtoms l = true → allAtoms m = true → allAtoms (l ++ m) = true := by
      intro l m
      induction l with
      | nil => intro _ h; exact h
      | cons a l ihl =>
        intro h1 h2
        have h1' : cond a.atom (allAtoms l) false = true := h1
        show cond a.atom (allAtoms (l ++ m)) false = true
        cases ha : a.atom with
        | false => rw [ha] at h1'; cases h1'
        | true => rw [ha] at h1'; exact ihl h1' h2
    exact key _ _ h ih

theorem clearA_run {P : Program} {ρ : BMap} {s s' : St} {w : World} {t ty : TypeId} {x : AV} {x' : Value} (h : clearA P s t x = some s') (hr : HR ρ s w) (hx : VR ρ x x') :
    ∃ w', (Builtin.clear_ #[t] ty #[x']).run P w = .ok (.tuple #[]) w' ∧ Ext ρ s w ρ s' w' := by
  unfold clearA at h
  split at h
  · rename_i elem ht
    split at h
    · rename_i a n cap
      by_cases hn : n = 0
      · subst hn
        rw [beq_yes rfl] at h
        cases h
        refine ⟨w, ?_, .refl hr⟩
        cases hx with
        | sliceNil => simp [Builtin.clear_, run_underlying ht]
        | slice hb hc hl => simp [Builtin.clear_, run_underlying ht]
      · rw [beq_no hn] at h
        cases a with
        | none => cases h
        | some p =>
          obtain ⟨b, o⟩ := p
          replace h := ob_some (show ob (zeroA P elem) _ = _ from h); obtain ⟨z, hz, h⟩ := h
          replace h := ob_some h; obtain ⟨zero, hzero, h⟩ := h
          replace h := cond_some h; obtain ⟨hat, h⟩ := h
          cases hx with
          | slice hb hc hl =>
            rename_i r zz c
            obtain ⟨z', hzr, hzv⟩ := zeroA_run hz ρ w
            have hcs := AV.cells_vr hzv hzero
            have hrep := zeros_vr hcs n
            have hrep' : VRs ρ (lrep zero n) (Builtin.zeroCells z'.cells n) := hrep
            obtain ⟨h1, h2⟩ := putA_run (P := P) (vs := (Builtin.zeroCells z'.cells n).toList) h hr hb (by simpa using hrep') (hrep'.oneCell (allAtoms_lrep hat n))
            refine ⟨_, ?_, h2⟩
            have hstep : (Builtin.clear_ #[t] ty #[.slice (some ⟨r, o, none⟩) n c]).run P w = (do storeCells ⟨r, o, none⟩ (Builtin.zeroCells z'.cells n).toList; pure (.tuple #[]) : Sem Value).run P w := by
              cases n with
              | zero => exact absurd rfl hn
              | succ n => simp [Builtin.clear_, run_underlying ht, hzr, Sem.run_bind]
            rw [hstep]
            simp [h1]
    · cases h
  · cases h

end Go.Proofs.Bx

namespace Go.Proofs.Bx
open Go
variable [Sym]
variable (P : Program)

noncomputable def St.row (s : St) (b : Nat) : Bool :=
  match s.get b with
  | some (.cells _ true _) => true
  | _ => false

noncomputable def kindEq (j k : IntKind) : Bool := decide (j = k)

noncomputable def eqFieldsA (P : Program) (rc : TypeId → AV → AV → Option Bool) (xs ys : List AV) (fs : List Field) : Option Bool :=
  List.rec (motive := fun _ => Option Bool) (some true) (fun f _ ih => cond (decide (f.name = "_")) ih
    (ob (apart P f.type xs f.offset) fun a => ob (apart P f.type ys f.offset) fun b => ob (rc f.type a b) fun r => cond r ih (some false))) fs

noncomputable def eqItemsA (P : Program) (rc : TypeId → AV → AV → Option Bool) (e : TypeId) (n : Nat) (xs ys : List AV) (is : List Nat) : Option Bool :=
  List.rec (motive := fun _ => Option Bool) (some true) (fun i _ ih =>
    (ob (apart P e xs (i * n)) fun a => ob (apart P e ys (i * n)) fun b => ob (rc e a b) fun r => cond r ih (some false))) is

noncomputable def eqStep (s : St) (rc : TypeId → AV → AV → Option Bool) (t : TypeId) (x y : AV) : Option Bool :=
  match P.underlying t, x, y with
  | some .bool, .bool a, .bool b => some (a == b)
  | some (.int _), .int k a, .int k' b => cond (kindEq k k') (some (a == b)) none
  | some .string, .str a, .str b => some (a == b)
  | some (.pointer _), .ptr none, .ptr b => some b.isNone
  | some (.pointer _), .ptr (some _), .ptr none => some false
  | some (.pointer elem), .ptr (some (a, o)), .ptr (some (b, q)) => ob (size? P elem) fun n => cond (Nat.beq n 0) none
      (cond (Nat.beq a b) (some (Nat.beq o q)) (cond (s.row a) (cond (s.row b) (some false) none) none))
  | some (.interface _), .nilIface, .nilIface => some true
  | some (.interface _), .nilIface, .iface _ _ => some false
  | some (.interface _), .iface _ _, .nilIface => some false
  | some (.struct fs), .agg xs, .agg ys => cond (P.stoodInHeld t) none (eqFieldsA P rc xs ys fs.toList)
  | some (.array n e), .agg xs, .agg ys => ob (size? P e) fun c => eqItemsA P rc e c xs ys (List.range n)
  | some (.slice _), .slice none _ _, .slice b _ _ => some b.isNone
  | some (.slice _), .slice (some _) _ _, .slice none _ _ => some false
  | some (.map _ _), .map none, .map b => some b.isNone
  | some (.map _ _), .map (some _), .map none => some false
  | some (.func _ _ _), .nilFunc, .nilFunc => some true
  | some (.func _ _ _), .nilFunc, .func _ _ _ => some false
  | some (.func _ _ _), .func _ _ _, .nilFunc => some false
  | _, _, _ => none

noncomputable def eqA (s : St) (d : Nat) : TypeId → AV → AV → Option Bool := Nat.rec (motive := fun _ => TypeId → AV → AV → Option Bool) (fun _ _ _ => none) (fun _ ih => eqStep P s ih) d

theorem row_run {ρ : BMap} {s : St} {w : World} (hr : HR ρ s w) {a r z : Nat} (h : s.row a = true) (ha : ρ a = some (r, z)) :
    ∃ arr elem, w.heap[r]? = some (.cells arr elem (0, 0)) := by
  unfold St.row at h
  split at h
  · rename_i cs ty hs
    obtain ⟨arr, elem, fz, h1, h2, h3, h4, h5, _⟩ := hr.cells hs ha
    rw [h5 rfl] at h1
    exact ⟨arr, elem, h1⟩
  · cases h

omit [Sym] in
theorem row_live {s : St} {a : Nat} (h : s.row a = true) : ∃ cs ty, s.get a = some (.cells cs true ty) := by
  unfold St.row at h
  split at h
  · rename_i cs ty hs; exact ⟨cs, ty, hs⟩
  · cases h

omit [Sym] in
theorem sameAddr_run {P : Program} {w : World} {r q o p : Nat} {a1 a2 : Array Value} {e1 e2 : TypeId} (hne : r ≠ q) (h1 : w.heap[r]? = some (.cells a1 e1 (0, 0))) (h2 : w.heap[q]? = some (.cells a2 e2 (0, 0))) :
    (sameAddr ⟨r, o, none⟩ ⟨q, p, none⟩).run P w = .ok false w := by
  have f1 : ∀ o, w.frozen? ⟨r, o, none⟩ = false := fun o => by simp [World.frozen?, h1]
  have f2 : ∀ o, w.frozen? ⟨q, o, none⟩ = false := fun o => by simp [World.frozen?, h2]
  have s1 : w.shape? r = some (e1, a1.size) := by simp [World.shape?, h1]
  have s2 : w.shape? q = some (e2, a2.size) := by simp [World.shape?, h2]
  have hb : (r == q) = false := by simp [hne]
  simp [sameAddr, hb, f1, f2, noView, viewAt, s1, s2, mayBeOne, stringish]

theorem eqFieldsA_run {P : Program} {ρ : BMap} {rc : TypeId → AV → AV → Option Bool} {xs ys : List AV} {xs' ys' : Array Value} {w : World} (d : Nat) (hx : VRs ρ xs xs') (hy : VRs ρ ys ys')
    (hrc : ∀ {t a b r a' b'}, rc t a b = some r → VR ρ a a' → VR ρ b b' → (Op.equalIn d t a' b').run P w = .ok r w) :
    ∀ {fs : List Field} {r : Bool}, eqFieldsA P rc xs ys fs = some r → (Op.eqFields d xs' ys' fs).run P w = .ok r w := by
  intro fs
  induction fs with
  | nil => intro r h; cases h; rfl
  | cons f fs ih =>
    intro r h
    have h' : cond (decide (f.name = "_")) (eqFieldsA P rc xs ys fs) (ob (apart P f.type xs f.offset) fun a => ob (apart P f.type ys f.offset) fun b => ob (rc f.type a b) fun r => cond r (eqFieldsA P rc xs ys fs) (some false)) = some r := h
    by_cases hn : f.name = "_"
    · rw [decide_eq_true hn] at h'
      simp only [Op.eqFields, ne_eq, hn, not_true_eq_false, if_false]
      exact ih h'
    · rw [decide_eq_false hn] at h'
      replace h' := ob_some (show ob (apart P f.type xs f.offset) _ = _ from h'); obtain ⟨a, ha, h'⟩ := h'
      replace h' := ob_some h'; obtain ⟨b, hb, h'⟩ := h'
      replace h' := ob_some h'; obtain ⟨q, hq, h'⟩ := h'
      obtain ⟨a', ra, va⟩ := apart_run ha hx w
      obtain ⟨b', rb, vb⟩ := apart_run hb hy w
      simp only [Op.eqFields, ne_eq, hn, not_false_eq_true, if_true, Sem.run_bind, ra, rb, Result.andThen_ok, hrc hq va vb]
      cases q with
      | true => simp only [Bool.not_true, Bool.false_eq_true, if_false]; exact ih h'
      | false => cases h'; simp

theorem eqItemsA_run {P : Program} {ρ : BMap} {rc : TypeId → AV → AV → Option Bool} {e : TypeId} {n : Nat} {xs ys : List AV} {xs' ys' : Array Value} {w : World} (d : Nat) (hx : VRs ρ xs xs') (hy : VRs ρ ys ys')
    (hrc : ∀ {t a b r a' b'}, rc t a b = some r → VR ρ a a' → VR ρ b b' → (Op.equalIn d t a' b').run P w = .ok r w) :
    ∀ {is : List Nat} {r : Bool}, eqItemsA P rc e n xs ys is = some r → (Op.eqItems d e n xs' ys' is).run P w = .ok r w := by
  intro is
  induction is with
  | nil => intro r h; cases h; rfl
  | cons i is ih =>
    intro r h
    have h' : (ob (apart P e xs (i * n)) fun a => ob (apart P e ys (i * n)) fun b => ob (rc e a b) fun r => cond r (eqItemsA P rc e n xs ys is) (some false)) = some r := h
    replace h' := ob_some h'; obtain ⟨a, ha, h'⟩ := h'
    replace h' := ob_some h'; obtain ⟨b, hb, h'⟩ := h'
    replace h' := ob_some h'; obtain ⟨q, hq, h'⟩ := h'
    obtain ⟨a', ra, va⟩ := apart_run ha hx w
    obtain ⟨b', rb, vb⟩ := apart_run hb hy w
    simp only [Op.eqItems, Sem.run_bind, ra, rb, Result.andThen_ok, hrc hq va vb]
    cases q with
    | true => simp only [Bool.not_true, Bool.false_eq_true, if_false]; exact ih h'
    | false => cases h'; simp

theorem eqA_run {P : Program} {ρ : BMap} {s : St} {w : World} (hr : HR ρ s w) : ∀ {f : Nat} {t : TypeId} {x y : AV} {r : Bool} {x' y' : Value} (d : Nat), eqA P s f t x y = some r → VR ρ x x' → VR ρ y y' → f ≤ d →
    (Op.equalIn d t x' y').run P w = .ok r w := by
  intro f
  induction f with
  | zero => intro t x y r x' y' d h; cases h
  | succ f ih =>
    intro t x y r x' y' d h hx hy hd
    obtain ⟨d, rfl⟩ : ∃ m, d = m + 1 := ⟨d - 1, by omega⟩
    have h' : eqStep P s (eqA P s f) t x y = some r := h
    have hrc : ∀ {t a b r a' b'}, eqA P s f t a b = some r → VR ρ a a' → VR ρ b b' → (Op.equalIn d t a' b').run P w = .ok r w := fun e va vb => ih d e va vb (by omega)
    clear h
    unfold eqStep at h'
    split at h' <;> rename_i hu
    · cases h'; cases hx; cases hy; simp [Op.equalIn, run_underlying hu]
    · replace h' := cond_some h'; obtain ⟨hk, h'⟩ := h'
      cases h'; cases hx; cases hy
      have hk := of_decide_eq_true hk
      subst hk
      simp [Op.equalIn, run_underlying hu]
    · cases h'; cases hx; cases hy; simp [Op.equalIn, run_underlying hu]
    · cases h'; cases hx; cases hy <;> simp [Op.equalIn, run_underlying hu]
    · cases h'; cases hx; cases hy; simp [Op.equalIn, run_underlying hu]
    · replace h' := ob_some h'; obtain ⟨n, hn, h'⟩ := h'
      replace h' := cond_some' h'; obtain ⟨hz, h'⟩ := h'
      have hnz : n ≠ 0 := by intro e; subst e; cases hz
      cases hx with
      | ptr ha =>
        cases hy with
        | ptr hb =>
          rename_i elem a o b q r1 z1 r2 z2
          by_cases hab : a = b
          · subst hab
            rw [ha] at hb
            cases hb
            rw [beq_yes rfl] at h'
            cases h'
            have he : ((⟨r1, o, none⟩ : Addr) == ⟨r1, q, none⟩) = Nat.beq o q := by
              by_cases hoq : o = q
              · subst hoq; simp
              · rw [beq_no hoq]
                exact beq_eq_false_iff_ne.2 (fun e => hoq (by injection e))
            simp only [Op.equalIn, Sem.run_bind, run_underlying hu, Result.andThen_ok, size?_run hn]
            rw [if_pos hnz]
            simp [sameAddr, he]
          · rw [beq_no hab] at h'
            replace h' := cond_some (show cond (s.row a) _ none = _ from h'); obtain ⟨ra, h'⟩ := h'
            replace h' := cond_some h'; obtain ⟨rb, h'⟩ := h'
            cases h'
            obtain ⟨a1, e1, g1⟩ := row_run hr ra ha
            obtain ⟨a2, e2, g2⟩ := row_run hr rb hb
            obtain ⟨c1, _, l1⟩ := row_live ra
            obtain ⟨c2, _, l2⟩ := row_live rb
            have hne : r1 ≠ r2 := by
              intro e; subst e
              exact hab (hr.inj a b _ _ _ _ _ l1 l2 rfl (by simp) ha hb)
            simp only [Op.equalIn, Sem.run_bind, run_underlying hu, Result.andThen_ok, size?_run hn]
            rw [if_pos hnz]
            exact sameAddr_run hne g1 g2
    · cases h'; cases hx; cases hy; simp [Op.equalIn, run_underlying hu]
    · cases h'; cases hx; cases hy; simp [Op.equalIn, run_underlying hu]
    · cases h'; cases hx; cases hy; simp [Op.equalIn, run_underlying hu]
    · replace h' := cond_some' h'; obtain ⟨hst, h'⟩ := h'
      cases hx with
      | agg h1 g1 =>
        cases hy with
        | agg h2 g2 =>
          rename_i fs xs ys xs' ys'
          have hf : P.fieldsOf t = fs := by simp [Program.fieldsOf, hu]
          have := run_equalIn_struct (P := P) w d t xs' ys' (by rw [hf]; exact hu) hst
          rw [this, hf]
          exact eqFieldsA_run d ⟨h1, g1⟩ ⟨h2, g2⟩ hrc h'
    · replace h' := ob_some h'; obtain ⟨c, hc, h'⟩ := h'
      cases hx with
      | agg h1 g1 =>
        cases hy with
        | agg h2 g2 =>
          rename_i n e xs ys xs' ys'
          obtain ⟨i, hi, hsz⟩ := ob_some hc
          cases hsz
          rw [run_equalIn_array (P := P) w d xs' ys' hu hi]
          have hco : P.cellsOf e = i.size := by simp [Program.cellsOf, hi]
          rw [hco]
          exact eqItemsA_run d ⟨h1, g1⟩ ⟨h2, g2⟩ hrc h'
    · cases h'; cases hx; cases hy <;> simp [Op.equalIn, run_underlying hu]
    · cases h'; cases hx; cases hy; simp [Op.equalIn, run_underlying hu]
    · cases h'; cases hx; cases hy <;> simp [Op.equalIn, run_underlying hu]
    · cases h'; cases hx; cases hy; simp [Op.equalIn, run_underlying hu]
    · cases h'; cases hx; cases hy; simp [Op.equalIn, run_underlying hu]
    · cases h'; cases hx; cases hy; simp [Op.equalIn, run_underlying hu]
    · cases h'; cases hx; cases hy; simp [Op.equalIn, run_underlying hu]
    · cases h'

noncomputable def guardA (t : TypeId) (x y : Operand) (a b : AV) : Bool :=
  match a, b with
  | .nilIface, .nilIface => Region.isConst x || Region.isConst y
  | .agg _, .agg _ => !P.eqGuardType P.depth t
  | .undef, _ => false
  | _, .undef => false
  | _, _ => true

theorem guardA_run {P : Program} {ρ : BMap} {op : BinOp} {t : TypeId} {x y : Operand} {a b : AV} {a' b' : Value} (h : guardA P t x y a b = true) (ha : VR ρ a a') (hb : VR ρ b b') (w : World) :
    (eqGuard op t x y a' b').run P w = .ok () w := by
  unfold guardA at h
  split at h
  · cases ha; cases hb
    cases x <;> cases y <;> cases op <;> first | rfl | exact Bool.noConfusion h
  · cases ha; cases hb
    have h' : P.eqGuardType P.depth t = false := by simpa using h
    exact run_eqGuard_agg (P := P) w op t x y _ _ h'
  · cases h
  · cases h
  · rename_i h1 h2 h3 h4
    have key : ∀ op, (eqGuard op t x y a' b').run P w = .ok () w := by
      intro op
      cases ha <;> cases hb <;> first | exact (h1 rfl).elim | exact (h2 rfl).elim | exact (h3 rfl rfl).elim | exact (h4 _ _ rfl rfl).elim | (cases op <;> rfl)
    exact key op

noncomputable def eqBin (s : St) (op : BinOp) (t : TypeId) (x y : Operand) (a b : AV) : Option AV :=
  cond (guardA P t x y a b)
    (match op with
     | .eql => ob (eqA P s 6 t a b) fun r => some (.bool r)
     | .neq => ob (eqA P s 6 t a b) fun r => some (.bool (!r))
     | _ => none) none

end Go.Proofs.Bx

namespace Go.Proofs.Bx
open Go
variable [Sym]
variable (P : Program)

noncomputable def plainKey? (t : TypeId) : Bool :=
  match P.underlying t with
  | some (.int _) => true
  | some .string => true
  | some .bool => true
  | some (.pointer _) => true
  | _ => false

noncomputable def partsOk (P : Program) (e : TypeId) (sz : Nat) (cs : List AV) (is : List Nat) : Bool :=
  List.rec (motive := fun _ => Bool) true (fun i _ ih => Option.rec false (fun _ => ih) (apart P e cs (i * sz))) is

noncomputable def keyA (t : TypeId) (k : AV) : Bool :=
  match P.underlying t, k with
  | some (.int _), .int _ _ => true
  | some .string, .str _ => true
  | some .bool, .bool _ => true
  | some (.array n e), .agg cs => cond (plainKey? P e) (Option.rec false (fun sz => partsOk P e sz cs (List.range n)) (size? P e)) false
  | _, _ => false

omit [Sym] in
theorem checkKey_plain {P : Program} {t : TypeId} (h : plainKey? P t = true) (empty : Bool) (n : Nat) (v : Value) (w : World) : (Instr.checkKey empty (n + 1) t v).run P w = .ok () w := by
  unfold plainKey? at h
  split at h <;> rename_i hu <;> first | (cases h; done) | (unfold Instr.checkKey; simp [run_underlying hu])

theorem keyA_run {P : Program} {ρ : BMap} {t : TypeId} {k : AV} {k' : Value} (h : keyA P t k = true) (hk : VR ρ k k') (empty : Bool) (w : World) : (Instr.checkKey empty 10000 t k').run P w = .ok () w := by
  unfold keyA at h
  split at h
  · rename_i hu; cases hk; unfold Instr.checkKey; simp [run_underlying hu]
  · rename_i hu; cases hk; unfold Instr.checkKey; simp [run_underlying hu]
  · rename_i hu; cases hk; unfold Instr.checkKey; simp [run_underlying hu]
  · rename_i n e cs hu
    cases hp : plainKey? P e with
    | false => rw [hp] at h; cases h
    | true =>
      rw [hp] at h
      cases hs : size? P e with
      | none => rw [hs] at h; cases h
      | some sz =>
        rw [hs] at h
        have h' : partsOk P e sz cs (List.range n) = true := h
        cases hk with
        | agg h1 g1 =>
          rename_i cs'
          unfold Instr.checkKey
          simp only [Sem.run_bind, run_underlying hu, Result.andThen_ok]
          simp only [Std.Legacy.Range.forIn_eq_forIn_range', Std.Legacy.Range.size, Nat.sub_zero, Nat.add_one_sub_one, Nat.div_one]
          rw [List.range_eq_range'] at h'
          generalize List.range' 0 n = is at h'
          induction is with
          | nil => simp
          | cons i is ih =>
            have h2 : (Option.rec false (fun _ => partsOk P e sz cs is) (apart P e cs (i * sz)) : Bool) = true := h'
            cases ha : apart P e cs (i * sz) with
            | none => rw [ha] at h2; cases h2
            | some p =>
              rw [ha] at h2
              obtain ⟨v', hr, _⟩ := apart_run ha ⟨h1, g1⟩ w
              simp only [List.forIn_cons, Sem.run_bind, size?_run hs, Result.andThen_ok, hr, checkKey_plain hp empty 9998, Sem.run_pure]
              exact ih h2
  · cases h

abbrev Ent := AV × AV × Nat

noncomputable def findA (rc : AV → Option Bool) (es : List Ent) : Nat → Option (Option (Nat × AV)) :=
  List.rec (motive := fun _ => Nat → Option (Option (Nat × AV))) (fun _ => some none) (fun e _ ih i => ob (rc e.1) fun r => cond r (some (some (i, e.2.1))) (ih (Nat.succ i))) es

omit [Sym] in
theorem findA_cons {rc : AV → Option Bool} {e : Ent} {es : List Ent} {i : Nat} {r : Option (Nat × AV)} (h : findA rc (e :: es) i = some r) :
    (rc e.1 = some true ∧ r = some (i, e.2.1)) ∨ (rc e.1 = some false ∧ findA rc es (i + 1) = some r) := by
  have h' : (ob (rc e.1) fun r => cond r (some (some (i, e.2.1))) (findA rc es (Nat.succ i))) = some r := h
  replace h' := ob_some h'; obtain ⟨q, hq, h'⟩ := h'
  cases q with
  | true => cases h'; exact .inl ⟨hq, rfl⟩
  | false => exact .inr ⟨hq, h'⟩

def FR (ρ : BMap) (es' : List MapEntry) (i0 : Nat) : Option (Nat × AV) → Option (Nat × Value) → Prop
  | none, none => True
  | some (i, v), some (j, u) => i = j ∧ i0 ≤ i ∧ VR ρ v u ∧ (∃ e, es'[i - i0]? = some e ∧ e.val = u)
  | _, _ => False

theorem findA_run {P : Program} {ρ : BMap} {s : St} {w : World} (hr : HR ρ s w) {kt : TypeId} {k : AV} {k' : Value} (hk : VR ρ k k') {es : List Ent} {es' : List MapEntry}
    (hl : es.length = es'.length) (he : ∀ (i : Nat) (x : Ent) (e : MapEntry), es[i]? = some x → es'[i]? = some e → ER ρ x e) {r : Option (Nat × AV)} (h : findA (fun q => eqA P s 6 kt k q) es 0 = some r)
    (hu : (P.underlying kt).isSome = true) :
    ∃ r', (Instr.findKey kt k' es').run P w = .ok r' w ∧ FR ρ es' 0 r r' := by
  have asking : ∀ (es : List Ent) (es' : List MapEntry) (i : Nat) (r : Option (Nat × AV)), es.length = es'.length → (∀ (i : Nat) (x : Ent) (e : MapEntry), es[i]? = some x → es'[i]? = some e → ER ρ x e) →
      findA (fun q => eqA P s 6 kt k q) es i = some r → ∃ r', (Instr.findAsking kt k' es' i).run P w = .ok r' w ∧ FR ρ es' i r r' := by
    intro es
    induction es with
    | nil =>
      intro es' i r hl he h
      cases es' with
      | cons e es' => simp at hl
      | nil => cases h; exact ⟨none, rfl, trivial⟩
    | cons x es ih =>
      intro es' i r hl he h
      cases es' with
      | nil => simp at hl
      | cons e es' =>
        obtain ⟨e1, e2, e3⟩ := he 0 x e (by simp) (by simp)
        rcases findA_cons h with ⟨hq, rfl⟩ | ⟨hq, h⟩
        · have := eqA_run hr Op.maxDepth hq hk e1 (by decide)
          exact ⟨some (i, e.val), by simp [Instr.findAsking, Op.equal, this], rfl, Nat.le_refl _, e2, e, by simp, rfl⟩
        · have := eqA_run hr Op.maxDepth hq hk e1 (by decide)
          obtain ⟨r', h1, h2⟩ := ih es' (i + 1) r (by simpa using hl) (fun j y z a b => he (j + 1) y z (by simpa using a) (by simpa using b)) h
          refine ⟨r', by simp [Instr.findAsking, Op.equal, this, h1], ?_⟩
          cases r with
          | none => cases r' <;> first | trivial | exact h2.elim
          | some p =>
            cases r' with
            | none => exact h2.elim
            | some q =>
              obtain ⟨a, b, c, f, g1, g2⟩ := h2
              refine ⟨a, by omega, c, f, ?_, g2⟩
              rw [show p.1 - i = p.1 - (i + 1) + 1 by omega]
              simpa using g1
  obtain ⟨d, hd⟩ := Option.isSome_iff_exists.1 hu
  -- what is found at once
  cases hn : Instr.findNow d k' es' 0 with
  | none =>
    obtain ⟨r', h1, h2⟩ := asking es es' 0 r hl he h
    exact ⟨r', by simp [Instr.findKey, run_underlying hd, hn, h1], h2⟩
  | some q =>
    refine ⟨q, by simp [Instr.findKey, run_underlying hd, hn], ?_⟩
    have now : ∀ (es : List Ent) (es' : List MapEntry) (i : Nat) (r : Option (Nat × AV)) (q : Option (Nat × Value)), es.length = es'.length → (∀ (i : Nat) (x : Ent) (e : MapEntry), es[i]? = some x → es'[i]? = some e → ER ρ x e) →
        findA (fun q => eqA P s 6 kt k q) es i = some r → Instr.findNow d k' es' i = some q → FR ρ es' i r q := by
      intro es
      induction es with
      | nil =>
        intro es' i r q hl he h hq
        cases es' with
        | cons e es' => simp at hl
        | nil => cases h; cases hq; trivial
      | cons x es ih =>
        intro es' i r q hl he h hq
        cases es' with
        | nil => simp at hl
        | cons e es' =>
          obtain ⟨e1, e2, e3⟩ := he 0 x e (by simp) (by simp)
          -- the two ways to compare say the same
          have same : ∀ b c, Instr.sameNow d k' e.key = some b → eqA P s 6 kt k x.1 = some c → b = c := by
            intro b c hb hc
            have h1 := eqA_run hr 7 hc hk e1 (by decide)
            generalize e.key = kk at hb h1
            unfold Instr.sameNow at hb
            split at hb
            · split at hb
              · rename_i hkk
                cases hb
                subst hkk
                rw [run_equalIn_int (P := P) w 6 kt _ _ _ _ hd] at h1
                injection h1
              · cases hb
            · cases hb
              rw [run_equalIn_string (P := P) w 6 kt _ _ hd, ← beq_toListBytes] at h1
              injection h1
            · cases hb
              rw [run_equalIn_bool' (P := P) w 6 kt _ _ hd] at h1
              injection h1
            · cases hb
          simp only [Instr.findNow] at hq
          split at hq
          · rename_i hs
            cases hq
            rcases findA_cons h with ⟨hq, rfl⟩ | ⟨hq, h⟩
            · exact ⟨rfl, Nat.le_refl _, e2, e, by simp, rfl⟩
            · exact absurd (same _ _ hs hq) (by simp)
          · rename_i hs
            rcases findA_cons h with ⟨hq', rfl⟩ | ⟨hq', h⟩
            · exact absurd (same _ _ hs hq') (by simp)
            · have h2 := ih es' (i + 1) r q (by simpa using hl) (fun j y z a b => he (j + 1) y z (by simpa using a) (by simpa using b)) h hq
              cases r with
              | none => cases q <;> first | trivial | exact h2.elim
              | some p =>
                cases q with
                | none => exact h2.elim
                | some u =>
                  obtain ⟨a, b, c, f, g1, g2⟩ := h2
                  refine ⟨a, by omega, c, f, ?_, g2⟩
                  rw [show p.1 - i = p.1 - (i + 1) + 1 by omega]
                  simpa using g1
          · cases hq
    exact now es es' 0 r q hl he h hn

noncomputable def entriesA (s : St) (x : AV) : Option (List Ent) :=
  match x with
  | .map none => some []
  | .map (some b) => match s.get b with
    | some (.map es _) => some es
    | some (.mapR es _) => some es
    | _ => none
  | _ => none

noncomputable def lookupA (s : St) (t : TypeId) (x k : AV) (ok : Bool) : Option AV :=
  match P.underlying t with
  | some (.map kt elem) => cond (keyA P kt k) (ob (entriesA s x) fun es => ob (findA (fun q => eqA P s 6 kt k q) es 0) fun r =>
      match r with
      | some (_, v) => some (cond ok (.tuple [v, .bool true]) v)
      | none => ob (zeroA P elem) fun z => some (cond ok (.tuple [z, .bool false]) z)) none
  | _ => none

omit [Sym] in
theorem keyA_under {P : Program} {t : TypeId} {k : AV} (h : keyA P t k = true) : (P.underlying t).isSome = true := by
  unfold keyA at h
  split at h <;> first | (simp [*]; done) | cases h

theorem lookupA_run {P : Program} {ρ : BMap} {s : St} {w : World} (hr : HR ρ s w) {t : TypeId} {x k v : AV} {x' k' : Value} {ok : Bool} (h : lookupA P s t x k ok = some v) (hx : VR ρ x x') (hk : VR ρ k k') :
    ∃ v', (Instr.lookup t x' k' ok).run P w = .ok v' w ∧ VR ρ v v' := by
  unfold lookupA at h
  split at h
  · rename_i kt elem hu
    replace h := cond_some h; obtain ⟨hkey, h⟩ := h
    replace h := ob_some h; obtain ⟨es, hes, h⟩ := h
    replace h := ob_some h; obtain ⟨r, hf, h⟩ := h
    have E : ∃ es' : Array MapEntry, es.length = es'.toList.length ∧ (∀ (i : Nat) (x : Ent) (e : MapEntry), es[i]? = some x → es'.toList[i]? = some e → ER ρ x e) ∧
        ((x' = .map none ∧ es' = #[]) ∨ ∃ b ck, x' = .map (some b) ∧ w.heap[b]? = some (.map es' ck)) := by
      unfold entriesA at hes
      split at hes
      · cases hes; cases hx
        exact ⟨#[], rfl, fun i x e a => by simp at a, .inl ⟨rfl, rfl⟩⟩
      · rename_i b
        split at hes
        · rename_i es0 ck hs
          cases hes
          cases hx with
          | map hb =>
            obtain ⟨es', h1, h2, h3⟩ := hr.map hs hb
            exact ⟨es', by simpa using h2, fun i x e a c => h3 i x e a (by simpa using c), .inr ⟨_, _, rfl, h1⟩⟩
        · rename_i es0 ck hs
          cases hes
          cases hx with
          | map hb =>
            obtain ⟨es', h1, h2, h3⟩ := hr.mapR hs hb
            exact ⟨es', by simpa using h2, fun i x e a c => h3 i x e a (by simpa using c), .inr ⟨_, _, rfl, h1⟩⟩
        · cases hes
      · cases hes
    obtain ⟨es', g1, g2, g3⟩ := E
    obtain ⟨r', f1, f2⟩ := findA_run hr hk g1 g2 hf (keyA_under hkey)
    have hck := keyA_run hkey hk
    have step : ∀ v', ((Instr.findKey kt k' es'.toList).run P w).andThen (fun a w' => (match a with
          | some (_, u) => pure (if ok then Value.tuple #[u, .bool true] else u)
          | none => do
            let z ← zeroValue elem
            pure (if ok then Value.tuple #[z, .bool false] else z) : Sem Value).run P w') = .ok v' w → (Instr.lookup t x' k' ok).run P w = .ok v' w := by
      intro v' hv
      rw [f1] at hv
      rcases g3 with ⟨rfl, rfl⟩ | ⟨b, ck, rfl, hb⟩
      · cases r' with
        | none => simpa [Instr.lookup, run_underlying hu, hck, f1] using hv
        | some q => simpa [Instr.lookup, run_underlying hu, hck, f1] using hv
      · cases r' with
        | none => simpa [Instr.lookup, run_underlying hu, getObj, Sem.run, hb, hck, f1] using hv
        | some q => simpa [Instr.lookup, run_underlying hu, getObj, Sem.run, hb, hck, f1] using hv
    cases r with
    | some p =>
      cases r' with
      | none => exact f2.elim
      | some q =>
        obtain ⟨a, b, c, _⟩ := f2
        have h' : some (cond ok (.tuple [p.2, .bool true]) p.2) = some v := h
        cases h'
        cases ok with
        | true => exact ⟨_, step _ (by rw [f1]; rfl), pair_vr c (.bool _)⟩
        | false => exact ⟨_, step _ (by rw [f1]; rfl), c⟩
    | none =>
      cases r' with
      | some q => exact f2.elim
      | none =>
        replace h := ob_some (show ob (zeroA P elem) _ = _ from h); obtain ⟨z, hz, h⟩ := h
        obtain ⟨z', hzr, hzv⟩ := zeroA_run hz ρ w
        cases h
        cases ok with
        | true => exact ⟨_, step _ (by rw [f1]; simp [hzr]), pair_vr hzv (.bool _)⟩
        | false => exact ⟨_, step _ (by rw [f1]; simp [hzr]), hzv⟩
  · cases h


noncomputable def atomSame (x y : AV) : Bool :=
  match x, y with
  | .int j a, .int k b => kindEq j k && a == b
  | .str a, .str b => a == b
  | .bool a, .bool b => a == b
  | .ptr none, .ptr none => true
  | .ptr (some (a, o)), .ptr (some (b, q)) => Nat.beq a b && Nat.beq o q
  | _, _ => false

noncomputable def atomsSame (xs : List AV) : List AV → Bool :=
  List.rec (motive := fun _ => List AV → Bool) (fun ys => ys.isEmpty) (fun x _ ih ys => match ys with
    | [] => false
    | y :: ys => cond (atomSame x y) (ih ys) false) xs

noncomputable def keySame (x y : AV) : Bool :=
  match x, y with
  | .agg xs, .agg ys => atomsSame xs ys
  | x, y => atomSame x y

theorem atomSame_bits {ρ : BMap} {x y : AV} {x' y' : Value} (h : atomSame x y = true) (hx : VR ρ x x') (hy : VR ρ y y') (n : Nat) : Instr.sameBits n x' y' = true := by
  unfold atomSame at h
  split at h
  · cases hx; cases hy
    simp only [Bool.and_eq_true] at h
    obtain ⟨h1, h2⟩ := h
    have h1 := of_decide_eq_true h1
    subst h1
    cases n <;> simpa [Instr.sameBits] using h2
  · cases hx; cases hy; cases n <;> simpa [Instr.sameBits] using h
  · cases hx; cases hy; cases n <;> simpa [Instr.sameBits] using h
  · cases hx; cases hy; cases n <;> simp [Instr.sameBits]
  · simp only [Bool.and_eq_true] at h
    obtain ⟨h1, h2⟩ := h
    have h1 := Nat.eq_of_beq_eq_true h1
    have h2 := Nat.eq_of_beq_eq_true h2
    subst h1; subst h2
    cases hx with
    | ptr ha =>
      cases hy with
      | ptr hb =>
        rw [ha] at hb; cases hb
        cases n <;> simp [Instr.sameBits]
  · cases h

theorem atomsSame_bits {ρ : BMap} (n : Nat) : ∀ {xs ys : List AV} {xs' ys' : Array Value}, atomsSame xs ys = true → VRs ρ xs xs' → VRs ρ ys ys' →
    (xs'.size == ys'.size && (xs'.toList.zip ys'.toList).all fun (p : Value × Value) => Instr.sameBits n p.1 p.2) = true := by
  intro xs
  induction xs with
  | nil =>
    intro ys xs' ys' h hx hy
    cases ys with
    | cons y ys => cases h
    | nil =>
      have h1 := hx.1
      have h2 := hy.1
      simp at h1 h2
      have e1 : xs' = #[] := Array.eq_empty_of_size_eq_zero h1.symm
      have e2 : ys' = #[] := Array.eq_empty_of_size_eq_zero h2.symm
      subst e1; subst e2
      rfl
  | cons x xs ih =>
    intro ys xs' ys' h hx hy
    cases ys with
    | nil => cases h
    | cons y ys =>
      have h' : cond (atomSame x y) (atomsSame xs ys) false = true := h
      cases ha : atomSame x y with
      | false => rw [ha] at h'; cases h'
      | true =>
        rw [ha] at h'
        obtain ⟨u, b, rfl, hu, hb⟩ := hx.cons_inv
        obtain ⟨v, c, rfl, hv, hc⟩ := hy.cons_inv
        have i1 := ih h' hb hc
        have i2 := atomSame_bits ha hu hv n
        simp only [Bool.and_eq_true, beq_iff_eq] at i1 ⊢
        refine ⟨by simp [i1.1], ?_⟩
        simp only [Array.toList_append, List.cons_append, List.nil_append, List.zip_cons_cons, List.all_cons, i2, Bool.true_and]
        exact i1.2

theorem keySame_run {P : Program} {ρ : BMap} {x y : AV} {x' y' : Value} (h : keySame x y = true) (hx : VR ρ x x') (hy : VR ρ y y') (w : World) : (Instr.keyThatStays x' y').run P w = .ok y' w := by
  have hb : Instr.sameBits 10000 x' y' = true := by
    unfold keySame at h
    split at h
    · cases hx with
      | agg h1 g1 =>
        cases hy with
        | agg h2 g2 =>
          have := atomsSame_bits 9999 h ⟨h1, g1⟩ ⟨h2, g2⟩
          show Instr.sameBits (9999 + 1) _ _ = true
          simpa [Instr.sameBits] using this
    · exact atomSame_bits h hx hy 10000
  simp [Instr.keyThatStays, hb]

noncomputable def lmod {α : Type} (l : List α) (f : α → α) : Nat → List α :=
  List.rec (motive := fun _ => Nat → List α) (fun _ => []) (fun a r ih i => Nat.rec (f a :: r) (fun j _ => a :: ih j) i) l

omit [Sym] in
theorem lmod_get {α : Type} (f : α → α) : ∀ (l : List α) (i j : Nat), (lmod l f i)[j]? = if j = i then (l[j]?).map f else l[j]?
  | [], i, j => by
    have : lmod ([] : List α) f i = [] := rfl
    rw [this]; simp
  | a :: l, 0, j => by
    have : lmod (a :: l) f 0 = f a :: l := rfl
    rw [this]
    cases j <;> simp
  | a :: l, i + 1, j => by
    have : lmod (a :: l) f (i + 1) = a :: lmod l f i := rfl
    rw [this]
    cases j with
    | zero => simp
    | succ j => simp [lmod_get f l i j]

omit [Sym] in
theorem lmod_len {α : Type} (f : α → α) : ∀ (l : List α) (i : Nat), (lmod l f i).length = l.length
  | [], i => rfl
  | a :: l, 0 => rfl
  | a :: l, i + 1 => by
    have : lmod (a :: l) f (i + 1) = a :: lmod l f i := rfl
    rw [this]; simp [lmod_len f l i]

omit [Sym] in
theorem setObj_run {P : Program} {w : World} {r : Nat} {es es' : Array MapEntry} {ck ck' : Nat} (h : w.heap[r]? = some (.map es ck)) :
    (setObj r (.map es' ck')).run P w = .ok () { w with heap := w.heap.setIfInBounds r (.map es' ck') } := by
  simp [setObj, Sem.run, h]

theorem Ext.setMap {ρ : BMap} {s : St} {w : World} {b r z : Nat} {es0 es : List Ent} {ck0 ck : Nat} {es0' es' : Array MapEntry} (hr : HR ρ s w) (hs : s.get b = some (.map es0 ck0)) (hb : ρ b = some (r, z))
    (h0 : w.heap[r]? = some (.map es0' ck0)) (hl : es.length = es'.size) (he : ∀ (i : Nat) (x : Ent) (e : MapEntry), es[i]? = some x → es'[i]? = some e → ER ρ x e) :
    Ext ρ s w ρ (s.set b (.map es ck)) { w with heap := w.heap.setIfInBounds r (.map es' ck) } := by
  have hlt : r < w.heap.size := (Array.getElem?_eq_some_iff.1 h0).1
  have hbr : BR ρ z (.map es ck) (.map es' ck) := ⟨hl, he, rfl⟩
  refine Ext.write hr hs rfl hb (by simp) (by simp [hlt]) (fun k hk => ?_) rfl rfl rfl hbr
  show (w.heap.setIfInBounds r (.map es' ck))[k]? = _
  rw [Array.getElem?_setIfInBounds_ne (fun e => hk e.symm)]

noncomputable def mapUpdateA (s : St) (t : TypeId) (x k v : AV) : Option St :=
  match P.underlying t, x with
  | some (.map kt _), .map (some b) => match s.get b with
    | some (.map es ck) => cond (keyA P kt k) (ob (findA (fun q => eqA P s 6 kt k q) es 0) fun r =>
        match r with
        | some (i, _) => ob (nth es i) fun e => cond (keySame e.1 k) (some (s.set b (.map (lmod es (fun e => (k, v, e.2.2)) i) ck))) none
        | none => some (s.set b (.map (lapp es [(k, v, ck)]) (Nat.succ ck)))) none
    | _ => none
  | _, _ => none

theorem entry_get {ρ : BMap} {es : List Ent} {es' : Array MapEntry} (hl : es.length = es'.size) (he : ∀ (i : Nat) (x : Ent) (e : MapEntry), es[i]? = some x → es'[i]? = some e → ER ρ x e) {i : Nat} {x : Ent} (h : es[i]? = some x) :
    ∃ e, es'[i]? = some e ∧ ER ρ x e := by
  have hi : i < es'.size := by rw [← hl]; exact (List.getElem?_eq_some_iff.1 h).1
  exact ⟨es'[i], by simp [hi], he i x _ h (by simp [hi])⟩

theorem mapUpdateA_run {P : Program} {ρ : BMap} {s s' : St} {w : World} (hr : HR ρ s w) {t : TypeId} {x k v : AV} {x' k' v' : Value} (h : mapUpdateA P s t x k v = some s') (hx : VR ρ x x') (hk : VR ρ k k') (hv : VR ρ v v') :
    ∃ w', (Instr.mapUpdate t x' k' v').run P w = .ok () w' ∧ Ext ρ s w ρ s' w' := by
  unfold mapUpdateA at h
  split at h
  · rename_i kt elem b hu
    split at h
    · rename_i es ck hs
      replace h := cond_some h; obtain ⟨hkey, h⟩ := h
      replace h := ob_some h; obtain ⟨r, hf, h⟩ := h
      cases hx with
      | map hb =>
        rename_i rb z
        obtain ⟨es', h1, h2, h3⟩ := hr.map hs hb
        obtain ⟨r', f1, f2⟩ := findA_run hr hk (by rw [Array.length_toList]; exact h2) (fun i x e a c => h3 i x e a (by simpa using c)) hf (keyA_under hkey)
        have hck := keyA_run hkey hk false w
        cases r with
        | some p =>
          cases r' with
          | none => exact f2.elim
          | some q =>
            obtain ⟨a, _, _, _⟩ := f2
            obtain ⟨i, pv⟩ := p
            obtain ⟨j, qv⟩ := q
            dsimp only at a
            subst a
            replace h := ob_some (show ob (nth es i) _ = _ from h); obtain ⟨e, hne, h⟩ := h
            replace h := cond_some h; obtain ⟨hsame, h⟩ := h
            cases h
            rw [nth_eq] at hne
            obtain ⟨e', ge, re⟩ := entry_get h2 h3 hne
            have hstay := keySame_run (P := P) hsame re.1 hk w
            have hso := setObj_run (P := P) (es' := es'.modify i fun e => { e with key := k', val := v' }) (ck' := ck) h1
            refine ⟨_, ?_, Ext.setMap (es' := es'.modify i fun e => { e with key := k', val := v' }) hr hs hb h1 (by rw [lmod_len]; simpa using h2) (fun j x y hx hy => ?_)⟩
            · simp [Instr.mapUpdate, run_underlying hu, getObj, Sem.run, h1, hck, f1, ge, hstay, hso]
            · rw [lmod_get] at hx
              rw [Array.getElem?_modify] at hy
              by_cases hji : j = i
              · subst hji
                rw [if_pos rfl] at hx hy
                rw [hne] at hx; rw [ge] at hy
                simp at hx hy
                subst hx; subst hy
                exact ⟨hk, hv, re.2.2⟩
              · rw [if_neg hji] at hx
                rw [if_neg (fun e => hji e.symm)] at hy
                exact h3 j x y hx hy
        | none =>
          cases r' with
          | some q => exact f2.elim
          | none =>
            have h' : some (s.set b (.map (lapp es [(k, v, ck)]) (Nat.succ ck))) = some s' := h
            cases h'
            have hso := setObj_run (P := P) (es' := es'.push { key := k', val := v', born := ck }) (ck' := ck + 1) h1
            refine ⟨_, ?_, Ext.setMap (es' := es'.push { key := k', val := v', born := ck }) hr hs hb h1 (by rw [lapp_eq]; simp [h2]) (fun j x y hx hy => ?_)⟩
            · simp [Instr.mapUpdate, run_underlying hu, getObj, Sem.run, h1, hck, f1, hso]
            · rw [lapp_eq, List.getElem?_append] at hx
              rw [Array.getElem?_push] at hy
              split at hx
              · rename_i hj
                rw [if_neg (by omega)] at hy
                exact h3 j x y hx hy
              · rename_i hj
                by_cases hje : j = es'.size
                · rw [if_pos hje] at hy
                  rw [show j - es.length = 0 by omega] at hx
                  simp at hx hy
                  subst hx; subst hy
                  exact ⟨hk, hv, rfl⟩
                · rw [List.getElem?_eq_none (by simp; omega)] at hx
                  cases hx
    · cases h
  · cases h

noncomputable def mapEntryA (s : St) (t : TypeId) (x k : AV) : Option (AV × St) :=
  match P.underlying t, x with
  | some (.map kt elem), .map (some b) => match s.get b with
    | some (.map es ck) => cond (keyA P kt k) (ob (findA (fun q => eqA P s 6 kt k q) es 0) fun r =>
        match r with
        | some (i, v) => ob (nth es i) fun e => cond (keySame e.1 k) (some (.tuple [v, .int .i64 (Int.ofNat e.2.2)], s.set b (.map (lmod es (fun e => (k, e.2)) i) ck))) none
        | none => ob (zeroA P elem) fun z => some (.tuple [z, .int .i64 (Int.ofNat ck)], s.set b (.map (lapp es [(k, z, ck)]) (Nat.succ ck)))) none
    | _ => none
  | _, _ => none

theorem mapEntryA_run {P : Program} {ρ : BMap} {s s' : St} {w : World} (hr : HR ρ s w) {t : TypeId} {x k u : AV} {x' k' : Value} (h : mapEntryA P s t x k = some (u, s')) (hx : VR ρ x x') (hk : VR ρ k k') :
    ∃ u' w', (Instr.mapEntry t x' k').run P w = .ok u' w' ∧ Ext ρ s w ρ s' w' ∧ VR ρ u u' := by
  unfold mapEntryA at h
  split at h
  · rename_i kt elem b hu
    split at h
    · rename_i es ck hs
      replace h := cond_some h; obtain ⟨hkey, h⟩ := h
      replace h := ob_some h; obtain ⟨r, hf, h⟩ := h
      cases hx with
      | map hb =>
        rename_i rb z
        obtain ⟨es', h1, h2, h3⟩ := hr.map hs hb
        obtain ⟨r', f1, f2⟩ := findA_run hr hk (by rw [Array.length_toList]; exact h2) (fun i x e a c => h3 i x e a (by simpa using c)) hf (keyA_under hkey)
        have hck := keyA_run hkey hk false w
        cases r with
        | some p =>
          cases r' with
          | none => exact f2.elim
          | some q =>
            obtain ⟨a, _, hval, _⟩ := f2
            obtain ⟨i, pv⟩ := p
            obtain ⟨j, qv⟩ := q
            dsimp only at a hval
            subst a
            replace h := ob_some (show ob (nth es i) _ = _ from h); obtain ⟨e, hne, h⟩ := h
            replace h := cond_some h; obtain ⟨hsame, h⟩ := h
            cases h
            rw [nth_eq] at hne
            obtain ⟨e', ge, re⟩ := entry_get h2 h3 hne
            have hstay := keySame_run (P := P) hsame re.1 hk w
            have hso := setObj_run (P := P) (es' := es'.modify i fun e => { e with key := k' }) (ck' := ck) h1
            refine ⟨.tuple #[qv, .int .i64 (e'.born : Int)], _, ?_, Ext.setMap (es' := es'.modify i fun e => { e with key := k' }) hr hs hb h1 (by rw [lmod_len]; simpa using h2) (fun j x y hx hy => ?_), ?_⟩
            · simp [Instr.mapEntry, run_underlying hu, getObj, Sem.run, h1, hck, f1, ge, hstay, hso, goInt]
            · rw [lmod_get] at hx
              rw [Array.getElem?_modify] at hy
              by_cases hji : j = i
              · subst hji
                rw [if_pos rfl] at hx hy
                rw [hne] at hx; rw [ge] at hy
                simp at hx hy
                subst hx; subst hy
                exact ⟨hk, re.2.1, re.2.2⟩
              · rw [if_neg hji] at hx
                rw [if_neg (fun e => hji e.symm)] at hy
                exact h3 j x y hx hy
            · refine pair_vr hval ?_
              rw [re.2.2]; exact .int _ _
        | none =>
          cases r' with
          | some q => exact f2.elim
          | none =>
            replace h := ob_some (show ob (zeroA P elem) _ = _ from h); obtain ⟨zv, hz, h⟩ := h
            obtain ⟨z', hzr, hzv⟩ := zeroA_run hz ρ w
            cases h
            have hso := setObj_run (P := P) (es' := es'.push { key := k', val := z', born := ck }) (ck' := ck + 1) h1
            refine ⟨.tuple #[z', .int .i64 (ck : Int)], _, ?_, Ext.setMap (es' := es'.push { key := k', val := z', born := ck }) hr hs hb h1 (by rw [lapp_eq]; simp [h2]) (fun j x y hx hy => ?_), pair_vr hzv (.int _ _)⟩
            · simp [Instr.mapEntry, run_underlying hu, getObj, Sem.run, h1, hck, f1, hzr, hso, goInt]
            · rw [lapp_eq, List.getElem?_append] at hx
              rw [Array.getElem?_push] at hy
              split at hx
              · rename_i hj
                rw [if_neg (by omega)] at hy
                exact h3 j x y hx hy
              · rename_i hj
                by_cases hje : j = es'.size
                · rw [if_pos hje] at hy
                  rw [show j - es.length = 0 by omega] at hx
                  simp at hx hy
                  subst hx; subst hy
                  exact ⟨hk, hzv, rfl⟩
                · rw [List.getElem?_eq_none (by simp; omega)] at hx
                  cases hx
    · cases h
  · cases h

noncomputable def findBorn (n : Nat) (es : List Ent) : Nat → Option Nat :=
  List.rec (motive := fun _ => Nat → Option Nat) (fun _ => none) (fun e _ ih i => cond (Nat.beq e.2.2 n) (some i) (ih (Nat.succ i))) es

omit [Sym] in
theorem findBorn_run {n : Nat} : ∀ {es : List Ent} {es' : List MapEntry} {i j : Nat}, es.length = es'.length → (∀ (i : Nat) (x : Ent) (e : MapEntry), es[i]? = some x → es'[i]? = some e → e.born = x.2.2) → findBorn n es i = some j →
    ∃ q, es'.findIdx? (fun e => (e.born : Int) == (n : Int)) = some q ∧ j = i + q := by
  intro es
  induction es with
  | nil => intro es' i j hl he h; cases h
  | cons x es ih =>
    intro es' i j hl he h
    cases es' with
    | nil => simp at hl
    | cons e es' =>
      have hb := he 0 x e (by simp) (by simp)
      have h' : cond (Nat.beq x.2.2 n) (some i) (findBorn n es (Nat.succ i)) = some j := h
      rw [List.findIdx?_cons]
      by_cases hn : x.2.2 = n
      · rw [beq_yes hn] at h'
        cases h'
        exact ⟨0, by simp [hb, hn], rfl⟩
      · rw [beq_no hn] at h'
        obtain ⟨q, h1, h2⟩ := ih (es' := es') (by simpa using hl) (fun i x e a b => he (i + 1) x e (by simpa using a) (by simpa using b)) h'
        have hne : ((e.born : Int) == (n : Int)) = false := by
          rw [hb]; exact beq_eq_false_iff_ne.2 (by omega)
        exact ⟨q + 1, by simp [hne, h1], by omega⟩

noncomputable def entryStoreA (s : St) (x stamp v : AV) : Option St :=
  ob stamp.nat fun n =>
  match x with
  | .map (some b) => match s.get b with
    | some (.map es ck) => ob (findBorn n es 0) fun i => some (s.set b (.map (lmod es (fun e => (e.1, v, e.2.2)) i) ck))
    | _ => none
  | _ => none

theorem entryStoreA_run {P : Program} {ρ : BMap} {s s' : St} {w : World} (hr : HR ρ s w) {t : TypeId} {x k v : AV} {x' k' v' : Value} (h : entryStoreA s x k v = some s') (hx : VR ρ x x') (hk : VR ρ k k') (hv : VR ρ v v') :
    ∃ w', (Instr.entryStore t x' k' v').run P w = .ok () w' ∧ Ext ρ s w ρ s' w' := by
  replace h := ob_some h; obtain ⟨n, hn, h⟩ := h
  obtain ⟨kk, rfl⟩ := k.nat_vr hn hk
  split at h
  · rename_i b
    split at h
    · rename_i es ck hs
      replace h := ob_some h; obtain ⟨i, hi, h⟩ := h
      cases h
      cases hx with
      | map hb =>
        rename_i rb z
        obtain ⟨es', h1, h2, h3⟩ := hr.map hs hb
        obtain ⟨q, f1, f2⟩ := findBorn_run (es' := es'.toList) (by rw [Array.length_toList]; exact h2) (fun i x e a c => (h3 i x e a (by simpa using c)).2.2) hi
        rw [Nat.zero_add] at f2
        subst f2
        have f1' : es'.findIdx? (fun e => (e.born : Int) == (n : Int)) = some i := by
          rw [← f1]
          obtain ⟨l⟩ := es'
          exact List.findIdx?_toArray ..
        have hso := setObj_run (P := P) (es' := es'.modify i fun e => { e with val := v' }) (ck' := ck) h1
        refine ⟨_, ?_, Ext.setMap (es' := es'.modify i fun e => { e with val := v' }) hr hs hb h1 (by rw [lmod_len]; simpa using h2) (fun j x y hx hy => ?_)⟩
        · simp [Instr.entryStore, asInt, asIntOf, getObj, Sem.run, h1, f1', hso]
        · rw [lmod_get] at hx
          rw [Array.getElem?_modify] at hy
          by_cases hji : j = i
          · subst hji
            rw [if_pos rfl] at hx hy
            cases hx0 : es[j]? with
            | none => rw [hx0] at hx; cases hx
            | some x0 =>
              obtain ⟨e', ge, re⟩ := entry_get h2 h3 hx0
              rw [hx0] at hx; rw [ge] at hy
              simp at hx hy
              subst hx; subst hy
              exact ⟨re.1, hv, re.2.2⟩
          · rw [if_neg hji] at hx
            rw [if_neg (fun e => hji e.symm)] at hy
            exact h3 j x y hx hy
    · cases h
  · cases h

end Go.Proofs.Bx
