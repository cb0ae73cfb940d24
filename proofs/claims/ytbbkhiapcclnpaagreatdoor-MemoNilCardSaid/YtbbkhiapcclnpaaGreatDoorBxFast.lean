/- The same as before, written so that the kernel runs it faster: what an operation is, is chosen among constants. -/
import Derived.Test.YtbbkhiapcclnpaaGreatDoorBxDrawn
set_option linter.unusedVariables false
set_option linter.unusedSimpArgs false
set_option linter.unusedSectionVars false
namespace Go.Proofs.Bx
open Go

abbrev KF := Program → Ev → Oper → K

noncomputable def kNo0 : KF := fun _ _ _ => .no
noncomputable def kMove (x : Operand) : KF := fun _ ev _ => .val (ev x)
noncomputable def kPick (c x y : Operand) : KF := fun _ ev _ => .val (pickA ev c x y)
noncomputable def kAlloc (t : TypeId) : KF := fun P _ _ => .make (allocA P t)
noncomputable def kBox (_ : TypeId) (x : Operand) : KF := fun _ ev _ => .make (ob (ev x) boxA)
noncomputable def kBuild (t : TypeId) (parts : Array (Nat × Operand)) : KF := fun P ev _ => .val (ob (evParts ev parts.toList) (buildA P t))
noncomputable def kBuildSlice (t : TypeId) (n : Nat) (parts : Array (Nat × Operand)) : KF := fun P ev _ => .make (ob (evParts ev parts.toList) (buildSliceA P t n))
noncomputable def kMapPut (t : TypeId) (m k v : Operand) : KF := fun P ev _ => .eff fun s => ob (ev m) fun m => ob (ev k) fun k => ob (ev v) fun v => ob (mapUpdateA P s t m k v) fun s => some (none, s)
noncomputable def kLoad (t : TypeId) (a : Operand) : KF := fun P ev _ => .read fun s => ob (ev a) (loadA P s t)
noncomputable def kStore (t : TypeId) (a v : Operand) : KF := fun P ev _ => .eff fun s => ob (ev a) fun a => ob (ev v) fun v => ob (storeA P s t a v) fun s => some (none, s)
noncomputable def kN1 (_ : Nat) : KF := kNo0
noncomputable def kNilCheck (x : Operand) : KF := fun _ ev _ => .val (ob (ev x) nilCheckA)
noncomputable def kBin (op : BinOp) (t : TypeId) (x y : Operand) (_ : TypeId) : KF := fun P ev _ => .read fun s => ob (ev x) fun a => ob (ev y) fun b => binA P s op t x y a b
noncomputable def kUn (op : UnOp) (_ : TypeId) (x : Operand) : KF := fun _ ev _ => .val (ob (ev x) (unPlain op))
noncomputable def kConvert (s d : TypeId) (x : Operand) : KF := fun P ev _ => convK P s d (ev x)
noncomputable def kNTO (_ : TypeId) (_ : Operand) : KF := kNo0
noncomputable def kIface (t : TypeId) (x : Operand) : KF := fun P ev _ => .val (ob (ev x) (ifaceA P t))
noncomputable def kFunc (fn : Fn) (f c : Array Operand) : KF := fun _ ev _ => .val (ob (lmapO ev f.toList) fun fs => ob (lmapO ev c.toList) fun cs => some (.func fn fs cs))
noncomputable def kMakeMap (_ : TypeId) (r : Option Operand) : KF := fun _ _ _ => match r with
  | none => .make (makeMapA none)
  | some _ => .no
noncomputable def kMakeSlice (t : TypeId) (n c : Operand) : KF := fun P ev _ => .make (ob (ev n) fun n => ob (ev c) fun c => makeSliceA P t n c)
noncomputable def kSlice (t : TypeId) (x : Operand) (l h m : Option Operand) : KF := fun P ev _ => .val (ob (ev x) fun x => evO ev l fun l => evO ev h fun h => evO ev m fun m => sliceA P t x l h m)
noncomputable def kFieldAddr (t : TypeId) (x : Operand) (f : Nat) : KF := fun P ev _ => .val (ob (ev x) fun x => fieldAddrA P t x f)
noncomputable def kField (t : TypeId) (x : Operand) (f : Nat) : KF := fun P ev _ => .val (ob (ev x) fun x => fieldA P t x f)
noncomputable def kIndexAddr (t : TypeId) (x i : Operand) : KF := fun P ev _ => .val (ob (ev x) fun x => ob (ev i) fun i => indexAddrA P t x i)
noncomputable def kIndex (t : TypeId) (x i : Operand) : KF := fun P ev _ => .val (ob (ev x) fun x => ob (ev i) fun i => indexA P t x i)
noncomputable def kLookup (t : TypeId) (x k : Operand) (ok : Bool) : KF := fun P ev _ => .read fun s => ob (ev x) fun x => ob (ev k) fun k => lookupA P s t x k ok
noncomputable def kMapEntry (t : TypeId) (m k : Operand) : KF := fun P ev _ => .eff fun s => ob (ev m) fun m => ob (ev k) fun k => ob (mapEntryA P s t m k) fun r => some (some r.1, r.2)
noncomputable def kEntryStore (_ : TypeId) (m k v : Operand) : KF := fun _ ev _ => .eff fun s => ob (ev m) fun m => ob (ev k) fun k => ob (ev v) fun v => ob (entryStoreA s m k v) fun s => some (none, s)
noncomputable def kNOB (_ : Operand) (_ : Bool) : KF := kNo0
noncomputable def kNO (_ : Operand) : KF := kNo0
noncomputable def kAssert (x : Operand) (_ t : TypeId) (ok : Bool) : KF := fun P ev _ => .val (ob (ev x) fun x => assertA P x t ok)
noncomputable def kExtract (x : Operand) (i : Nat) : KF := fun _ ev _ => .val (ob (ev x) fun x => extractA x i)
noncomputable def kCall (c : Call) : KF := fun P ev o => match c.callee with
    | .builtin b => builtinOf P ev o b c.args.toList c.argTypes.toList
    | .value f => callOf ev f c.args.toList
    | .invoke _ _ => .no
noncomputable def kNC (_ : Call) : KF := kNo0
noncomputable def kNOO (_ _ : Operand) : KF := kNo0
noncomputable def kNTOB (_ : TypeId) (_ : Operand) (_ : Bool) : KF := kNo0
noncomputable def kNSel (_ : Array SelectCase) (_ : Bool) : KF := kNo0

noncomputable def kindF (P : Program) (ev : Ev) (o : Oper) : K :=
  Op.rec (motive := fun _ => KF) kMove kMove kPick kAlloc kBox kBuild kBuildSlice kMapPut kLoad kStore kN1 kN1 kNilCheck kBin kUn kConvert kNTO kIface kFunc kMakeMap kNTO kMakeSlice kSlice kFieldAddr kField
    kIndexAddr kIndex kLookup kMapPut kMapEntry kEntryStore kNTO kNOB kNO kAssert kExtract kCall kNC kNC kNO kNOO kNTOB kNSel o.op P ev o

theorem kindF_eq (P : Program) (ev : Ev) (o : Oper) : kindF P ev o = kindOf P ev o := by
  obtain ⟨dst, op, ty, pos, aft, gd⟩ := o
  cases op <;> try rfl
  rename_i t r
  cases r <;> rfl


/-! One operation. -/

abbrev DF := CallK → St → Option (AV × St)

noncomputable def dVal (v : Option AV) : DF := fun _ s => Option.rec none (fun v => some (v, s)) v
noncomputable def dRead (f : St → Option AV) : DF := fun _ s => Option.rec none (fun v => some (v, s)) (f s)
noncomputable def dMake (n : Option New) : DF := fun _ s => Option.rec none (fun n => some (n.res s.next, s.new n.blk)) n
noncomputable def dEff (f : St → Option (Option AV × St)) : DF := fun _ s => Option.rec none (fun r => some (Option.rec .undef (fun v => v) r.1, r.2)) (f s)
noncomputable def dCall (g : Tgt) (args : List AV) : DF := fun callK s => callK g args s
noncomputable def dNo : DF := fun _ _ => none

noncomputable def doF (P : Program) (callK : CallK) (ev : Ev) (o : Oper) (s : St) : Option (AV × St) := K.rec (motive := fun _ => DF) dVal dRead dMake dEff dCall dNo (kindF P ev o) callK s

theorem doF_eq (P : Program) (callK : CallK) (ev : Ev) (o : Oper) (s : St) : doF P callK ev o s = doV P callK ev o s := by
  unfold doF doV
  rw [kindF_eq]
  cases kindOf P ev o with
  | val v => cases v <;> rfl
  | read f => cases h : f s <;> (show (Option.rec none (fun v => some (v, s)) (f s) : Option (AV × St)) = ob (f s) fun v => some (v, s)) <;> rw [h]
  | make n => cases n <;> rfl
  | eff f =>
    show (Option.rec none (fun r => some (Option.rec .undef (fun v => v) r.1, r.2)) (f s) : Option (AV × St)) = ob (f s) fun r => some (r.1.getD .undef, r.2)
    cases h : f s with
    | none => rfl
    | some r =>
      obtain ⟨a, b⟩ := r
      cases a <;> rfl
  | call g args => rfl
  | no => rfl

noncomputable def oneDo (P : Program) (callK : CallK) (_ : Array Oper) (o : Oper) (F : Fr) (s : St) : Option (Fr × St) := Option.rec none (fun r => some (F.putO o.dst r.1, r.2)) (doF P callK F.ev o s)
noncomputable def oneSkip (_ : Program) (_ : CallK) (_ : Array Oper) (o : Oper) (F : Fr) (s : St) : Option (Fr × St) := some (F.putO o.dst .skip, s)
noncomputable def oneG (g : Nat × Bool) (P : Program) (callK : CallK) (ops : Array Oper) (o : Oper) (F : Fr) (s : St) : Option (Fr × St) :=
  Option.rec none (fun b => Bool.rec oneSkip oneDo b P callK ops o F s) (wantA ops F (some g))

noncomputable def oneF (P : Program) (callK : CallK) (ops : Array Oper) (o : Oper) (F : Fr) (s : St) : Option (Fr × St) := Option.rec oneDo oneG o.guard P callK ops o F s

theorem oneDo_eq (P : Program) (callK : CallK) (ops : Array Oper) (o : Oper) (F : Fr) (s : St) : oneDo P callK ops o F s = doA P callK o F s := by
  unfold oneDo doA
  rw [doF_eq]

theorem oneF_eq (P : Program) (callK : CallK) (ops : Array Oper) (o : Oper) (F : Fr) (s : St) : oneF P callK ops o F s = oneA P callK ops o F s := by
  unfold oneF oneA
  cases o.guard with
  | none => exact oneDo_eq P callK ops o F s
  | some g =>
    show (Option.rec none (fun b => Bool.rec oneSkip oneDo b P callK ops o F s) (wantA ops F (some g)) : Option (Fr × St)) = ob (wantA ops F (some g)) _
    cases wantA ops F (some g) with
    | none => rfl
    | some b =>
      cases b with
      | false => rfl
      | true => exact oneDo_eq P callK ops o F s

noncomputable def runStepF (P : Program) (callK : CallK) (ops : Array Oper) (o : Oper) (ih : Fr → St → Option (Fr × St)) (F : Fr) (s : St) : Option (Fr × St) := Option.rec none (fun r => ih r.1 r.2) (oneF P callK ops o F s)

noncomputable def runF (P : Program) (callK : CallK) (ops : Array Oper) (l : List Oper) : Fr → St → Option (Fr × St) :=
  List.rec (motive := fun _ => Fr → St → Option (Fr × St)) (fun F s => some (F, s)) (fun o _ ih => runStepF P callK ops o ih) l

theorem runF_eq (P : Program) (callK : CallK) (ops : Array Oper) : ∀ (l : List Oper) (F : Fr) (s : St), runF P callK ops l F s = runA P callK ops l F s := by
  intro l
  induction l with
  | nil => intro F s; rfl
  | cons o l ih =>
    intro F s
    show (Option.rec none (fun r => runF P callK ops l r.1 r.2) (oneF P callK ops o F s) : Option (Fr × St)) = ob (oneA P callK ops o F s) fun r => runA P callK ops l r.1 r.2
    rw [oneF_eq]
    cases oneA P callK ops o F s with
    | none => rfl
    | some r => exact ih _ _

/-! Regions that draw. -/

abbrev QF := Nat × Nat → Nat → List St → Oper → Fr → St → Option (Fr × St)
noncomputable def qVal (v : Option AV) : QF := fun _ _ _ o F cur => Option.rec none (fun v => some (F.putO o.dst v, cur)) v
noncomputable def qRead (f : St → Option AV) : QF := fun x _ hs o F cur => Option.rec none (fun v => some (F.putO o.dst v, cur)) (readQ f hs x.2)
noncomputable def qMake (n : Option New) : QF := fun x base _ o F cur => Option.rec none (fun n => some (F.putO o.dst (n.res (Nat.add base x.1)), cur.put (Nat.add base x.1) n.blk)) n
noncomputable def qEff (_ : St → Option (Option AV × St)) : QF := fun _ _ _ _ _ _ => none
noncomputable def qCall (_ : Tgt) (_ : List AV) : QF := fun _ _ _ _ _ _ => none
noncomputable def qNo : QF := fun _ _ _ _ _ _ => none

noncomputable def quietDo (P : Program) (base : Nat) (hs : List St) (x : Nat × Nat) (o : Oper) (F : Fr) (cur : St) : Option (Fr × St) :=
  K.rec (motive := fun _ => QF) qVal qRead qMake qEff qCall qNo (kindF P F.ev o) x base hs o F cur

noncomputable def quietB (b : Bool) (P : Program) (base : Nat) (hs : List St) (x : Nat × Nat) (o : Oper) (F : Fr) (cur : St) : Option (Fr × St) :=
  Bool.rec (some (F.putO o.dst .skip, cur)) (quietDo P base hs x o F cur) b

noncomputable def quietF (P : Program) (ops : Array Oper) (base : Nat) (hs : List St) (x : Nat × Nat) (F : Fr) (cur : St) : Option (Fr × St) :=
  Option.rec none (fun b => quietB b P base hs x (opAt ops.toList x.1) F cur) (wantA ops F (opAt ops.toList x.1).guard)

theorem quietF_eq (P : Program) (ops : Array Oper) (base : Nat) (hs : List St) (x : Nat × Nat) (F : Fr) (cur : St) : quietF P ops base hs x F cur = quietA P ops base hs x F cur := by
  unfold quietF quietA
  show _ = ob (wantA ops F (opAt ops.toList x.1).guard) _
  cases wantA ops F (opAt ops.toList x.1).guard with
  | none => rfl
  | some b =>
    cases b with
    | false => rfl
    | true =>
      show quietDo P base hs x (opAt ops.toList x.1) F cur = match kindOf P F.ev (opAt ops.toList x.1) with
        | .val (some v) => some (F.putO (opAt ops.toList x.1).dst v, cur)
        | .read f => ob (readQ f hs x.2) fun v => some (F.putO (opAt ops.toList x.1).dst v, cur)
        | .make (some n) => some (F.putO (opAt ops.toList x.1).dst (n.res (Nat.add base x.1)), cur.put (Nat.add base x.1) n.blk)
        | _ => none
      unfold quietDo
      rw [kindF_eq]
      cases kindOf P F.ev (opAt ops.toList x.1) with
      | val v => cases v <;> rfl
      | read f => rfl
      | make n => cases n <;> rfl
      | eff f => rfl
      | call g args => rfl
      | no => rfl

noncomputable def quietsF (P : Program) (ops : Array Oper) (base : Nat) (hs : List St) (l : List (Nat × Nat)) : Fr → St → Option (Fr × St) :=
  List.rec (motive := fun _ => Fr → St → Option (Fr × St)) (fun F s => some (F, s)) (fun x _ ih F s => Option.rec none (fun r => ih r.1 r.2) (quietF P ops base hs x F s)) l

theorem quietsF_eq (P : Program) (ops : Array Oper) (base : Nat) (hs : List St) : ∀ (l : List (Nat × Nat)) (F : Fr) (s : St), quietsF P ops base hs l F s = quietsA P ops base hs l F s := by
  intro l
  induction l with
  | nil => intro F s; rfl
  | cons x l ih =>
    intro F s
    show (Option.rec none (fun r => quietsF P ops base hs l r.1 r.2) (quietF P ops base hs x F s) : Option (Fr × St)) = ob (quietA P ops base hs x F s) fun r => quietsA P ops base hs l r.1 r.2
    rw [quietF_eq]
    cases quietA P ops base hs x F s with
    | none => rfl
    | some r => exact ih _ _

abbrev SgF := Program → CallK → Array Oper → (List St → Fr → St → Option (Fr × St)) → List St → Fr → St → Option (Fr × St)
noncomputable def sgNone : SgF := fun _ _ _ ih hs F s => ih hs F s
noncomputable def sgSome (e : Nat) : SgF := fun P callK ops ih hs F s => Option.rec none (fun q => ih (q.2 :: hs) q.1 q.2) (oneF P callK ops (opAt ops.toList e) F s)

noncomputable def segsF (P : Program) (callK : CallK) (ops : Array Oper) (base : Nat) (p : List Seg) : List St → Fr → St → Option (Fr × St) :=
  List.rec (motive := fun _ => List St → Fr → St → Option (Fr × St)) (fun _ F s => some (F, s))
    (fun g _ ih hs F s => Option.rec none (fun r => Option.rec sgNone sgSome g.eff P callK ops ih hs r.1 r.2) (quietsF P ops base hs g.ahead F s)) p

theorem segsF_eq (P : Program) (callK : CallK) (ops : Array Oper) (base : Nat) : ∀ (p : List Seg) (hs : List St) (F : Fr) (s : St), segsF P callK ops base p hs F s = segsA P callK ops base p hs F s := by
  intro p
  induction p with
  | nil => intro hs F s; rfl
  | cons g p ih =>
    intro hs F s
    show (Option.rec none (fun r => Option.rec sgNone sgSome g.eff P callK ops (segsF P callK ops base p) hs r.1 r.2) (quietsF P ops base hs g.ahead F s) : Option (Fr × St)) =
      ob (quietsA P ops base hs g.ahead F s) fun r => match g.eff with
      | some e => ob (oneA P callK ops (opAt ops.toList e) r.1 r.2) fun q => segsA P callK ops base p (q.2 :: hs) q.1 q.2
      | none => segsA P callK ops base p hs r.1 r.2
    rw [quietsF_eq]
    cases quietsA P ops base hs g.ahead F s with
    | none => rfl
    | some r =>
      obtain ⟨F1, s1⟩ := r
      cases g.eff with
      | none => exact ih _ _ _
      | some e =>
        show (Option.rec none (fun q => segsF P callK ops base p (q.2 :: hs) q.1 q.2) (oneF P callK ops (opAt ops.toList e) F1 s1) : Option (Fr × St)) = ob (oneA P callK ops (opAt ops.toList e) F1 s1) _
        rw [oneF_eq]
        cases oneA P callK ops (opAt ops.toList e) F1 s1 with
        | none => rfl
        | some q => exact ih _ _ _

noncomputable def drawF (P : Program) (callK : CallK) (ops : Array Oper) (F : Fr) (s : St) : Option (Fr × St) :=
  Bool.rec none (segsF P callK ops s.next (planOf ops.toList) [⟨s.heap, Nat.add s.next (llen ops.toList)⟩] F ⟨s.heap, Nat.add s.next (llen ops.toList)⟩) (planOk ops.toList)

theorem drawF_eq (P : Program) (callK : CallK) (ops : Array Oper) (F : Fr) (s : St) : drawF P callK ops F s = drawA P callK ops F s := by
  unfold drawF drawA
  cases planOk ops.toList with
  | false => rfl
  | true => exact segsF_eq P callK ops s.next _ _ _ _

end Go.Proofs.Bx
