/- Regions that draw their order: a plan of the operations, made once, and how the abstract memory is led through it. -/
import Derived.Test.YtbbkhiapcclnpaaGreatDoorBxExec
set_option linter.unusedVariables false
set_option linter.unusedSimpArgs false
set_option linter.unusedSectionVars false
namespace Go.Proofs.Bx
open Go

/-! The plan. -/

/-- The operations that write what was there, or call. -/
def isEff (o : Oper) : Bool :=
  match o.op with
  | .store _ _ _ => true
  | .mapUpdate _ _ _ _ => true
  | .insert _ _ _ _ => true
  | .mapEntry _ _ _ => true
  | .entryStore _ _ _ _ => true
  | .call c => match c.callee with
    | .builtin .len => false
    | .builtin .max => false
    | .builtin .min => false
    | .builtin .cap => false
    | _ => true
  | _ => false

/-- The operations that stand directly before one. -/
noncomputable def depsOf (o : Oper) : List Nat :=
  List.rec (motive := fun _ => List Nat) [] (fun (e : Edge) _ ih => cond (Region.binds .any e) (e.on :: ih) ih) o.after.toList

/-- For each operation the numbers of all that stand before it, as bits; the last one first. -/
noncomputable def masks (l : List Oper) : List Nat → List Nat :=
  List.rec (motive := fun _ => List Nat → List Nat) (fun acc => acc) (fun o _ ih acc =>
    ih (lapp acc [List.rec (motive := fun _ => Nat) 0 (fun d _ ih => Nat.lor (Nat.lor (Nat.pow 2 d) (Option.rec 0 (fun m => m) (nth acc d))) ih) (depsOf o)])) l

noncomputable def maskOf (B : List Nat) (i : Nat) : Nat := Option.rec 0 (fun m => m) (nth B i)

/-- Does the j-th stand before the i-th? -/
noncomputable def prec (B : List Nat) (j i : Nat) : Bool := Nat.beq (Nat.land (Nat.shiftRight (maskOf B i) j) 1) 1

noncomputable def mem (l : List Nat) (i : Nat) : Bool := List.rec (motive := fun _ => Bool) false (fun a _ ih => cond (Nat.beq a i) true ih) l

noncomputable def lfilter {α : Type} (p : α → Bool) (l : List α) : List α := List.rec (motive := fun _ => List α) [] (fun a _ ih => cond (p a) (a :: ih) ih) l

noncomputable def lmap {α β : Type} (f : α → β) (l : List α) : List β := List.rec (motive := fun _ => List β) [] (fun a _ ih => f a :: ih) l

noncomputable def lall {α : Type} (p : α → Bool) (l : List α) : Bool := List.rec (motive := fun _ => Bool) true (fun a _ ih => cond (p a) ih false) l

noncomputable def upto (n : Nat) : List Nat := Nat.rec (motive := fun _ => List Nat) [] (fun k ih => lapp ih [k]) n

/-- What is done ahead of an effect, each with the number of elder memories in which it must read the same; the effect. -/
structure Seg where
  ahead : List (Nat × Nat)
  eff : Option Nat

/-- How many of the effects so far (the last one first) do not stand before the i-th. -/
noncomputable def floats (B : List Nat) (i : Nat) (es : List Nat) : Nat :=
  List.rec (motive := fun _ => Nat) 0 (fun e _ ih => cond (prec B e i) 0 (Nat.succ ih)) es

noncomputable def planGo (B : List Nat) (n : Nat) (es : List Nat) : List Nat → List Nat → List Seg :=
  List.rec (motive := fun _ => List Nat → List Nat → List Seg)
    (fun before done => [⟨lmap (fun i => (i, floats B i before)) (lfilter (fun i => !mem done i) (upto n)), none⟩])
    (fun e _ ih before done =>
      ⟨lmap (fun i => (i, floats B i before)) (lfilter (fun i => prec B i e && !mem done i) (upto n)), some e⟩ ::
        ih (e :: before) (e :: lapp (lfilter (fun i => prec B i e && !mem done i) (upto n)) done)) es

noncomputable def opAt (ops : List Oper) (i : Nat) : Oper := Option.rec default (fun o => o) (nth ops i)

noncomputable def planOf (ops : List Oper) : List Seg :=
  planGo (masks ops []) (llen ops) (lfilter (fun i => isEff (opAt ops i)) (upto (llen ops))) [] []

/-- All that the plan runs through, in order. -/
noncomputable def ordOf (p : List Seg) : List Nat :=
  List.rec (motive := fun _ => List Nat) [] (fun s _ ih => lapp (lmap (fun x => x.1) s.ahead) (match s.eff with
    | some e => e :: ih
    | none => ih)) p

/-- The slots that an operation looks at. -/
noncomputable def looksOf (ops : List Oper) (o : Oper) : List Nat :=
  lapp (List.rec (motive := fun _ => List Nat) [] (fun x _ ih => match x with
    | .tmp t => t :: ih
    | _ => ih) o.op.operands.toList)
    (match o.guard with
     | some (g, _) => match (opAt ops g).dst with
       | some d => [d]
       | none => []
     | none => [])

noncomputable def dstIs (o : Oper) (t : Nat) : Bool :=
  match o.dst with
  | some d => Nat.beq d t
  | none => false

/-- Everything before it has been done, operation by operation. -/
noncomputable def linear (ops : List Oper) (l : List Nat) : List Nat → Bool :=
  List.rec (motive := fun _ => List Nat → Bool) (fun _ => true) (fun i _ ih done => cond (lall (fun d => mem done d) (depsOf (opAt ops i))) (cond (mem done i) false (ih (i :: done))) false) l

/-- The effect that came last stands before the next one. -/
noncomputable def headOk (B : List Nat) (e : Nat) (es : List Nat) : Bool :=
  match es with
  | [] => true
  | e' :: _ => prec B e' e

/-- The parts of a plan are as they must be; the effects so far, the last one first. -/
noncomputable def segsOk (ops : List Oper) (B : List Nat) (p : List Seg) : List Nat → Bool :=
  List.rec (motive := fun _ => List Nat → Bool) (fun _ => true) (fun s _ ih es =>
    cond (lall (fun x => !isEff (opAt ops x.1) && (match nth es x.2 with
        | some e => prec B e x.1
        | none => true) && Nat.ble x.2 (llen es)) s.ahead)
      (match s.eff with
       | some e => cond (lall (fun x => prec B x.1 e) s.ahead) (cond (isEff (opAt ops e)) (cond (headOk B e es) (ih (e :: es)) false) false) false
       | none => ih es) false) p

/-- Only the last part has no effect. -/
noncomputable def lastOk (p : List Seg) : Bool :=
  List.rec (motive := fun _ => Bool) false (fun s r ih => match s.eff with
    | some _ => ih
    | none => match r with
      | [] => true
      | _ :: _ => false) p

noncomputable def slotsOk (ops : List Oper) (B : List Nat) (n : Nat) : Bool :=
  lall (fun i => lall (fun j => cond (Nat.beq i j) true
    (cond (match (opAt ops i).dst with
        | some d => dstIs (opAt ops j) d
        | none => false) false
      (lall (fun t => cond (dstIs (opAt ops j) t) (prec B i j || prec B j i) true) (looksOf ops (opAt ops i))))) (upto n)) (upto n)

noncomputable def planOk (ops : List Oper) : Bool :=
  cond (linear ops (ordOf (planOf ops)) []) (cond (lall (fun i => mem (ordOf (planOf ops)) i) (upto (llen ops))) (cond (lall (fun i => Nat.blt i (llen ops)) (ordOf (planOf ops)))
    (cond (segsOk ops (masks ops []) (planOf ops) []) (cond (lastOk (planOf ops)) (slotsOk ops (masks ops []) (llen ops)) false) false) false) false) false

/-! Led through the plan. -/

noncomputable def listSame (f : AV → AV → Bool) (xs : List AV) : List AV → Bool :=
  List.rec (motive := fun _ => List AV → Bool) (fun ys => ys.isEmpty) (fun x _ ihl ys => match ys with
      | [] => false
      | y :: ys => cond (f x y) (ihl ys) false) xs

noncomputable def capSame (c d : Cap) : Bool :=
  match c, d with
  | .exact c, .exact d => Nat.beq c d
  | .atLeast c x y, .atLeast d u v => Nat.beq c d && Nat.beq x u && Nat.beq y v
  | _, _ => false

noncomputable def avStep (ih : AV → AV → Bool) (x y : AV) : Bool :=
  match x, y with
  | .bool a, .bool b => a == b
  | .int j a, .int k b => kindEq j k && a == b
  | .str a, .str b => a == b
  | .ptr none, .ptr none => true
  | .ptr (some (a, o)), .ptr (some (b, q)) => Nat.beq a b && Nat.beq o q
  | .slice none l c, .slice none m d => Nat.beq l m && capSame c d
  | .slice (some (a, o)) l c, .slice (some (b, q)) m d => Nat.beq a b && Nat.beq o q && Nat.beq l m && capSame c d
  | .map none, .map none => true
  | .map (some a), .map (some b) => Nat.beq a b
  | .nilFunc, .nilFunc => true
  | .nilIface, .nilIface => true
  | .iface t a, .iface u b => Nat.beq t u && ih a b
  | .agg xs, .agg ys => listSame ih xs ys
  | .tuple xs, .tuple ys => listSame ih xs ys
  | .func (.func f) a b, .func (.func g) c d => Nat.beq f g && listSame ih a c && listSame ih b d
  | _, _ => false

/-- The same values, for certain. -/
noncomputable def avSame (n : Nat) : AV → AV → Bool := Nat.rec (motive := fun _ => AV → AV → Bool) (fun _ _ => false) (fun _ ih => avStep ih) n

/-- In so many memories it reads the same. -/
noncomputable def readsSame (f : St → Option AV) (v : AV) (hs : List St) : Nat → Bool :=
  List.rec (motive := fun _ => Nat → Bool) (fun _ => true) (fun h _ ih n => Nat.rec true (fun m _ => Option.rec false (fun u => cond (avSame 4 v u) (ih m) false) (f h)) n) hs

/-- What is read, whenever it is. -/
noncomputable def readQ (f : St → Option AV) (hs : List St) (c : Nat) : Option AV :=
  match hs with
  | [] => none
  | h :: _ => ob (f h) fun v => cond (readsSame f v hs (Nat.succ c)) (some v) none

variable (P : Program)

/-- A block at a number that was kept for it. -/
noncomputable def St.put (s : St) (i : Nat) (b : Blk) : St := ⟨s.heap.set b i, s.next⟩

/-- An operation that is no effect: hs: the memories behind the effects so far, the last one first. -/
noncomputable def quietA (ops : Array Oper) (base : Nat) (hs : List St) (x : Nat × Nat) (F : Fr) (cur : St) : Option (Fr × St) :=
  (fun o : Oper => ob (wantA ops F o.guard) fun b => cond b
    (match kindOf P F.ev o with
     | .val (some v) => some (F.putO o.dst v, cur)
     | .read f => ob (readQ f hs x.2) fun v => some (F.putO o.dst v, cur)
     | .make (some n) => some (F.putO o.dst (n.res (Nat.add base x.1)), cur.put (Nat.add base x.1) n.blk)
     | _ => none)
    (some (F.putO o.dst .skip, cur))) (opAt ops.toList x.1)

noncomputable def quietsA (ops : Array Oper) (base : Nat) (hs : List St) (l : List (Nat × Nat)) : Fr → St → Option (Fr × St) :=
  List.rec (motive := fun _ => Fr → St → Option (Fr × St)) (fun F s => some (F, s)) (fun x _ ih F s => ob (quietA P ops base hs x F s) fun r => ih r.1 r.2) l

noncomputable def segsA (callK : CallK) (ops : Array Oper) (base : Nat) (p : List Seg) : List St → Fr → St → Option (Fr × St) :=
  List.rec (motive := fun _ => List St → Fr → St → Option (Fr × St)) (fun _ F s => some (F, s))
    (fun g _ ih hs F s => ob (quietsA P ops base hs g.ahead F s) fun r => match g.eff with
      | some e => ob (oneA P callK ops (opAt ops.toList e) r.1 r.2) fun q => ih (q.2 :: hs) q.1 q.2
      | none => ih hs r.1 r.2) p

noncomputable def drawA (callK : CallK) (ops : Array Oper) (F : Fr) (s : St) : Option (Fr × St) :=
  cond (planOk ops.toList) ((fun s1 : St => segsA P callK ops s.next (planOf ops.toList) [s1] F s1) ⟨s.heap, Nat.add s.next (llen ops.toList)⟩) none

/-! Calls. -/

noncomputable def resA (F : Fr) (s : St) (r : ResultVar) : Option AV :=
  match r with
  | .tmp t => F.get t
  | .cell a t => ob (F.get a) fun x => loadA P s t x

noncomputable def resultsA (fn : Func) (F : Fr) (s : St) : Option AV :=
  ob (lmapO (resA P F s) fn.results.toList) fun vs => match vs with
    | [v] => some v
    | vs => some (.tuple vs)

/-- The first slots hold the arguments. -/
noncomputable def argsLoc (l : List AV) : Nat → Tr AV → Tr AV :=
  List.rec (motive := fun _ => Nat → Tr AV → Tr AV) (fun _ t => t) (fun v _ ih i t => ih (Nat.succ i) (t.set v i)) l

noncomputable def frameA (thr : Nat) (fn : Func) (args : List AV) : Option Fr :=
  cond (Nat.ble (llen args) thr) (cond (Nat.ble (llen args) fn.ntmps) (some ⟨[], argsLoc args 0 .nil, thr, fn.ntmps⟩) none) none

end Go.Proofs.Bx
