/- Equality on abstract values. -/
import Derived.Test.YtbbkhiapcclnpaaGreatDoorBxApp
import Derived.ChangeKeysEq
set_option linter.unusedVariables false
set_option linter.unusedSimpArgs false
set_option linter.unusedSectionVars false
namespace Go.Proofs.Bx
open Go
variable (P : Program)

/-- A row that may be written. -/
noncomputable def St.row (s : St) (b : Nat) : Bool :=
  match s.get b with
  | some (.cells _ true _) => true
  | _ => false

noncomputable def kindEq (j k : IntKind) : Bool := decide (j = k)

noncomputable def eqFieldsA (P : Program) (rc : TypeId → AV → AV → Option Bool) (xs ys : List AV) (fs : List Field) : Option Bool :=
  List.rec (motive := fun _ => Option Bool) (some true) (fun f _ ih => cond (decide (f.name = "_")) ih
    (ob (apart P f.type xs f.offset) fun a => ob (apart P f.type ys f.offset) fun b => ob (rc f.type a b) fun r => cond r ih (some false))) fs

noncomputable def eqItemsA (P : Program) (rc : TypeId → AV → AV → Option Bool) (e : TypeId) (n : Nat) (xs ys : List AV) (is : List Nat) : Option Bool :=
  List.rec (motive := fun _ => Option Bool) (some true) (fun i _ ih =>
    (ob (apart P e xs (i * n)) fun a => ob (apart P e ys (i * n)) fun b => ob (rc e a b) fun r => cond r ih (some false))) is

noncomputable def eqStep (s : St) (rc : TypeId → AV → AV → Option Bool) (t : TypeId) (x y : AV) : Option Bool :=
  match P.underlying t, x, y with
  | some .bool, .bool a, .bool b => some (a == b)
  | some (.int _), .int k a, .int k' b => cond (kindEq k k') (some (a == b)) none
  | some .string, .str a, .str b => some (a == b)
  | some (.pointer _), .ptr none, .ptr b => some b.isNone
  | some (.pointer _), .ptr (some _), .ptr none => some false
  | some (.pointer elem), .ptr (some (a, o)), .ptr (some (b, q)) => ob (size? P elem) fun n => cond (Nat.beq n 0) none
      (cond (Nat.beq a b) (some (Nat.beq o q)) (cond (s.row a) (cond (s.row b) (some false) none) none))
  | some (.interface _), .nilIface, .nilIface => some true
  | some (.interface _), .nilIface, .iface _ _ => some false
  | some (.interface _), .iface _ _, .nilIface => some false
  | some (.struct fs), .agg xs, .agg ys => cond (P.stoodInHeld t) none (eqFieldsA P rc xs ys fs.toList)
  | some (.array n e), .agg xs, .agg ys => ob (size? P e) fun c => eqItemsA P rc e c xs ys (List.range n)
  | some (.slice _), .slice none _ _, .slice b _ _ => some b.isNone
  | some (.slice _), .slice (some _) _ _, .slice none _ _ => some false
  | some (.map _ _), .map none, .map b => some b.isNone
  | some (.map _ _), .map (some _), .map none => some false
  | some (.func _ _ _), .nilFunc, .nilFunc => some true
  | some (.func _ _ _), .nilFunc, .func _ _ _ => some false
  | some (.func _ _ _), .func _ _ _, .nilFunc => some false
  | _, _, _ => none

noncomputable def eqA (s : St) (d : Nat) : TypeId → AV → AV → Option Bool := Nat.rec (motive := fun _ => TypeId → AV → AV → Option Bool) (fun _ _ _ => none) (fun _ ih => eqStep P s ih) d

theorem row_run {ρ : BMap} {s : St} {w : World} (hr : HR ρ s w) {a r z : Nat} (h : s.row a = true) (ha : ρ a = some (r, z)) :
    ∃ arr elem, w.heap[r]? = some (.cells arr elem (0, 0)) := by
  unfold St.row at h
  split at h
  · rename_i cs ty hs
    obtain ⟨arr, elem, fz, h1, h2, h3, h4, h5, _⟩ := hr.cells hs ha
    rw [h5 rfl] at h1
    exact ⟨arr, elem, h1⟩
  · cases h

theorem row_live {s : St} {a : Nat} (h : s.row a = true) : ∃ cs ty, s.get a = some (.cells cs true ty) := by
  unfold St.row at h
  split at h
  · rename_i cs ty hs; exact ⟨cs, ty, hs⟩
  · cases h

theorem sameAddr_run {P : Program} {w : World} {r q o p : Nat} {a1 a2 : Array Value} {e1 e2 : TypeId} (hne : r ≠ q) (h1 : w.heap[r]? = some (.cells a1 e1 (0, 0))) (h2 : w.heap[q]? = some (.cells a2 e2 (0, 0))) :
    (sameAddr ⟨r, o, none⟩ ⟨q, p, none⟩).run P w = .ok false w := by
  have f1 : ∀ o, w.frozen? ⟨r, o, none⟩ = false := fun o => by simp [World.frozen?, h1]
  have f2 : ∀ o, w.frozen? ⟨q, o, none⟩ = false := fun o => by simp [World.frozen?, h2]
  have s1 : w.shape? r = some (e1, a1.size) := by simp [World.shape?, h1]
  have s2 : w.shape? q = some (e2, a2.size) := by simp [World.shape?, h2]
  have hb : (r == q) = false := by simp [hne]
  simp [sameAddr, hb, f1, f2, noView, viewAt, s1, s2, mayBeOne, stringish]

theorem eqFieldsA_run {P : Program} {ρ : BMap} {rc : TypeId → AV → AV → Option Bool} {xs ys : List AV} {xs' ys' : Array Value} {w : World} (d : Nat) (hx : VRs ρ xs xs') (hy : VRs ρ ys ys')
    (hrc : ∀ {t a b r a' b'}, rc t a b = some r → VR ρ a a' → VR ρ b b' → (Op.equalIn d t a' b').run P w = .ok r w) :
    ∀ {fs : List Field} {r : Bool}, eqFieldsA P rc xs ys fs = some r → (Op.eqFields d xs' ys' fs).run P w = .ok r w := by
  intro fs
  induction fs with
  | nil => intro r h; cases h; rfl
  | cons f fs ih =>
    intro r h
    have h' : cond (decide (f.name = "_")) (eqFieldsA P rc xs ys fs) (ob (apart P f.type xs f.offset) fun a => ob (apart P f.type ys f.offset) fun b => ob (rc f.type a b) fun r => cond r (eqFieldsA P rc xs ys fs) (some false)) = some r := h
    by_cases hn : f.name = "_"
    · rw [decide_eq_true hn] at h'
      simp only [Op.eqFields, ne_eq, hn, not_true_eq_false, if_false]
      exact ih h'
    · rw [decide_eq_false hn] at h'
      replace h' := ob_some (show ob (apart P f.type xs f.offset) _ = _ from h'); obtain ⟨a, ha, h'⟩ := h'
      replace h' := ob_some h'; obtain ⟨b, hb, h'⟩ := h'
      replace h' := ob_some h'; obtain ⟨q, hq, h'⟩ := h'
      obtain ⟨a', ra, va⟩ := apart_run ha hx w
      obtain ⟨b', rb, vb⟩ := apart_run hb hy w
      simp only [Op.eqFields, ne_eq, hn, not_false_eq_true, if_true, Sem.run_bind, ra, rb, Result.andThen_ok, hrc hq va vb]
      cases q with
      | true => simp only [Bool.not_true, Bool.false_eq_true, if_false]; exact ih h'
      | false => cases h'; simp

theorem eqItemsA_run {P : Program} {ρ : BMap} {rc : TypeId → AV → AV → Option Bool} {e : TypeId} {n : Nat} {xs ys : List AV} {xs' ys' : Array Value} {w : World} (d : Nat) (hx : VRs ρ xs xs') (hy : VRs ρ ys ys')
    (hrc : ∀ {t a b r a' b'}, rc t a b = some r → VR ρ a a' → VR ρ b b' → (Op.equalIn d t a' b').run P w = .ok r w) :
    ∀ {is : List Nat} {r : Bool}, eqItemsA P rc e n xs ys is = some r → (Op.eqItems d e n xs' ys' is).run P w = .ok r w := by
  intro is
  induction is with
  | nil => intro r h; cases h; rfl
  | cons i is ih =>
    intro r h
    have h' : (ob (apart P e xs (i * n)) fun a => ob (apart P e ys (i * n)) fun b => ob (rc e a b) fun r => cond r (eqItemsA P rc e n xs ys is) (some false)) = some r := h
    replace h' := ob_some h'; obtain ⟨a, ha, h'⟩ := h'
    replace h' := ob_some h'; obtain ⟨b, hb, h'⟩ := h'
    replace h' := ob_some h'; obtain ⟨q, hq, h'⟩ := h'
    obtain ⟨a', ra, va⟩ := apart_run ha hx w
    obtain ⟨b', rb, vb⟩ := apart_run hb hy w
    simp only [Op.eqItems, Sem.run_bind, ra, rb, Result.andThen_ok, hrc hq va vb]
    cases q with
    | true => simp only [Bool.not_true, Bool.false_eq_true, if_false]; exact ih h'
    | false => cases h'; simp

theorem eqA_run {P : Program} {ρ : BMap} {s : St} {w : World} (hr : HR ρ s w) : ∀ {f : Nat} {t : TypeId} {x y : AV} {r : Bool} {x' y' : Value} (d : Nat), eqA P s f t x y = some r → VR ρ x x' → VR ρ y y' → f ≤ d →
    (Op.equalIn d t x' y').run P w = .ok r w := by
  intro f
  induction f with
  | zero => intro t x y r x' y' d h; cases h
  | succ f ih =>
    intro t x y r x' y' d h hx hy hd
    obtain ⟨d, rfl⟩ : ∃ m, d = m + 1 := ⟨d - 1, by omega⟩
    have h' : eqStep P s (eqA P s f) t x y = some r := h
    have hrc : ∀ {t a b r a' b'}, eqA P s f t a b = some r → VR ρ a a' → VR ρ b b' → (Op.equalIn d t a' b').run P w = .ok r w := fun e va vb => ih d e va vb (by omega)
    clear h
    unfold eqStep at h'
    split at h' <;> rename_i hu
    · cases h'; cases hx; cases hy; simp [Op.equalIn, run_underlying hu]
    · replace h' := cond_some h'; obtain ⟨hk, h'⟩ := h'
      cases h'; cases hx; cases hy
      have hk := of_decide_eq_true hk
      subst hk
      simp [Op.equalIn, run_underlying hu]
    · cases h'; cases hx; cases hy; simp [Op.equalIn, run_underlying hu]
    · cases h'; cases hx; cases hy <;> simp [Op.equalIn, run_underlying hu]
    · cases h'; cases hx; cases hy; simp [Op.equalIn, run_underlying hu]
    · replace h' := ob_some h'; obtain ⟨n, hn, h'⟩ := h'
      replace h' := cond_some' h'; obtain ⟨hz, h'⟩ := h'
      have hnz : n ≠ 0 := by intro e; subst e; cases hz
      cases hx with
      | ptr ha =>
        cases hy with
        | ptr hb =>
          rename_i elem a o b q r1 z1 r2 z2
          by_cases hab : a = b
          · subst hab
            rw [ha] at hb
            cases hb
            rw [beq_yes rfl] at h'
            cases h'
            have he : ((⟨r1, o, none⟩ : Addr) == ⟨r1, q, none⟩) = Nat.beq o q := by
              by_cases hoq : o = q
              · subst hoq; simp
              · rw [beq_no hoq]
                exact beq_eq_false_iff_ne.2 (fun e => hoq (by injection e))
            simp only [Op.equalIn, Sem.run_bind, run_underlying hu, Result.andThen_ok, size?_run hn]
            rw [if_pos hnz]
            simp [sameAddr, he]
          · rw [beq_no hab] at h'
            replace h' := cond_some (show cond (s.row a) _ none = _ from h'); obtain ⟨ra, h'⟩ := h'
            replace h' := cond_some h'; obtain ⟨rb, h'⟩ := h'
            cases h'
            obtain ⟨a1, e1, g1⟩ := row_run hr ra ha
            obtain ⟨a2, e2, g2⟩ := row_run hr rb hb
            obtain ⟨c1, _, l1⟩ := row_live ra
            obtain ⟨c2, _, l2⟩ := row_live rb
            have hne : r1 ≠ r2 := by
              intro e; subst e
              exact hab (hr.inj a b _ _ _ _ _ l1 l2 rfl (by simp) ha hb)
            simp only [Op.equalIn, Sem.run_bind, run_underlying hu, Result.andThen_ok, size?_run hn]
            rw [if_pos hnz]
            exact sameAddr_run hne g1 g2
    · cases h'; cases hx; cases hy; simp [Op.equalIn, run_underlying hu]
    · cases h'; cases hx; cases hy; simp [Op.equalIn, run_underlying hu]
    · cases h'; cases hx; cases hy; simp [Op.equalIn, run_underlying hu]
    · replace h' := cond_some' h'; obtain ⟨hst, h'⟩ := h'
      cases hx with
      | agg h1 g1 =>
        cases hy with
        | agg h2 g2 =>
          rename_i fs xs ys xs' ys'
          have hf : P.fieldsOf t = fs := by simp [Program.fieldsOf, hu]
          have := run_equalIn_struct (P := P) w d t xs' ys' (by rw [hf]; exact hu) hst
          rw [this, hf]
          exact eqFieldsA_run d ⟨h1, g1⟩ ⟨h2, g2⟩ hrc h'
    · replace h' := ob_some h'; obtain ⟨c, hc, h'⟩ := h'
      cases hx with
      | agg h1 g1 =>
        cases hy with
        | agg h2 g2 =>
          rename_i n e xs ys xs' ys'
          obtain ⟨i, hi, hsz⟩ := ob_some hc
          cases hsz
          rw [run_equalIn_array (P := P) w d xs' ys' hu hi]
          have hco : P.cellsOf e = i.size := by simp [Program.cellsOf, hi]
          rw [hco]
          exact eqItemsA_run d ⟨h1, g1⟩ ⟨h2, g2⟩ hrc h'
    · cases h'; cases hx; cases hy <;> simp [Op.equalIn, run_underlying hu]
    · cases h'; cases hx; cases hy; simp [Op.equalIn, run_underlying hu]
    · cases h'; cases hx; cases hy <;> simp [Op.equalIn, run_underlying hu]
    · cases h'; cases hx; cases hy; simp [Op.equalIn, run_underlying hu]
    · cases h'; cases hx; cases hy; simp [Op.equalIn, run_underlying hu]
    · cases h'; cases hx; cases hy; simp [Op.equalIn, run_underlying hu]
    · cases h'; cases hx; cases hy; simp [Op.equalIn, run_underlying hu]
    · cases h'

/-- Two operands that are compared: where both are nil interfaces one of them must be written as such. -/
noncomputable def guardA (t : TypeId) (x y : Operand) (a b : AV) : Bool :=
  match a, b with
  | .nilIface, .nilIface => Region.isConst x || Region.isConst y
  | .agg _, .agg _ => !P.eqGuardType P.depth t
  | .undef, _ => false
  | _, .undef => false
  | _, _ => true

theorem guardA_run {P : Program} {ρ : BMap} {op : BinOp} {t : TypeId} {x y : Operand} {a b : AV} {a' b' : Value} (h : guardA P t x y a b = true) (ha : VR ρ a a') (hb : VR ρ b b') (w : World) :
    (eqGuard op t x y a' b').run P w = .ok () w := by
  unfold guardA at h
  split at h
  · cases ha; cases hb
    cases x <;> cases y <;> cases op <;> first | rfl | exact Bool.noConfusion h
  · cases ha; cases hb
    have h' : P.eqGuardType P.depth t = false := by simpa using h
    exact run_eqGuard_agg (P := P) w op t x y _ _ h'
  · cases h
  · cases h
  · rename_i h1 h2 h3 h4
    have key : ∀ op, (eqGuard op t x y a' b').run P w = .ok () w := by
      intro op
      cases ha <;> cases hb <;> first | exact (h1 rfl).elim | exact (h2 rfl).elim | exact (h3 rfl rfl).elim | exact (h4 _ _ rfl rfl).elim | (cases op <;> rfl)
    exact key op

/-- '==' and '!=' of what is neither number nor text. -/
noncomputable def eqBin (s : St) (op : BinOp) (t : TypeId) (x y : Operand) (a b : AV) : Option AV :=
  cond (guardA P t x y a b)
    (match op with
     | .eql => ob (eqA P s 6 t a b) fun r => some (.bool r)
     | .neq => ob (eqA P s 6 t a b) fun r => some (.bool (!r))
     | _ => none) none

end Go.Proofs.Bx
