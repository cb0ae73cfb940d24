/- Maps on the abstract memory. -/
import Derived.Test.YtbbkhiapcclnpaaGreatDoorBxEq
set_option linter.unusedVariables false
set_option linter.unusedSimpArgs false
set_option linter.unusedSectionVars false
namespace Go.Proofs.Bx
open Go
variable (P : Program)

/-- A type whose keys need no look. -/
noncomputable def plainKey? (t : TypeId) : Bool :=
  match P.underlying t with
  | some (.int _) => true
  | some .string => true
  | some .bool => true
  | some (.pointer _) => true
  | _ => false

noncomputable def partsOk (P : Program) (e : TypeId) (sz : Nat) (cs : List AV) (is : List Nat) : Bool :=
  List.rec (motive := fun _ => Bool) true (fun i _ ih => Option.rec false (fun _ => ih) (apart P e cs (i * sz))) is

noncomputable def keyA (t : TypeId) (k : AV) : Bool :=
  match P.underlying t, k with
  | some (.int _), .int _ _ => true
  | some .string, .str _ => true
  | some .bool, .bool _ => true
  | some (.array n e), .agg cs => cond (plainKey? P e) (Option.rec false (fun sz => partsOk P e sz cs (List.range n)) (size? P e)) false
  | _, _ => false

theorem checkKey_plain {P : Program} {t : TypeId} (h : plainKey? P t = true) (empty : Bool) (n : Nat) (v : Value) (w : World) : (Instr.checkKey empty (n + 1) t v).run P w = .ok () w := by
  unfold plainKey? at h
  split at h <;> rename_i hu <;> first | (cases h; done) | (unfold Instr.checkKey; simp [run_underlying hu])

theorem keyA_run {P : Program} {ρ : BMap} {t : TypeId} {k : AV} {k' : Value} (h : keyA P t k = true) (hk : VR ρ k k') (empty : Bool) (w : World) : (Instr.checkKey empty 10000 t k').run P w = .ok () w := by
  unfold keyA at h
  split at h
  · rename_i hu; cases hk; unfold Instr.checkKey; simp [run_underlying hu]
  · rename_i hu; cases hk; unfold Instr.checkKey; simp [run_underlying hu]
  · rename_i hu; cases hk; unfold Instr.checkKey; simp [run_underlying hu]
  · rename_i n e cs hu
    cases hp : plainKey? P e with
    | false => rw [hp] at h; cases h
    | true =>
      rw [hp] at h
      cases hs : size? P e with
      | none => rw [hs] at h; cases h
      | some sz =>
        rw [hs] at h
        have h' : partsOk P e sz cs (List.range n) = true := h
        cases hk with
        | agg h1 g1 =>
          rename_i cs'
          unfold Instr.checkKey
          simp only [Sem.run_bind, run_underlying hu, Result.andThen_ok]
          simp only [Std.Legacy.Range.forIn_eq_forIn_range', Std.Legacy.Range.size, Nat.sub_zero, Nat.add_one_sub_one, Nat.div_one]
          rw [List.range_eq_range'] at h'
          generalize List.range' 0 n = is at h'
          induction is with
          | nil => simp
          | cons i is ih =>
            have h2 : (Option.rec false (fun _ => partsOk P e sz cs is) (apart P e cs (i * sz)) : Bool) = true := h'
            cases ha : apart P e cs (i * sz) with
            | none => rw [ha] at h2; cases h2
            | some p =>
              rw [ha] at h2
              obtain ⟨v', hr, _⟩ := apart_run ha ⟨h1, g1⟩ w
              simp only [List.forIn_cons, Sem.run_bind, size?_run hs, Result.andThen_ok, hr, checkKey_plain hp empty 9998, Sem.run_pure]
              exact ih h2
  · cases h

abbrev Ent := AV × AV × Nat

/-- The first entry of a key, from the i-th on. -/
noncomputable def findA (rc : AV → Option Bool) (es : List Ent) : Nat → Option (Option (Nat × AV)) :=
  List.rec (motive := fun _ => Nat → Option (Option (Nat × AV))) (fun _ => some none) (fun e _ ih i => ob (rc e.1) fun r => cond r (some (some (i, e.2.1))) (ih (Nat.succ i))) es

theorem findA_cons {rc : AV → Option Bool} {e : Ent} {es : List Ent} {i : Nat} {r : Option (Nat × AV)} (h : findA rc (e :: es) i = some r) :
    (rc e.1 = some true ∧ r = some (i, e.2.1)) ∨ (rc e.1 = some false ∧ findA rc es (i + 1) = some r) := by
  have h' : (ob (rc e.1) fun r => cond r (some (some (i, e.2.1))) (findA rc es (Nat.succ i))) = some r := h
  replace h' := ob_some h'; obtain ⟨q, hq, h'⟩ := h'
  cases q with
  | true => cases h'; exact .inl ⟨hq, rfl⟩
  | false => exact .inr ⟨hq, h'⟩

/-- Found alike: nothing, or an entry at one place. -/
def FR (ρ : BMap) (es' : List MapEntry) (i0 : Nat) : Option (Nat × AV) → Option (Nat × Value) → Prop
  | none, none => True
  | some (i, v), some (j, u) => i = j ∧ i0 ≤ i ∧ VR ρ v u ∧ (∃ e, es'[i - i0]? = some e ∧ e.val = u)
  | _, _ => False

theorem findA_run {P : Program} {ρ : BMap} {s : St} {w : World} (hr : HR ρ s w) {kt : TypeId} {k : AV} {k' : Value} (hk : VR ρ k k') {es : List Ent} {es' : List MapEntry}
    (hl : es.length = es'.length) (he : ∀ (i : Nat) (x : Ent) (e : MapEntry), es[i]? = some x → es'[i]? = some e → ER ρ x e) {r : Option (Nat × AV)} (h : findA (fun q => eqA P s 6 kt k q) es 0 = some r)
    (hu : (P.underlying kt).isSome = true) :
    ∃ r', (Instr.findKey kt k' es').run P w = .ok r' w ∧ FR ρ es' 0 r r' := by
  have asking : ∀ (es : List Ent) (es' : List MapEntry) (i : Nat) (r : Option (Nat × AV)), es.length = es'.length → (∀ (i : Nat) (x : Ent) (e : MapEntry), es[i]? = some x → es'[i]? = some e → ER ρ x e) →
      findA (fun q => eqA P s 6 kt k q) es i = some r → ∃ r', (Instr.findAsking kt k' es' i).run P w = .ok r' w ∧ FR ρ es' i r r' := by
    intro es
    induction es with
    | nil =>
      intro es' i r hl he h
      cases es' with
      | cons e es' => simp at hl
      | nil => cases h; exact ⟨none, rfl, trivial⟩
    | cons x es ih =>
      intro es' i r hl he h
      cases es' with
      | nil => simp at hl
      | cons e es' =>
        obtain ⟨e1, e2, e3⟩ := he 0 x e (by simp) (by simp)
        rcases findA_cons h with ⟨hq, rfl⟩ | ⟨hq, h⟩
        · have := eqA_run hr Op.maxDepth hq hk e1 (by decide)
          exact ⟨some (i, e.val), by simp [Instr.findAsking, Op.equal, this], rfl, Nat.le_refl _, e2, e, by simp, rfl⟩
        · have := eqA_run hr Op.maxDepth hq hk e1 (by decide)
          obtain ⟨r', h1, h2⟩ := ih es' (i + 1) r (by simpa using hl) (fun j y z a b => he (j + 1) y z (by simpa using a) (by simpa using b)) h
          refine ⟨r', by simp [Instr.findAsking, Op.equal, this, h1], ?_⟩
          cases r with
          | none => cases r' <;> first | trivial | exact h2.elim
          | some p =>
            cases r' with
            | none => exact h2.elim
            | some q =>
              obtain ⟨a, b, c, f, g1, g2⟩ := h2
              refine ⟨a, by omega, c, f, ?_, g2⟩
              rw [show p.1 - i = p.1 - (i + 1) + 1 by omega]
              simpa using g1
  obtain ⟨d, hd⟩ := Option.isSome_iff_exists.1 hu
  -- what is found at once
  cases hn : Instr.findNow d k' es' 0 with
  | none =>
    obtain ⟨r', h1, h2⟩ := asking es es' 0 r hl he h
    exact ⟨r', by simp [Instr.findKey, run_underlying hd, hn, h1], h2⟩
  | some q =>
    refine ⟨q, by simp [Instr.findKey, run_underlying hd, hn], ?_⟩
    have now : ∀ (es : List Ent) (es' : List MapEntry) (i : Nat) (r : Option (Nat × AV)) (q : Option (Nat × Value)), es.length = es'.length → (∀ (i : Nat) (x : Ent) (e : MapEntry), es[i]? = some x → es'[i]? = some e → ER ρ x e) →
        findA (fun q => eqA P s 6 kt k q) es i = some r → Instr.findNow d k' es' i = some q → FR ρ es' i r q := by
      intro es
      induction es with
      | nil =>
        intro es' i r q hl he h hq
        cases es' with
        | cons e es' => simp at hl
        | nil => cases h; cases hq; trivial
      | cons x es ih =>
        intro es' i r q hl he h hq
        cases es' with
        | nil => simp at hl
        | cons e es' =>
          obtain ⟨e1, e2, e3⟩ := he 0 x e (by simp) (by simp)
          -- the two ways to compare say the same
          have same : ∀ b c, Instr.sameNow d k' e.key = some b → eqA P s 6 kt k x.1 = some c → b = c := by
            intro b c hb hc
            have h1 := eqA_run hr 7 hc hk e1 (by decide)
            generalize e.key = kk at hb h1
            unfold Instr.sameNow at hb
            split at hb
            · split at hb
              · rename_i hkk
                cases hb
                subst hkk
                rw [run_equalIn_int (P := P) w 6 kt _ _ _ _ hd] at h1
                injection h1
              · cases hb
            · cases hb
              rw [run_equalIn_string (P := P) w 6 kt _ _ hd, ← beq_toListBytes] at h1
              injection h1
            · cases hb
              rw [run_equalIn_bool' (P := P) w 6 kt _ _ hd] at h1
              injection h1
            · cases hb
          simp only [Instr.findNow] at hq
          split at hq
          · rename_i hs
            cases hq
            rcases findA_cons h with ⟨hq, rfl⟩ | ⟨hq, h⟩
            · exact ⟨rfl, Nat.le_refl _, e2, e, by simp, rfl⟩
            · exact absurd (same _ _ hs hq) (by simp)
          · rename_i hs
            rcases findA_cons h with ⟨hq', rfl⟩ | ⟨hq', h⟩
            · exact absurd (same _ _ hs hq') (by simp)
            · have h2 := ih es' (i + 1) r q (by simpa using hl) (fun j y z a b => he (j + 1) y z (by simpa using a) (by simpa using b)) h hq
              cases r with
              | none => cases q <;> first | trivial | exact h2.elim
              | some p =>
                cases q with
                | none => exact h2.elim
                | some u =>
                  obtain ⟨a, b, c, f, g1, g2⟩ := h2
                  refine ⟨a, by omega, c, f, ?_, g2⟩
                  rw [show p.1 - i = p.1 - (i + 1) + 1 by omega]
                  simpa using g1
          · cases hq
    exact now es es' 0 r q hl he h hn

/-- The entries of a map, nil or not. -/
noncomputable def entriesA (s : St) (x : AV) : Option (List Ent) :=
  match x with
  | .map none => some []
  | .map (some b) => match s.get b with
    | some (.map es _) => some es
    | _ => none
  | _ => none

noncomputable def lookupA (s : St) (t : TypeId) (x k : AV) (ok : Bool) : Option AV :=
  match P.underlying t with
  | some (.map kt elem) => cond (keyA P kt k) (ob (entriesA s x) fun es => ob (findA (fun q => eqA P s 6 kt k q) es 0) fun r =>
      match r with
      | some (_, v) => some (cond ok (.tuple [v, .bool true]) v)
      | none => ob (zeroA P elem) fun z => some (cond ok (.tuple [z, .bool false]) z)) none
  | _ => none

theorem keyA_under {P : Program} {t : TypeId} {k : AV} (h : keyA P t k = true) : (P.underlying t).isSome = true := by
  unfold keyA at h
  split at h <;> first | (simp [*]; done) | cases h

theorem lookupA_run {P : Program} {ρ : BMap} {s : St} {w : World} (hr : HR ρ s w) {t : TypeId} {x k v : AV} {x' k' : Value} {ok : Bool} (h : lookupA P s t x k ok = some v) (hx : VR ρ x x') (hk : VR ρ k k') :
    ∃ v', (Instr.lookup t x' k' ok).run P w = .ok v' w ∧ VR ρ v v' := by
  unfold lookupA at h
  split at h
  · rename_i kt elem hu
    replace h := cond_some h; obtain ⟨hkey, h⟩ := h
    replace h := ob_some h; obtain ⟨es, hes, h⟩ := h
    replace h := ob_some h; obtain ⟨r, hf, h⟩ := h
    have E : ∃ es' : Array MapEntry, es.length = es'.toList.length ∧ (∀ (i : Nat) (x : Ent) (e : MapEntry), es[i]? = some x → es'.toList[i]? = some e → ER ρ x e) ∧
        ((x' = .map none ∧ es' = #[]) ∨ ∃ b ck, x' = .map (some b) ∧ w.heap[b]? = some (.map es' ck)) := by
      unfold entriesA at hes
      split at hes
      · cases hes; cases hx
        exact ⟨#[], rfl, fun i x e a => by simp at a, .inl ⟨rfl, rfl⟩⟩
      · rename_i b
        split at hes
        · rename_i es0 ck hs
          cases hes
          cases hx with
          | map hb =>
            obtain ⟨es', h1, h2, h3⟩ := hr.map hs hb
            exact ⟨es', by simpa using h2, fun i x e a c => h3 i x e a (by simpa using c), .inr ⟨_, _, rfl, h1⟩⟩
        · cases hes
      · cases hes
    obtain ⟨es', g1, g2, g3⟩ := E
    obtain ⟨r', f1, f2⟩ := findA_run hr hk g1 g2 hf (keyA_under hkey)
    have hck := keyA_run hkey hk
    have step : ∀ v', ((Instr.findKey kt k' es'.toList).run P w).andThen (fun a w' => (match a with
          | some (_, u) => pure (if ok then Value.tuple #[u, .bool true] else u)
          | none => do
            let z ← zeroValue elem
            pure (if ok then Value.tuple #[z, .bool false] else z) : Sem Value).run P w') = .ok v' w → (Instr.lookup t x' k' ok).run P w = .ok v' w := by
      intro v' hv
      rw [f1] at hv
      rcases g3 with ⟨rfl, rfl⟩ | ⟨b, ck, rfl, hb⟩
      · cases r' with
        | none => simpa [Instr.lookup, run_underlying hu, hck, f1] using hv
        | some q => simpa [Instr.lookup, run_underlying hu, hck, f1] using hv
      · cases r' with
        | none => simpa [Instr.lookup, run_underlying hu, getObj, Sem.run, hb, hck, f1] using hv
        | some q => simpa [Instr.lookup, run_underlying hu, getObj, Sem.run, hb, hck, f1] using hv
    cases r with
    | some p =>
      cases r' with
      | none => exact f2.elim
      | some q =>
        obtain ⟨a, b, c, _⟩ := f2
        have h' : some (cond ok (.tuple [p.2, .bool true]) p.2) = some v := h
        cases h'
        cases ok with
        | true => exact ⟨_, step _ (by rw [f1]; rfl), pair_vr c (.bool _)⟩
        | false => exact ⟨_, step _ (by rw [f1]; rfl), c⟩
    | none =>
      cases r' with
      | some q => exact f2.elim
      | none =>
        replace h := ob_some (show ob (zeroA P elem) _ = _ from h); obtain ⟨z, hz, h⟩ := h
        obtain ⟨z', hzr, hzv⟩ := zeroA_run hz ρ w
        cases h
        cases ok with
        | true => exact ⟨_, step _ (by rw [f1]; simp [hzr]), pair_vr hzv (.bool _)⟩
        | false => exact ⟨_, step _ (by rw [f1]; simp [hzr]), hzv⟩
  · cases h

/-! Writing. -/

/-- Two atoms that are surely one key. -/
noncomputable def atomSame (x y : AV) : Bool :=
  match x, y with
  | .int j a, .int k b => kindEq j k && a == b
  | .str a, .str b => a == b
  | .bool a, .bool b => a == b
  | .ptr none, .ptr none => true
  | .ptr (some (a, o)), .ptr (some (b, q)) => Nat.beq a b && Nat.beq o q
  | _, _ => false

noncomputable def atomsSame (xs : List AV) : List AV → Bool :=
  List.rec (motive := fun _ => List AV → Bool) (fun ys => ys.isEmpty) (fun x _ ih ys => match ys with
    | [] => false
    | y :: ys => cond (atomSame x y) (ih ys) false) xs

noncomputable def keySame (x y : AV) : Bool :=
  match x, y with
  | .agg xs, .agg ys => atomsSame xs ys
  | x, y => atomSame x y

theorem atomSame_bits {ρ : BMap} {x y : AV} {x' y' : Value} (h : atomSame x y = true) (hx : VR ρ x x') (hy : VR ρ y y') (n : Nat) : Instr.sameBits n x' y' = true := by
  unfold atomSame at h
  split at h
  · cases hx; cases hy
    simp only [Bool.and_eq_true] at h
    obtain ⟨h1, h2⟩ := h
    have h1 := of_decide_eq_true h1
    subst h1
    cases n <;> simpa [Instr.sameBits] using h2
  · cases hx; cases hy; cases n <;> simpa [Instr.sameBits] using h
  · cases hx; cases hy; cases n <;> simpa [Instr.sameBits] using h
  · cases hx; cases hy; cases n <;> simp [Instr.sameBits]
  · simp only [Bool.and_eq_true] at h
    obtain ⟨h1, h2⟩ := h
    have h1 := Nat.eq_of_beq_eq_true h1
    have h2 := Nat.eq_of_beq_eq_true h2
    subst h1; subst h2
    cases hx with
    | ptr ha =>
      cases hy with
      | ptr hb =>
        rw [ha] at hb; cases hb
        cases n <;> simp [Instr.sameBits]
  · cases h

theorem atomsSame_bits {ρ : BMap} (n : Nat) : ∀ {xs ys : List AV} {xs' ys' : Array Value}, atomsSame xs ys = true → VRs ρ xs xs' → VRs ρ ys ys' →
    (xs'.size == ys'.size && (xs'.toList.zip ys'.toList).all fun (p : Value × Value) => Instr.sameBits n p.1 p.2) = true := by
  intro xs
  induction xs with
  | nil =>
    intro ys xs' ys' h hx hy
    cases ys with
    | cons y ys => cases h
    | nil =>
      have h1 := hx.1
      have h2 := hy.1
      simp at h1 h2
      have e1 : xs' = #[] := Array.eq_empty_of_size_eq_zero h1.symm
      have e2 : ys' = #[] := Array.eq_empty_of_size_eq_zero h2.symm
      subst e1; subst e2
      rfl
  | cons x xs ih =>
    intro ys xs' ys' h hx hy
    cases ys with
    | nil => cases h
    | cons y ys =>
      have h' : cond (atomSame x y) (atomsSame xs ys) false = true := h
      cases ha : atomSame x y with
      | false => rw [ha] at h'; cases h'
      | true =>
        rw [ha] at h'
        obtain ⟨u, b, rfl, hu, hb⟩ := hx.cons_inv
        obtain ⟨v, c, rfl, hv, hc⟩ := hy.cons_inv
        have i1 := ih h' hb hc
        have i2 := atomSame_bits ha hu hv n
        simp only [Bool.and_eq_true, beq_iff_eq] at i1 ⊢
        refine ⟨by simp [i1.1], ?_⟩
        simp only [Array.toList_append, List.cons_append, List.nil_append, List.zip_cons_cons, List.all_cons, i2, Bool.true_and]
        exact i1.2

theorem keySame_run {P : Program} {ρ : BMap} {x y : AV} {x' y' : Value} (h : keySame x y = true) (hx : VR ρ x x') (hy : VR ρ y y') (w : World) : (Instr.keyThatStays x' y').run P w = .ok y' w := by
  have hb : Instr.sameBits 10000 x' y' = true := by
    unfold keySame at h
    split at h
    · cases hx with
      | agg h1 g1 =>
        cases hy with
        | agg h2 g2 =>
          have := atomsSame_bits 9999 h ⟨h1, g1⟩ ⟨h2, g2⟩
          show Instr.sameBits (9999 + 1) _ _ = true
          simpa [Instr.sameBits] using this
    · exact atomSame_bits h hx hy 10000
  simp [Instr.keyThatStays, hb]

noncomputable def lmod {α : Type} (l : List α) (f : α → α) : Nat → List α :=
  List.rec (motive := fun _ => Nat → List α) (fun _ => []) (fun a r ih i => Nat.rec (f a :: r) (fun j _ => a :: ih j) i) l

theorem lmod_get {α : Type} (f : α → α) : ∀ (l : List α) (i j : Nat), (lmod l f i)[j]? = if j = i then (l[j]?).map f else l[j]?
  | [], i, j => by
    have : lmod ([] : List α) f i = [] := rfl
    rw [this]; simp
  | a :: l, 0, j => by
    have : lmod (a :: l) f 0 = f a :: l := rfl
    rw [this]
    cases j <;> simp
  | a :: l, i + 1, j => by
    have : lmod (a :: l) f (i + 1) = a :: lmod l f i := rfl
    rw [this]
    cases j with
    | zero => simp
    | succ j => simp [lmod_get f l i j]

theorem lmod_len {α : Type} (f : α → α) : ∀ (l : List α) (i : Nat), (lmod l f i).length = l.length
  | [], i => rfl
  | a :: l, 0 => rfl
  | a :: l, i + 1 => by
    have : lmod (a :: l) f (i + 1) = a :: lmod l f i := rfl
    rw [this]; simp [lmod_len f l i]

theorem setObj_run {P : Program} {w : World} {r : Nat} {es es' : Array MapEntry} {ck ck' : Nat} (h : w.heap[r]? = some (.map es ck)) :
    (setObj r (.map es' ck')).run P w = .ok () { w with heap := w.heap.setIfInBounds r (.map es' ck') } := by
  simp [setObj, Sem.run, h]

theorem Ext.setMap {ρ : BMap} {s : St} {w : World} {b r z : Nat} {es0 es : List Ent} {ck0 ck : Nat} {es0' es' : Array MapEntry} (hr : HR ρ s w) (hs : s.get b = some (.map es0 ck0)) (hb : ρ b = some (r, z))
    (h0 : w.heap[r]? = some (.map es0' ck0)) (hl : es.length = es'.size) (he : ∀ (i : Nat) (x : Ent) (e : MapEntry), es[i]? = some x → es'[i]? = some e → ER ρ x e) :
    Ext ρ s w ρ (s.set b (.map es ck)) { w with heap := w.heap.setIfInBounds r (.map es' ck) } := by
  have hlt : r < w.heap.size := (Array.getElem?_eq_some_iff.1 h0).1
  have hbr : BR ρ z (.map es ck) (.map es' ck) := ⟨hl, he, rfl⟩
  refine Ext.write hr hs rfl hb (by simp) (by simp [hlt]) (fun k hk => ?_) rfl rfl rfl hbr
  show (w.heap.setIfInBounds r (.map es' ck))[k]? = _
  rw [Array.getElem?_setIfInBounds_ne (fun e => hk e.symm)]

noncomputable def mapUpdateA (s : St) (t : TypeId) (x k v : AV) : Option St :=
  match P.underlying t, x with
  | some (.map kt _), .map (some b) => match s.get b with
    | some (.map es ck) => cond (keyA P kt k) (ob (findA (fun q => eqA P s 6 kt k q) es 0) fun r =>
        match r with
        | some (i, _) => ob (nth es i) fun e => cond (keySame e.1 k) (some (s.set b (.map (lmod es (fun e => (k, v, e.2.2)) i) ck))) none
        | none => some (s.set b (.map (lapp es [(k, v, ck)]) (Nat.succ ck)))) none
    | _ => none
  | _, _ => none

theorem entry_get {ρ : BMap} {es : List Ent} {es' : Array MapEntry} (hl : es.length = es'.size) (he : ∀ (i : Nat) (x : Ent) (e : MapEntry), es[i]? = some x → es'[i]? = some e → ER ρ x e) {i : Nat} {x : Ent} (h : es[i]? = some x) :
    ∃ e, es'[i]? = some e ∧ ER ρ x e := by
  have hi : i < es'.size := by rw [← hl]; exact (List.getElem?_eq_some_iff.1 h).1
  exact ⟨es'[i], by simp [hi], he i x _ h (by simp [hi])⟩

theorem mapUpdateA_run {P : Program} {ρ : BMap} {s s' : St} {w : World} (hr : HR ρ s w) {t : TypeId} {x k v : AV} {x' k' v' : Value} (h : mapUpdateA P s t x k v = some s') (hx : VR ρ x x') (hk : VR ρ k k') (hv : VR ρ v v') :
    ∃ w', (Instr.mapUpdate t x' k' v').run P w = .ok () w' ∧ Ext ρ s w ρ s' w' := by
  unfold mapUpdateA at h
  split at h
  · rename_i kt elem b hu
    split at h
    · rename_i es ck hs
      replace h := cond_some h; obtain ⟨hkey, h⟩ := h
      replace h := ob_some h; obtain ⟨r, hf, h⟩ := h
      cases hx with
      | map hb =>
        rename_i rb z
        obtain ⟨es', h1, h2, h3⟩ := hr.map hs hb
        obtain ⟨r', f1, f2⟩ := findA_run hr hk (by rw [Array.length_toList]; exact h2) (fun i x e a c => h3 i x e a (by simpa using c)) hf (keyA_under hkey)
        have hck := keyA_run hkey hk false w
        cases r with
        | some p =>
          cases r' with
          | none => exact f2.elim
          | some q =>
            obtain ⟨a, _, _, _⟩ := f2
            obtain ⟨i, pv⟩ := p
            obtain ⟨j, qv⟩ := q
            dsimp only at a
            subst a
            replace h := ob_some (show ob (nth es i) _ = _ from h); obtain ⟨e, hne, h⟩ := h
            replace h := cond_some h; obtain ⟨hsame, h⟩ := h
            cases h
            rw [nth_eq] at hne
            obtain ⟨e', ge, re⟩ := entry_get h2 h3 hne
            have hstay := keySame_run (P := P) hsame re.1 hk w
            have hso := setObj_run (P := P) (es' := es'.modify i fun e => { e with key := k', val := v' }) (ck' := ck) h1
            refine ⟨_, ?_, Ext.setMap (es' := es'.modify i fun e => { e with key := k', val := v' }) hr hs hb h1 (by rw [lmod_len]; simpa using h2) (fun j x y hx hy => ?_)⟩
            · simp [Instr.mapUpdate, run_underlying hu, getObj, Sem.run, h1, hck, f1, ge, hstay, hso]
            · rw [lmod_get] at hx
              rw [Array.getElem?_modify] at hy
              by_cases hji : j = i
              · subst hji
                rw [if_pos rfl] at hx hy
                rw [hne] at hx; rw [ge] at hy
                simp at hx hy
                subst hx; subst hy
                exact ⟨hk, hv, re.2.2⟩
              · rw [if_neg hji] at hx
                rw [if_neg (fun e => hji e.symm)] at hy
                exact h3 j x y hx hy
        | none =>
          cases r' with
          | some q => exact f2.elim
          | none =>
            have h' : some (s.set b (.map (lapp es [(k, v, ck)]) (Nat.succ ck))) = some s' := h
            cases h'
            have hso := setObj_run (P := P) (es' := es'.push { key := k', val := v', born := ck }) (ck' := ck + 1) h1
            refine ⟨_, ?_, Ext.setMap (es' := es'.push { key := k', val := v', born := ck }) hr hs hb h1 (by rw [lapp_eq]; simp [h2]) (fun j x y hx hy => ?_)⟩
            · simp [Instr.mapUpdate, run_underlying hu, getObj, Sem.run, h1, hck, f1, hso]
            · rw [lapp_eq, List.getElem?_append] at hx
              rw [Array.getElem?_push] at hy
              split at hx
              · rename_i hj
                rw [if_neg (by omega)] at hy
                exact h3 j x y hx hy
              · rename_i hj
                by_cases hje : j = es'.size
                · rw [if_pos hje] at hy
                  rw [show j - es.length = 0 by omega] at hx
                  simp at hx hy
                  subst hx; subst hy
                  exact ⟨hk, hv, rfl⟩
                · rw [List.getElem?_eq_none (by simp; omega)] at hx
                  cases hx
    · cases h
  · cases h

/-- An entry to be stored into, found or made. -/
noncomputable def mapEntryA (s : St) (t : TypeId) (x k : AV) : Option (AV × St) :=
  match P.underlying t, x with
  | some (.map kt elem), .map (some b) => match s.get b with
    | some (.map es ck) => cond (keyA P kt k) (ob (findA (fun q => eqA P s 6 kt k q) es 0) fun r =>
        match r with
        | some (i, v) => ob (nth es i) fun e => cond (keySame e.1 k) (some (.tuple [v, .int .i64 (Int.ofNat e.2.2)], s.set b (.map (lmod es (fun e => (k, e.2)) i) ck))) none
        | none => ob (zeroA P elem) fun z => some (.tuple [z, .int .i64 (Int.ofNat ck)], s.set b (.map (lapp es [(k, z, ck)]) (Nat.succ ck)))) none
    | _ => none
  | _, _ => none

theorem mapEntryA_run {P : Program} {ρ : BMap} {s s' : St} {w : World} (hr : HR ρ s w) {t : TypeId} {x k u : AV} {x' k' : Value} (h : mapEntryA P s t x k = some (u, s')) (hx : VR ρ x x') (hk : VR ρ k k') :
    ∃ u' w', (Instr.mapEntry t x' k').run P w = .ok u' w' ∧ Ext ρ s w ρ s' w' ∧ VR ρ u u' := by
  unfold mapEntryA at h
  split at h
  · rename_i kt elem b hu
    split at h
    · rename_i es ck hs
      replace h := cond_some h; obtain ⟨hkey, h⟩ := h
      replace h := ob_some h; obtain ⟨r, hf, h⟩ := h
      cases hx with
      | map hb =>
        rename_i rb z
        obtain ⟨es', h1, h2, h3⟩ := hr.map hs hb
        obtain ⟨r', f1, f2⟩ := findA_run hr hk (by rw [Array.length_toList]; exact h2) (fun i x e a c => h3 i x e a (by simpa using c)) hf (keyA_under hkey)
        have hck := keyA_run hkey hk false w
        cases r with
        | some p =>
          cases r' with
          | none => exact f2.elim
          | some q =>
            obtain ⟨a, _, hval, _⟩ := f2
            obtain ⟨i, pv⟩ := p
            obtain ⟨j, qv⟩ := q
            dsimp only at a hval
            subst a
            replace h := ob_some (show ob (nth es i) _ = _ from h); obtain ⟨e, hne, h⟩ := h
            replace h := cond_some h; obtain ⟨hsame, h⟩ := h
            cases h
            rw [nth_eq] at hne
            obtain ⟨e', ge, re⟩ := entry_get h2 h3 hne
            have hstay := keySame_run (P := P) hsame re.1 hk w
            have hso := setObj_run (P := P) (es' := es'.modify i fun e => { e with key := k' }) (ck' := ck) h1
            refine ⟨.tuple #[qv, .int .i64 (e'.born : Int)], _, ?_, Ext.setMap (es' := es'.modify i fun e => { e with key := k' }) hr hs hb h1 (by rw [lmod_len]; simpa using h2) (fun j x y hx hy => ?_), ?_⟩
            · simp [Instr.mapEntry, run_underlying hu, getObj, Sem.run, h1, hck, f1, ge, hstay, hso, goInt]
            · rw [lmod_get] at hx
              rw [Array.getElem?_modify] at hy
              by_cases hji : j = i
              · subst hji
                rw [if_pos rfl] at hx hy
                rw [hne] at hx; rw [ge] at hy
                simp at hx hy
                subst hx; subst hy
                exact ⟨hk, re.2.1, re.2.2⟩
              · rw [if_neg hji] at hx
                rw [if_neg (fun e => hji e.symm)] at hy
                exact h3 j x y hx hy
            · refine pair_vr hval ?_
              rw [re.2.2]; exact .int _ _
        | none =>
          cases r' with
          | some q => exact f2.elim
          | none =>
            replace h := ob_some (show ob (zeroA P elem) _ = _ from h); obtain ⟨zv, hz, h⟩ := h
            obtain ⟨z', hzr, hzv⟩ := zeroA_run hz ρ w
            cases h
            have hso := setObj_run (P := P) (es' := es'.push { key := k', val := z', born := ck }) (ck' := ck + 1) h1
            refine ⟨.tuple #[z', .int .i64 (ck : Int)], _, ?_, Ext.setMap (es' := es'.push { key := k', val := z', born := ck }) hr hs hb h1 (by rw [lapp_eq]; simp [h2]) (fun j x y hx hy => ?_), pair_vr hzv (.int _ _)⟩
            · simp [Instr.mapEntry, run_underlying hu, getObj, Sem.run, h1, hck, f1, hzr, hso, goInt]
            · rw [lapp_eq, List.getElem?_append] at hx
              rw [Array.getElem?_push] at hy
              split at hx
              · rename_i hj
                rw [if_neg (by omega)] at hy
                exact h3 j x y hx hy
              · rename_i hj
                by_cases hje : j = es'.size
                · rw [if_pos hje] at hy
                  rw [show j - es.length = 0 by omega] at hx
                  simp at hx hy
                  subst hx; subst hy
                  exact ⟨hk, hzv, rfl⟩
                · rw [List.getElem?_eq_none (by simp; omega)] at hx
                  cases hx
    · cases h
  · cases h

/-- The place of the entry of a stamp. -/
noncomputable def findBorn (n : Nat) (es : List Ent) : Nat → Option Nat :=
  List.rec (motive := fun _ => Nat → Option Nat) (fun _ => none) (fun e _ ih i => cond (Nat.beq e.2.2 n) (some i) (ih (Nat.succ i))) es

theorem findBorn_run {n : Nat} : ∀ {es : List Ent} {es' : List MapEntry} {i j : Nat}, es.length = es'.length → (∀ (i : Nat) (x : Ent) (e : MapEntry), es[i]? = some x → es'[i]? = some e → e.born = x.2.2) → findBorn n es i = some j →
    ∃ q, es'.findIdx? (fun e => (e.born : Int) == (n : Int)) = some q ∧ j = i + q := by
  intro es
  induction es with
  | nil => intro es' i j hl he h; cases h
  | cons x es ih =>
    intro es' i j hl he h
    cases es' with
    | nil => simp at hl
    | cons e es' =>
      have hb := he 0 x e (by simp) (by simp)
      have h' : cond (Nat.beq x.2.2 n) (some i) (findBorn n es (Nat.succ i)) = some j := h
      rw [List.findIdx?_cons]
      by_cases hn : x.2.2 = n
      · rw [beq_yes hn] at h'
        cases h'
        exact ⟨0, by simp [hb, hn], rfl⟩
      · rw [beq_no hn] at h'
        obtain ⟨q, h1, h2⟩ := ih (es' := es') (by simpa using hl) (fun i x e a b => he (i + 1) x e (by simpa using a) (by simpa using b)) h'
        have hne : ((e.born : Int) == (n : Int)) = false := by
          rw [hb]; exact beq_eq_false_iff_ne.2 (by omega)
        exact ⟨q + 1, by simp [hne, h1], by omega⟩

noncomputable def entryStoreA (s : St) (x stamp v : AV) : Option St :=
  ob stamp.nat fun n =>
  match x with
  | .map (some b) => match s.get b with
    | some (.map es ck) => ob (findBorn n es 0) fun i => some (s.set b (.map (lmod es (fun e => (e.1, v, e.2.2)) i) ck))
    | _ => none
  | _ => none

theorem entryStoreA_run {P : Program} {ρ : BMap} {s s' : St} {w : World} (hr : HR ρ s w) {t : TypeId} {x k v : AV} {x' k' v' : Value} (h : entryStoreA s x k v = some s') (hx : VR ρ x x') (hk : VR ρ k k') (hv : VR ρ v v') :
    ∃ w', (Instr.entryStore t x' k' v').run P w = .ok () w' ∧ Ext ρ s w ρ s' w' := by
  replace h := ob_some h; obtain ⟨n, hn, h⟩ := h
  obtain ⟨kk, rfl⟩ := k.nat_vr hn hk
  split at h
  · rename_i b
    split at h
    · rename_i es ck hs
      replace h := ob_some h; obtain ⟨i, hi, h⟩ := h
      cases h
      cases hx with
      | map hb =>
        rename_i rb z
        obtain ⟨es', h1, h2, h3⟩ := hr.map hs hb
        obtain ⟨q, f1, f2⟩ := findBorn_run (es' := es'.toList) (by rw [Array.length_toList]; exact h2) (fun i x e a c => (h3 i x e a (by simpa using c)).2.2) hi
        rw [Nat.zero_add] at f2
        subst f2
        have f1' : es'.findIdx? (fun e => (e.born : Int) == (n : Int)) = some i := by
          rw [← f1]
          obtain ⟨l⟩ := es'
          exact List.findIdx?_toArray ..
        have hso := setObj_run (P := P) (es' := es'.modify i fun e => { e with val := v' }) (ck' := ck) h1
        refine ⟨_, ?_, Ext.setMap (es' := es'.modify i fun e => { e with val := v' }) hr hs hb h1 (by rw [lmod_len]; simpa using h2) (fun j x y hx hy => ?_)⟩
        · simp [Instr.entryStore, asInt, asIntOf, getObj, Sem.run, h1, f1', hso]
        · rw [lmod_get] at hx
          rw [Array.getElem?_modify] at hy
          by_cases hji : j = i
          · subst hji
            rw [if_pos rfl] at hx hy
            cases hx0 : es[j]? with
            | none => rw [hx0] at hx; cases hx
            | some x0 =>
              obtain ⟨e', ge, re⟩ := entry_get h2 h3 hx0
              rw [hx0] at hx; rw [ge] at hy
              simp at hx hy
              subst hx; subst hy
              exact ⟨re.1, hv, re.2.2⟩
          · rw [if_neg hji] at hx
            rw [if_neg (fun e => hji e.symm)] at hy
            exact h3 j x y hx hy
    · cases h
  · cases h

end Go.Proofs.Bx
