/- Reading and writing memory: the abstract answer, and that the model's operation gives it, in a world that reads as the abstract memory. -/
import Derived.Test.YtbbkhiapcclnpaaGreatDoorBxSlice
import Derived.Laws.IdiomCopy
import Derived.Room.AppendOwn
set_option linter.unusedVariables false
set_option linter.unusedSimpArgs false
set_option linter.unusedSectionVars false
namespace Go.Proofs.Bx
open Go
variable (P : Program)

/-! What stands in a block. -/

theorem HR.cells {ρ : BMap} {s : St} {w : World} (h : HR ρ s w) {b r z : Nat} {cs : List AV} {rw : Bool} {ty : Option TypeId} (hs : s.get b = some (.cells cs rw ty)) (hb : ρ b = some (r, z)) :
    ∃ arr elem fz, w.heap[r]? = some (.cells arr elem fz) ∧ arr.size = z ∧ cs.length ≤ arr.size ∧ (∀ (i : Nat) (v : AV) (v' : Value), cs[i]? = some v → arr[i]? = some v' → VR ρ v v') ∧ (rw = true → fz = (0, 0)) ∧ (∀ t, ty = some t → elem = t) := by
  obtain ⟨r', z', o, e, ho, hr⟩ := h.blk b _ hs (by simp)
  rw [hb] at e
  cases e
  cases o <;> simp only [BR] at hr
  exact ⟨_, _, _, ho, hr⟩

theorem HR.map {ρ : BMap} {s : St} {w : World} (h : HR ρ s w) {b r z : Nat} {es : List (AV × AV × Nat)} {ck : Nat} (hs : s.get b = some (.map es ck)) (hb : ρ b = some (r, z)) :
    ∃ es', w.heap[r]? = some (.map es' ck) ∧ es.length = es'.size ∧ (∀ (i : Nat) (x : AV × AV × Nat) (e : MapEntry), es[i]? = some x → es'[i]? = some e → ER ρ x e) := by
  obtain ⟨r', z', o, e, ho, hr⟩ := h.blk b _ hs (by simp)
  rw [hb] at e
  cases e
  cases o <;> simp only [BR] at hr
  obtain ⟨h1, h2, rfl⟩ := hr
  exact ⟨_, ho, h1, h2⟩

noncomputable def cellsAt (s : St) (b o n : Nat) : Option (List AV) :=
  match s.get b with
  | some (.cells cs _ _) => ltake (ldrop cs o) n
  | _ => none

theorem cellsAt_run {ρ : BMap} {s : St} {w : World} (h : HR ρ s w) {b r z o n : Nat} {l : List AV} (hc : cellsAt s b o n = some l) (hb : ρ b = some (r, z)) :
    ∃ vs : List Value, vs.length = n ∧ (∀ (j : Nat) (v : Value), vs[j]? = some v → w.cell? ((⟨r, o, none⟩ : Addr).add j) = some v) ∧ VRs ρ l vs.toArray := by
  unfold cellsAt at hc
  split at hc
  · rename_i cs rw ty hs
    obtain ⟨arr, elem, fz, ho, hz, hlen, hv, _⟩ := h.cells hs hb
    rw [ldrop_eq] at hc
    obtain ⟨h1, h2⟩ := ltake_eq _ _ _ hc
    have h3 := congrArg List.length h1
    rw [h2, List.length_take, List.length_drop] at h3
    refine ⟨(arr.toList.drop o).take n, ?_, fun j v e => ?_, ?_, fun i v v' e e' => ?_⟩
    · rw [List.length_take, List.length_drop, Array.length_toList]; omega
    · rw [List.getElem?_take] at e
      split at e
      · rw [List.getElem?_drop] at e
        rw [add_addr]
        simp only [World.cell?, ho]
        simpa using e
      · cases e
    · simp [h2]; omega
    · have hi : i < n := by rw [← h2]; exact (List.getElem?_eq_some_iff.1 e).1
      rw [h1, List.getElem?_take, if_pos hi, List.getElem?_drop] at e
      simp only [List.getElem?_toArray, List.getElem?_take, hi, if_true, List.getElem?_drop, Array.getElem?_toList] at e'
      exact hv _ _ _ e e'
  · cases hc

noncomputable def loadA (s : St) (t : TypeId) (x : AV) : Option AV :=
  match x with
  | .ptr (some (b, o)) => ob (agg? P t) fun g => cond g (ob (size? P t) fun n => ob (cellsAt s b o n) fun l => some (.agg l))
      (match s.get b with
       | some (.cells cs _ _) => nth (ldrop cs o) 0
       | _ => none)
  | _ => none

theorem loadA_run {P : Program} {ρ : BMap} {s : St} {w : World} {t : TypeId} {x v : AV} {x' : Value} (h : loadA P s t x = some v) (hr : HR ρ s w) (hx : VR ρ x x') :
    ∃ v', (Instr.loadAt t x').run P w = .ok v' w ∧ VR ρ v v' := by
  unfold loadA at h
  split at h
  · rename_i b o
    replace h := ob_some h; obtain ⟨g, hg, h⟩ := h
    cases hx with
    | ptr hb =>
      rename_i r z
      cases g with
      | true =>
        replace h := ob_some (show ob (size? P t) _ = _ from h); obtain ⟨n, hn, h⟩ := h
        replace h := ob_some h; obtain ⟨l, hl, h⟩ := h
        cases h
        obtain ⟨vs, h1, h2, h3⟩ := cellsAt_run hr hl hb
        refine ⟨.agg vs.toArray, ?_, .agg h3.1 h3.2⟩
        have := run_loadCells_list (P := P) w ⟨r, o, none⟩ vs h2
        rw [h1] at this
        simp [Instr.loadAt, Instr.sureAddr, loadVar, agg?_run hg, size?_run hn, this]
      | false =>
        have h' : (match s.get b with
       | some (.cells cs _ _) => nth (ldrop cs o) 0
       | _ => none) = some v := h
        split at h'
        · rename_i cs rw ty hs
          rw [nth_eq, ldrop_eq, List.getElem?_drop] at h'
          obtain ⟨arr, elem, fz, ho, hz, hlen, hv, _⟩ := hr.cells hs hb
          have hlt : o + 0 < arr.size := Nat.lt_of_lt_of_le (List.getElem?_eq_some_iff.1 h').1 hlen
          have e' : arr[o + 0]? = some arr[o + 0] := by simp
          refine ⟨arr[o + 0], ?_, hv _ _ _ h' e'⟩
          simp only [Nat.add_zero] at e'
          simp [Instr.loadAt, Instr.sureAddr, loadVar, agg?_run hg, World.cell?, ho, e']
        · cases h'
  · cases h

/-! New blocks. -/

def upd (ρ : BMap) (i r z : Nat) : BMap := fun j => if j = i then some (r, z) else ρ j

theorem upd_sub {ρ : BMap} {i r z : Nat} (h : ρ i = none) : Sub ρ (upd ρ i r z) := fun j q e => by
  unfold upd
  split
  · subst_vars; rw [h] at e; cases e
  · exact e

theorem upd_self (ρ : BMap) (i r z : Nat) : upd ρ i r z i = some (r, z) := by simp [upd]

theorem Ext.new {ρ : BMap} {s : St} {w w' : World} {z : Nat} {blk : Blk} {obj : Obj} (h : HR ρ s w) (hh : w'.heap = w.heap.push obj) (ho : w'.os = w.os) (ht : w'.tape = w.tape) (hp : w'.output = w.output)
    (hb : BR (upd ρ s.next w.heap.size z) z blk obj) : Ext ρ s w (upd ρ s.next w.heap.size z) (s.new blk) w' := by
  have hsub := upd_sub (r := w.heap.size) (z := z) (h.fresh s.next (Nat.le_refl _))
  have hget : ∀ {i b}, (s.new blk).get i = some b → (i = s.next ∧ b = blk) ∨ (i ≠ s.next ∧ s.get i = some b) := fun e => Tr.get_set e
  have hold : ∀ {i}, i ≠ s.next → upd ρ s.next w.heap.size z i = ρ i := fun e => by simp [upd, e]
  refine ⟨hsub, ⟨fun i hi => ?_, fun i b e hd => ?_, fun i j b c r y y' e1 e2 hw hd r1 r2 => ?_, fun i r y e => ?_⟩, ?_, fun r hr _ => ?_, fun r hr hm => ?_, fun r hr hm => ?_, ?_, fun i hi => ?_, ho, ht, hp⟩
  · have hi' : s.next + 1 ≤ i := hi
    rw [hold (by omega)]
    exact h.fresh i (by omega)
  · rcases hget e with ⟨rfl, rfl⟩ | ⟨hn, e⟩
    · exact ⟨w.heap.size, z, obj, upd_self _ _ _ _, by rw [hh]; simp, hb⟩
    · obtain ⟨r, y, o, h1, h2, h3⟩ := h.blk i b e hd
      refine ⟨r, y, o, by rw [hold hn]; exact h1, ?_, h3.mono hsub⟩
      rw [hh, Array.getElem?_push, if_neg (by have := h.below i r y h1; omega)]
      exact h2
  · rcases hget e1 with ⟨rfl, rfl⟩ | ⟨hn1, f1⟩
    · rcases hget e2 with ⟨rfl, rfl⟩ | ⟨hn2, f2⟩
      · rfl
      · rw [upd_self] at r1; cases r1
        rw [hold hn2] at r2
        have := h.below j _ _ r2; omega
    · rcases hget e2 with ⟨rfl, rfl⟩ | ⟨hn2, f2⟩
      · rw [upd_self] at r2; cases r2
        rw [hold hn1] at r1
        have := h.below i _ _ r1; omega
      · rw [hold hn1] at r1; rw [hold hn2] at r2
        exact h.inj i j b c r _ _ f1 f2 hw hd r1 r2
  · rw [hh, Array.size_push]
    by_cases hi : i = s.next
    · subst hi; rw [upd_self] at e; cases e; omega
    · rw [hold hi] at e; have := h.below i r _ e; omega
  · rw [hh, Array.size_push]; omega
  · rw [hh, Array.getElem?_push, if_neg (by omega)]
  · obtain ⟨i, b, y, e, hw, hρ⟩ := hm
    rcases hget e with ⟨rfl, rfl⟩ | ⟨hn, e⟩
    · rw [upd_self] at hρ; cases hρ; omega
    · rw [hold hn] at hρ; exact ⟨i, b, y, e, hw, hρ⟩
  · obtain ⟨i, b, y, e, hw, hρ⟩ := hm
    rcases hget e with ⟨rfl, rfl⟩ | ⟨hn, e⟩
    · rw [upd_self] at hρ; cases hρ; omega
    · rw [hold hn] at hρ; exact ⟨i, b, y, e, hw, hρ⟩
  · show s.next ≤ s.next + 1; omega
  · exact hold (by omega)

/-- A block that may be written is written. -/
theorem Ext.write {ρ : BMap} {s : St} {w w' : World} {b r z : Nat} {blk0 blk : Blk} {obj : Obj} (h : HR ρ s w) (hs : s.get b = some blk0) (hw : blk0.rw = true) (hb : ρ b = some (r, z))
    (hsz : w'.heap.size = w.heap.size) (hr : w'.heap[r]? = some obj) (hk : ∀ k, k ≠ r → w'.heap[k]? = w.heap[k]?) (ho : w'.os = w.os) (ht : w'.tape = w.tape) (hp : w'.output = w.output)
    (hbr : BR ρ z blk obj) : Ext ρ s w ρ (s.set b blk) w' := by
  have hget : ∀ {i c}, (s.set b blk).get i = some c → (i = b ∧ c = blk) ∨ (i ≠ b ∧ s.get i = some c) := fun e => Tr.get_set e
  have hnd : blk0 ≠ .dead := by intro e; subst e; cases hw
  refine ⟨.refl _, ⟨h.fresh, fun i c e hd => ?_, fun i j c d q y y' e1 e2 hw1 hd r1 r2 => ?_, fun i q y e => by rw [hsz]; exact h.below i q y e⟩, by rw [hsz]; exact Nat.le_refl _, fun q hq hm => ?_, fun q hq hm => ?_, fun q hq hm => ?_, Nat.le_refl _, fun _ _ => rfl, ho, ht, hp⟩
  · rcases hget e with ⟨rfl, rfl⟩ | ⟨hn, e⟩
    · exact ⟨r, z, obj, hb, hr, hbr⟩
    · obtain ⟨q, y, o, h1, h2, h3⟩ := h.blk i c e hd
      refine ⟨q, y, o, h1, ?_, h3⟩
      rw [hk q ?_]
      · exact h2
      · intro e'; subst e'
        exact hn (h.inj b i blk0 c q _ _ hs e hw hd hb h1).symm
  · rcases hget e1 with ⟨rfl, rfl⟩ | ⟨hn1, f1⟩
    · rcases hget e2 with ⟨rfl, rfl⟩ | ⟨hn2, f2⟩
      · rfl
      · exact h.inj _ _ _ _ _ _ _ hs f2 hw hd r1 r2
    · rcases hget e2 with ⟨rfl, rfl⟩ | ⟨hn2, f2⟩
      · exact h.inj _ _ _ _ _ _ _ f1 hs hw1 hnd r1 r2
      · exact h.inj _ _ _ _ _ _ _ f1 f2 hw1 hd r1 r2
  · refine hk q fun e => ?_
    subst e
    exact hm ⟨b, blk0, z, hs, hw, hb⟩
  · obtain ⟨i, c, y, e, hw1, hρ⟩ := hm
    rcases hget e with ⟨rfl, rfl⟩ | ⟨hn, e⟩
    · exact ⟨_, blk0, y, hs, hw, hρ⟩
    · exact ⟨i, c, y, e, hw1, hρ⟩
  · obtain ⟨i, c, y, e, hw1, hρ⟩ := hm
    rcases hget e with ⟨rfl, rfl⟩ | ⟨hn, e⟩
    · exact ⟨_, blk0, y, hs, hnd, hρ⟩
    · exact ⟨i, c, y, e, hw1, hρ⟩

/-- A block goes out of use. -/
theorem Ext.kill {ρ : BMap} {s : St} {w : World} (h : HR ρ s w) (b : Nat) : Ext ρ s w ρ (s.set b .dead) w := by
  have hget : ∀ {i c}, (s.set b .dead).get i = some c → (i = b ∧ c = .dead) ∨ (i ≠ b ∧ s.get i = some c) := fun e => Tr.get_set e
  refine ⟨.refl _, ⟨h.fresh, fun i c e hd => ?_, fun i j c d q y y' e1 e2 hw1 hd r1 r2 => ?_, h.below⟩, Nat.le_refl _, fun _ _ _ => rfl, fun q _ hm => ?_, fun q _ hm => ?_, Nat.le_refl _, fun _ _ => rfl, rfl, rfl, rfl⟩
  · rcases hget e with ⟨rfl, rfl⟩ | ⟨hn, e⟩
    · exact absurd rfl hd
    · exact h.blk i c e hd
  · rcases hget e1 with ⟨rfl, rfl⟩ | ⟨hn1, f1⟩
    · cases hw1
    · rcases hget e2 with ⟨rfl, rfl⟩ | ⟨hn2, f2⟩
      · exact absurd rfl hd
      · exact h.inj _ _ _ _ _ _ _ f1 f2 hw1 hd r1 r2
  · obtain ⟨i, c, y, e, hw1, hρ⟩ := hm
    rcases hget e with ⟨rfl, rfl⟩ | ⟨hn, e⟩
    · cases hw1
    · exact ⟨i, c, y, e, hw1, hρ⟩
  · obtain ⟨i, c, y, e, hw1, hρ⟩ := hm
    rcases hget e with ⟨rfl, rfl⟩ | ⟨hn, e⟩
    · exact absurd rfl hw1
    · exact ⟨i, c, y, e, hw1, hρ⟩

/-- A block gets another number, the elder one goes out of use. -/
theorem Ext.move {ρ : BMap} {s : St} {w w' : World} {b r z : Nat} {blk0 blk : Blk} {obj : Obj} (h : HR ρ s w) (hs : s.get b = some blk0) (hw : blk0.rw = true) (hb : ρ b = some (r, z))
    (hsz : w'.heap.size = w.heap.size) (hr : w'.heap[r]? = some obj) (hk : ∀ k, k ≠ r → w'.heap[k]? = w.heap[k]?) (ho : w'.os = w.os) (ht : w'.tape = w.tape) (hp : w'.output = w.output)
    (hbr : BR (upd ρ s.next r z) z blk obj) : Ext ρ s w (upd ρ s.next r z) ((s.set b .dead).new blk) w' := by
  have hsub := upd_sub (r := r) (z := z) (h.fresh s.next (Nat.le_refl _))
  have hget : ∀ {i c}, ((s.set b .dead).new blk).get i = some c → (i = s.next ∧ c = blk) ∨ (i ≠ s.next ∧ ((i = b ∧ c = .dead) ∨ (i ≠ b ∧ s.get i = some c))) := fun e => by
    rcases Tr.get_set e with h1 | ⟨h1, h2⟩
    · exact .inl h1
    · exact .inr ⟨h1, Tr.get_set h2⟩
  have hold : ∀ {i}, i ≠ s.next → upd ρ s.next r z i = ρ i := fun e => by simp [upd, e]
  refine ⟨hsub, ⟨fun i hi => ?_, fun i c e hd => ?_, fun i j c d q y y' e1 e2 hw1 hd r1 r2 => ?_, fun i q y e => ?_⟩, by rw [hsz]; exact Nat.le_refl _, fun q hq hm => ?_, fun q hq hm => ?_, fun q hq hm => ?_, ?_, fun i hi => hold (by omega), ho, ht, hp⟩
  · have hi' : s.next + 1 ≤ i := hi
    rw [hold (by omega)]
    exact h.fresh i (by omega)
  · rcases hget e with ⟨rfl, rfl⟩ | ⟨hn, ⟨rfl, rfl⟩ | ⟨hnb, e⟩⟩
    · exact ⟨r, z, obj, upd_self _ _ _ _, hr, hbr⟩
    · exact absurd rfl hd
    · obtain ⟨q, y, o, h1, h2, h3⟩ := h.blk i c e hd
      refine ⟨q, y, o, by rw [hold hn]; exact h1, ?_, h3.mono hsub⟩
      rw [hk q ?_]
      · exact h2
      · intro e'; subst e'
        exact hnb (h.inj b i blk0 c q _ _ hs e hw hd hb h1).symm
  · rcases hget e1 with ⟨rfl, rfl⟩ | ⟨hn1, ⟨rfl, rfl⟩ | ⟨hb1, f1⟩⟩
    · rcases hget e2 with ⟨rfl, rfl⟩ | ⟨hn2, ⟨rfl, rfl⟩ | ⟨hb2, f2⟩⟩
      · rfl
      · exact absurd rfl hd
      · rw [upd_self] at r1; cases r1
        rw [hold hn2] at r2
        exact absurd (h.inj b j blk0 d _ _ _ hs f2 hw hd hb r2).symm hb2
    · cases hw1
    · rcases hget e2 with ⟨rfl, rfl⟩ | ⟨hn2, ⟨rfl, rfl⟩ | ⟨hb2, f2⟩⟩
      · rw [upd_self] at r2; cases r2
        rw [hold hn1] at r1
        have hcd : c ≠ .dead := by intro e; subst e; cases hw1
        exact absurd (h.inj b i blk0 c _ _ _ hs f1 hw hcd hb r1).symm hb1
      · exact absurd rfl hd
      · rw [hold hn1] at r1; rw [hold hn2] at r2
        exact h.inj _ _ _ _ _ _ _ f1 f2 hw1 hd r1 r2
  · rw [hsz]
    by_cases hi : i = s.next
    · subst hi; rw [upd_self] at e; cases e; exact h.below b _ _ hb
    · rw [hold hi] at e; exact h.below i q _ e
  · refine hk q fun e => ?_
    subst e
    exact hm ⟨b, blk0, z, hs, hw, hb⟩
  · obtain ⟨i, c, y, e, hw1, hρ⟩ := hm
    rcases hget e with ⟨rfl, rfl⟩ | ⟨hn, ⟨rfl, rfl⟩ | ⟨hnb, e⟩⟩
    · rw [upd_self] at hρ; cases hρ; exact ⟨b, blk0, z, hs, hw, hb⟩
    · cases hw1
    · rw [hold hn] at hρ; exact ⟨i, c, y, e, hw1, hρ⟩
  · obtain ⟨i, c, y, e, hw1, hρ⟩ := hm
    rcases hget e with ⟨rfl, rfl⟩ | ⟨hn, ⟨rfl, rfl⟩ | ⟨hnb, e⟩⟩
    · rw [upd_self] at hρ; cases hρ; exact ⟨b, blk0, z, hs, (by intro e'; subst e'; cases hw), hb⟩
    · exact absurd rfl hw1
    · rw [hold hn] at hρ; exact ⟨i, c, y, e, hw1, hρ⟩
  · show s.next ≤ s.next + 1; omega

end Go.Proofs.Bx
