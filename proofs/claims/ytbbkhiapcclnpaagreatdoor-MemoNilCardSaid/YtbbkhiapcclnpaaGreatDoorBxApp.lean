/- Append on the abstract memory: in place where there is room for certain, a new block where there is none for certain; where it is open the elder block goes out of use. -/
import Derived.Test.YtbbkhiapcclnpaaGreatDoorBxEff
set_option linter.unusedVariables false
set_option linter.unusedSimpArgs false
set_option linter.unusedSectionVars false
namespace Go.Proofs.Bx
open Go

def room : Nat := 140737488355328

section runs
variable {P : Program} (w : World)

theorem run_append_place (t tx ty e ex : TypeId) (i : TypeInfo) (ht : P.underlying t = some (.slice e)) (htx : P.underlying tx = some (.slice ex)) (hi : P.info? e = some i)
    (b : Addr) (l c : Nat) (a : Addr) (n c2 : Nat) (news : List Value) (hl : news.length = n * i.size) (hnews : ∀ j v, news[j]? = some v → w.cell? (a.add j) = some v)
    (hroom : l + n ≤ c) {w' : World} (hst : (storeCells (b.add (l * i.size)) news).run P w = .ok () w') :
    (Builtin.append_ #[t, tx] ty #[.slice (some b) l c, .slice (some a) n c2]).run P w = .ok (.slice (some b) (l + n) c) w' := by
  have hf := run_firstCells_some (P := P) w i.size n a n c2 news hl hnews
  simp [Builtin.append_, run_underlying ht, run_underlying htx, sizeOf, typeInfo, hi, Builtin.lenOf, hroom, hf, hst]

theorem run_append_none (t tx ty e ex : TypeId) (i : TypeInfo) (ht : P.underlying t = some (.slice e)) (htx : P.underlying tx = some (.slice ex)) (hi : P.info? e = some i)
    (b : Option Addr) (l c : Nat) (a : Option Addr) (c2 : Nat) (hroom : l ≤ c) :
    (Builtin.append_ #[t, tx] ty #[.slice b l c, .slice a 0 c2]).run P w = .ok (.slice b l c) w := by
  cases a <;> cases b <;> simp [Builtin.append_, run_underlying ht, run_underlying htx, sizeOf, typeInfo, hi, Builtin.lenOf, hroom, Builtin.firstCells, loadCells, loadCellsFrom, storeCells]

theorem run_append_new (t tx ty e ex : TypeId) (i : TypeInfo) (z : Value) (ht : P.underlying t = some (.slice e)) (htx : P.underlying tx = some (.slice ex)) (hi : P.info? e = some i) (hz : i.zero = some z)
    (b : Option Addr) (l c : Nat) (olds : List Value) (hfo : (Builtin.firstCells i.size l (.slice b l c)).run P w.drew = .ok olds.toArray w.drew)
    (a : Addr) (n c2 : Nat) (news : List Value) (hl : news.length = n * i.size) (hnews : ∀ j v, news[j]? = some v → w.cell? (a.add j) = some v)
    (hg : c < l + n) (h63 : ((l + n : Nat) : Int) ≤ 9223372036854775807) (hfit : Builtin.nextslicecap (l + n) c * i.bytes ≤ 281474976710656) :
    (Builtin.append_ #[t, tx] ty #[.slice b l c, .slice (some a) n c2]).run P w =
      .ok (.slice (some ⟨w.heap.size, 0, none⟩) (l + n) (grownCap w (l + n) c e))
        (w.drew.alloc (.cells (olds.toArray ++ news.toArray ++ Builtin.zeroCells z.cells (grownCap w (l + n) c e - (l + n))) e)) := by
  have hn : ¬ (l + n ≤ c) := by omega
  have h63' : ¬ (9223372036854775807 < ((l : Int) + (n : Int))) := by omega
  have h48' : ¬ (281474976710656 < Builtin.nextslicecap (l + n) c * i.bytes) := by omega
  have hf := run_firstCells_some (P := P) w.drew i.size n a n c2 news hl (by simpa using hnews)
  simp [Builtin.append_, run_underlying ht, run_underlying htx, sizeOf, typeInfo, zeroValue, hi, hz, Builtin.lenOf, hn, h63', h48', Question.forced, hf, hfo, newRow, grownCap]
  congr 2
  apply Array.ext'
  simp [List.append_assoc]
end runs

theorem cap_cells (sz need c : Nat) (h : need ≤ c) : need * sz + (c - need) * sz = c * sz := by
  rw [← Nat.add_mul]; congr 1; omega

noncomputable def appendA (P : Program) (s : St) (t tx : TypeId) (x y : AV) : Option (AV × St) :=
  match P.underlying t, P.underlying tx with
  | some (.slice elem), some (.slice _) =>
    ob (P.info? elem) fun i => ob i.zero fun z => cond (Nat.beq z.cells.size i.size) (
    match x, y with
    | .slice a l cap, .slice yb m _ =>
      cond (Nat.beq m 0) (some (.slice a l cap, s))
        (match yb with
         | none => none
         | some (b2, o2) => ob (cellsAt s b2 o2 (Nat.mul m i.size)) fun new => cond (allAtoms new)
            (match a with
             | none => cond (Nat.ble m room) (cond (Nat.ble (Nat.mul m i.bytes) room) (some (.slice (some (s.next, 0)) m (.atLeast m i.bytes i.size), s.new (.cells new true))) none) none
             | some (b, o) => cond (Nat.ble (Nat.add l m) cap.low)
                (ob (putA s b (Nat.add o (Nat.mul l i.size)) new) fun s' => some (.slice (some (b, o)) (Nat.add l m) cap, s'))
                (cond (Nat.ble (Nat.add l m) room) (cond (Nat.ble (Nat.mul (Nat.add l m) i.bytes) room)
                  (ob (cellsAt s b o (Nat.mul l i.size)) fun old =>
                    match cap with
                    | .exact _ => some (.slice (some (s.next, 0)) (Nat.add l m) (.atLeast (Nat.add l m) i.bytes i.size), s.new (.cells (lapp old new) true))
                    | .atLeast _ bt k => cond (Nat.beq o 0) (cond (Nat.beq bt i.bytes) (cond (Nat.beq k i.size)
                        (match s.get b with
                         | some (.cells _ true _) => some (.slice (some (s.next, 0)) (Nat.add l m) (.atLeast (Nat.add l m) i.bytes i.size), (s.set b .dead).new (.cells (lapp old new) true))
                         | _ => none) none) none) none) none) none))
            none)
    | _, _ => none) none
  | _, _ => none

/-- What an operation that makes room owes. -/
def EffR (P : Program) (sem : Sem Value) (ρ : BMap) (s : St) (w : World) (v : AV) (s' : St) : Prop :=
  (∃ ρ' v' w', sem.run P w = .ok v' w' ∧ Ext ρ s w ρ' s' w' ∧ VR ρ' v v') ∨ False

theorem VRs.ofList {ρ : BMap} {l : List AV} {vs : List Value} (h : VRs ρ l vs.toArray) {m : List AV} {us : List Value} (k : VRs ρ m us.toArray) : VRs ρ (lapp l m) (vs ++ us).toArray := by
  rw [lapp_eq]
  have := h.append k
  simpa using this

theorem appendA_run {P : Program} {ρ : BMap} {s s' : St} {w : World} {t tx ty : TypeId} {x y v : AV} {x' y' : Value} (h : appendA P s t tx x y = some (v, s')) (hr : HR ρ s w) (hx : VR ρ x x') (hy : VR ρ y y') :
    EffR P (Builtin.append_ #[t, tx] ty #[x', y']) ρ s w v s' := by
  unfold appendA at h
  split at h
  · rename_i elem ex ht htx
    replace h := ob_some h; obtain ⟨i, hi, h⟩ := h
    replace h := ob_some h; obtain ⟨z, hz, h⟩ := h
    replace h := cond_some h; obtain ⟨hzs, h⟩ := h
    have hzs : z.cells.size = i.size := Nat.eq_of_beq_eq_true hzs
    split at h
    · rename_i a l cap yb m mc
      by_cases hm : m = 0
      · subst hm
        rw [beq_yes rfl] at h
        cases h
        cases hx with
        | sliceNil =>
          cases hy with
          | sliceNil => exact .inl ⟨ρ, _, w, run_append_none w t tx ty elem ex i ht htx hi none 0 0 none 0 (Nat.le_refl _), .refl hr, .sliceNil⟩
          | slice hb hc hl => exact .inl ⟨ρ, _, w, run_append_none w t tx ty elem ex i ht htx hi none 0 0 _ _ (Nat.le_refl _), .refl hr, .sliceNil⟩
        | slice hb hc hl =>
          cases hy with
          | sliceNil => exact .inl ⟨ρ, _, w, run_append_none w t tx ty elem ex i ht htx hi _ _ _ none 0 hl, .refl hr, .slice hb hc hl⟩
          | slice hb2 hc2 hl2 => exact .inl ⟨ρ, _, w, run_append_none w t tx ty elem ex i ht htx hi _ _ _ _ _ hl, .refl hr, .slice hb hc hl⟩
      · rw [beq_no hm] at h
        cases hy with
        | sliceNil => cases h
        | slice hb2 hc2 hl2 =>
          rename_i b2 o2 r2 z2 c2
          replace h := ob_some (show ob (cellsAt s b2 o2 (Nat.mul m i.size)) _ = _ from h); obtain ⟨new, hnew, h⟩ := h
          replace h := cond_some h; obtain ⟨hat, h⟩ := h
          obtain ⟨news, n1, n2, n3⟩ := cellsAt_run hr hnew hb2
          have n1 : news.length = m * i.size := n1
          have h1c : ∀ u ∈ news, u.oneCell' = true := by simpa using n3.oneCell hat
          cases hx with
          | sliceNil =>
            replace h := cond_some (show cond (Nat.ble m room) _ none = _ from h); obtain ⟨hle, h⟩ := h
            replace h := cond_some h; obtain ⟨hle2, h⟩ := h
            cases h
            have hle := Nat.le_of_ble_eq_true hle
            have hle2 : m * i.bytes ≤ room := Nat.le_of_ble_eq_true hle2
            unfold room at hle hle2
            have hfit : Builtin.nextslicecap (0 + m) 0 * i.bytes ≤ 281474976710656 := growslice_fits (by omega) (by rw [Nat.zero_add]; exact hle2)
            have hrun := run_append_new (P := P) w t tx ty elem ex i z ht htx hi hz none 0 0 [] (by simp [run_firstCells_none]) ⟨r2, o2, none⟩ m c2 news n1 n2 (by omega) (by omega) hfit
            · refine .inl ⟨_, _, _, hrun, Ext.new (w' := w.drew.alloc _) hr rfl rfl rfl rfl ⟨rfl, ?_, fun j u u' e e' => ?_, fun _ => rfl, nofun⟩, ?_⟩
              · simp only [List.size_toArray, Array.size_append, n3.1, List.length_nil]; omega
              · refine (n3.2 j u u' e ?_).mono (upd_sub (hr.fresh _ (Nat.le_refl _)))
                have hj : j < news.length := by
                  have := (List.getElem?_eq_some_iff.1 e).1
                  rw [n3.1] at this; simpa using this
                simp only [Array.empty_append] at e'
                rw [Array.getElem?_append_left (by simpa using hj)] at e'
                exact e'
              · rw [Nat.zero_add]
                refine .slice (upd_self _ _ _ _) ⟨?_, ?_⟩ ?_
                · have := grownCap_ge w m 0 elem; exact this
                · have hge := grownCap_ge w m 0 elem
                  have := cap_cells i.size m (grownCap w m 0 elem) hge
                  simp only [List.size_toArray, Array.size_append, List.length_nil, n1, Nat.zero_add, size_zeroCells, hzs]
                  omega
                · exact grownCap_ge w m 0 elem
          | slice hb hc hl =>
            rename_i b o r zb c
            have h' : cond (Nat.ble (Nat.add l m) cap.low) _ _ = some (v, s') := h
            cases hfit0 : Nat.ble (Nat.add l m) cap.low with
            | true =>
              rw [hfit0] at h'
              replace h' := ob_some (show ob (putA s b (Nat.add o (Nat.mul l i.size)) new) _ = _ from h'); obtain ⟨s2, hput, h'⟩ := h'
              cases h'
              have hle : l + m ≤ cap.low := Nat.le_of_ble_eq_true hfit0
              have hcl := Cap.ok_low hc
              obtain ⟨p1, p2⟩ := putA_run (P := P) hput hr hb n3 h1c
              have hst : (storeCells ((⟨r, o, none⟩ : Addr).add (l * i.size)) news).run P w = .ok () (w.setCells r (Nat.add o (Nat.mul l i.size)) news) := by
                rw [add_addr]; exact p1
              exact .inl ⟨ρ, _, _, run_append_place (P := P) w t tx ty elem ex i ht htx hi ⟨r, o, none⟩ l c ⟨r2, o2, none⟩ m c2 news n1 n2 (by omega) hst, p2, .slice hb hc (by show l + m ≤ c; omega)⟩
            | false =>
              rw [hfit0] at h'
              replace h' := cond_some (show cond (Nat.ble (Nat.add l m) room) _ none = _ from h'); obtain ⟨hle, h'⟩ := h'
              replace h' := cond_some h'; obtain ⟨hle2, h'⟩ := h'
              replace h' := ob_some h'; obtain ⟨old, hold, h'⟩ := h'
              have hle : l + m ≤ room := Nat.le_of_ble_eq_true hle
              have hle2 : (l + m) * i.bytes ≤ room := Nat.le_of_ble_eq_true hle2
              unfold room at hle hle2
              obtain ⟨olds, o1, o2', o3⟩ := cellsAt_run hr hold hb
              have o1 : olds.length = l * i.size := o1
              have hfo := run_firstCells_some (P := P) w.drew i.size l ⟨r, o, none⟩ l c olds o1 (by simpa using o2')
              -- the new block, if there is no room
              have grow : c < l + m → ∀ {ρ0 : BMap} {s0 : St}, HR ρ0 s0 w → Sub ρ ρ0 →
                  (∃ v' w' z0, (Builtin.append_ #[t, tx] ty #[.slice (some ⟨r, o, none⟩) l c, .slice (some ⟨r2, o2, none⟩) m c2]).run P w = .ok v' w' ∧
                    Ext ρ0 s0 w (upd ρ0 s0.next w.heap.size z0) (s0.new (.cells (lapp old new) true)) w' ∧ VR (upd ρ0 s0.next w.heap.size z0) (.slice (some (s0.next, 0)) (l + m) (.atLeast (l + m) i.bytes i.size)) v') ∨ False := by
                intro hg ρ0 s0 hr0 hsub
                have hfit : Builtin.nextslicecap (l + m) c * i.bytes ≤ 281474976710656 := growslice_fits hg hle2
                have hrun := run_append_new (P := P) w t tx ty elem ex i z ht htx hi hz (some ⟨r, o, none⟩) l c olds hfo ⟨r2, o2, none⟩ m c2 news n1 n2 hg (by omega) hfit
                · have hall := fun zz => (VRs.ofList o3 n3).mono (hsub.trans (upd_sub (r := w.heap.size) (z := zz) (hr0.fresh _ (Nat.le_refl _))))
                  refine .inl ⟨_, _, _, hrun, Ext.new (w' := w.drew.alloc _) hr0 rfl rfl rfl rfl ⟨rfl, ?_, fun j u u' e e' => ?_, fun _ => rfl, nofun⟩, .slice (upd_self _ _ _ _) ⟨grownCap_ge w _ c elem, ?_⟩ (grownCap_ge w _ c elem)⟩
                  · rw [(hall 0).1]; simp only [List.size_toArray, Array.size_append, List.length_append]; omega
                  · refine (hall _).2 j u u' e ?_
                    have hj := (List.getElem?_eq_some_iff.1 e).1
                    rw [(hall 0).1] at hj
                    have hj' : j < (olds.toArray ++ news.toArray).size := by simpa using hj
                    rw [Array.getElem?_append_left hj'] at e'
                    simpa using e'
                  · have hge := grownCap_ge w (l + m) c elem
                    have := cap_cells i.size (l + m) (grownCap w (l + m) c elem) hge
                    have e3 : (l + m) * i.size = l * i.size + m * i.size := Nat.add_mul _ _ _
                    simp only [List.size_toArray, Array.size_append, n1, o1, Nat.zero_add, size_zeroCells, hzs]
                    omega
              cases cap with
              | exact n =>
                cases h'
                cases hc
                have hg : c < l + m := by
                  rcases Nat.lt_or_ge c (l + m) with hlt | hge
                  · exact hlt
                  · have : Nat.ble (l + m) c = true := Nat.ble_eq_true_of_le hge
                    rw [show Nat.ble (Nat.add l m) (Cap.low (.exact c)) = Nat.ble (l + m) c from rfl, this] at hfit0
                    cases hfit0
                rcases grow hg hr (.refl _) with ⟨v', w', z0, g1, g2, g3⟩ | g
                · exact .inl ⟨_, v', w', g1, g2, g3⟩
                · exact .inr g
              | atLeast n bt k =>
                replace h' := cond_some (show cond (Nat.beq o 0) _ none = _ from h'); obtain ⟨ho0, h'⟩ := h'
                replace h' := cond_some h'; obtain ⟨hbt, h'⟩ := h'
                replace h' := cond_some h'; obtain ⟨hkk, h'⟩ := h'
                have hkk := Nat.eq_of_beq_eq_true hkk
                subst hkk
                have ho0 := Nat.eq_of_beq_eq_true ho0
                have hbt := Nat.eq_of_beq_eq_true hbt
                subst ho0
                subst hbt
                split at h'
                · rename_i cs ety hs
                  cases h'
                  by_cases hg : c < l + m
                  · have hk := Ext.kill hr b
                    rcases grow hg hk.hr (.refl _) with ⟨v', w', z0, g1, g2, g3⟩ | g
                    · exact .inl ⟨_, v', w', g1, hk.trans g2, g3⟩
                    · exact .inr g
                  · -- there was room
                    obtain ⟨arr, elem', fz, hh, hzz, hlen, hv, hfz, _⟩ := hr.cells hs hb
                    have hfz := hfz rfl
                    subst hfz
                    obtain ⟨c1, c3⟩ := hc
                    have e3 : (l + m) * i.size = l * i.size + m * i.size := Nat.add_mul _ _ _
                    have e4 : (l + m) * i.size ≤ c * i.size := Nat.mul_le_mul_right _ (by omega)
                    have hfit : l * i.size + news.length ≤ arr.size := by rw [n1]; omega
                    have hcell : ∀ j, j < news.length → (w.cell? ⟨r, l * i.size + 0 + j, none⟩).isSome = true := by
                      intro j hj
                      simp [World.cell?, hh]
                      omega
                    have hfroz : ∀ j, j < news.length → w.frozen? ⟨r, l * i.size + 0 + j, none⟩ = false := by
                      intro j hj
                      simp [World.frozen?, hh]
                    have hst := run_storeCells_cells (P := P) r (l * i.size) news 0 w hcell hfroz h1c
                    rw [Nat.add_zero] at hst
                    have hst' : (storeCells ((⟨r, 0, none⟩ : Addr).add (l * i.size)) news).run P w = .ok () (w.setCells r (l * i.size) news) := by
                      rw [add_addr, Nat.zero_add]; exact hst
                    obtain ⟨i1, i2, i3, i4, i5, i6⟩ := setCells_heap r news (l * i.size) w arr elem' (0, 0) hh
                    have hall := (VRs.ofList o3 n3).mono (upd_sub (r := r) (z := zb) (hr.fresh s.next (Nat.le_refl _)))
                    refine .inl ⟨_, _, _, run_append_place (P := P) w t tx ty elem ex i ht htx hi ⟨r, 0, none⟩ l c ⟨r2, o2, none⟩ m c2 news n1 n2 (by omega) hst',
                      Ext.move hr hs rfl hb i3 i1 i2 i4 i5 i6 ⟨by rw [foldl_put_size]; exact hzz, ?_, fun j u u' e e' => ?_, fun _ => rfl, nofun⟩, .slice (upd_self _ _ _ _) ⟨by show l + m ≤ c; omega, c3⟩ (by show l + m ≤ c; omega)⟩
                    · rw [hall.1, foldl_put_size]
                      simp only [List.size_toArray, List.length_append]
                      omega
                    · have hj := (List.getElem?_eq_some_iff.1 e).1
                      rw [hall.1] at hj
                      simp only [List.size_toArray, List.length_append] at hj
                      refine hall.2 j u u' e ?_
                      rw [foldl_put] at e'
                      simp only [Nat.add_zero] at e'
                      simp only [List.getElem?_toArray]
                      by_cases hjl : j < l * i.size
                      · rw [if_neg (by omega)] at e'
                        rw [List.getElem?_append_left (by omega)]
                        have ho := o2' j (olds[j]'(by omega)) (by simp)
                        rw [add_addr] at ho
                        simp only [World.cell?, hh, Nat.zero_add] at ho
                        simp only [Option.isSome_none, Bool.false_eq_true, if_false] at ho
                        rw [ho] at e'
                        rw [← e']
                        simp
                      · rw [if_pos (by omega)] at e'
                        rw [List.getElem?_append_right (by omega), o1]
                        exact e'
                · cases h'
    · cases h
  · cases h

/-- 'clear' of a slice. -/
noncomputable def clearA (P : Program) (s : St) (t : TypeId) (x : AV) : Option St :=
  match P.underlying t with
  | some (.slice elem) =>
    match x with
    | .slice a n _ => cond (Nat.beq n 0) (some s)
        (match a with
         | none => none
         | some (b, o) => ob (zeroA P elem) fun z => ob z.cells fun zero => cond (allAtoms zero) (putA s b o (lrep zero n)) none)
    | _ => none
  | _ => none

theorem allAtoms_lrep {z : List AV} (h : allAtoms z = true) : ∀ n, allAtoms (lrep z n) = true := by
  intro n
  induction n with
  | zero => rfl
  | succ n ih =>
    have e : lrep z (n + 1) = lapp z (lrep z n) := rfl
    rw [e, lapp_eq]
    have key : ∀ (l m : List AV), allAtoms l = true → allAtoms m = true → allAtoms (l ++ m) = true := by
      intro l m
      induction l with
      | nil => intro _ h; exact h
      | cons a l ihl =>
        intro h1 h2
        have h1' : cond a.atom (allAtoms l) false = true := h1
        show cond a.atom (allAtoms (l ++ m)) false = true
        cases ha : a.atom with
        | false => rw [ha] at h1'; cases h1'
        | true => rw [ha] at h1'; exact ihl h1' h2
    exact key _ _ h ih

theorem clearA_run {P : Program} {ρ : BMap} {s s' : St} {w : World} {t ty : TypeId} {x : AV} {x' : Value} (h : clearA P s t x = some s') (hr : HR ρ s w) (hx : VR ρ x x') :
    ∃ w', (Builtin.clear_ #[t] ty #[x']).run P w = .ok (.tuple #[]) w' ∧ Ext ρ s w ρ s' w' := by
  unfold clearA at h
  split at h
  · rename_i elem ht
    split at h
    · rename_i a n cap
      by_cases hn : n = 0
      · subst hn
        rw [beq_yes rfl] at h
        cases h
        refine ⟨w, ?_, .refl hr⟩
        cases hx with
        | sliceNil => simp [Builtin.clear_, run_underlying ht]
        | slice hb hc hl => simp [Builtin.clear_, run_underlying ht]
      · rw [beq_no hn] at h
        cases a with
        | none => cases h
        | some p =>
          obtain ⟨b, o⟩ := p
          replace h := ob_some (show ob (zeroA P elem) _ = _ from h); obtain ⟨z, hz, h⟩ := h
          replace h := ob_some h; obtain ⟨zero, hzero, h⟩ := h
          replace h := cond_some h; obtain ⟨hat, h⟩ := h
          cases hx with
          | slice hb hc hl =>
            rename_i r zz c
            obtain ⟨z', hzr, hzv⟩ := zeroA_run hz ρ w
            have hcs := AV.cells_vr hzv hzero
            have hrep := zeros_vr hcs n
            have hrep' : VRs ρ (lrep zero n) (Builtin.zeroCells z'.cells n) := hrep
            obtain ⟨h1, h2⟩ := putA_run (P := P) (vs := (Builtin.zeroCells z'.cells n).toList) h hr hb (by simpa using hrep') (hrep'.oneCell (allAtoms_lrep hat n))
            refine ⟨_, ?_, h2⟩
            have hstep : (Builtin.clear_ #[t] ty #[.slice (some ⟨r, o, none⟩) n c]).run P w = (do storeCells ⟨r, o, none⟩ (Builtin.zeroCells z'.cells n).toList; pure (.tuple #[]) : Sem Value).run P w := by
              cases n with
              | zero => exact absurd rfl hn
              | succ n => simp [Builtin.clear_, run_underlying ht, hzr, Sem.run_bind]
            rw [hstep]
            simp [h1]
    · cases h
  · cases h

end Go.Proofs.Bx
