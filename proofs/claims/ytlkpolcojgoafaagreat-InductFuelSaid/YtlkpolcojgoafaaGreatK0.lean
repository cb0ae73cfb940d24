/- The walker over this program; and the one function of the library that it does not run: maps.Clone: a contract. -/
import Derived.Test.YtlkpolcojgoafaaGreatBxC
import Derived.Test.YtlkpolcojgoafaaGreatProg
import Derived.KernelRfl
import Derived.WalkKit
import Derived.Laws.Externs
import Derived.Shelf.SlMaps.Clone
set_option linter.unusedVariables false
set_option linter.unusedSimpArgs false
set_option linter.unusedSectionVars false
namespace Go.Proofs.YtlkpolcojgoafaaGreat
open Go Go.RowKit Go.Proofs.Bx

theorem mixed : Tryz.prog.follows .mixedOrders = true := by kernel_rfl

theorem enters_fn {P : Program} {f : FuncId} {fn : Func} (hf : P.funcs[f]? = some fn) (hname : (fn.name == "runtime.NumGoroutine") = false) (hb : fn.body.isSome = true) (args : Array Value) (w : World) : (callFunc f args).run P w = .ok (.enter f args) w := by
  obtain ⟨c, hc⟩ := Option.isSome_iff_exists.1 hb
  have h1 : fn.name ≠ "runtime.NumGoroutine" := by simpa using hname
  simp [callFunc, hf, h1, hc, mark]

set_option maxHeartbeats 1000000 in
set_option maxRecDepth 100000 in
/-- Of a map: a new block with what it holds. -/
theorem clone_any (b : Nat) (es : Array MapEntry) (clock : Nat) (w : World) (hb : w.heap[b]? = some (.map es clock)) :
    Calls Tryz.prog 105 #[.map (some b)] w fun e w' => e = .returned (.map (some w.heap.size)) ∧ w' = w.alloc (.map es clock) := by
  have hq := fun w => run_eql_map_nil_sl (P := Tryz.prog) w 78 _ _ (some b) Tryz.underlying78
  go_enter Tryz.func105, Tryz.ntmps105
  go_wp2
  rw [run_callFunc_extern Tryz.func150 (by kernel_rfl) (by kernel_rfl) (by kernel_rfl) (e := Extern.MapsClone.clone) (by kernel_rfl), run_maps_clone_sl w 78 hb]
  simp only [Result.andThen]
  rw [Oper.upon_value]
  go_wp2
  rw [run_typeAssert_map_sl _ 78 20 _ _ _ Tryz.underlying78]
  simp only [Result.andThen]
  rw [Oper.upon_value]
  go_wp2
  go_ret
  exact ⟨rfl, rfl⟩

/-- The same, in the walker's words. -/
noncomputable def cloneA (args : List AV) (s : St) : Option (AV × St) :=
  match args with
  | [.map (some b)] => match s.get b with
    | some (.map es ck) => some (.map (some s.next), s.new (.map es ck))
    | some (.mapR es ck) => some (.map (some s.next), s.new (.map es ck))
    | _ => none
  | _ => none

theorem clone_sound (S : Sym) : @CallSound S Tryz.prog (onlyF 105 cloneA) := by
  have open_ : ∀ {g : Tgt} {args : List AV} {s s' : St} {v : AV}, onlyF 105 cloneA g args s = some (v, s') → g = .fn 105 ∧ cloneA args s = some (v, s') := by
    intro g args s s' v h
    obtain ⟨e, h⟩ := cond_some h
    exact ⟨isFn_ok e, h⟩
  refine ⟨fun {g args s s' v ρ w args'} h hr ha => ?_, fun {g args s s' v w args'} h => ?_, fun {i args s s' v ρ w args' l z} h _ _ _ _ _ => by cases (open_ h).1⟩
  · obtain ⟨hg, h3⟩ := open_ h
    cases hg
    clear h
    unfold cloneA at h3
    split at h3
    · rename_i b
      obtain ⟨u, us, rfl, hu, hus⟩ := VRs.cons_inv ha
      have : us = #[] := Array.eq_empty_of_size_eq_zero (by rw [← hus.1]; rfl)
      subst this
      cases hu with
      | map hb =>
        rename_i r z
        have key : ∀ (es : List (AV × AV × Nat)) (ck : Nat) (o : Obj), w.heap[r]? = some o → BR ρ z (.map es ck) o →
            some (AV.map (some s.next), s.new (.map es ck)) = some (v, s') →
            Calls Tryz.prog 105 (#[.map (some r)] ++ #[]) w (CR ρ s w v s') := by
          intro es ck o ho hbr h3
          cases h3
          cases o <;> simp only [BR] at hbr
          rename_i es' ck'
          refine (clone_any r es' ck' w ho).mono ?_
          rintro e w' ⟨rfl, rfl⟩
          have hx := Ext.new (z := z) (blk := .map es ck) (obj := .map es' ck') hr (w' := w.alloc (.map es' ck')) rfl rfl rfl rfl
            ⟨hbr.1, fun i x e h1 h2 => by
              have hsub := upd_sub (r := w.heap.size) (z := z) (hr.fresh s.next (Nat.le_refl _))
              obtain ⟨q1, q2, q3⟩ := hbr.2.1 i x e h1 h2
              exact ⟨q1.mono hsub, q2.mono hsub, q3⟩, hbr.2.2⟩
          exact ⟨_, hx, .map (z := z) (upd_self _ _ _ _)⟩
        split at h3
        · rename_i es ck hs
          obtain ⟨r', z', o, g1, g2, g3⟩ := hr.blk _ _ hs (by simp)
          rw [hb] at g1; cases g1
          exact key es ck o g2 g3 h3
        · rename_i es ck hs
          obtain ⟨r', z', o, g1, g2, g3⟩ := hr.blk _ _ hs (by simp)
          rw [hb] at g1; cases g1
          refine key es ck o g2 ?_ h3
          cases o <;> simp only [BR] at g3 ⊢
          exact g3
        · cases h3
    · cases h3
  · obtain ⟨hg, _⟩ := open_ h
    cases hg
    exact enters_fn Tryz.func105 (by kernel_rfl) (by kernel_rfl) _ _

noncomputable def mm0 : CallK := onlyF 105 cloneA
theorem mm0_sound (S : Sym) : @CallSound S Tryz.prog mm0 := clone_sound S

end Go.Proofs.YtlkpolcojgoafaaGreat
