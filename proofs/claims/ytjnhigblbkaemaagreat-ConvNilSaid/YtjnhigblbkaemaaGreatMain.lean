/- ConvNil: for every term, the law's function returns true, and what came in reads as it did. No condition beyond the row's own. -/
import Derived.Test.YtjnhigblbkaemaaGreatNil
import Derived.ProofKit
import Derived.Carry
import Derived.WideKeyArgs
set_option linter.unusedVariables false
set_option linter.unusedSimpArgs false
set_option linter.unusedSectionVars false
namespace Go.Proofs.YtjnhigblbkaemaaGreat
open Go.ChangeShapes Go.WideShapes Go.ChangeAt Go.RowKit

theorem Tryz.own : ownKnob Tryz.prog.godebug = none := by kernel_rfl
theorem Tryz.laidOut : laidOutB Tryz.prog = true := by kernel_rfl
theorem Tryz.read25 : Tryz.prog.readableRec 25 = true := by kernel_rfl
theorem Tryz.rows25 : 25 < Tryz.prog.types.size := by decide +kernel

section
variable {H : Type} {enc : TypeId × Value → H} {P : Program}
theorem post_of_below {f : Func} {s : ChangeSpec} {apart fresh handsOn again : Bool} {W W' : World} {args : Array Value} {v : Value} {ds gs : List (DataW H)} {before pa pv : List MemPlace}
    (hW : DataW.Whole enc P f.params.toList s.vars apart W args.toList ds gs before)
    (hres : ∀ (b : Nat) (sp : Nat → Bool) (hd : Bool), DataW.TrodAll enc P W' b sp hd f.resultTypes.toList (v.resultList f.resultTypes.size) (s.fn H (ds ++ gs)).results [])
    (hargs : ∀ sp : Nat → Bool, (∀ p ∈ before, sp p.block = true) → DataW.TrodAll enc P W' 0 sp true f.params.toList args.toList (s.fn H (ds ++ gs)).args pa)
    (hvars : ∀ sp : Nat → Bool, (∀ p ∈ before, sp p.block = true) → DataW.TrodVars enc P W' sp s.vars (s.fn H (ds ++ gs)).vars pv)
    (hps : before = pa ++ pv) (hb : Below W.heap.size W W')
    (hok : ∀ (j : Nat) (t : TypeId) (r : Value), f.resultTypes[j]? = some t → (v.resultList f.resultTypes.size)[j]? = some r → Value.okWide P W' .any 0 t r) :
    s.post enc P f apart fresh handsOn again W args v W' := by
  have hlt : ∀ p ∈ before, p.block < W.heap.size := fun p hp => hW.lt p hp
  have hold : ∀ p ∈ before, (fun b => decide (b < W.heap.size)) p.block = true := fun p hp => by simpa using hlt p hp
  refine ⟨ds, gs, before, [], pa, pv, hW, hres _ _ _, hargs _ hold, hvars _ hold, World.keptBut_mono (fun p hp => ⟨hp, ?_⟩) (hb.frame (· ∈ before)), fun _ => ?_⟩
  · rw [hps, List.mem_append] at hp
    exact Or.inr hp
  · obtain ⟨_, _, _, _, _, hz, hn⟩ := hW
    refine ⟨hok, _, _, ([] ++ pa) ++ pv, ⟨[] ++ pa, pv, trodAll_append (hargs _ (fun _ _ => rfl)) (hres _ _ _), hvars _ (fun _ _ => rfl), rfl, ?_, ?_⟩, ?_⟩
    · intro b off hp
      have hin : MemPlace.cell b off ∈ before := by rw [hps]; simpa using hp
      rw [hb.frozen (hlt _ hin)]
      exact hz b off hin
    · intro ha
      have := hn ha
      rw [hps] at this
      simpa using this
    · intro p hp _
      rw [hps]
      simpa using hp
end

/-- A fact that the walk's simplifier does not open. -/
structure Kept (p : Prop) : Prop where
  out : p

set_option maxRecDepth 100000 in
set_option maxHeartbeats 4000000 in
/-- The law's function: true, of whatever term can be read. -/
theorem law_any {H : Type} {enc : TypeId × Value → H} {sp : Nat → Bool} {held : Bool} (cs : List Value) (W : World) (hr : Readable W sp held enc cs) :
    Calls Tryz.prog 3 #[.agg cs.toArray] W fun e W' => e = .returned (.bool true) ∧ Below W.heap.size W W' := by
  obtain ⟨fuel, x, hr0⟩ := hr
  obtain ⟨k, n, s, a3, a4, l3, k3, l4, k4, rfl, _, _, _⟩ := term_open hr0
  have hd := Deep_any (W0 := W) (sp := sp) (held := held) (enc := enc) _ (W.alloc (.cells #[.int .u8 k, .int .i64 n, .string s, .slice a3 l3 k3, .slice a4 l4 k4] 25)) ⟨fuel, x, hr0⟩ (((Below.refl _ W).alloc (Nat.le_refl _) _))
  clear hr0
  have box : ∀ w : World, Below (W.heap.size + 1) (W.alloc (.cells #[.int .u8 k, .int .i64 n, .string s, .slice a3 l3 k3, .slice a4 l4 k4] 25)) w → w.cell? ⟨W.heap.size, 0, none⟩ = some (.int .u8 k) ∧ w.cell? ⟨W.heap.size, 1, none⟩ = some (.int .i64 n) ∧ w.cell? ⟨W.heap.size, 2, none⟩ = some (.string s) ∧
      w.cell? ⟨W.heap.size, 3, none⟩ = some (.slice a3 l3 k3) ∧ w.cell? ⟨W.heap.size, 4, none⟩ = some (.slice a4 l4 k4) ∧ Below W.heap.size W w ∧ W.heap.size < w.heap.size := by
    intro w hb
    have key : ∀ j, w.cell? ⟨W.heap.size, j, none⟩ = (#[.int .u8 k, .int .i64 n, .string s, .slice a3 l3 k3, .slice a4 l4 k4] : Array Value)[j]? := by
      intro j
      rw [hb.cell (p := ⟨W.heap.size, j, none⟩) (by simp)]
      simp [World.cell?, World.alloc, -World.alloc_eq]
    exact ⟨key 0, key 1, key 2, key 3, key 4, ((Below.refl _ W).alloc (Nat.le_refl _) _).trans (hb.mono (by simp)), by have := hb.size; simp at this; omega⟩
  have hsz : (W.alloc (.cells #[.int .u8 k, .int .i64 n, .string s, .slice a3 l3 k3, .slice a4 l4 k4] 25)).heap.size = W.heap.size + 1 := World.size_alloc _ _
  rw [hsz] at hd
  have hbox := Kept.mk box
  clear box hsz
  go_enter Tryz.func3, Tryz.ntmps3
  go_wp2_with (first
    | (go_at_call 4; refine hd.mono ?_; rintro e w1 ⟨⟨b, rfl⟩, hb1⟩; obtain ⟨p0, p1, p2, p3, p4, q1, z1⟩ := hbox.out _ hb1)
    | (go_at_call 5; refine (works_any _).mono ?_; rintro e w9 ⟨rfl, hb9⟩)
    | (go_at_call 6; refine (c6 _ _ rfl rfl _).mono ?_; rintro e w2 ⟨rfl, hb2⟩; have hc2 := hb1.trans (hb2.mono z1); obtain ⟨p20, p21, p22, p23, p24, q2, z2⟩ := hbox.out _ hc2)
    | (go_at_call 7; refine (c7 _ rfl _).mono ?_; rintro e w3 ⟨rfl, hb3⟩; have hc3 := hc2.trans (hb3.mono z2); obtain ⟨p30, p31, p32, p33, p34, q3, z3⟩ := hbox.out _ hc3)
    | (go_at_call 8; refine (c8 _).mono ?_; rintro e w4 ⟨rfl, hb4⟩)
    | (go_at_call 9; refine (c9 _).mono ?_; rintro e w5 ⟨rfl, hb5⟩)
    | (go_at_call 10; refine (c10 _).mono ?_; rintro e w6 ⟨rfl, hb6⟩))
  · go_ret
    exact ⟨rfl, q1.trans (hb9.mono q1.size)⟩
  · go_ret
    have q4 := q3.trans (((Below.refl _ w3).alloc (Nat.le_refl _) (.cells #[.int .u8 0, .int .i64 0, .string ⟨#[]⟩, .slice none 0 0, .slice none 0 0] 25)).mono q3.size)
    have q5 := q4.trans (hb4.mono q4.size)
    have q6 := q5.trans (hb5.mono q5.size)
    have q7 := q6.trans (hb6.mono q6.size)
    exact ⟨rfl, q7.trans (hb9.mono q7.size)⟩

set_option maxRecDepth 100000 in
theorem convNil_lifted (os : Os) (started : os.Started) (H : Type) (enc : TypeId × Value → H) :
    ReturnsInHanded {} Tryz.checked os 3 .any (Rows.convNilSpec.pre6 enc Tryz.prog Tryz.f3 Rows.convNilRow.domain false) (Rows.convNilSpec.post enc Tryz.prog Tryz.f3 false true false false) := by
  refine returnsInHanded_of_change (C := Tryz.checked) Tryz.own started (by kernel_rfl) Tryz.func3
    (ChangeSpec.witness6 (enc := enc) (C := Tryz.checked) false ⟨#[], #[.agg #[.int .u8 0, .int .i64 0, .string .empty, .slice none 0 0, .slice none 0 0]], []⟩ 8 (by kernel_rfl) (by kernel_rfl) (by kernel_rfl) (by kernel_rfl)) ?_
  intro W base args ds gs before hval0 hW hcnd _
  have hval : ∀ (j : Nat) t v, Tryz.f3.params[j]? = some t → args[j]? = some v → Value.okWide Tryz.prog W .any base t v := hval0
  have hW' := hW
  obtain ⟨p, q, hA0, hV, rfl, hfz, hnd⟩ := hW
  have hA : DataW.TrodAll enc Tryz.prog W 0 (fun _ => true) true Tryz.f3.params.toList args.toList ds p := hA0
  rw [Tryz.params3] at hA hval
  obtain ⟨v0, d0, rfl, rfl, h0⟩ := trodAll_one hA
  obtain ⟨rfl, rfl⟩ := trodVars_none hV
  obtain ⟨cs, rfl, hsz⟩ := okWide_struct Tryz.underlying25 (hval 0 25 v0 rfl rfl)
  clear hA0 hval0 hval
  simp only [List.append_nil] at hW'
  have hread : Readable W (fun _ => true) true enc cs.toList := by
    obtain ⟨fuel, hf⟩ := h0
    exact ⟨fuel, _, hf⟩
  refine (law_any cs.toList W hread).mono fun e W' ⟨he, hb⟩ => ?_
  subst he
  have hlt : ∀ y ∈ p, y.block < W.heap.size := fun y hy => hW'.lt y hy
  exact ⟨_, rfl, post_of_below (pa := p) (pv := []) hW' (fun _ _ _ => trodAll_mk1 (shut_bool (t := 4) (by kernel_rfl) true))
    (fun sp hs => trodAll_mk1 (Go.WideElems.Trod_stays Tryz.laidOut Tryz.read25 Tryz.rows25 h0 (fun y hy => hb.same (hlt y hy)) hs)) (fun _ _ => rfl) (List.append_nil _).symm hb
    (ok_one (P := Tryz.prog) (t := 4) (by kernel_rfl) rfl (okWide_bool_mk (by kernel_rfl) true))⟩

theorem convNil_holds : Rows.ConvNilSaid :=
  OpenClaim.holds_of_wide 3 Tryz.f3 rfl rfl rfl rfl rfl rfl rfl ⟨rfl, rfl, rfl, rfl, rfl⟩ rfl rfl rfl rfl rfl (by kernel_rfl) Tryz.func3 (by kernel_rfl)
    (of_decide_eq_true (by kernel_rfl)) (by unfold Func.isWrapper; first | (rw [if_pos (by decide +kernel)]; kernel_rfl) | (rw [if_neg (by decide +kernel)]; exact ⟨rfl, rfl⟩))
    (fun os started H enc _ => convNil_lifted os started H enc)

end Go.Proofs.YtjnhigblbkaemaaGreat
