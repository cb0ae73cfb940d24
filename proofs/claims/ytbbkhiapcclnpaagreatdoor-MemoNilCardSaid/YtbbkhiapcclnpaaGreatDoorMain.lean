/- MemoNil: for every term, the law's function returns true, and what came in reads as it did. No condition beyond the row's own. -/
import Derived.Test.YtbbkhiapcclnpaaGreatDoorNil
import Derived.ProofKit
import Derived.Carry
import Derived.WideKeyArgs
import Derived.LaidHandle
import Derived.MakeChecks
import Derived.Deep.DeepLaidRun
import Derived.SevenTiedAt
import Derived.Test.YtbbkhiapcclnpaaGreatDoorCards
import Derived.Test.YtbbkhiapcclnpaaGreatDoorTie
set_option linter.unusedVariables false
set_option linter.unusedSimpArgs false
set_option linter.unusedSectionVars false
namespace Go.Proofs.YtbbkhiapcclnpaaGreatDoor
open Go.ChangeShapes Go.WideShapes Go.ChangeAt Go.RowKit

theorem Tryz.own : ownKnob Tryz.prog.godebug = none := by kernel_rfl
theorem Tryz.laidOut : laidOutB Tryz.prog = true := by kernel_rfl
theorem Tryz.read25 : Tryz.prog.readableRec 25 = true := by kernel_rfl
theorem Tryz.rows25 : 25 < Tryz.prog.types.size := by decide +kernel

section
variable {H : Type} {enc : TypeId × Value → H} {P : Program}
theorem post_of_below {f : Func} {s : ChangeSpec} {apart fresh handsOn again : Bool} {W W' : World} {args : Array Value} {v : Value} {ds gs : List (DataW H)} {before pa pv : List MemPlace}
    (hW : DataW.Whole enc P f.params.toList s.vars apart W args.toList ds gs before)
    (hres : ∀ (b : Nat) (sp : Nat → Bool) (hd : Bool), DataW.TrodAll enc P W' b sp hd f.resultTypes.toList (v.resultList f.resultTypes.size) (s.fn H (ds ++ gs)).results [])
    (hargs : ∀ sp : Nat → Bool, (∀ p ∈ before, sp p.block = true) → DataW.TrodAll enc P W' 0 sp true f.params.toList args.toList (s.fn H (ds ++ gs)).args pa)
    (hvars : ∀ sp : Nat → Bool, (∀ p ∈ before, sp p.block = true) → DataW.TrodVars enc P W' sp s.vars (s.fn H (ds ++ gs)).vars pv)
    (hps : before = pa ++ pv) (hb : Below W.heap.size W W')
    (hok : ∀ (j : Nat) (t : TypeId) (r : Value), f.resultTypes[j]? = some t → (v.resultList f.resultTypes.size)[j]? = some r → Value.okWide P W' .any 0 t r) :
    s.post enc P f apart fresh handsOn again W args v W' := by
  have hlt : ∀ p ∈ before, p.block < W.heap.size := fun p hp => hW.lt p hp
  have hold : ∀ p ∈ before, (fun b => decide (b < W.heap.size)) p.block = true := fun p hp => by simpa using hlt p hp
  refine ⟨ds, gs, before, [], pa, pv, hW, hres _ _ _, hargs _ hold, hvars _ hold, World.keptBut_mono (fun p hp => ⟨hp, ?_⟩) (hb.frame (· ∈ before)), fun _ => ?_⟩
  · rw [hps, List.mem_append] at hp
    exact Or.inr hp
  · obtain ⟨_, _, _, _, _, hz, hn⟩ := hW
    refine ⟨hok, _, _, ([] ++ pa) ++ pv, ⟨[] ++ pa, pv, trodAll_append (hargs _ (fun _ _ => rfl)) (hres _ _ _), hvars _ (fun _ _ => rfl), rfl, ?_, ?_⟩, ?_⟩
    · intro b off hp
      have hin : MemPlace.cell b off ∈ before := by rw [hps]; simpa using hp
      rw [hb.frozen (hlt _ hin)]
      exact hz b off hin
    · intro ha
      have := hn ha
      rw [hps] at this
      simpa using this
    · intro p hp _
      rw [hps]
      simpa using hp
end

/-- A fact that the walk's simplifier does not open. -/
structure Kept (p : Prop) : Prop where
  out : p

set_option maxRecDepth 100000 in
set_option maxHeartbeats 4000000 in
/-- The law's function: true, of whatever term can be read. -/
theorem law_any {H : Type} {enc : TypeId × Value → H} {sp : Nat → Bool} {held : Bool} (cs : List Value) (W : World) (hr : Readable W sp held enc cs) :
    Calls Tryz.prog 3 #[.agg cs.toArray] W fun e W' => e = .returned (.bool true) ∧ Below W.heap.size W W' := by
  obtain ⟨fuel, x, hr0⟩ := hr
  obtain ⟨k, n, s, a3, a4, l3, k3, l4, k4, rfl, _, _, _⟩ := term_open hr0
  have hd := Deep_any (W0 := W) (sp := sp) (held := held) (enc := enc) _ (W.alloc (.cells #[.int .u8 k, .int .i64 n, .string s, .slice a3 l3 k3, .slice a4 l4 k4] 25)) ⟨fuel, x, hr0⟩ (((Below.refl _ W).alloc (Nat.le_refl _) _))
  clear hr0
  have box : ∀ w : World, Below (W.heap.size + 1) (W.alloc (.cells #[.int .u8 k, .int .i64 n, .string s, .slice a3 l3 k3, .slice a4 l4 k4] 25)) w → w.cell? ⟨W.heap.size, 0, none⟩ = some (.int .u8 k) ∧ w.cell? ⟨W.heap.size, 1, none⟩ = some (.int .i64 n) ∧ w.cell? ⟨W.heap.size, 2, none⟩ = some (.string s) ∧
      w.cell? ⟨W.heap.size, 3, none⟩ = some (.slice a3 l3 k3) ∧ w.cell? ⟨W.heap.size, 4, none⟩ = some (.slice a4 l4 k4) ∧ Below W.heap.size W w ∧ W.heap.size < w.heap.size := by
    intro w hb
    have key : ∀ j, w.cell? ⟨W.heap.size, j, none⟩ = (#[.int .u8 k, .int .i64 n, .string s, .slice a3 l3 k3, .slice a4 l4 k4] : Array Value)[j]? := by
      intro j
      rw [hb.cell (p := ⟨W.heap.size, j, none⟩) (by simp)]
      simp [World.cell?, World.alloc, -World.alloc_eq]
    exact ⟨key 0, key 1, key 2, key 3, key 4, ((Below.refl _ W).alloc (Nat.le_refl _) _).trans (hb.mono (by simp)), by have := hb.size; simp at this; omega⟩
  have hsz : (W.alloc (.cells #[.int .u8 k, .int .i64 n, .string s, .slice a3 l3 k3, .slice a4 l4 k4] 25)).heap.size = W.heap.size + 1 := World.size_alloc _ _
  rw [hsz] at hd
  have hbox := Kept.mk box
  clear box hsz
  go_enter Tryz.func3, Tryz.ntmps3
  go_wp2_with (first
    | (go_at_call 4; refine hd.mono ?_; rintro e w1 ⟨⟨b, rfl⟩, hb1⟩; obtain ⟨p0, p1, p2, p3, p4, q1, z1⟩ := hbox.out _ hb1)
    | (go_at_call 5; refine (works_any _).mono ?_; rintro e w9 ⟨rfl, hb9⟩)
    | (go_at_call 6; refine (c6 _ rfl _).mono ?_; rintro e w2 ⟨rfl, hb2⟩; have hc2 := (hb1.trans (hb2.mono z1)).trans (((Below.refl _ w2).alloc (Nat.le_refl _) (.cells #[.int .u8 0, .int .i64 0, .string ⟨#[]⟩, .slice none 0 0, .slice none 0 0] 25)).mono (Nat.le_trans z1 hb2.size)); obtain ⟨p20, p21, p22, p23, p24, q2, z2⟩ := hbox.out _ hc2)
    | (go_at_call 7; refine (c7 _ rfl _).mono ?_; rintro e w3 ⟨rfl, hb3⟩; have hc3 := (hc2.trans (hb3.mono z2)).trans (((Below.refl _ w3).alloc (Nat.le_refl _) (.cells #[.int .i64 0, .int .i64 0, .int .i64 0, .int .i64 0, .int .i64 0] 34)).mono (Nat.le_trans z2 hb3.size)); obtain ⟨p30, p31, p32, p33, p34, q3, z3⟩ := hbox.out _ hc3)
    | (go_at_call 8; refine (c8 _).mono ?_; rintro e w4 ⟨rfl, hb4⟩; have hc4 := hc3.trans (hb4.mono z3); obtain ⟨p40, p41, p42, p43, p44, q4, z4⟩ := hbox.out _ hc4)
    | (go_at_call 9; refine (c9 _ _ rfl rfl _).mono ?_; rintro e w5 ⟨rfl, hb5⟩)
    | (go_at_call 10; refine (c10 _).mono ?_; rintro e w6 ⟨rfl, hb6⟩))
  · go_ret
    exact ⟨rfl, q1.trans (hb9.mono q1.size)⟩
  · go_ret
    have q5 := q4.trans (hb5.mono q4.size)
    have q6 := q5.trans (hb6.mono q5.size)
    exact ⟨rfl, q6.trans (hb9.mono q6.size)⟩

/-- A world that meets the condition on the listed variables: the settled one, their cells laid. -/
noncomputable def laidWorld (os : Os) : World :=
  let w0 := World.holding Tryz.prog os ⟨#[], #[], []⟩
  let put (h : Array Obj) (g : Nat) (k : IntKind) (zs : List Int) : Array Obj := h.modify g fun
    | .cells _ t frozen => .cells (zs.map fun z => Value.int k z).toArray t frozen
    | o => o
  let h1 := put w0.heap 0 .u64 [1, 10, 100, 1000, 10000, 100000, 1000000, 10000000, 100000000, 1000000000, 10000000000, 100000000000, 1000000000000, 10000000000000, 100000000000000, 1000000000000000, 10000000000000000, 100000000000000000, 1000000000000000000, 10000000000000000000]
  let h2 := put h1 1 .u8 [0, 1, 28, 2, 29, 14, 24, 3, 30, 22, 20, 15, 25, 17, 4, 8, 31, 27, 13, 23, 21, 19, 16, 7, 26, 12, 18, 6, 11, 5, 10, 9]
  let h3 := put h2 2 .u8 [0, 1, 56, 2, 57, 49, 28, 3, 61, 58, 42, 50, 38, 29, 17, 4, 62, 47, 59, 36, 45, 43, 51, 22, 53, 39, 33, 30, 24, 18, 12, 5, 63, 55, 48, 27, 60, 41, 37, 16, 46, 35, 44, 21, 52, 32, 23, 11, 54, 26, 40, 15, 34, 20, 31, 10, 25, 14, 19, 9, 13, 8, 7, 6]
  { w0 with heap := h3 }

theorem laidWorld_met (os : Os) (args : Array Value) : laidMetH Tryz.prog Rows.memoNilRow.laid ((laidWorld os).forCall (fun _ _ => 0) ⟨#[], args, []⟩).memory := by
  rw [Go.MakeChecks.laidMetH_plain _ _ _ (by kernel_rfl)]
  exact laidMet_of_run3 8 (by kernel_rfl) (by kernel_rfl) (by kernel_rfl)

set_option maxRecDepth 100000 in
theorem memoNil_lifted (os : Os) (started : os.Started) (H : Type) (enc : TypeId × Value → H) :
    ReturnsInHanded {} Tryz.checked os 3 .any (fun w args => (Rows.memoNilSpec.pre enc Tryz.prog Tryz.f3 Rows.memoNilRow.domain false w args ∧ laidMetH Tryz.prog Rows.memoNilRow.laid w) ∧ sizedMet enc Tryz.prog Tryz.f3 (OpenSpec.ofChange Rows.memoNilSpec) false w args)
      (Rows.memoNilSpec.post enc Tryz.prog Tryz.f3 false true false false) := by
  refine returnsInHanded_of_change_and (C := Tryz.checked) (X := fun w _ => laidMetH Tryz.prog Rows.memoNilRow.laid w) (fun _ _ _ hh h => h.of_heap hh) Tryz.own started (by kernel_rfl) Tryz.func3
    (ChangeSpec.witness_at (enc := enc) (C := Tryz.checked) (os := os) (X := fun w _ => laidMetH Tryz.prog Rows.memoNilRow.laid w) false (laidWorld os) #[.agg #[.int .u8 0, .int .i64 0, .string .empty, .slice none 0 0, .slice none 0 0]] 8 rfl (by kernel_rfl) (by kernel_rfl) (by kernel_rfl) (by kernel_rfl) (by kernel_rfl) (laidWorld_met os _)) ?_
  intro W base args ds gs before hval0 hW _ _ _ _
  have hval : ∀ (j : Nat) t v, Tryz.f3.params[j]? = some t → args[j]? = some v → Value.okWide Tryz.prog W .any base t v := hval0
  have hW' := hW
  obtain ⟨p, q, hA0, hV, rfl, hfz, hnd⟩ := hW
  have hA : DataW.TrodAll enc Tryz.prog W 0 (fun _ => true) true Tryz.f3.params.toList args.toList ds p := hA0
  rw [Tryz.params3] at hA hval
  obtain ⟨v0, d0, rfl, rfl, h0⟩ := trodAll_one hA
  obtain ⟨rfl, rfl⟩ := trodVars_none hV
  obtain ⟨cs, rfl, hsz⟩ := okWide_struct Tryz.underlying25 (hval 0 25 v0 rfl rfl)
  clear hA0 hval0 hval
  simp only [List.append_nil] at hW'
  have hread : Readable W (fun _ => true) true enc cs.toList := by
    obtain ⟨fuel, hf⟩ := h0
    exact ⟨fuel, _, hf⟩
  refine (law_any cs.toList W hread).mono fun e W' ⟨he, hb⟩ => ?_
  subst he
  have hlt : ∀ y ∈ p, y.block < W.heap.size := fun y hy => hW'.lt y hy
  exact ⟨_, rfl, post_of_below (pa := p) (pv := []) hW' (fun _ _ _ => trodAll_mk1 (shut_bool (t := 4) (by kernel_rfl) true))
    (fun sp hs => trodAll_mk1 (Go.WideElems.Trod_stays Tryz.laidOut Tryz.read25 Tryz.rows25 h0 (fun y hy => hb.same (hlt y hy)) hs)) (fun _ _ => rfl) (List.append_nil _).symm hb
    (ok_one (P := Tryz.prog) (t := 4) (by kernel_rfl) rfl (okWide_bool_mk (by kernel_rfl) true))⟩

theorem memoNil_holds : Rows.MemoNilSaid :=
  OpenClaim.holds_of_wide 3 Tryz.f3 rfl rfl rfl rfl rfl rfl rfl ⟨rfl, rfl, rfl, rfl, rfl⟩ rfl rfl rfl rfl rfl (by kernel_rfl) Tryz.func3 (by kernel_rfl)
    (of_decide_eq_true (by kernel_rfl)) (by unfold Func.isWrapper; first | (rw [if_pos (by decide +kernel)]; kernel_rfl) | (rw [if_neg (by decide +kernel)]; exact ⟨rfl, rfl⟩))
    (fun os started H enc _ => memoNil_lifted os started H enc)

/-- The tied card. -/
theorem memoNil_card : Rows.MemoNilCardSaid :=
  Claim7.holds_tied_plain_at .later [] [.data, .data, .data] true (true, "163be03f6cf6bdf2029a0f00a32bb6c0522932d4a6aeb671e185dbed48d6413b") true
    memoNil_holds (fun _ h => by cases h) (by kernel_rfl) (fun _ h => by cases h) memoNil_row_tie rfl ⟨rfl, rfl⟩ (by kernel_rfl) rfl
    (fun f fn hf hfn => by
      obtain rfl : f = 3 := Option.some.inj ((show Tryz.prog.funcNamed "batten/battenlaw19.MemoNil" = some 3 by kernel_rfl).symm.trans hf) |>.symm
      obtain rfl : fn = Tryz.f3 := (Option.some.inj (Tryz.func3.symm.trans hfn)).symm
      exact ⟨by kernel_rfl, fun j t ht => by
        rw [Tryz.params3] at ht
        have h25 : t = 25 := by
          rcases j with _ | j
          · simpa using ht.symm
          · simp at ht
        subst h25
        exact (show Tryz.prog.wantsStandIn 25 = false by kernel_rfl)⟩)
    (by kernel_rfl)

end Go.Proofs.YtbbkhiapcclnpaaGreatDoor
