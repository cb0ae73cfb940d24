/- Deep: of a term that can be read it says yes or no, and nothing that was there turns. -/
import Derived.Test.YtbbkhiapcclnpaaGreatDoorRows
import Derived.WalkKit
import Derived.WalkSpells
import Derived.WalkLawsBesides
import Derived.ChangeArms
import Derived.DataReads
import Derived.Deep.Slices
set_option linter.unusedVariables false
set_option linter.unusedSimpArgs false
set_option linter.unusedSectionVars false
namespace Go.Proofs.YtbbkhiapcclnpaaGreatDoor
open Go.RowKit Go.ChangeShapes Go.WideShapes

theorem list_five {α : Type} {l : List α} (h : l.length = 5) : ∃ a b c d e, l = [a, b, c, d, e] := by
  match l, h with
  | [a, b, c, d, e], _ => exact ⟨a, b, c, d, e, rfl⟩

section
variable {H : Type} {enc : TypeId × Value → H} {W0 : World} {sp : Nat → Bool} {held : Bool}

set_option maxRecDepth 100000 in
/-- Of what a term that can be read is made. -/
theorem term_open {fuel : Nat} {cs : List Value} {x : DataW H × List MemPlace} (h : DataW.trod enc Tryz.prog W0 0 sp held fuel 25 cs = some x) :
    ∃ (k n : Int) (s : ByteArray) (a3 a4 : Option Addr) (l3 k3 l4 k4 : Nat), cs = [.int .u8 k, .int .i64 n, .string s, .slice a3 l3 k3, .slice a4 l4 k4] ∧ l3 ≤ maxLen ∧ l4 ≤ maxLen ∧
      ∀ i, i < l4 → ∃ (b : Addr) (cs' : List Value) (m : Nat) (x' : DataW H × List MemPlace), a4 = some b ∧ W0.cells? 0 (b.add (i * 5)) 5 = some cs' ∧ DataW.trod enc Tryz.prog W0 0 sp held m 25 cs' = some x' := by
  obtain ⟨xs, n, rfl, hx, hlen, hxl, hf⟩ := DataW.trod_struct Tryz.underlying25 h
  have hlen : cs.length = 5 := hlen.trans (by kernel_rfl)
  have hxl : xs.length = 5 := hxl
  have e5 : Tryz.prog.cellsOf 5 = 1 := by kernel_rfl
  have e3 : Tryz.prog.cellsOf 3 = 1 := by kernel_rfl
  have e9 : Tryz.prog.cellsOf 9 = 1 := by kernel_rfl
  have e22 : Tryz.prog.cellsOf 22 = 1 := by kernel_rfl
  have e23 : Tryz.prog.cellsOf 23 = 1 := by kernel_rfl
  have e25 : Tryz.prog.cellsOf 25 = 5 := by kernel_rfl
  obtain ⟨c0, c1, c2, c3, c4, rfl⟩ := list_five hlen
  obtain ⟨y0, y1, y2, y3, y4, rfl⟩ := list_five hxl
  have f0 := hf 0 _ rfl
  have f1 := hf 1 _ rfl
  have f2 := hf 2 _ rfl
  have f3 := hf 3 _ rfl
  have f4 := hf 4 _ rfl
  clear hf
  simp only [e5, e3, e9, e22, e23, List.drop_zero, List.drop_succ_cons, List.take_succ_cons, List.take_zero, List.getElem?_cons_zero, List.getElem?_cons_succ] at f0 f1 f2 f3 f4
  obtain ⟨k, g0, _, _⟩ := DataW.trod_int Tryz.underlying5 f0
  obtain ⟨m, g1, _, _⟩ := DataW.trod_int Tryz.underlying3 f1
  obtain ⟨s, g2, _, _⟩ := DataW.trod_string Tryz.underlying9 f2
  cases g0; cases g1; cases g2
  have l3 : ∃ (a3 : Option Addr) (l3 k3 : Nat), c3 = .slice a3 l3 k3 ∧ l3 ≤ maxLen := by
    rcases DataW.trod_slice Tryz.underlying22 f3 with ⟨g, _⟩ | ⟨a, len, cap, _, _, _, _, g, _, _, hl, hm, _⟩
    · cases g; exact ⟨_, _, _, rfl, Nat.zero_le _⟩
    · cases g; exact ⟨_, _, _, rfl, Nat.le_trans hl hm⟩
  obtain ⟨a3, l3, k3, rfl, h3⟩ := l3
  rcases DataW.trod_slice Tryz.underlying23 f4 with ⟨g, _⟩ | ⟨a, len, cap, elems, _, q, _, g, _, _, hl, hm, hlen2, hel, _⟩
  · cases g
    exact ⟨k, m, s, a3, none, l3, k3, 0, 0, rfl, h3, Nat.zero_le _, fun i hi => by omega⟩
  · cases g
    refine ⟨k, m, s, a3, some a, l3, k3, len, cap, rfl, h3, Nat.le_trans hl hm, fun i hi => ?_⟩
    have := hel i hi
    rw [e25, List.getElem?_eq_getElem (by omega), Option.bind_eq_some_iff] at this
    obtain ⟨cs', h1, h2⟩ := this
    exact ⟨a, cs', q, _, rfl, h1, h2⟩

theorem five_cells {W0 W : World} {A : Addr} {v0 v1 v2 v3 v4 : Value} (hb : Below W0.heap.size W0 W) (h : W0.cells? 0 A 5 = some [v0, v1, v2, v3, v4]) :
    W.cell? A = some v0 ∧ W.cell? ⟨A.block, A.off + 1, none⟩ = some v1 ∧ W.cell? ⟨A.block, A.off + 2, none⟩ = some v2 ∧ W.cell? ⟨A.block, A.off + 3, none⟩ = some v3 ∧ W.cell? ⟨A.block, A.off + 4, none⟩ = some v4 := by
  have hc := (World.cells?_some h).2.2
  have key : ∀ {p : Addr} {v : Value}, W0.cell? p = some v → W.cell? p = some v := by
    intro p v hp
    have hlt : p.block < W0.heap.size := by
      unfold World.cell? at hp
      cases ho : W0.heap[p.block]? with
      | none => rw [ho] at hp; cases hp
      | some o => exact (Array.getElem?_eq_some_iff.1 ho).1
    rw [hb.cell hlt]; exact hp
  refine ⟨key ?_, key ?_, key ?_, key ?_, key ?_⟩
  · simpa [Addr.add] using hc 0 (by omega)
  · simpa [Addr.add] using hc 1 (by omega)
  · simpa [Addr.add] using hc 2 (by omega)
  · simpa [Addr.add] using hc 3 (by omega)
  · simpa [Addr.add] using hc 4 (by omega)

/-- A term that can be read in the world in which the call began. -/
def Readable (W0 : World) (sp : Nat → Bool) (held : Bool) (enc : TypeId × Value → H) (cs : List Value) : Prop := ∃ fuel x, DataW.trod enc Tryz.prog W0 0 sp held fuel 25 cs = some x

/-- What deep answers: a number from -1 on, no more than it had. -/
def Told (left : Int) (W : World) (e : Ending) (W' : World) : Prop := (∃ r : Int, e = .returned (.int .i64 r) ∧ -1 ≤ r ∧ r ≤ left) ∧ Below W.heap.size W W'

set_option maxRecDepth 100000 in
set_option maxHeartbeats 1000000 in
theorem deep_any : ∀ (d : Nat) (cs : List Value) (W : World) (left down : Int), Readable W0 sp held enc cs → Below W0.heap.size W0 W → 0 ≤ left → left ≤ 131072 → 0 ≤ down → down ≤ 8192 → down ≤ d →
    Calls Tryz.prog 11 #[.agg cs.toArray, .int .i64 left, .int .i64 down] W (Told left W) := by
  intro d
  induction d with
  | zero =>
    intro cs W left down hr hb h1 h2 h3 h4 h5
    obtain ⟨fuel, x, hr⟩ := hr
    obtain ⟨k, n, s, a3, a4, l3, k3, l4, k4, rfl, hl3, hl4, hcells⟩ := term_open hr
    clear hcells hr
    have hd : down = 0 := by omega
    subst hd
    go_enter Tryz.func11, Tryz.ntmps11
    go_wp2
    all_goals
      go_ret
      exact ⟨⟨-1, rfl, by omega, by omega⟩, (Below.refl _ _).alloc (Nat.le_refl _) _⟩
  | succ d ih =>
    intro cs W left down hr hb h1 h2 h3 h4 h5
    obtain ⟨fuel, x, hr⟩ := hr
    obtain ⟨k, n, s, a3, a4, l3, k3, l4, k4, rfl, hl3, hl4, hcells⟩ := term_open hr
    unfold maxLen at hl3 hl4
    by_cases c1 : left ≤ 0
    · clear hcells hr
      go_enter Tryz.func11, Tryz.ntmps11
      go_wp2
      all_goals
        go_ret
        exact ⟨⟨-1, rfl, by omega, by omega⟩, (Below.refl _ _).alloc (Nat.le_refl _) _⟩
    by_cases c2 : down ≤ 0
    · clear hcells hr
      go_enter Tryz.func11, Tryz.ntmps11
      go_wp2
      all_goals
        go_ret
        exact ⟨⟨-1, rfl, by omega, by omega⟩, (Below.refl _ _).alloc (Nat.le_refl _) _⟩
    by_cases c3 : 20 < l3
    · clear hcells hr
      go_enter Tryz.func11, Tryz.ntmps11
      go_wp2
      all_goals
        go_ret
        exact ⟨⟨-1, rfl, by omega, by omega⟩, (Below.refl _ _).alloc (Nat.le_refl _) _⟩
    go_enter Tryz.func11, Tryz.ntmps11
    go_wp2
    go_loopw [1, 7] (fun u i wr => ∃ (r : Int) (j : Nat), u = .int .i64 r ∧ i = .int .i64 j ∧ 0 ≤ r ∧ r ≤ left - 1 ∧ j ≤ l4 ∧ Below (W.heap.size + 1) (W.alloc (.cells #[.int .u8 k, .int .i64 n, .string s, .slice a3 l3 k3, .slice a4 l4 k4] 25)) wr)
      (fun _ i _ => l4 - (intOf i).toNat)
    case atStart => exact ⟨left - 1, 0, rfl, rfl, by omega, by omega, by omega, Below.refl _ _⟩
    case round =>
      obtain ⟨r, j, rfl, rfl, hr1, hr2, hj, hbw⟩ := hrel
      have hc4 : wr.cell? ⟨W.heap.size, 4, none⟩ = some (.slice a4 l4 k4) := by
        rw [hbw.cell (p := ⟨W.heap.size, 4, none⟩) (by simp)]
        simp [World.cell?, World.alloc, -World.alloc_eq]
      by_cases hlt : j < l4
      · obtain ⟨b, cs', m, x', rfl, hcc, htr⟩ := hcells j hlt
        obtain ⟨v0, v1, v2, v3, v4, rfl⟩ := list_five (World.cells?_some hcc).2.1
        obtain ⟨g0, g1, g2, g3, g4⟩ := five_cells (hb.trans ((((Below.refl _ W).alloc (Nat.le_refl _) _).trans (hbw.mono (by simp))).mono hb.size)) hcc
        have hr' : Readable W0 sp held enc [v0, v1, v2, v3, v4] := ⟨m, x', htr⟩
        have hb' : Below W0.heap.size W0 wr := hb.trans ((((Below.refl _ W).alloc (Nat.le_refl _) _).trans (hbw.mono (by simp))).mono hb.size)
        have hcall := fun (left' : Int) (q1 : 0 ≤ left') (q2 : left' ≤ 131072) => ih [v0, v1, v2, v3, v4] wr left' (down - 1) hr' hb' q1 q2 (by omega) (by omega) (by omega)
        have hsz : W.heap.size + 1 ≤ wr.heap.size := by have := hbw.size; simpa using this
        clear hcells hr hcc htr ih hr'
        go_wp2_with (go_at_call 11; refine (hcall r (by omega) (by omega)).mono ?_; rintro e w' ⟨⟨r', rfl, hq1, hq2⟩, hb2⟩)
        · have hneg : r' < 0 := by assumption
          go_ret
          exact ⟨⟨-1, rfl, by omega, by omega⟩, (((Below.refl _ W).alloc (Nat.le_refl _) _).trans (hbw.mono (by simp))).trans (hb2.mono (by omega))⟩
        · have hpos : 0 ≤ r' := by assumption
          exact ⟨⟨r', j + 1, rfl, by simp, hpos, by omega, by omega, hbw.trans (hb2.mono hsz)⟩, by simp [intOf]; omega⟩
      · go_wp2
        go_ret
        exact ⟨⟨r, rfl, by omega, by omega⟩, (((Below.refl _ W).alloc (Nat.le_refl _) _).trans (hbw.mono (by simp)))⟩

/-- Deep says yes or no. -/
theorem Deep_any (cs : List Value) (W : World) (hr : Readable W0 sp held enc cs) (hb : Below W0.heap.size W0 W) :
    Calls Tryz.prog 4 #[.agg cs.toArray] W fun e W' => (∃ b : Bool, e = .returned (.bool b)) ∧ Below W.heap.size W W' := by
  obtain ⟨fuel, x, hr0⟩ := hr
  obtain ⟨k, n, s, a3, a4, l3, k3, l4, k4, rfl, hl3, hl4, _⟩ := term_open hr0
  have hd := fun (w' : World) (hw : Below W0.heap.size W0 w') => deep_any (W0 := W0) (sp := sp) (held := held) (enc := enc) 8192 _ w' 131072 8192 ⟨fuel, x, hr0⟩ hw (by omega) (by omega) (by omega) (by omega) (by omega)
  have hw1 : Below W0.heap.size W0 (W.alloc (.cells #[.int .u8 k, .int .i64 n, .string s, .slice a3 l3 k3, .slice a4 l4 k4] 25)) := hb.trans (((Below.refl _ W).alloc (Nat.le_refl _) _).mono hb.size)
  have hd1 := hd _ hw1
  clear hd hw1 hr0
  go_enter Tryz.func4, Tryz.ntmps4
  go_wp2_with (go_at_call 11; refine hd1.mono ?_; rintro e w' ⟨⟨r', rfl, hq1, hq2⟩, hb2⟩)
  all_goals
    go_ret
    exact ⟨⟨_, rfl⟩, ((Below.refl _ W).alloc (Nat.le_refl _) _).trans (hb2.mono (by simp))⟩

end

end Go.Proofs.YtbbkhiapcclnpaaGreatDoor
