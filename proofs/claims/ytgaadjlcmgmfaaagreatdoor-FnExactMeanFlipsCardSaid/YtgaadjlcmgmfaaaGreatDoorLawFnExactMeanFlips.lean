/- FnExactMeanFlips: the row and the tied card of the law, out of its pure statement and the contract of the function. Written by a program of this session. -/
import Derived.Test.YtgaadjlcmgmfaaaGreatDoorCards
import Derived.Test.YtgaadjlcmgmfaaaGreatDoorTie
import Derived.Test.YtgaadjlcmgmfaaaGreatDoorPFnExactMeanFlipsx8
import Derived.Test.YtgaadjlcmgmfaaaGreatDoorPureFnExactMeanFlips
import Derived.Test.YtgaadjlcmgmfaaaGreatDoorOpen
import Derived.WalkKit
import Derived.ProofKit
import Derived.OpenShut
import Derived.ShutString
import Derived.ChangeOld
import Derived.Below
import Derived.SizedLaws
import Derived.Deep.DeepHandedRow
import Derived.Lib.LaidTab
import Derived.Lay
import Derived.LaidSub
import Derived.Deep.DeepWitnessRowRef
namespace Go.Proofs.YtgaadjlcmgmfaaaGreatDoor.fnExactMeanFlips
open Go.ChangeShapes Go.WideShapes Go.ChangeAt Go.RowKit Go.Proofs.YtgaadjlcmgmfaaaGreatDoorW.PrintWords Go.Proofs.YtgaadjlcmgmfaaaGreatDoor.PFnExactMeanFlips
open Go.ChangeMaps (open_string shut_string)
set_option linter.unusedVariables false
set_option linter.unusedSimpArgs false
theorem own : ownKnob Tryz.prog.godebug = none := by kernel_rfl
theorem laidOut : laidOutB Tryz.prog = true := by kernel_rfl
set_option maxRecDepth 100000 in
theorem el_9 {H : Type} {enc : TypeId × Value → H} {w : World} {base : Nat} {spare : Nat → Bool} {held : Bool} : ∀ (fuel : Nat) (cs : List Value) (y : DataW H × List MemPlace), DataW.trod enc Tryz.prog w base spare held fuel 9 cs = some y → ∃ a : ByteArray, Kd.string.K w a cs ∧ (fun x_ : ByteArray => (x_.size ≤ 9223372036854775807)) a :=
  Open.el_str Tryz.underlying9
set_option maxRecDepth 100000 in
theorem el_22 {H : Type} {enc : TypeId × Value → H} {w : World} {base : Nat} {spare : Nat → Bool} {held : Bool} : ∀ (fuel : Nat) (cs : List Value) (y : DataW H × List MemPlace), DataW.trod enc Tryz.prog w base spare held fuel 22 cs = some y → ∃ a : List ByteArray, (Kd.slice 9 Kd.string).K w a cs ∧ (fun x_ : List ByteArray => (x_.length ≤ 9223372036854775807) ∧ (∀ y_ ∈ x_, (y_.size ≤ 9223372036854775807))) a := by
  intro fuel cs y h
  obtain ⟨a, hK, h1, h2⟩ := Open.el_slice (d := Kd.string) Tryz.underlying22 (by kernel_rfl) el_9 fuel cs y h
  exact ⟨a, hK, h1, h2⟩
set_option maxRecDepth 100000 in
theorem el_24 {H : Type} {enc : TypeId × Value → H} {w : World} {base : Nat} {spare : Nat → Bool} {held : Bool} : ∀ (fuel : Nat) (cs : List Value) (y : DataW H × List MemPlace), DataW.trod enc Tryz.prog w base spare held fuel 24 cs = some y → ∃ a : S24, k24.K w a cs ∧ (fun x_ : S24 => (x_.f0.length ≤ 9223372036854775807) ∧ (∀ y_ ∈ x_.f0, (y_.size ≤ 9223372036854775807))) a := by
  intro fuel cs y h
  obtain ⟨xs, n, _, _, hl, hlen, hf⟩ := DataW.trod_struct Tryz.underlying24 h
  have hl' : cs.length = 1 := hl.trans (by kernel_rfl)
  obtain ⟨c0, rfl⟩ := Open.list1 hl'
  obtain ⟨y0, rfl⟩ := Open.list1 (hlen.trans rfl)
  have z0 : DataW.trod enc Tryz.prog w base spare held n 22 (List.take (Tryz.prog.cellsOf 22) (List.drop 0 [c0])) = some y0 := hf 0 _ rfl
  rw [show Tryz.prog.cellsOf 22 = 1 by kernel_rfl] at z0
  obtain ⟨a0, k0, q0⟩ := el_22 _ _ _ z0
  obtain ⟨A0, cap0, e0, lc0, g0⟩ := k0
  injection e0 with e0 _
  subst e0
  obtain ⟨q0_0, q0_1⟩ := q0
  exact ⟨⟨a0⟩, k24_mk w ⟨a0⟩ lc0 g0, ⟨q0_0, q0_1⟩⟩
set_option maxRecDepth 100000 in
theorem el_3 {H : Type} {enc : TypeId × Value → H} {w : World} {base : Nat} {spare : Nat → Bool} {held : Bool} : ∀ (fuel : Nat) (cs : List Value) (y : DataW H × List MemPlace), DataW.trod enc Tryz.prog w base spare held fuel 3 cs = some y → ∃ a : Int, (Kd.int .i64).K w a cs ∧ (fun x_ : Int => ((Lit.int .i64 x_).wf = true)) a :=
  Open.el_int Tryz.underlying3
set_option maxRecDepth 100000 in
theorem el_44 {H : Type} {enc : TypeId × Value → H} {w : World} {base : Nat} {spare : Nat → Bool} {held : Bool} : ∀ (fuel : Nat) (cs : List Value) (y : DataW H × List MemPlace), DataW.trod enc Tryz.prog w base spare held fuel 44 cs = some y → ∃ a : S44, k44.K w a cs ∧ (fun x_ : S44 => ((Lit.int .i64 x_.f0).wf = true) ∧ ((Lit.int .i64 x_.f1).wf = true)) a := by
  intro fuel cs y h
  obtain ⟨xs, n, _, _, hl, hlen, hf⟩ := DataW.trod_struct Tryz.underlying44 h
  have hl' : cs.length = 2 := hl.trans (by kernel_rfl)
  obtain ⟨c0, c1, rfl⟩ := Open.list2 hl'
  obtain ⟨y0, y1, rfl⟩ := Open.list2 (hlen.trans rfl)
  have z0 : DataW.trod enc Tryz.prog w base spare held n 3 (List.take (Tryz.prog.cellsOf 3) (List.drop 0 [c0, c1])) = some y0 := hf 0 _ rfl
  rw [show Tryz.prog.cellsOf 3 = 1 by kernel_rfl] at z0
  obtain ⟨a0, k0, q0⟩ := el_3 _ _ _ z0
  have z1 : DataW.trod enc Tryz.prog w base spare held n 3 (List.take (Tryz.prog.cellsOf 3) (List.drop 1 [c0, c1])) = some y1 := hf 1 _ rfl
  rw [show Tryz.prog.cellsOf 3 = 1 by kernel_rfl] at z1
  obtain ⟨a1, k1, q1⟩ := el_3 _ _ _ z1
  have e0 := k0
  injection e0 with e0 _
  subst e0
  have e1 := k1
  injection e1 with e1 _
  subst e1
  exact ⟨⟨a0, a1⟩, k44_mk w ⟨a0, a1⟩ , ⟨q0, q1⟩⟩
set_option maxRecDepth 100000 in
theorem contract (H : Type) (enc : TypeId × Value → H) (W : World) (base : Nat) (args : Array Value) (ds gs : List (DataW H)) (before : List MemPlace)
    (hval0 : ∀ (j : Nat) t v, Tryz.f5.params[j]? = some t → args[j]? = some v → Value.okWide Tryz.prog W .any base t v)
    (hW : DataW.Whole enc Tryz.prog Tryz.f5.params.toList Rows.fnExactMeanFlipsSpec.vars false W args.toList ds gs before)
    (hsz0 : (DataW.weightsEach Tryz.prog (Tryz.f5.params.toList ++ Rows.fnExactMeanFlipsSpec.plain.varTypes Tryz.prog) (ds ++ gs)).all (· ≤ reachBytes) = true) (hG : GInv W) :
    Calls Tryz.prog 5 args W fun e W' => ∃ v, e = .returned v ∧ Rows.fnExactMeanFlipsSpec.post enc Tryz.prog Tryz.f5 false true false false W args v W' := by
  have hsz := hsz0
  have hval : ∀ (j : Nat) t v, Tryz.f5.params[j]? = some t → args[j]? = some v → Value.okWide Tryz.prog W .any base t v := hval0
  have hW' := hW
  obtain ⟨p, q, hA0, hV, rfl, hfz, hnd⟩ := hW
  have hA : DataW.TrodAll enc Tryz.prog W 0 (fun _ => true) true Tryz.f5.params.toList args.toList ds p := hA0
  rw [Tryz.params5] at hA hval hsz
  obtain ⟨v0, vs0, d0, ds0, p0, q0, hargs, rfl, rfl, h0, r0⟩ := trodAll_cons hA
  obtain ⟨v1, vs1, d1, ds1, p1, q1, rfl, rfl, rfl, h1, r1⟩ := trodAll_cons r0
  obtain ⟨v2, vs2, d2, ds2, p2, q2, rfl, rfl, rfl, h2, r2⟩ := trodAll_cons r1
  obtain ⟨rfl, rfl, rfl⟩ := trodAll_nil r2
  obtain rfl : args = #[v0, v1, v2] := by cases args; simp_all
  obtain ⟨rfl, rfl⟩ := trodVars_none hV
  have k0 := h0
  have lt0 : ∀ x ∈ p0, x.block < W.heap.size := by obtain ⟨m, hm⟩ := k0; exact DataW.trod_lt m _ _ _ hm
  obtain ⟨cs0, rfl, s0, hK0, hq0⟩ := Open.top_struct Tryz.underlying24 (hval 0 24 v0 rfl rfl) el_24 h0
  obtain ⟨A0_0, c0_0, ec0, hc0_0, hr0_0⟩ := k24_open hK0
  obtain rfl := Open.arr_eq ec0
  obtain ⟨hq0_0_0, hq0_0_1⟩ := hq0
  have k1 := h1
  have lt1 : ∀ x ∈ p1, x.block < W.heap.size := by obtain ⟨m, hm⟩ := k1; exact DataW.trod_lt m _ _ _ hm
  obtain ⟨cs1, rfl, s1, hK1, hq1⟩ := Open.top_struct Tryz.underlying44 (hval 1 44 v1 rfl rfl) el_44 h1
  have ec1 := k44_open hK1
  obtain rfl := Open.arr_eq ec1
  obtain ⟨hq1_0_0, hq1_1_0⟩ := hq1
  obtain ⟨a2, rfl, rfl, rfl, y2⟩ := open_string Tryz.underlying9 (hval 2 9 v2 rfl rfl) h2
  have w2 : a2.size ≤ 140737488351232 := by
    have z := sized_string hsz (j := 2) (t := 9) rfl rfl
    rw [Array.length_toList] at z
    exact z
  clear hA0 hval0 hsz0 hsz
  obtain ⟨k, h⟩ := Pure.FnExactMeanFlips s0.f0 s1.f0 s1.f1 a2 hq0_0_0 hq0_0_1 hq1_0_0 hq1_1_0 w2
  refine (laws_FnExactMeanFlips.calls k A0_0 c0_0 s0.f0 s1.f0 s1.f1 a2 true W hr0_0 hc0_0 hG h).mono fun e W' ⟨he, hd⟩ => ?_
  have bel : Below W.heap.size W W' := hd
  subst he
  exact ⟨_, rfl, _, _, _, [], _, [], hW', trodAll_mk1 (shut_bool Tryz.underlying4 _), (trodAll_cons_mk (Below.trod laidOut (by kernel_rfl) (of_decide_eq_true (by kernel_rfl)) k0 bel lt0) (trodAll_cons_mk (Below.trod laidOut (by kernel_rfl) (of_decide_eq_true (by kernel_rfl)) k1 bel lt1) (trodAll_cons_mk (shut_string Tryz.underlying9 y2) trodAll_mk0))), rfl, bel.frame _, fun h => by cases h⟩
/-- The table of spaces lies where the program has it. -/
theorem ginv {W : World} (h : laidMetH Tryz.prog Rows.fnExactMeanFlipsRow.laid W) : GInv W := by
  have e : (Rows.fnExactMeanFlipsRow.laid.filter fun x => x.2.handleName?.isSome) = [] := by kernel_rfl
  unfold laidMetH at h
  rw [e] at h
  replace h : laidMet Tryz.prog Rows.fnExactMeanFlipsRow.laid W := h
  have k := laidMet.filter (fun x => x.1 == "strings.asciiSpace") h
  rw [show (Rows.fnExactMeanFlipsRow.laid.filter fun x => x.1 == "strings.asciiSpace") = [("strings.asciiSpace", Lib.tabData .u8 Lib.asciiSpaceTab)] by kernel_rfl] at k
  exact ⟨Lib.tabIs_of_head (g := 0) (t := 125) (e := 5) (n := 256) (by kernel_rfl) (by kernel_rfl) (by kernel_rfl) (by kernel_rfl) (by kernel_rfl) (by kernel_rfl) k⟩
/-- A WORLD FOR THE WITNESS: the settled one, the listed variables laid by the kit's function. -/
noncomputable def laidWorld (os : Os) : World := World.laidAll Tryz.prog os Rows.fnExactMeanFlipsRow.laid
set_option maxRecDepth 100000 in
theorem laid_met (os : Os) : laidMet Tryz.prog Rows.fnExactMeanFlipsRow.laid ((laidWorld os).forCall (fun _ _ => 0) ⟨#[], #[.agg #[.slice none 0 0], .agg #[.int .i64 0, .int .i64 0], .string ByteArray.empty], []⟩).memory :=
  laidMet_laidAll _ (by kernel_rfl) (by kernel_rfl)
set_option maxRecDepth 100000 in
theorem reads (os : Os) {H : Type} (enc : TypeId × Value → H) : ∃ places, DataW.whole enc Tryz.prog ((laidWorld os).forCall (fun _ _ => 0) ⟨#[], #[.agg #[.slice none 0 0], .agg #[.int .i64 0, .int .i64 0], .string ByteArray.empty], []⟩).memory Tryz.f5.params.toList Rows.fnExactMeanFlipsSpec.vars false (#[.agg #[.slice none 0 0], .agg #[.int .i64 0, .int .i64 0], .string ByteArray.empty] : Array Value).toList 8 = some ([.agg [.nil], .agg [.lit (.int .i64 0), .lit (.int .i64 0)], .lit (.string [])], [], places) :=
  ⟨[], by kernel_rfl⟩
set_option maxRecDepth 100000 in
theorem lifted (os : Os) (started : os.Started) (H : Type) (enc : TypeId × Value → H) (F : Stop.Interp) :
    ReturnsInHanded {} Tryz.checked os 5 .any ((OpenSpec.ofChange Rows.fnExactMeanFlipsSpec).preRow enc Tryz.prog Tryz.f5 Rows.fnExactMeanFlipsRow.domain false Rows.fnExactMeanFlipsRow.laid) (((OpenSpec.ofChange Rows.fnExactMeanFlipsSpec).at F).post enc Tryz.prog Tryz.f5 false true false false) := by
  obtain ⟨places, hx⟩ := reads os enc
  refine returnsInHanded_of_row (C := Tryz.checked) (s := OpenSpec.ofChange Rows.fnExactMeanFlipsSpec) own started (by kernel_rfl) Tryz.func5
    (witness_row_atRef (enc := enc) (C := Tryz.checked) false (laidWorld os) #[.agg #[.slice none 0 0], .agg #[.int .i64 0, .int .i64 0], .string ByteArray.empty] rfl (by kernel_rfl) (by kernel_rfl) (by kernel_rfl)
      (OpenSpec.preRow_of_cond 8 hx (by kernel_rfl) (fun k hk => by cases hk) (by kernel_rfl) (laid_met os))) ?_
  intro W base args ds gs before hval hW _ _ hsz0 hL _ _
  exact contract H enc W base args ds gs before hval hW hsz0 (ginv hL)
theorem said : Rows.FnExactMeanFlipsSaid :=
  OpenClaim.holds_of_cond 5 Tryz.f5 rfl rfl rfl rfl rfl rfl rfl ⟨rfl, rfl, rfl, rfl, rfl⟩ rfl rfl rfl rfl rfl (by kernel_rfl) Tryz.func5 (by kernel_rfl)
    (of_decide_eq_true (by kernel_rfl)) (by unfold Func.isWrapper; first | (rw [if_pos (by decide +kernel)]; kernel_rfl) | (rw [if_neg (by decide +kernel)]; exact ⟨rfl, rfl⟩))
    (fun os started H enc _ F => by rw [OpenClaim.pre_eq_preRow]; exact lifted os started H enc F)
theorem plain (f : FuncId) (fn : Func) (hf : Tryz.pinned.checked.prog.funcNamed Rows.fnExactMeanFlipsRow.func = some f) (hfn : Tryz.pinned.checked.prog.funcs[f]? = some fn) :
    true = Tryz.pinned.checked.prog.looks [] ∧ ∀ (j : Nat) t, fn.params[j]? = some t → Tryz.pinned.checked.prog.wantsStandIn t = false := by
  obtain rfl : f = 5 := Option.some.inj ((show Tryz.prog.funcNamed Rows.fnExactMeanFlipsRow.func = some 5 by kernel_rfl).symm.trans hf) |>.symm
  obtain rfl : fn = Tryz.f5 := (Option.some.inj (Tryz.func5.symm.trans hfn)).symm
  refine ⟨by kernel_rfl, fun j t ht => ?_⟩
  rw [Tryz.params5] at ht
  have ht' : t ∈ (#[24, 44, 9] : Array TypeId) := Array.mem_of_getElem? ht
  simp only [List.mem_toArray, List.mem_cons, List.mem_nil_iff, or_false, List.not_mem_nil] at ht'
  rcases ht' with rfl | rfl | rfl
  · exact (show Tryz.prog.wantsStandIn 24 = false by kernel_rfl)
  · exact (show Tryz.prog.wantsStandIn 44 = false by kernel_rfl)
  · exact (show Tryz.prog.wantsStandIn 9 = false by kernel_rfl)
theorem proved : Rows.FnExactMeanFlipsCardSaid :=
  Claim7.holds_tied_plain_at .later [] _ _ _ _ said (fun _ h => by cases h) (by kernel_rfl) (fun _ h => by cases h) fnExactMeanFlips_row_tie rfl ⟨rfl, rfl⟩ (by kernel_rfl) rfl plain (by kernel_rfl)
#print axioms proved
end Go.Proofs.YtgaadjlcmgmfaaaGreatDoor.fnExactMeanFlips
namespace Go.Proofs.YtgaadjlcmgmfaaaGreatDoor
/-- The statement, under a short name, for the claim. -/
theorem fnExactMeanFlips_holds : Rows.FnExactMeanFlipsCardSaid := fnExactMeanFlips.proved
end Go.Proofs.YtgaadjlcmgmfaaaGreatDoor
