/- FnExactIsNoise: the row of the law, out of its pure statement and the contract of the function. Written by a program of this session. -/
import Derived.Test.YtmndcbfdkfhheaaRows
import Derived.Test.YtmndcbfdkfhheaaPFnExactIsNoisex1
import Derived.Test.YtmndcbfdkfhheaaPureFnExactIsNoise
import Derived.Test.YtmndcbfdkfhheaaOpen
import Derived.WalkKit
import Derived.ProofKit
import Derived.OpenShut
import Derived.ShutString
import Derived.ChangeOld
import Derived.Below
import Derived.SizedLaws
namespace Go.Proofs.Ytmndcbfdkfhheaa.fnExactIsNoise
open Go.ChangeShapes Go.WideShapes Go.ChangeAt Go.RowKit Go.Proofs.YtmndcbfdkfhheaaW.PrintWords Go.Proofs.Ytmndcbfdkfhheaa.PFnExactIsNoise
open Go.ChangeMaps (open_string shut_string)
set_option linter.unusedVariables false
set_option linter.unusedSimpArgs false
theorem own : ownKnob Try.prog.godebug = none := by kernel_rfl
theorem laidOut : laidOutB Try.prog = true := by kernel_rfl
theorem el_3 {H : Type} {enc : TypeId × Value → H} {w : World} {base : Nat} {spare : Nat → Bool} {held : Bool} : ∀ (fuel : Nat) (cs : List Value) (y : DataW H × List MemPlace), DataW.trod enc Try.prog w base spare held fuel 3 cs = some y → ∃ a : Int, (Kd.int .i64).K w a cs ∧ (fun x_ : Int => ((Lit.int .i64 x_).wf = true)) a :=
  Open.el_int Try.underlying3
theorem el_23 {H : Type} {enc : TypeId × Value → H} {w : World} {base : Nat} {spare : Nat → Bool} {held : Bool} : ∀ (fuel : Nat) (cs : List Value) (y : DataW H × List MemPlace), DataW.trod enc Try.prog w base spare held fuel 23 cs = some y → ∃ a : S23, k23.K w a cs ∧ (fun x_ : S23 => ((Lit.int .i64 x_.f0).wf = true) ∧ ((Lit.int .i64 x_.f1).wf = true)) a := by
  intro fuel cs y h
  obtain ⟨xs, n, _, _, hl, hlen, hf⟩ := DataW.trod_struct Try.underlying23 h
  have hl' : cs.length = 2 := hl.trans (by kernel_rfl)
  obtain ⟨c0, c1, rfl⟩ := Open.list2 hl'
  obtain ⟨y0, y1, rfl⟩ := Open.list2 (hlen.trans rfl)
  have z0 : DataW.trod enc Try.prog w base spare held n 3 (List.take (Try.prog.cellsOf 3) (List.drop 0 [c0, c1])) = some y0 := hf 0 _ rfl
  rw [show Try.prog.cellsOf 3 = 1 by kernel_rfl] at z0
  obtain ⟨a0, k0, q0⟩ := el_3 _ _ _ z0
  have z1 : DataW.trod enc Try.prog w base spare held n 3 (List.take (Try.prog.cellsOf 3) (List.drop 1 [c0, c1])) = some y1 := hf 1 _ rfl
  rw [show Try.prog.cellsOf 3 = 1 by kernel_rfl] at z1
  obtain ⟨a1, k1, q1⟩ := el_3 _ _ _ z1
  have e0 := k0
  injection e0 with e0 _
  subst e0
  have e1 := k1
  injection e1 with e1 _
  subst e1
  exact ⟨⟨a0, a1⟩, k23_mk w ⟨a0, a1⟩ , ⟨q0, q1⟩⟩
theorem contract (H : Type) (enc : TypeId × Value → H) (W : World) (base : Nat) (args : Array Value) (ds gs : List (DataW H)) (before : List MemPlace)
    (hval0 : ∀ (j : Nat) t v, Try.f3.params[j]? = some t → args[j]? = some v → Value.okWide Try.prog W .any base t v)
    (hW : DataW.Whole enc Try.prog Try.f3.params.toList Rows.fnExactIsNoiseSpec.vars false W args.toList ds gs before)
    (hsz0 : (DataW.weightsEach Try.prog (Try.f3.params.toList ++ Rows.fnExactIsNoiseSpec.plain.varTypes Try.prog) (ds ++ gs)).all (· ≤ reachBytes) = true) :
    Calls Try.prog 3 args W fun e W' => ∃ v, e = .returned v ∧ Rows.fnExactIsNoiseSpec.post enc Try.prog Try.f3 false true false false W args v W' := by
  have hsz := hsz0
  have hval : ∀ (j : Nat) t v, Try.f3.params[j]? = some t → args[j]? = some v → Value.okWide Try.prog W .any base t v := hval0
  have hW' := hW
  obtain ⟨p, q, hA0, hV, rfl, hfz, hnd⟩ := hW
  have hA : DataW.TrodAll enc Try.prog W 0 (fun _ => true) true Try.f3.params.toList args.toList ds p := hA0
  rw [Try.params3] at hA hval hsz
  obtain ⟨v0, vs0, d0, ds0, p0, q0, hargs, rfl, rfl, h0, r0⟩ := trodAll_cons hA
  obtain ⟨rfl, rfl, rfl⟩ := trodAll_nil r0
  obtain rfl : args = #[v0] := by cases args; simp_all
  obtain ⟨rfl, rfl⟩ := trodVars_none hV
  have k0 := h0
  have lt0 : ∀ x ∈ p0, x.block < W.heap.size := by obtain ⟨m, hm⟩ := k0; exact DataW.trod_lt m _ _ _ hm
  obtain ⟨cs0, rfl, s0, hK0, hq0⟩ := Open.top_struct Try.underlying23 (hval 0 23 v0 rfl rfl) el_23 h0
  have ec0 := k23_open hK0
  obtain rfl := Open.arr_eq ec0
  obtain ⟨hq0_0_0, hq0_1_0⟩ := hq0
  clear hA0 hval0 hsz0 hsz
  have h := Pure.FnExactIsNoise s0.f0 s0.f1 hq0_0_0 hq0_1_0
  refine (laws_FnExactIsNoise.calls s0.f0 s0.f1 true W  h).mono fun e W' ⟨he, hd⟩ => ?_
  have bel : Below W.heap.size W W' := hd
  subst he
  exact ⟨_, rfl, _, _, _, [], _, [], hW', trodAll_mk1 (shut_bool Try.underlying4 _), (trodAll_cons_mk (Below.trod laidOut (by kernel_rfl) (of_decide_eq_true (by kernel_rfl)) k0 bel lt0) trodAll_mk0), rfl, bel.frame _, fun h => by cases h⟩
set_option maxRecDepth 100000 in
theorem lifted (os : Os) (started : os.Started) (H : Type) (enc : TypeId × Value → H) :
    ReturnsInHanded {} Try.checked os 3 .any (Rows.fnExactIsNoiseSpec.pre6 enc Try.prog Try.f3 Rows.fnExactIsNoiseRow.domain false) (Rows.fnExactIsNoiseSpec.post enc Try.prog Try.f3 false true false false) := by
  refine returnsInHanded_of_change_sized (C := Try.checked) own started (by kernel_rfl) Try.func3
    (ChangeSpec.witness6 (enc := enc) (C := Try.checked) false ⟨#[], #[.agg #[.int .i64 0, .int .i64 0]], []⟩ 8 (by kernel_rfl) (by kernel_rfl) (by kernel_rfl) (by kernel_rfl)) ?_
  intro W base args ds gs before hval0 hW hcnd hsz0 _
  exact contract H enc W base args ds gs before hval0 hW hsz0
theorem over : Rows.fnExactIsNoiseRow.holds Try.pinned (OpenSpec.ofChange Rows.fnExactIsNoiseSpec) :=
  OpenClaim.holds_of_wide 3 Try.f3 rfl rfl rfl rfl rfl rfl rfl ⟨rfl, rfl, rfl, rfl, rfl⟩ rfl rfl rfl rfl rfl (by kernel_rfl) Try.func3 (by kernel_rfl)
    (of_decide_eq_true (by kernel_rfl)) (by unfold Func.isWrapper; first | (rw [if_pos (by decide +kernel)]; kernel_rfl) | (rw [if_neg (by decide +kernel)]; exact ⟨rfl, rfl⟩))
    (fun os started H enc _ => lifted os started H enc)
theorem proved : Rows.FnExactIsNoiseSaid := over
#print axioms proved
end Go.Proofs.Ytmndcbfdkfhheaa.fnExactIsNoise
namespace Go.Proofs.Ytmndcbfdkfhheaa
/-- The statement, under a short name, for the claim. -/
theorem fnExactIsNoise_holds : Rows.FnExactIsNoiseSaid := fnExactIsNoise.proved
end Go.Proofs.Ytmndcbfdkfhheaa
