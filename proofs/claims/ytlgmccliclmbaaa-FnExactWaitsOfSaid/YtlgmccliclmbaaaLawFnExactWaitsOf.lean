/- FnExactWaitsOf: the row of the law, out of its pure statement and the contract of the function. Written by a program of this session. -/
import Derived.Test.YtlgmccliclmbaaaRows
import Derived.Test.YtlgmccliclmbaaaPFnExactWaitsOfx12
import Derived.Test.YtlgmccliclmbaaaPureFnExactWaitsOf
import Derived.Test.YtlgmccliclmbaaaOpen
import Derived.WalkKit
import Derived.ProofKit
import Derived.OpenShut
import Derived.ShutString
import Derived.ChangeOld
import Derived.Below
import Derived.SizedLaws
namespace Go.Proofs.Ytlgmccliclmbaaa.fnExactWaitsOf
open Go.ChangeShapes Go.WideShapes Go.ChangeAt Go.RowKit Go.Proofs.YtlgmccliclmbaaaW.PrintWords Go.Proofs.Ytlgmccliclmbaaa.PFnExactWaitsOf
open Go.ChangeMaps (open_string shut_string)
set_option linter.unusedVariables false
set_option linter.unusedSimpArgs false
theorem own : ownKnob Try.prog.godebug = none := by kernel_rfl
theorem laidOut : laidOutB Try.prog = true := by kernel_rfl
set_option maxRecDepth 100000 in
theorem el_3 {H : Type} {enc : TypeId × Value → H} {w : World} {base : Nat} {spare : Nat → Bool} {held : Bool} : ∀ (fuel : Nat) (cs : List Value) (y : DataW H × List MemPlace), DataW.trod enc Try.prog w base spare held fuel 3 cs = some y → ∃ a : Int, (Kd.int .i64).K w a cs ∧ (fun x_ : Int => ((Lit.int .i64 x_).wf = true)) a :=
  Open.el_int Try.underlying3
set_option maxRecDepth 100000 in
theorem el_65 {H : Type} {enc : TypeId × Value → H} {w : World} {base : Nat} {spare : Nat → Bool} {held : Bool} : ∀ (fuel : Nat) (cs : List Value) (y : DataW H × List MemPlace), DataW.trod enc Try.prog w base spare held fuel 65 cs = some y → ∃ a : S65, k65.K w a cs ∧ (fun x_ : S65 => ((Lit.int .i64 x_.f0).wf = true) ∧ ((Lit.int .i64 x_.f1).wf = true) ∧ ((Lit.int .i64 x_.f2).wf = true) ∧ ((Lit.int .i64 x_.f3).wf = true)) a := by
  intro fuel cs y h
  obtain ⟨xs, n, _, _, hl, hlen, hf⟩ := DataW.trod_struct Try.underlying65 h
  have hl' : cs.length = 4 := hl.trans (by kernel_rfl)
  obtain ⟨c0, c1, c2, c3, rfl⟩ := Open.list4 hl'
  obtain ⟨y0, y1, y2, y3, rfl⟩ := Open.list4 (hlen.trans rfl)
  have z0 : DataW.trod enc Try.prog w base spare held n 3 (List.take (Try.prog.cellsOf 3) (List.drop 0 [c0, c1, c2, c3])) = some y0 := hf 0 _ rfl
  rw [show Try.prog.cellsOf 3 = 1 by kernel_rfl] at z0
  obtain ⟨a0, k0, q0⟩ := el_3 _ _ _ z0
  have z1 : DataW.trod enc Try.prog w base spare held n 3 (List.take (Try.prog.cellsOf 3) (List.drop 1 [c0, c1, c2, c3])) = some y1 := hf 1 _ rfl
  rw [show Try.prog.cellsOf 3 = 1 by kernel_rfl] at z1
  obtain ⟨a1, k1, q1⟩ := el_3 _ _ _ z1
  have z2 : DataW.trod enc Try.prog w base spare held n 3 (List.take (Try.prog.cellsOf 3) (List.drop 2 [c0, c1, c2, c3])) = some y2 := hf 2 _ rfl
  rw [show Try.prog.cellsOf 3 = 1 by kernel_rfl] at z2
  obtain ⟨a2, k2, q2⟩ := el_3 _ _ _ z2
  have z3 : DataW.trod enc Try.prog w base spare held n 3 (List.take (Try.prog.cellsOf 3) (List.drop 3 [c0, c1, c2, c3])) = some y3 := hf 3 _ rfl
  rw [show Try.prog.cellsOf 3 = 1 by kernel_rfl] at z3
  obtain ⟨a3, k3, q3⟩ := el_3 _ _ _ z3
  have e0 := k0
  injection e0 with e0 _
  subst e0
  have e1 := k1
  injection e1 with e1 _
  subst e1
  have e2 := k2
  injection e2 with e2 _
  subst e2
  have e3 := k3
  injection e3 with e3 _
  subst e3
  exact ⟨⟨a0, a1, a2, a3⟩, k65_mk w ⟨a0, a1, a2, a3⟩ , ⟨q0, q1, q2, q3⟩⟩
set_option maxRecDepth 100000 in
theorem el_30 {H : Type} {enc : TypeId × Value → H} {w : World} {base : Nat} {spare : Nat → Bool} {held : Bool} : ∀ (fuel : Nat) (cs : List Value) (y : DataW H × List MemPlace), DataW.trod enc Try.prog w base spare held fuel 30 cs = some y → ∃ a : List (S65), (Kd.slice 65 k65).K w a cs ∧ (fun x_ : List (S65) => (x_.length ≤ 9223372036854775807) ∧ (∀ y_ ∈ x_, ((Lit.int .i64 y_.f0).wf = true) ∧ ((Lit.int .i64 y_.f1).wf = true) ∧ ((Lit.int .i64 y_.f2).wf = true) ∧ ((Lit.int .i64 y_.f3).wf = true))) a := by
  intro fuel cs y h
  obtain ⟨a, hK, h1, h2⟩ := Open.el_slice (d := k65) Try.underlying30 (by kernel_rfl) el_65 fuel cs y h
  exact ⟨a, hK, h1, h2⟩
set_option maxRecDepth 100000 in
theorem el_69 {H : Type} {enc : TypeId × Value → H} {w : World} {base : Nat} {spare : Nat → Bool} {held : Bool} : ∀ (fuel : Nat) (cs : List Value) (y : DataW H × List MemPlace), DataW.trod enc Try.prog w base spare held fuel 69 cs = some y → ∃ a : S69, k69.K w a cs ∧ (fun x_ : S69 => ((Lit.int .i64 x_.f0).wf = true) ∧ ((Lit.int .i64 x_.f1).wf = true) ∧ ((Lit.int .i64 x_.f2).wf = true)) a := by
  intro fuel cs y h
  obtain ⟨xs, n, _, _, hl, hlen, hf⟩ := DataW.trod_struct Try.underlying69 h
  have hl' : cs.length = 3 := hl.trans (by kernel_rfl)
  obtain ⟨c0, c1, c2, rfl⟩ := Open.list3 hl'
  obtain ⟨y0, y1, y2, rfl⟩ := Open.list3 (hlen.trans rfl)
  have z0 : DataW.trod enc Try.prog w base spare held n 3 (List.take (Try.prog.cellsOf 3) (List.drop 0 [c0, c1, c2])) = some y0 := hf 0 _ rfl
  rw [show Try.prog.cellsOf 3 = 1 by kernel_rfl] at z0
  obtain ⟨a0, k0, q0⟩ := el_3 _ _ _ z0
  have z1 : DataW.trod enc Try.prog w base spare held n 3 (List.take (Try.prog.cellsOf 3) (List.drop 1 [c0, c1, c2])) = some y1 := hf 1 _ rfl
  rw [show Try.prog.cellsOf 3 = 1 by kernel_rfl] at z1
  obtain ⟨a1, k1, q1⟩ := el_3 _ _ _ z1
  have z2 : DataW.trod enc Try.prog w base spare held n 3 (List.take (Try.prog.cellsOf 3) (List.drop 2 [c0, c1, c2])) = some y2 := hf 2 _ rfl
  rw [show Try.prog.cellsOf 3 = 1 by kernel_rfl] at z2
  obtain ⟨a2, k2, q2⟩ := el_3 _ _ _ z2
  have e0 := k0
  injection e0 with e0 _
  subst e0
  have e1 := k1
  injection e1 with e1 _
  subst e1
  have e2 := k2
  injection e2 with e2 _
  subst e2
  exact ⟨⟨a0, a1, a2⟩, k69_mk w ⟨a0, a1, a2⟩ , ⟨q0, q1, q2⟩⟩
set_option maxRecDepth 100000 in
theorem el_31 {H : Type} {enc : TypeId × Value → H} {w : World} {base : Nat} {spare : Nat → Bool} {held : Bool} : ∀ (fuel : Nat) (cs : List Value) (y : DataW H × List MemPlace), DataW.trod enc Try.prog w base spare held fuel 31 cs = some y → ∃ a : List (S69), (Kd.slice 69 k69).K w a cs ∧ (fun x_ : List (S69) => (x_.length ≤ 9223372036854775807) ∧ (∀ y_ ∈ x_, ((Lit.int .i64 y_.f0).wf = true) ∧ ((Lit.int .i64 y_.f1).wf = true) ∧ ((Lit.int .i64 y_.f2).wf = true))) a := by
  intro fuel cs y h
  obtain ⟨a, hK, h1, h2⟩ := Open.el_slice (d := k69) Try.underlying31 (by kernel_rfl) el_69 fuel cs y h
  exact ⟨a, hK, h1, h2⟩
set_option maxRecDepth 100000 in
theorem contract (H : Type) (enc : TypeId × Value → H) (W : World) (base : Nat) (args : Array Value) (ds gs : List (DataW H)) (before : List MemPlace)
    (hval0 : ∀ (j : Nat) t v, Try.f6.params[j]? = some t → args[j]? = some v → Value.okWide Try.prog W .any base t v)
    (hW : DataW.Whole enc Try.prog Try.f6.params.toList Rows.fnExactWaitsOfSpec.vars false W args.toList ds gs before)
    (hsz0 : (DataW.weightsEach Try.prog (Try.f6.params.toList ++ Rows.fnExactWaitsOfSpec.plain.varTypes Try.prog) (ds ++ gs)).all (· ≤ reachBytes) = true) :
    Calls Try.prog 6 args W fun e W' => ∃ v, e = .returned v ∧ Rows.fnExactWaitsOfSpec.post enc Try.prog Try.f6 false true false false W args v W' := by
  have hsz := hsz0
  have hval : ∀ (j : Nat) t v, Try.f6.params[j]? = some t → args[j]? = some v → Value.okWide Try.prog W .any base t v := hval0
  have hW' := hW
  obtain ⟨p, q, hA0, hV, rfl, hfz, hnd⟩ := hW
  have hA : DataW.TrodAll enc Try.prog W 0 (fun _ => true) true Try.f6.params.toList args.toList ds p := hA0
  rw [Try.params6] at hA hval hsz
  obtain ⟨v0, vs0, d0, ds0, p0, q0, hargs, rfl, rfl, h0, r0⟩ := trodAll_cons hA
  obtain ⟨v1, vs1, d1, ds1, p1, q1, rfl, rfl, rfl, h1, r1⟩ := trodAll_cons r0
  obtain ⟨v2, vs2, d2, ds2, p2, q2, rfl, rfl, rfl, h2, r2⟩ := trodAll_cons r1
  obtain ⟨rfl, rfl, rfl⟩ := trodAll_nil r2
  obtain rfl : args = #[v0, v1, v2] := by cases args; simp_all
  obtain ⟨rfl, rfl⟩ := trodVars_none hV
  obtain ⟨a0, rfl, rfl, rfl, w0⟩ := open_int Try.underlying3 (hval 0 3 v0 rfl rfl) h0
  have k1 := h1
  have lt1 : ∀ x ∈ p1, x.block < W.heap.size := by obtain ⟨m, hm⟩ := k1; exact DataW.trod_lt m _ _ _ hm
  obtain ⟨A1, c1, l1, rfl, hc1, hr1, hq1⟩ := Open.top_slice (d := k65) Try.underlying30 (hval 1 30 v1 rfl rfl) el_30 h1
  obtain ⟨hq1_0, hq1_1⟩ := hq1
  have k2 := h2
  have lt2 : ∀ x ∈ p2, x.block < W.heap.size := by obtain ⟨m, hm⟩ := k2; exact DataW.trod_lt m _ _ _ hm
  obtain ⟨A2, c2, l2, rfl, hc2, hr2, hq2⟩ := Open.top_slice (d := k69) Try.underlying31 (hval 2 31 v2 rfl rfl) el_31 h2
  obtain ⟨hq2_0, hq2_1⟩ := hq2
  clear hA0 hval0 hsz0 hsz
  obtain ⟨k, h⟩ := Pure.FnExactWaitsOf a0 l1 l2 w0 hq1_0 hq1_1 hq2_0 hq2_1
  refine (laws_FnExactWaitsOf.calls k a0 A1 c1 l1 A2 c2 l2 true W hr1 hc1 hr2 hc2 h).mono fun e W' ⟨he, hd⟩ => ?_
  have bel : Below W.heap.size W W' := hd
  subst he
  exact ⟨_, rfl, _, _, _, [], _, [], hW', trodAll_mk1 (shut_bool Try.underlying4 _), (trodAll_cons_mk (shut_int Try.underlying3 w0) (trodAll_cons_mk (Below.trod laidOut (by kernel_rfl) (of_decide_eq_true (by kernel_rfl)) k1 bel lt1) (trodAll_cons_mk (Below.trod laidOut (by kernel_rfl) (of_decide_eq_true (by kernel_rfl)) k2 bel lt2) trodAll_mk0))), rfl, bel.frame _, fun h => by cases h⟩
set_option maxRecDepth 100000 in
theorem lifted (os : Os) (started : os.Started) (H : Type) (enc : TypeId × Value → H) :
    ReturnsInHanded {} Try.checked os 6 .any (Rows.fnExactWaitsOfSpec.pre6 enc Try.prog Try.f6 Rows.fnExactWaitsOfRow.domain false) (Rows.fnExactWaitsOfSpec.post enc Try.prog Try.f6 false true false false) := by
  refine returnsInHanded_of_change_sized (C := Try.checked) own started (by kernel_rfl) Try.func6
    (ChangeSpec.witness6 (enc := enc) (C := Try.checked) false ⟨#[], #[.int .i64 0, .slice none 0 0, .slice none 0 0], []⟩ 8 (by kernel_rfl) (by kernel_rfl) (by kernel_rfl) (by kernel_rfl)) ?_
  intro W base args ds gs before hval0 hW hcnd hsz0 _
  exact contract H enc W base args ds gs before hval0 hW hsz0
theorem over : Rows.fnExactWaitsOfRow.holds Try.pinned (OpenSpec.ofChange Rows.fnExactWaitsOfSpec) :=
  OpenClaim.holds_of_wide 6 Try.f6 rfl rfl rfl rfl rfl rfl rfl ⟨rfl, rfl, rfl, rfl, rfl⟩ rfl rfl rfl rfl rfl (by kernel_rfl) Try.func6 (by kernel_rfl)
    (of_decide_eq_true (by kernel_rfl)) (by unfold Func.isWrapper; first | (rw [if_pos (by decide +kernel)]; kernel_rfl) | (rw [if_neg (by decide +kernel)]; exact ⟨rfl, rfl⟩))
    (fun os started H enc _ => lifted os started H enc)
theorem proved : Rows.FnExactWaitsOfSaid := over
#print axioms proved
end Go.Proofs.Ytlgmccliclmbaaa.fnExactWaitsOf
namespace Go.Proofs.Ytlgmccliclmbaaa
/-- The statement, under a short name, for the claim. -/
theorem fnExactWaitsOf_holds : Rows.FnExactWaitsOfSaid := fnExactWaitsOf.proved
end Go.Proofs.Ytlgmccliclmbaaa
