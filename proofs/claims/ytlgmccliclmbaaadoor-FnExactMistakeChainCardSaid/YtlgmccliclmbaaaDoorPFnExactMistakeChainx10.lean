-- Written by a program of this session (the kit's print with this session's additions, wip/tools): Lean checks it. (shrunk) (pressed)
import Derived.Test.YtlgmccliclmbaaaDoorAbbr
import Derived.Test.YtlgmccliclmbaaaDoorPFnExactMistakeChainx0
import Derived.Test.YtlgmccliclmbaaaDoorPFnExactMistakeChainx1
import Derived.Test.YtlgmccliclmbaaaDoorPFnExactMistakeChainx2
import Derived.Test.YtlgmccliclmbaaaDoorPFnExactMistakeChainx6
import Derived.Test.YtlgmccliclmbaaaDoorPFnExactMistakeChainx9
namespace Go.Proofs.YtlgmccliclmbaaaDoor.PFnExactMistakeChain
open Go.RowKit Go.Proofs.YtlgmccliclmbaaaDoorW.PrintWords Go.Proofs.YtlgmccliclmbaaaDoorW.PrintLast Go.Proofs.YtlgmccliclmbaaaDoorW.PrintMore
attribute [local go_sem] max2_int min2_int max_two min_two max_three min_three max_four min_four   -- for this text's walks alone
set_option linter.unusedVariables false
set_option linter.unusedSimpArgs false

/-! ### laws_FnExactMistakeChain: function 7 -/
mutual
def laws_FnExactMistakeChain.j0 : Nat → Int → Int → List Int → Bool → List Int → Bool → Bool → List ByteArray → List ByteArray → Option (Bool)
 | 0, _, _, _, _, _, _, _, _, _ => none
 | k + 1, x1, x2, x8, x9, x11, x12, x48, x260000, x272000 => if x48 = true then (some false) else ((laws_toTable.f k x260000).bind fun t277 => ((laws_eqTable.f k x272000 t277).bind fun t280 => (if t280 = true then ((laws_markTable.f k x272000 1).bind fun bt281 => (if bt281.1 < 0 then (laws_FnExactMistakeChain.j1 k x1 x2 x8 x9 x11 true x260000) else ((laws_eqIntS.f k x11 x8).bind fun t283 => (if t283 = true then (laws_FnExactMistakeChain.j1 k x1 x2 x8 x9 x11 (x12 != x9) x260000) else (laws_FnExactMistakeChain.j1 k x1 x2 x8 x9 x11 true x260000))))) else (some false))))
def laws_FnExactMistakeChain.j1 : Nat → Int → Int → List Int → Bool → List Int → Bool → List ByteArray → Option (Bool)
 | 0, _, _, _, _, _, _, _ => none
 | k + 1, x1, x2, x8, x9, x11, x69, x260000 => if x69 = true then (some false) else ((laws_markIntS.f k x11 1).bind fun bt284 => ((laws_heldIntS.f k bt284.2 1).bind fun t286 => (if t286 < 0 then (some false) else (if t286 = bt284.1 then ((laws_toTable.f k x260000).bind fun t287 => ((impl_MistakeChain.f k t287 x1 x2).bind fun bt290 => ((laws_eqIntS.f k bt290.1 x8).bind fun t294 => (if t294 = true then (laws_FnExactMistakeChain.j2 k bt284.2 bt284.1 (bt290.2 != x9)) else (laws_FnExactMistakeChain.j2 k bt284.2 bt284.1 true))))) else (some false)))))
def laws_FnExactMistakeChain.j2 : Nat → List Int → Int → Bool → Option (Bool)
 | 0, _, _, _ => none
 | k + 1, x11, x14, x97 => if x97 = true then (some false) else ((laws_heldIntS.f k x11 1).bind fun t295 => (if t295 < 0 then (some false) else (if t295 = x14 then (some true) else (some false))))
end
def laws_FnExactMistakeChain.f (k : Nat) (l0_0 : List ByteArray) (a1 : Int) (a2 : Int) : Option (Bool) := (laws_szTable.f k l0_0 1048576).bind fun t260 => (if t260 < 0 then (some true) else ((laws_toTable.f k l0_0).bind fun t261 => ((spec_MistakeChain.f k t261 a1 a2).bind fun bt264 => ((laws_toTable.f k l0_0).bind fun t268 => ((impl_MistakeChain.f k t268 a1 a2).bind fun bt272 => ((laws_eqIntS.f k bt272.1 bt264.1).bind fun t276 => (if t276 = true then (laws_FnExactMistakeChain.j0 k a1 a2 bt264.1 bt264.2 bt272.1 bt272.2 (bt272.2 != bt264.2) l0_0 t268) else (laws_FnExactMistakeChain.j0 k a1 a2 bt264.1 bt264.2 bt272.1 bt272.2 true l0_0 t268))))))))
theorem laws_FnExactMistakeChain.mono_l : ∀ k, (∀ y0 y1 y2 y3 y4 y5 y6 y7 y8, LeO (laws_FnExactMistakeChain.j0 k y0 y1 y2 y3 y4 y5 y6 y7 y8) (laws_FnExactMistakeChain.j0 (k + 1) y0 y1 y2 y3 y4 y5 y6 y7 y8)) ∧ (∀ y0 y1 y2 y3 y4 y5 y6, LeO (laws_FnExactMistakeChain.j1 k y0 y1 y2 y3 y4 y5 y6) (laws_FnExactMistakeChain.j1 (k + 1) y0 y1 y2 y3 y4 y5 y6)) ∧ (∀ y0 y1 y2, LeO (laws_FnExactMistakeChain.j2 k y0 y1 y2) (laws_FnExactMistakeChain.j2 (k + 1) y0 y1 y2))
 | 0 => ⟨fun _ _ _ _ _ _ _ _ _ r h => by simp [laws_FnExactMistakeChain.j0] at h, fun _ _ _ _ _ _ _ r h => by simp [laws_FnExactMistakeChain.j1] at h, fun _ _ _ r h => by simp [laws_FnExactMistakeChain.j2] at h⟩
 | k + 1 => by
  obtain ⟨ih0, ih1, ih2⟩ := laws_FnExactMistakeChain.mono_l k
  refine ⟨?_, ?_, ?_⟩
  ·intro y0 y1 y2 y3 y4 y5 y6 y7 y8
   unfold laws_FnExactMistakeChain.j0
   repeat' first
   | (with_reducible exact ih0 _ _ _ _ _ _ _ _ _)
   | (with_reducible exact ih1 _ _ _ _ _ _ _)
   | (with_reducible exact ih2 _ _ _)
   | (with_reducible exact impl_MistakeChain.mono _ _ _ _)
   | (with_reducible exact laws_eqIntS.mono _ _ _)
   | (with_reducible exact laws_eqTable.mono _ _ _)
   | (with_reducible exact laws_heldIntS.mono _ _ _)
   | (with_reducible exact laws_markIntS.mono _ _ _)
   | (with_reducible exact laws_markTable.mono _ _ _)
   | (with_reducible exact laws_szTable.mono _ _ _)
   | (with_reducible exact laws_toTable.mono _ _)
   | (with_reducible exact spec_MistakeChain.mono _ _ _ _)
   | (with_reducible exact LeO.refl _)
   | (with_reducible exact LeO.none _)
   | (with_reducible refine LeO.ite ?_ ?_)
   | (with_reducible refine LeO.bind ?_ (fun _ => ?_))
   | exact ih0 _ _ _ _ _ _ _ _ _
   | exact ih1 _ _ _ _ _ _ _
   | exact ih2 _ _ _
   | exact impl_MistakeChain.mono _ _ _ _
   | exact laws_eqIntS.mono _ _ _
   | exact laws_eqTable.mono _ _ _
   | exact laws_heldIntS.mono _ _ _
   | exact laws_markIntS.mono _ _ _
   | exact laws_markTable.mono _ _ _
   | exact laws_szTable.mono _ _ _
   | exact laws_toTable.mono _ _
   | exact spec_MistakeChain.mono _ _ _ _
   | exact LeO.none _
   | refine LeO.ite ?_ ?_
   | refine LeO.bind ?_ (fun _ => ?_)
  ·intro y0 y1 y2 y3 y4 y5 y6
   unfold laws_FnExactMistakeChain.j1
   repeat' first
   | (with_reducible exact ih0 _ _ _ _ _ _ _ _ _)
   | (with_reducible exact ih1 _ _ _ _ _ _ _)
   | (with_reducible exact ih2 _ _ _)
   | (with_reducible exact impl_MistakeChain.mono _ _ _ _)
   | (with_reducible exact laws_eqIntS.mono _ _ _)
   | (with_reducible exact laws_eqTable.mono _ _ _)
   | (with_reducible exact laws_heldIntS.mono _ _ _)
   | (with_reducible exact laws_markIntS.mono _ _ _)
   | (with_reducible exact laws_markTable.mono _ _ _)
   | (with_reducible exact laws_szTable.mono _ _ _)
   | (with_reducible exact laws_toTable.mono _ _)
   | (with_reducible exact spec_MistakeChain.mono _ _ _ _)
   | (with_reducible exact LeO.refl _)
   | (with_reducible exact LeO.none _)
   | (with_reducible refine LeO.ite ?_ ?_)
   | (with_reducible refine LeO.bind ?_ (fun _ => ?_))
   | exact ih0 _ _ _ _ _ _ _ _ _
   | exact ih1 _ _ _ _ _ _ _
   | exact ih2 _ _ _
   | exact impl_MistakeChain.mono _ _ _ _
   | exact laws_eqIntS.mono _ _ _
   | exact laws_eqTable.mono _ _ _
   | exact laws_heldIntS.mono _ _ _
   | exact laws_markIntS.mono _ _ _
   | exact laws_markTable.mono _ _ _
   | exact laws_szTable.mono _ _ _
   | exact laws_toTable.mono _ _
   | exact spec_MistakeChain.mono _ _ _ _
   | exact LeO.none _
   | refine LeO.ite ?_ ?_
   | refine LeO.bind ?_ (fun _ => ?_)
  ·intro y0 y1 y2
   unfold laws_FnExactMistakeChain.j2
   repeat' first
   | (with_reducible exact ih0 _ _ _ _ _ _ _ _ _)
   | (with_reducible exact ih1 _ _ _ _ _ _ _)
   | (with_reducible exact ih2 _ _ _)
   | (with_reducible exact impl_MistakeChain.mono _ _ _ _)
   | (with_reducible exact laws_eqIntS.mono _ _ _)
   | (with_reducible exact laws_eqTable.mono _ _ _)
   | (with_reducible exact laws_heldIntS.mono _ _ _)
   | (with_reducible exact laws_markIntS.mono _ _ _)
   | (with_reducible exact laws_markTable.mono _ _ _)
   | (with_reducible exact laws_szTable.mono _ _ _)
   | (with_reducible exact laws_toTable.mono _ _)
   | (with_reducible exact spec_MistakeChain.mono _ _ _ _)
   | (with_reducible exact LeO.refl _)
   | (with_reducible exact LeO.none _)
   | (with_reducible refine LeO.ite ?_ ?_)
   | (with_reducible refine LeO.bind ?_ (fun _ => ?_))
   | exact ih0 _ _ _ _ _ _ _ _ _
   | exact ih1 _ _ _ _ _ _ _
   | exact ih2 _ _ _
   | exact impl_MistakeChain.mono _ _ _ _
   | exact laws_eqIntS.mono _ _ _
   | exact laws_eqTable.mono _ _ _
   | exact laws_heldIntS.mono _ _ _
   | exact laws_markIntS.mono _ _ _
   | exact laws_markTable.mono _ _ _
   | exact laws_szTable.mono _ _ _
   | exact laws_toTable.mono _ _
   | exact spec_MistakeChain.mono _ _ _ _
   | exact LeO.none _
   | refine LeO.ite ?_ ?_
   | refine LeO.bind ?_ (fun _ => ?_)
theorem laws_FnExactMistakeChain.mono : ∀ a0 a1 a2 k, LeO (laws_FnExactMistakeChain.f k a0 a1 a2) (laws_FnExactMistakeChain.f (k + 1) a0 a1 a2) := by
 intro a0 a1 a2 k
 obtain ⟨ih0, ih1, ih2⟩ := laws_FnExactMistakeChain.mono_l k
 unfold laws_FnExactMistakeChain.f
 repeat' first
   | (with_reducible exact ih0 _ _ _ _ _ _ _ _ _)
   | (with_reducible exact ih1 _ _ _ _ _ _ _)
   | (with_reducible exact ih2 _ _ _)
   | (with_reducible exact impl_MistakeChain.mono _ _ _ _)
   | (with_reducible exact laws_eqIntS.mono _ _ _)
   | (with_reducible exact laws_eqTable.mono _ _ _)
   | (with_reducible exact laws_heldIntS.mono _ _ _)
   | (with_reducible exact laws_markIntS.mono _ _ _)
   | (with_reducible exact laws_markTable.mono _ _ _)
   | (with_reducible exact laws_szTable.mono _ _ _)
   | (with_reducible exact laws_toTable.mono _ _)
   | (with_reducible exact spec_MistakeChain.mono _ _ _ _)
   | (with_reducible exact LeO.refl _)
   | (with_reducible exact LeO.none _)
   | (with_reducible refine LeO.ite ?_ ?_)
   | (with_reducible refine LeO.bind ?_ (fun _ => ?_))
   | exact ih0 _ _ _ _ _ _ _ _ _
   | exact ih1 _ _ _ _ _ _ _
   | exact ih2 _ _ _
   | exact impl_MistakeChain.mono _ _ _ _
   | exact laws_eqIntS.mono _ _ _
   | exact laws_eqTable.mono _ _ _
   | exact laws_heldIntS.mono _ _ _
   | exact laws_markIntS.mono _ _ _
   | exact laws_markTable.mono _ _ _
   | exact laws_szTable.mono _ _ _
   | exact laws_toTable.mono _ _
   | exact spec_MistakeChain.mono _ _ _ _
   | exact LeO.none _
   | refine LeO.ite ?_ ?_
   | refine LeO.bind ?_ (fun _ => ?_)
set_option maxHeartbeats 8000000 in
set_option maxRecDepth 100000 in
theorem laws_FnExactMistakeChain.calls (k : Nat) (A0_0 : Option Addr) (c0_0 : Nat) (l0_0 : List ByteArray) (a1 : Int) (a2 : Int) (r : Bool) (w : World) (hr0_0 : Kd.C Kd.string w A0_0 l0_0.length l0_0) (hc0_0 : l0_0.length ≤ c0_0) (h : laws_FnExactMistakeChain.f k l0_0 a1 a2 = some r) :
  Calls Tryd.prog 7 #[.agg #[.slice A0_0 l0_0.length c0_0], .int .i64 a1, .int .i64 a2] w fun e w' => e = .returned (.bool r) ∧ Below w.heap.size w w' := by
 have hu24 := Tryd.underlying24
 have hu28 := Tryd.underlying28
 have HR0_0 := Aside0.mk hr0_0
 have HC0_0 := Aside0.mk hc0_0
 clear hr0_0 hc0_0
 have HB := ak (Below.refl w.heap.size w)
 have H : ((laws_szTable.f k l0_0 1048576).bind fun t260 => (if t260 < 0 then (some true) else ((laws_toTable.f k l0_0).bind fun t261 => ((spec_MistakeChain.f k t261 a1 a2).bind fun bt264 => ((laws_toTable.f k l0_0).bind fun t268 => ((impl_MistakeChain.f k t268 a1 a2).bind fun bt272 => ((laws_eqIntS.f k bt272.1 bt264.1).bind fun t276 => (if t276 = true then (laws_FnExactMistakeChain.j0 k a1 a2 bt264.1 bt264.2 bt272.1 bt272.2 (bt272.2 != bt264.2) l0_0 t268) else (laws_FnExactMistakeChain.j0 k a1 a2 bt264.1 bt264.2 bt272.1 bt272.2 true l0_0 t268))))))))) = some r := h
 clear h
 replace H := Option.bind_eq_some_iff.mp H
 obtain ⟨t260, A40, H⟩ := H
 replace H : (if t260 < 0 then (some true) else ((laws_toTable.f k l0_0).bind fun t261 => ((spec_MistakeChain.f k t261 a1 a2).bind fun bt264 => ((laws_toTable.f k l0_0).bind fun t268 => ((impl_MistakeChain.f k t268 a1 a2).bind fun bt272 => ((laws_eqIntS.f k bt272.1 bt264.1).bind fun t276 => (if t276 = true then (laws_FnExactMistakeChain.j0 k a1 a2 bt264.1 bt264.2 bt272.1 bt272.2 (bt272.2 != bt264.2) l0_0 t268) else (laws_FnExactMistakeChain.j0 k a1 a2 bt264.1 bt264.2 bt272.1 bt272.2 true l0_0 t268)))))))) = some r := H
 have A4 := Aside0.mk A40
 clear A40
 by_cases c5 : t260 < 0
 ·rw [if_pos c5] at H
  have c5b0 : decide (t260 < 0) = true := decide_eq_true c5
  clear c5
  obtain rfl := Option.some.inj H
  go_enter Tryd.func7, Tryd.ntmps7
  go_wp2_with (first | ((with_reducible refine gate_dst (N := 3) rfl ?_); refine box_event ?hg (N := 3) ?hd (cs := #[.slice A0_0 l0_0.length c0_0]) (t := 24) ?hr ?_; (case hd => rfl); (case hg => rfl); (case hr => first | (go_simp; done) | (go_simp; rfl)); intro gb259 hg w6 hbox hb; have n0_ := ak (below_step (vh HB.out) hb); have n1_ := ak (hbox); have n2_ := ak (vg hg (vh HB.out)); have n3_ := ak (vg hg (vh HB.out)); clear HB; have HB := n0_; have BK259 := n1_; have GW259 := n2_; have GE259 := n3_; clear n0_ n1_ n2_ n3_; clear hb hbox hg; have hcz7_0 : w6.cell? ⟨gb259, 0, none⟩ = some (.slice A0_0 l0_0.length c0_0) := (blk_cell BK259.out 0).trans rfl; have hfz7_0 := blk_frozen BK259.out 0) | ((with_reducible refine gate_callee (f := 11) rfl ?_); refine goesL_ (some 20) rfl rfl Tryd.func11 (by kernel_rfl) rfl #[.agg #[.slice A0_0 l0_0.length c0_0], .int .i64 1048576] rfl vm ?_; (with_reducible refine (laws_szTable.calls k _ _ l0_0 1048576 t260 _ ?side1 ?side2 A4.out).mono ?_); (case side1 => exact vc HR0_0.out HB.out); (case side2 => exact HC0_0.out); rintro e w8 ⟨rfl, hb⟩; refine ⟨_, rfl, ?_⟩; have n0_ := ak (blk_below (vb BK259.out) hb); have n1_ := ak (below_step (vs1 HB.out GE259.out) hb); clear BK259; clear HB; have BK259 := n0_; have HB := n1_; clear n0_ n1_; (try clear hb); (try clear hb2); (try clear hk); (try clear hi)))
  go_ret
  exact ⟨by first | rfl | (simp [errW_none, errW_some] <;> rfl) | (simp [*, errW_none, errW_some] <;> rfl), by exact vs1 HB.out GE259.out⟩
 ·rw [if_neg c5] at H
  have c5b0 : decide (t260 < 0) = false := decide_eq_false c5
  clear c5
  replace H := Option.bind_eq_some_iff.mp H
  obtain ⟨t261, A90, H⟩ := H
  replace H : ((spec_MistakeChain.f k t261 a1 a2).bind fun bt264 => ((laws_toTable.f k l0_0).bind fun t268 => ((impl_MistakeChain.f k t268 a1 a2).bind fun bt272 => ((laws_eqIntS.f k bt272.1 bt264.1).bind fun t276 => (if t276 = true then (laws_FnExactMistakeChain.j0 k a1 a2 bt264.1 bt264.2 bt272.1 bt272.2 (bt272.2 != bt264.2) l0_0 t268) else (laws_FnExactMistakeChain.j0 k a1 a2 bt264.1 bt264.2 bt272.1 bt272.2 true l0_0 t268)))))) = some r := H
  have A9 := Aside0.mk A90
  clear A90
  replace H := Option.bind_eq_some_iff.mp H
  obtain ⟨⟨t264, t267⟩, A100, H⟩ := H
  replace H : ((laws_toTable.f k l0_0).bind fun t268 => ((impl_MistakeChain.f k t268 a1 a2).bind fun bt272 => ((laws_eqIntS.f k bt272.1 t264).bind fun t276 => (if t276 = true then (laws_FnExactMistakeChain.j0 k a1 a2 t264 t267 bt272.1 bt272.2 (bt272.2 != t267) l0_0 t268) else (laws_FnExactMistakeChain.j0 k a1 a2 t264 t267 bt272.1 bt272.2 true l0_0 t268))))) = some r := H
  have A10 := Aside0.mk A100
  clear A100
  replace H := Option.bind_eq_some_iff.mp H
  obtain ⟨t268, A110, H⟩ := H
  replace H : ((impl_MistakeChain.f k t268 a1 a2).bind fun bt272 => ((laws_eqIntS.f k bt272.1 t264).bind fun t276 => (if t276 = true then (laws_FnExactMistakeChain.j0 k a1 a2 t264 t267 bt272.1 bt272.2 (bt272.2 != t267) l0_0 t268) else (laws_FnExactMistakeChain.j0 k a1 a2 t264 t267 bt272.1 bt272.2 true l0_0 t268)))) = some r := H
  have A11 := Aside0.mk A110
  clear A110
  replace H := Option.bind_eq_some_iff.mp H
  obtain ⟨⟨t272, t275⟩, A120, H⟩ := H
  replace H : ((laws_eqIntS.f k t272 t264).bind fun t276 => (if t276 = true then (laws_FnExactMistakeChain.j0 k a1 a2 t264 t267 t272 t275 (t275 != t267) l0_0 t268) else (laws_FnExactMistakeChain.j0 k a1 a2 t264 t267 t272 t275 true l0_0 t268))) = some r := H
  have A12 := Aside0.mk A120
  clear A120
  have HC13 := Aside0.mk H
  clear H
  go_enter Tryd.func7, Tryd.ntmps7
  go_upto_region 8 with (first | ((with_reducible refine gate_dst (N := 3) rfl ?_); refine box_event ?hg (N := 3) ?hd (cs := #[.slice A0_0 l0_0.length c0_0]) (t := 24) ?hr ?_; (case hd => rfl); (case hg => rfl); (case hr => first | (go_simp; done) | (go_simp; rfl)); intro gb259 hg w14 hbox hb; have n0_ := ak (below_step (vh HB.out) hb); have n1_ := ak (hbox); have n2_ := ak (vg hg (vh HB.out)); have n3_ := ak (vg hg (vh HB.out)); clear HB; have HB := n0_; have BK259 := n1_; have GW259 := n2_; have GE259 := n3_; clear n0_ n1_ n2_ n3_; clear hb hbox hg; have hcz15_0 : w14.cell? ⟨gb259, 0, none⟩ = some (.slice A0_0 l0_0.length c0_0) := (blk_cell BK259.out 0).trans rfl; have hfz15_0 := blk_frozen BK259.out 0) | ((with_reducible refine gate_callee (f := 11) rfl ?_); refine goesL_ (some 20) rfl rfl Tryd.func11 (by kernel_rfl) rfl #[.agg #[.slice A0_0 l0_0.length c0_0], .int .i64 1048576] rfl vm ?_; (with_reducible refine (laws_szTable.calls k _ _ l0_0 1048576 t260 _ ?side1 ?side2 A4.out).mono ?_); (case side1 => exact vc HR0_0.out HB.out); (case side2 => exact HC0_0.out); rintro e w16 ⟨rfl, hb⟩; refine ⟨_, rfl, ?_⟩; have n0_ := ak (blk_below (vb BK259.out) hb); have n1_ := ak (below_step (vs1 HB.out GE259.out) hb); clear BK259; clear HB; have BK259 := n0_; have HB := n1_; clear n0_ n1_; (try clear hb); (try clear hb2); (try clear hk); (try clear hi); have hcz17_0 : w16.cell? ⟨gb259, 0, none⟩ = some (.slice A0_0 l0_0.length c0_0) := (blk_cell BK259.out 0).trans rfl; have hfz17_0 := blk_frozen BK259.out 0) | ((with_reducible refine gate_callee (f := 13) rfl ?_); refine goesL_ (some 25) rfl rfl Tryd.func13 (by kernel_rfl) rfl #[.agg #[.slice A0_0 l0_0.length c0_0]] rfl vm ?_; (with_reducible refine (laws_toTable.calls k _ _ l0_0 t261 _ ?side1 ?side2 A9.out).mono ?_); (case side1 => exact vc HR0_0.out HB.out); (case side2 => exact HC0_0.out); rintro e w18 ⟨v262, rfl, ho0, hb⟩; refine ⟨_, rfl, ?_⟩; have n0_ := ak (Kd.R_lower ho0 (below_size (vs1 HB.out GE259.out))); have n1_ := ak (blk_below (vb BK259.out) hb); have n2_ := ak (below_step (vs1 HB.out GE259.out) hb); clear BK259; clear HB; have HO263 := n0_; have BK259 := n1_; have HB := n2_; clear n0_ n1_ n2_; (try clear hb); (try clear hb2); (try clear hk); (try clear hi); (try clear ho0); obtain ⟨Ao19, co19, eo19⟩ := Kd.R_slice HO263.out; subst eo19) | ((with_reducible refine gate_callee (f := 28) rfl ?_); refine goesL_ (some 28) rfl rfl Tryd.func28 (by kernel_rfl) rfl #[.agg #[.slice Ao19 t261.length co19], .int .i64 a1, .int .i64 a2] rfl vm ?_; (with_reducible refine (spec_MistakeChain.calls k _ _ t261 a1 a2 t264 t267 _ ?side1 ?side2 A10.out).mono ?_); (case side1 => repeat (first | exact (Kd.R_reads' HO263.out).2.2 | (with_reducible refine Kd.C_alloc ?_ _) | (with_reducible refine Kd.C_drewN ?_ _) | (with_reducible refine Kd.C_drew ?_))); (case side2 => exact (Kd.R_reads' HO263.out).2.1); rintro e w20 ⟨v265, rfl, ho0, hb⟩; refine ⟨_, rfl, ?_⟩; have n0_ := ak (Kd.R_below (vr HO263.out) hb); have n1_ := ak (Kd.R_lower ho0 (below_size (vs1 HB.out GE259.out))); have n2_ := ak (blk_below (vb BK259.out) hb); have n3_ := ak (below_step (vs1 HB.out GE259.out) hb); clear HO263; clear BK259; clear HB; have HO263 := n0_; have HO266 := n1_; have BK259 := n2_; have HB := n3_; clear n0_ n1_ n2_ n3_; (try clear hb); (try clear hb2); (try clear hk); (try clear hi); (try clear ho0); (try (have hnw22 := Kd.R_ne HO263.out BK259.out (by decide); change some gb259 ≠ some _ at hnw22; have how22 := fun (e_ : gb259 = _) => hnw22 (congrArg some e_); have hpw22 := fun e_ => how22 (Eq.symm e_); clear hnw22; replace how22 := eq_false how22; replace hpw22 := eq_false hpw22)); (try (have hnw23 := Kd.R_ne HO266.out BK259.out (by decide); change some gb259 ≠ some _ at hnw23; have how23 := fun (e_ : gb259 = _) => hnw23 (congrArg some e_); have hpw23 := fun e_ => how23 (Eq.symm e_); clear hnw23; replace how23 := eq_false how23; replace hpw23 := eq_false hpw23)); have hcz21_0 : w20.cell? ⟨gb259, 0, none⟩ = some (.slice A0_0 l0_0.length c0_0) := (blk_cell BK259.out 0).trans rfl; have hfz21_0 := blk_frozen BK259.out 0) | ((with_reducible refine gate_callee (f := 13) rfl ?_); refine goesL_ (some 32) rfl rfl Tryd.func13 (by kernel_rfl) rfl #[.agg #[.slice A0_0 l0_0.length c0_0]] rfl vm ?_; (with_reducible refine (laws_toTable.calls k _ _ l0_0 t268 _ ?side1 ?side2 A11.out).mono ?_); (case side1 => exact vc HR0_0.out HB.out); (case side2 => exact HC0_0.out); rintro e w24 ⟨v269, rfl, ho0, hb⟩; refine ⟨_, rfl, ?_⟩; have n0_ := ak (Kd.R_elder' (vr HO263.out) (Kd.R_base ho0) hb); have n1_ := ak (Kd.R_below (vr HO266.out) hb); have n2_ := ak (Kd.R_lower (Kd.R_new' ho0 (Kd.R_lt (vr HO263.out))) (below_size (vs1 HB.out GE259.out))); have n3_ := ak (blk_below (vb BK259.out) hb); have n4_ := ak (below_step (vs1 HB.out GE259.out) hb); clear HO263; clear HO266; clear BK259; clear HB; have HO263 := n0_; have HO266 := n1_; have HO270 := n2_; have BK259 := n3_; have HB := n4_; clear n0_ n1_ n2_ n3_ n4_; (try clear hb); (try clear hb2); (try clear hk); (try clear hi); (try clear ho0)) | ((with_reducible refine gate_dst (N := 10) rfl ?_); refine box_event ?hg (N := 10) ?hd (cs := #[.slice none 0 0]) (t := 28) ?hr ?_; (case hd => rfl); (case hg => rfl); (case hr => first | (go_simp; done) | (go_simp; rfl)); intro gb271 hg w25 hbox hb; have n0_ := ak (Kd.R_below (vr HO263.out) hb); have n1_ := ak (Kd.R_below (vr HO266.out) hb); have n2_ := ak (Kd.R_below (vr HO270.out) hb); have n3_ := ak (blk_below (vb BK259.out) hb); have n4_ := ak (below_step (vs1 HB.out GE259.out) hb); have n5_ := ak (hbox); have n6_ := ak (vg hg (vs1 HB.out GE259.out)); have n7_ := ak (vg hg (vs1 HB.out GE259.out)); have n8_ := ak (vn hg (vb BK259.out)); have n9_ := ak (vn' hg (vb BK259.out)); clear HO263; clear HO266; clear HO270; clear BK259; clear HB; have HO263 := n0_; have HO266 := n1_; have HO270 := n2_; have BK259 := n3_; have HB := n4_; have BK271 := n5_; have GW271 := n6_; have GE271 := n7_; have NB259_271 := n8_; have NB271_259 := n9_; clear n0_ n1_ n2_ n3_ n4_ n5_ n6_ n7_ n8_ n9_; clear hb hbox hg; obtain ⟨Ao26, co26, eo26⟩ := Kd.R_slice HO270.out; subst eo26; have hnb27 := NB271_259.out; have hnc27 := NB259_271.out; (try (have hnw29 := Kd.R_ne HO263.out BK271.out (by decide); change some gb271 ≠ some _ at hnw29; have how29 := fun (e_ : gb271 = _) => hnw29 (congrArg some e_); have hpw29 := fun e_ => how29 (Eq.symm e_); clear hnw29; replace how29 := eq_false how29; replace hpw29 := eq_false hpw29)); (try (have hnw30 := Kd.R_ne HO266.out BK271.out (by decide); change some gb271 ≠ some _ at hnw30; have how30 := fun (e_ : gb271 = _) => hnw30 (congrArg some e_); have hpw30 := fun e_ => how30 (Eq.symm e_); clear hnw30; replace how30 := eq_false how30; replace hpw30 := eq_false hpw30)); (try (have hnw31 := Kd.R_ne HO270.out BK271.out (by decide); change some gb271 ≠ some _ at hnw31; have how31 := fun (e_ : gb271 = _) => hnw31 (congrArg some e_); have hpw31 := fun e_ => how31 (Eq.symm e_); clear hnw31; replace how31 := eq_false how31; replace hpw31 := eq_false hpw31)); have hcz28_0 : w25.cell? ⟨gb271, 0, none⟩ = some (.slice none 0 0) := (blk_cell BK271.out 0).trans rfl; have hfz28_0 := blk_frozen BK271.out 0) | ((with_reducible refine gate_callee (f := 29) rfl ?_); refine goesL_ (some 37) rfl rfl Tryd.func29 (by kernel_rfl) rfl #[.agg #[.slice Ao26 t268.length co26], .int .i64 a1, .int .i64 a2] rfl vm ?_; (with_reducible refine (impl_MistakeChain.calls k _ _ t268 a1 a2 t272 t275 _ ?side1 ?side2 A12.out).mono ?_); (case side1 => refine (Kd.R_reads' (e := 9) (base := w.heap.size) (ok := fun k_ => (True ∧ some k_ ≠ (.slice Ao19 t261.length co19 : Value).ownBlock)) (n := t268.length) (c := co26) ?_).2.2; exact (by (with_reducible repeat (first | apply Kd.R_alloc | apply Kd.R_drewN | apply Kd.R_drew)); exact (Kd.R_mono (Kd.R_far (p := ⟨gb271, 0, none⟩) (Kd.R_types HO270.out BK271.out (by decide)) (fun _ hk => hk.2) (.slice Ao26 t268.length co26)) (fun _ h_ => h_.1)))); (case side2 => exact (Kd.R_reads' HO270.out).2.1); rintro e w32 ⟨v273, rfl, ho0, hb⟩; refine ⟨_, rfl, ?_⟩; have n0_ := ak (Kd.R_below (by (with_reducible repeat (first | apply Kd.R_alloc | apply Kd.R_drewN | apply Kd.R_drew)); exact (Kd.R_mono (Kd.R_far (p := ⟨gb271, 0, none⟩) (Kd.R_types HO263.out BK271.out (by decide)) (fun _ hk => hk.2) (.slice Ao26 t268.length co26)) (fun _ h_ => h_.1))) hb); have n1_ := ak (Kd.R_elder' (by (with_reducible repeat (first | apply Kd.R_alloc | apply Kd.R_drewN | apply Kd.R_drew)); exact (Kd.R_mono (Kd.R_far (p := ⟨gb271, 0, none⟩) (Kd.R_types HO266.out BK271.out (by decide)) (fun _ hk => hk.2) (.slice Ao26 t268.length co26)) (fun _ h_ => h_.1))) (Kd.R_base ho0) hb); have n2_ := ak (Kd.R_below (by (with_reducible repeat (first | apply Kd.R_alloc | apply Kd.R_drewN | apply Kd.R_drew)); exact (Kd.R_mono (Kd.R_far (p := ⟨gb271, 0, none⟩) (Kd.R_types HO270.out BK271.out (by decide)) (fun _ hk => hk.2) (.slice Ao26 t268.length co26)) (fun _ h_ => h_.1))) hb); have n3_ := ak (Kd.R_lower (Kd.R_new' ho0 (Kd.R_lt (by (with_reducible repeat (first | apply Kd.R_alloc | apply Kd.R_drewN | apply Kd.R_drew)); exact (Kd.R_mono (Kd.R_far (p := ⟨gb271, 0, none⟩) (Kd.R_types HO266.out BK271.out (by decide)) (fun _ hk => hk.2) (.slice Ao26 t268.length co26)) (fun _ h_ => h_.1))))) (below_size (vs2 HB.out GE259.out GE271.out))); have n4_ := ak (blk_below (g := gb259) (o := .cells #[.slice A0_0 l0_0.length c0_0] 24 (0, 0)) (by (with_reducible repeat (first | refine blk_drewN ?_ _ | refine blk_drew ?_ | refine blk_alloc ?_ _)); refine blk_far ?_ NB259_271.out _; exact vb BK259.out) hb); have n5_ := ak (blk_below (g := gb271) (o := .cells #[.slice Ao26 t268.length co26] 28 (0, 0)) (by (with_reducible repeat (first | refine blk_drewN ?_ _ | refine blk_drew ?_ | refine blk_alloc ?_ _)); refine blk_put (cs := #[.slice none 0 0]) ?_ 0 _ rfl; exact vb BK271.out) hb); have n6_ := ak (below_step (vs2 HB.out GE259.out GE271.out) hb); clear HO263; clear HO266; clear HO270; clear BK259; clear BK271; clear HB; have HO263 := n0_; have HO266 := n1_; have HO270 := n2_; have HO274 := n3_; have BK259 := n4_; have BK271 := n5_; have HB := n6_; clear n0_ n1_ n2_ n3_ n4_ n5_ n6_; (try clear hb); (try clear hb2); (try clear hk); (try clear hi); (try clear ho0)))
  (try simp only [Act.put, List.setIfInBounds_toArray, List.set_cons_zero, List.set_cons_succ])
  go_cut [48] (fun v48 wc => ∃ (kq : Nat) (x48_12 : Bool), v48 = .bool x48_12 ∧ Aside0 (laws_FnExactMistakeChain.j0 kq a1 a2 t264 t267 t272 t275 x48_12 l0_0 t268 = some r) ∧ Aside0 (kq ≤ k) ∧ Aside0 (Kd.R (Kd.int .i64) 3 wc w.heap.size (fun k_ => some k_ ≠ (v273 : Value).ownBlock) v265 t264) ∧ Aside0 (Kd.R (Kd.int .i64) 3 wc w.heap.size (fun k_ => some k_ ≠ (v265 : Value).ownBlock) v273 t272) ∧ Aside0 (Kd.R Kd.string 9 wc w.heap.size (fun _ => True) (.slice Ao26 t268.length co26) t268) ∧ Aside0 (wc.heap[gb259]? = some (.cells #[(.slice A0_0 l0_0.length c0_0)] 24 (0, 0))) ∧ Aside0 (wc.heap[gb271]? = some (.cells #[(.slice Ao26 t268.length co26)] 28 (0, 0))) ∧ Aside0 (Below w.heap.size w wc))
  case first =>
   have H := HC13.out
   clear HC13
   replace H := Option.bind_eq_some_iff.mp H
   obtain ⟨t276, A330, H⟩ := H
   replace H : (if t276 = true then (laws_FnExactMistakeChain.j0 k a1 a2 t264 t267 t272 t275 (t275 != t267) l0_0 t268) else (laws_FnExactMistakeChain.j0 k a1 a2 t264 t267 t272 t275 true l0_0 t268)) = some r := H
   have A33 := Aside0.mk A330
   clear A330
   by_cases c34 : t276 = true
   ·subst c34
    have H1 : (laws_FnExactMistakeChain.j0 k a1 a2 t264 t267 t272 t275 (t275 != t267) l0_0 t268) = some r := by rw [if_pos rfl] at H; first | exact H | (simp only [if_true, eq_self] at H ⊢; exact H)
    clear H
    have H := H1
    clear H1
    have H' := Aside0.mk H
    clear H
    obtain ⟨Ao35, co35, eo35⟩ := Kd.R_slice HO274.out
    subst eo35
    obtain ⟨Ao36, co36, eo36⟩ := Kd.R_slice HO266.out
    subst eo36
    go_wp2_with (first | ((with_reducible refine gate_callee (f := 18) rfl ?_); refine goesL_ (some 42) rfl rfl Tryd.func18 (by kernel_rfl) rfl #[.slice Ao35 t272.length co35, .slice Ao36 t264.length co36] rfl vm ?_; (with_reducible refine (laws_eqIntS.calls k _ _ t272 _ _ t264 true _ ?side1 ?side2 ?side3 ?side4 A33.out).mono ?_); (case side1 => repeat (first | exact (Kd.R_reads' HO274.out).2.2 | (with_reducible refine Kd.C_alloc ?_ _) | (with_reducible refine Kd.C_drewN ?_ _) | (with_reducible refine Kd.C_drew ?_))); (case side2 => exact (Kd.R_reads' HO274.out).2.1); (case side3 => repeat (first | exact (Kd.R_reads' HO266.out).2.2 | (with_reducible refine Kd.C_alloc ?_ _) | (with_reducible refine Kd.C_drewN ?_ _) | (with_reducible refine Kd.C_drew ?_))); (case side4 => exact (Kd.R_reads' HO266.out).2.1); rintro e w' ⟨rfl, ⟨nd, rfl⟩⟩; refine ⟨_, rfl, ?_⟩))
    go_meet
    case rel => exact ⟨_, ((t275 != t267)), (by first | rfl | (simp; done) | (simp [*]; done)), H', ⟨by first | omega | exact Nat.le_refl _⟩, ⟨by exact vr (Kd.R_mono HO266.out (fun _ hk => hk.2))⟩, ⟨by exact vr (Kd.R_mono HO274.out (fun _ hk => hk.2))⟩, ⟨by exact vr (Kd.R_mono HO270.out (fun _ hk => trivial))⟩, ⟨by exact vb BK259.out⟩, ⟨by exact vb BK271.out⟩, ⟨by exact vs2 HB.out GE259.out GE271.out⟩⟩
   ·replace c34 := Bool.eq_false_iff.mpr c34
    subst c34
    have H1 : (laws_FnExactMistakeChain.j0 k a1 a2 t264 t267 t272 t275 true l0_0 t268) = some r := by rw [if_neg (show ¬ (false = true) by decide)] at H; first | exact H | (simp only [if_true, eq_self] at H ⊢; exact H)
    clear H
    have H := H1
    clear H1
    have H' := Aside0.mk H
    clear H
    obtain ⟨Ao37, co37, eo37⟩ := Kd.R_slice HO274.out
    subst eo37
    obtain ⟨Ao38, co38, eo38⟩ := Kd.R_slice HO266.out
    subst eo38
    go_wp2_with (first | ((with_reducible refine gate_callee (f := 18) rfl ?_); refine goesL_ (some 42) rfl rfl Tryd.func18 (by kernel_rfl) rfl #[.slice Ao37 t272.length co37, .slice Ao38 t264.length co38] rfl vm ?_; (with_reducible refine (laws_eqIntS.calls k _ _ t272 _ _ t264 false _ ?side1 ?side2 ?side3 ?side4 A33.out).mono ?_); (case side1 => repeat (first | exact (Kd.R_reads' HO274.out).2.2 | (with_reducible refine Kd.C_alloc ?_ _) | (with_reducible refine Kd.C_drewN ?_ _) | (with_reducible refine Kd.C_drew ?_))); (case side2 => exact (Kd.R_reads' HO274.out).2.1); (case side3 => repeat (first | exact (Kd.R_reads' HO266.out).2.2 | (with_reducible refine Kd.C_alloc ?_ _) | (with_reducible refine Kd.C_drewN ?_ _) | (with_reducible refine Kd.C_drew ?_))); (case side4 => exact (Kd.R_reads' HO266.out).2.1); rintro e w' ⟨rfl, ⟨nd, rfl⟩⟩; refine ⟨_, rfl, ?_⟩))
    go_meet
    case rel => exact ⟨_, (true), (by first | rfl | (simp; done) | (simp [*]; done)), H', ⟨by first | omega | exact Nat.le_refl _⟩, ⟨by exact vr (Kd.R_mono HO266.out (fun _ hk => hk.2))⟩, ⟨by exact vr (Kd.R_mono HO274.out (fun _ hk => hk.2))⟩, ⟨by exact vr (Kd.R_mono HO270.out (fun _ hk => trivial))⟩, ⟨by exact vb BK259.out⟩, ⟨by exact vb BK271.out⟩, ⟨by exact vs2 HB.out GE259.out GE271.out⟩⟩
  case rest =>
   clear HC13
   try clear c1
   try clear c2
   try clear p2
   try clear c3
   try clear c5
   try clear c5b0
   try clear c7
   try clear c11
   try clear c13
   try clear c18
   try clear c27
   try clear c28
   try clear c29
   try clear c34
   try clear hcz15_0
   try clear hcz17_0
   try clear hcz21_0
   try clear hcz28_0
   try clear hcz7_0
   try clear hfz15_0
   try clear hfz17_0
   try clear hfz21_0
   try clear hfz28_0
   try clear hfz7_0
   obtain ⟨kq, x48_12, rfl, HA, HJ12, HO_8, HO_11, HO_272000, BK259, BK271, HB⟩ := hcut
   cases kq with
   | zero => exact absurd HA.out (by simp [laws_FnExactMistakeChain.j0])
   | succ kj12 =>
    have H := HA.out
    clear HA
    simp only [laws_FnExactMistakeChain.j0] at H
    by_cases c39 : x48_12 = true
    ·subst c39
     have H1 : (some false) = some r := by rw [if_pos rfl] at H; first | exact H | (simp only [if_true, eq_self] at H ⊢; exact H)
     clear H
     have H := H1
     clear H1
     obtain rfl := Option.some.inj H
     go_wp2
     go_ret
     exact ⟨by first | rfl | (simp [errW_none, errW_some] <;> rfl) | (simp [*, errW_none, errW_some] <;> rfl), by exact vs2 HB.out GE259.out GE271.out⟩
    ·replace c39 := Bool.eq_false_iff.mpr c39
     subst c39
     have H1 : ((laws_toTable.f kj12 l0_0).bind fun t277 => ((laws_eqTable.f kj12 t268 t277).bind fun t280 => (if t280 = true then ((laws_markTable.f kj12 t268 1).bind fun bt281 => (if bt281.1 < 0 then (laws_FnExactMistakeChain.j1 kj12 a1 a2 t264 t267 t272 true l0_0) else ((laws_eqIntS.f kj12 t272 t264).bind fun t283 => (if t283 = true then (laws_FnExactMistakeChain.j1 kj12 a1 a2 t264 t267 t272 (t275 != t267) l0_0) else (laws_FnExactMistakeChain.j1 kj12 a1 a2 t264 t267 t272 true l0_0))))) else (some false)))) = some r := by rw [if_neg (show ¬ (false = true) by decide)] at H; first | exact H | (simp only [if_true, eq_self] at H ⊢; exact H)
     clear H
     have H := H1
     clear H1
     replace H := Option.bind_eq_some_iff.mp H
     obtain ⟨t277, A400, H⟩ := H
     replace H : ((laws_eqTable.f kj12 t268 t277).bind fun t280 => (if t280 = true then ((laws_markTable.f kj12 t268 1).bind fun bt281 => (if bt281.1 < 0 then (laws_FnExactMistakeChain.j1 kj12 a1 a2 t264 t267 t272 true l0_0) else ((laws_eqIntS.f kj12 t272 t264).bind fun t283 => (if t283 = true then (laws_FnExactMistakeChain.j1 kj12 a1 a2 t264 t267 t272 (t275 != t267) l0_0) else (laws_FnExactMistakeChain.j1 kj12 a1 a2 t264 t267 t272 true l0_0))))) else (some false))) = some r := H
     have A40 := Aside0.mk A400
     clear A400
     replace H := Option.bind_eq_some_iff.mp H
     obtain ⟨t280, A410, H⟩ := H
     replace H : (if t280 = true then ((laws_markTable.f kj12 t268 1).bind fun bt281 => (if bt281.1 < 0 then (laws_FnExactMistakeChain.j1 kj12 a1 a2 t264 t267 t272 true l0_0) else ((laws_eqIntS.f kj12 t272 t264).bind fun t283 => (if t283 = true then (laws_FnExactMistakeChain.j1 kj12 a1 a2 t264 t267 t272 (t275 != t267) l0_0) else (laws_FnExactMistakeChain.j1 kj12 a1 a2 t264 t267 t272 true l0_0))))) else (some false)) = some r := H
     have A41 := Aside0.mk A410
     clear A410
     by_cases c42 : t280 = true
     ·subst c42
      have H1 : ((laws_markTable.f kj12 t268 1).bind fun bt281 => (if bt281.1 < 0 then (laws_FnExactMistakeChain.j1 kj12 a1 a2 t264 t267 t272 true l0_0) else ((laws_eqIntS.f kj12 t272 t264).bind fun t283 => (if t283 = true then (laws_FnExactMistakeChain.j1 kj12 a1 a2 t264 t267 t272 (t275 != t267) l0_0) else (laws_FnExactMistakeChain.j1 kj12 a1 a2 t264 t267 t272 true l0_0))))) = some r := by rw [if_pos rfl] at H; first | exact H | (simp only [if_true, eq_self] at H ⊢; exact H)
      clear H
      have H := H1
      clear H1
      replace H := Option.bind_eq_some_iff.mp H
      obtain ⟨⟨t281, t282⟩, A430, H⟩ := H
      replace H : (if t281 < 0 then (laws_FnExactMistakeChain.j1 kj12 a1 a2 t264 t267 t272 true l0_0) else ((laws_eqIntS.f kj12 t272 t264).bind fun t283 => (if t283 = true then (laws_FnExactMistakeChain.j1 kj12 a1 a2 t264 t267 t272 (t275 != t267) l0_0) else (laws_FnExactMistakeChain.j1 kj12 a1 a2 t264 t267 t272 true l0_0)))) = some r := H
      have A43 := Aside0.mk A430
      clear A430
      have HC44 := Aside0.mk H
      clear H
      try go_wp2
      have n0_ := ak (Kd.R_drew HO_8.out)
      have n1_ := ak (Kd.R_drew HO_11.out)
      have n2_ := ak (Kd.R_drew HO_272000.out)
      have n3_ := ak (blk_drew BK259.out)
      have n4_ := ak (blk_drew BK271.out)
      have n5_ := ak (below_drew1 HB.out)
      clear HO_8
      clear HO_11
      clear HO_272000
      clear BK259
      clear BK271
      clear HB
      have HO_8 := n0_
      have HO_11 := n1_
      have HO_272000 := n2_
      have BK259 := n3_
      have BK271 := n4_
      have HB := n5_
      clear n0_ n1_ n2_ n3_ n4_ n5_
      refine start_ (n := 5) (S := fun w' => w'.cell? ⟨gb271, 0, none⟩ = some (.slice Ao26 t268.length co26) ∧ w'.cell? ⟨gb259, 0, none⟩ = some (.slice A0_0 l0_0.length c0_0)) (ds := []) #[false, false, false, false, false] (by kernel_rfl) rfl rfl ⟨(blk_cell BK271.out 0).trans rfl, (blk_cell BK259.out 0).trans rfl⟩ (fun hHeld => ?_)
      generalize wc.drew = w45 at HO_8 HO_11 HO_272000 BK259 BK271 HB hHeld ⊢
      refine take_ (i := 0) (N := some 49) (v := ?_) (a' := ?_) #[true, false, false, false, false] rfl rfl (by kernel_rfl) (fun _ _ _ h => h) (Or.inl ⟨by rfl, ?_⟩) hHeld ?_ ?_
      rotate_left
      ·rintro w' ⟨s0, s1⟩
       go_simp
       with_reducible rfl
      rotate_left
      ·simp only [Act.put, List.setIfInBounds_toArray, List.set_cons_zero, List.set_cons_succ, i64_w, i32_w]
       rfl
      refine take_ (i := 1) (N := some 50) (v := ?_) (a' := ?_) #[true, true, false, false, false] rfl rfl (by kernel_rfl) (fun _ _ _ h => h) (Or.inl ⟨by rfl, ?_⟩) hHeld ?_ ?_
      rotate_left
      ·rintro w' ⟨s0, s1⟩
       go_simp
       with_reducible rfl
      rotate_left
      ·simp only [Act.put, List.setIfInBounds_toArray, List.set_cons_zero, List.set_cons_succ, i64_w, i32_w]
       rfl
      refine one_ (i := 2) (N := some 51) #[true, true, true, false, false] rfl rfl (by kernel_rfl) (by decide) (fun K hK => ?_)
      refine goes_ Tryd.func13 (by kernel_rfl) rfl #[.agg #[.slice A0_0 l0_0.length c0_0]] (by rfl) rfl rfl vm ?_
      with_reducible refine (laws_toTable.calls kj12 _ _ l0_0 t277 _ ?side1 ?side2 A40.out).mono ?_
      (case side1 => exact vc HR0_0.out HB.out)
      (case side2 => exact HC0_0.out)
      rintro e w46 ⟨v278, rfl, ho0, hb⟩
      refine ⟨_, rfl, ?_⟩
      have n0_ := ak (Kd.R_below (vr HO_8.out) hb)
      have n1_ := ak (Kd.R_below (vr HO_11.out) hb)
      have n2_ := ak (Kd.R_elder' (vr HO_272000.out) (Kd.R_base ho0) hb)
      have n3_ := ak (Kd.R_lower (Kd.R_new' ho0 (Kd.R_lt (vr HO_272000.out))) (below_size (vs2 HB.out GE259.out GE271.out)))
      have n4_ := ak (blk_below (vb BK259.out) hb)
      have n5_ := ak (blk_below (vb BK271.out) hb)
      have n6_ := ak (below_step (vs2 HB.out GE259.out GE271.out) hb)
      clear HO_8
      clear HO_11
      clear HO_272000
      clear BK259
      clear BK271
      clear HB
      have HO_8 := n0_
      have HO_11 := n1_
      have HO_272000 := n2_
      have HO279 := n3_
      have BK259 := n4_
      have BK271 := n5_
      have HB := n6_
      clear n0_ n1_ n2_ n3_ n4_ n5_ n6_
      (try clear hb)
      (try clear hb2)
      (try clear hk)
      (try clear hi)
      (try clear ho0)
      obtain ⟨Ao47, co47, eo47⟩ := Kd.R_slice HO279.out
      (first | subst eo47 | (injection eo47 with f1_ f2_ f3_; have f4_ := f1_.symm; have f5_ := f3_.symm; clear f1_ f2_ f3_; subst f4_; subst f5_))
      refine hK.out _ _ ⟨(blk_cell BK271.out 0).trans rfl, (blk_cell BK259.out 0).trans rfl⟩ (fun hHeld => ?_)
      clear hK K
      refine norm_ (a' := ?_) ?_ ?_
      rotate_left
      ·show Act.put _ (some 51) _ = _
       simp only [Act.put, List.setIfInBounds_toArray, List.set_cons_zero, List.set_cons_succ, i64_w, i32_w]
       rfl
      refine one_ (i := 3) (N := some 52) #[true, true, true, true, false] rfl rfl (by kernel_rfl) (by decide) (fun K hK => ?_)
      refine goes_ Tryd.func15 (by kernel_rfl) rfl #[.agg #[.slice Ao26 t268.length co26], .agg #[.slice Ao47 t277.length co47]] (by rfl) rfl rfl vm ?_
      with_reducible refine (laws_eqTable.calls kj12 _ _ t268 _ _ t277 true _ ?side1 ?side2 ?side3 ?side4 A41.out).mono ?_
      (case side1 => repeat (first | exact (Kd.R_reads' HO_272000.out).2.2 | (with_reducible refine Kd.C_alloc ?_ _) | (with_reducible refine Kd.C_drewN ?_ _) | (with_reducible refine Kd.C_drew ?_)))
      (case side2 => exact (Kd.R_reads' HO_272000.out).2.1)
      (case side3 => repeat (first | exact (Kd.R_reads' HO279.out).2.2 | (with_reducible refine Kd.C_alloc ?_ _) | (with_reducible refine Kd.C_drewN ?_ _) | (with_reducible refine Kd.C_drew ?_)))
      (case side4 => exact (Kd.R_reads' HO279.out).2.1)
      rintro e w48 ⟨rfl, hb⟩
      refine ⟨_, rfl, ?_⟩
      have n0_ := ak (Kd.R_below (vr HO_8.out) hb)
      have n1_ := ak (Kd.R_below (vr HO_11.out) hb)
      have n2_ := ak (Kd.R_below (vr HO_272000.out) hb)
      have n3_ := ak (Kd.R_below (vr HO279.out) hb)
      have n4_ := ak (blk_below (vb BK259.out) hb)
      have n5_ := ak (blk_below (vb BK271.out) hb)
      have n6_ := ak (below_step (vs2 HB.out GE259.out GE271.out) hb)
      clear HO_8
      clear HO_11
      clear HO_272000
      clear HO279
      clear BK259
      clear BK271
      clear HB
      have HO_8 := n0_
      have HO_11 := n1_
      have HO_272000 := n2_
      have HO279 := n3_
      have BK259 := n4_
      have BK271 := n5_
      have HB := n6_
      clear n0_ n1_ n2_ n3_ n4_ n5_ n6_
      (try clear hb)
      (try clear hb2)
      (try clear hk)
      (try clear hi)
      refine hK.out _ _ ⟨(blk_cell BK271.out 0).trans rfl, (blk_cell BK259.out 0).trans rfl⟩ (fun hHeld => ?_)
      clear hK K
      refine norm_ (a' := ?_) ?_ ?_
      rotate_left
      ·show Act.put _ (some 52) _ = _
       simp only [Act.put, List.setIfInBounds_toArray, List.set_cons_zero, List.set_cons_succ, i64_w, i32_w]
       rfl
      refine pure_ (i := 4) (N := some 53) (v := ?_) (a' := ?_) #[true, true, true, true, true] rfl rfl (by kernel_rfl) (fun _ _ _ h => h) (Or.inl ⟨by rfl, ?_⟩) ?_ ?_
      rotate_left
      ·intro w'
       go_simp
       with_reducible rfl
      rotate_left
      ·simp only [Act.put, List.setIfInBounds_toArray, List.set_cons_zero, List.set_cons_succ, i64_w, i32_w]
       rfl
      refine done_ (by kernel_rfl) ?_
      have hnb49 := NB271_259.out
      have hnc49 := NB259_271.out
      (try (have hnw51 := Kd.R_ne HO_8.out BK271.out (by decide); change some gb271 ≠ some _ at hnw51; have how51 := fun (e_ : gb271 = _) => hnw51 (congrArg some e_); have hpw51 := fun e_ => how51 (Eq.symm e_); clear hnw51; replace how51 := eq_false how51; replace hpw51 := eq_false hpw51))
      (try (have hnw52 := Kd.R_ne HO_11.out BK271.out (by decide); change some gb271 ≠ some _ at hnw52; have how52 := fun (e_ : gb271 = _) => hnw52 (congrArg some e_); have hpw52 := fun e_ => how52 (Eq.symm e_); clear hnw52; replace how52 := eq_false how52; replace hpw52 := eq_false hpw52))
      (try (have hnw53 := Kd.R_ne HO_272000.out BK271.out (by decide); change some gb271 ≠ some _ at hnw53; have how53 := fun (e_ : gb271 = _) => hnw53 (congrArg some e_); have hpw53 := fun e_ => how53 (Eq.symm e_); clear hnw53; replace how53 := eq_false how53; replace hpw53 := eq_false hpw53))
      (try (have hnw54 := Kd.R_ne HO279.out BK271.out (by decide); change some gb271 ≠ some _ at hnw54; have how54 := fun (e_ : gb271 = _) => hnw54 (congrArg some e_); have hpw54 := fun e_ => how54 (Eq.symm e_); clear hnw54; replace how54 := eq_false how54; replace hpw54 := eq_false hpw54))
      have hcz50_0 : w48.cell? ⟨gb271, 0, none⟩ = some (.slice Ao26 t268.length co26) := (blk_cell BK271.out 0).trans rfl
      have hfz50_0 := blk_frozen BK271.out 0
      go_upto_region 14 with (first | ((with_reducible refine gate_callee (f := 19) rfl ?_); refine goesL_ (some 56) rfl rfl Tryd.func19 (by kernel_rfl) rfl #[.agg #[.slice Ao26 t268.length co26], .int .i64 1] rfl vm ?_; (with_reducible refine (laws_markTable.calls kj12 (fun k_ => some k_ = (.slice Ao26 t268.length co26 : Value).ownBlock) (.slice Ao26 t268.length co26) t268 1 t281 t282 w _ ?side1 ?side2 A43.out).mono ?_); (case side1 => exact vs2 HB.out GE259.out GE271.out); (case side2 => exact Kd.R_tight rfl HO_272000.out); rintro e w55 ⟨rfl, hy0, hb, hkp⟩; refine ⟨_, rfl, ?_⟩; have n0_ := ak (Kd.R_mono (ok' := fun k_ => some k_ ≠ (v273 : Value).ownBlock) (Kd.R_keptB ((Kd.R_apart' HO_8.out (Kd.R_typed HO_272000.out) (by decide))) hkp (fun k_ hk_ hs_ => (hk_.2) hs_)) (fun k_ hk_ => hk_.1.1)); have n1_ := ak (Kd.R_mono (ok' := fun k_ => some k_ ≠ (v265 : Value).ownBlock) (Kd.R_keptB ((Kd.R_apart' HO_11.out (Kd.R_typed HO_272000.out) (by decide))) hkp (fun k_ hk_ hs_ => (hk_.2) hs_)) (fun k_ hk_ => hk_.1.1)); have n2_ := ak (Kd.R_reok rfl hy0 (fun k_ e_ => HO_272000.out.1 k_ e_)); have n3_ := ak (blk_kept (vb BK259.out) hkp (fun hs_ => (fun e_ => (Kd.R_ne HO_272000.out BK259.out (by decide)) e_) hs_)); have n4_ := ak (blk_kept (vb BK271.out) hkp (fun hs_ => (fun e_ => (Kd.R_ne HO_272000.out BK271.out (by decide)) e_) hs_)); have n5_ := ak (Kd.R_mono (ok' := fun k_ => some k_ ≠ (.slice Ao26 t268.length co26 : Value).ownBlock) (Kd.R_keptB (HO279.out) hkp (fun k_ hk_ hs_ => (hk_.2) hs_)) (fun k_ hk_ => hk_.1.2)); have n6_ := ak (hb); clear HO_8; clear HO_11; clear HO_272000; clear BK259; clear BK271; clear HO279; clear HB; have HO_8 := n0_; have HO_11 := n1_; have HO_272000 := n2_; have BK259 := n3_; have BK271 := n4_; have HO279 := n5_; have HB := n6_; clear n0_ n1_ n2_ n3_ n4_ n5_ n6_; (try clear hb); (try clear hkp); (try clear hy0)))
      (try simp only [Act.put, List.setIfInBounds_toArray, List.set_cons_zero, List.set_cons_succ])
      go_cut [69] (fun v69 wc => ∃ (kq : Nat) (x69_43 : Bool), v69 = .bool x69_43 ∧ Aside0 (laws_FnExactMistakeChain.j1 kq a1 a2 t264 t267 t272 x69_43 l0_0 = some r) ∧ Aside0 (kq ≤ kj12) ∧ Aside0 (Kd.R (Kd.int .i64) 3 wc w.heap.size (fun k_ => some k_ ≠ (v273 : Value).ownBlock) v265 t264) ∧ Aside0 (Kd.R (Kd.int .i64) 3 wc w.heap.size (fun k_ => some k_ ≠ (v265 : Value).ownBlock) v273 t272) ∧ Aside0 (Kd.R Kd.string 9 wc w.heap.size (fun _ => True) (.slice Ao26 t268.length co26) t282) ∧ Aside0 (wc.heap[gb259]? = some (.cells #[(.slice A0_0 l0_0.length c0_0)] 24 (0, 0))) ∧ Aside0 (wc.heap[gb271]? = some (.cells #[(.slice Ao26 t268.length co26)] 28 (0, 0))) ∧ Aside0 (Below w.heap.size w wc))
      case first =>
       have H := HC44.out
       clear HC44
       by_cases c56 : t281 < 0
       ·rw [if_pos c56] at H
        have c56b0 : decide (t281 < 0) = true := decide_eq_true c56
        clear c56
        (first | rw [c56b0] | (simp only [i64_w, i32_w]; rw [c56b0]) | skip)
        have H' := Aside0.mk H
        clear H
        go_wp2
        go_meet
        case rel => exact ⟨_, (true), (by first | rfl | (simp; done) | (simp [*]; done)), H', ⟨by have := HJ12.out; first | omega | exact Nat.le_refl _⟩, ⟨by exact vr HO_8.out⟩, ⟨by exact vr HO_11.out⟩, ⟨by exact vr (Kd.R_mono HO_272000.out (fun _ hk => trivial))⟩, ⟨by exact vb BK259.out⟩, ⟨by exact vb BK271.out⟩, ⟨by exact vs2 HB.out GE259.out GE271.out⟩⟩
       ·rw [if_neg c56] at H
        have c56b0 : decide (t281 < 0) = false := decide_eq_false c56
        clear c56
        (first | rw [c56b0] | (simp only [i64_w, i32_w]; rw [c56b0]) | skip)
        replace H := Option.bind_eq_some_iff.mp H
        obtain ⟨t283, A570, H⟩ := H
        replace H : (if t283 = true then (laws_FnExactMistakeChain.j1 kj12 a1 a2 t264 t267 t272 (t275 != t267) l0_0) else (laws_FnExactMistakeChain.j1 kj12 a1 a2 t264 t267 t272 true l0_0)) = some r := H
        have A57 := Aside0.mk A570
        clear A570
        by_cases c58 : t283 = true
        ·subst c58
         have H1 : (laws_FnExactMistakeChain.j1 kj12 a1 a2 t264 t267 t272 (t275 != t267) l0_0) = some r := by rw [if_pos rfl] at H; first | exact H | (simp only [if_true, eq_self] at H ⊢; exact H)
         clear H
         have H := H1
         clear H1
         have H' := Aside0.mk H
         clear H
         obtain ⟨Ao59, co59, eo59⟩ := Kd.R_slice HO_11.out
         subst eo59
         obtain ⟨Ao60, co60, eo60⟩ := Kd.R_slice HO_8.out
         subst eo60
         go_wp2_with (first | (go_at_call 18; (with_reducible refine (laws_eqIntS.calls kj12 _ _ t272 _ _ t264 true _ ?side1 ?side2 ?side3 ?side4 A57.out).mono ?_); (case side1 => repeat (first | exact (Kd.R_reads' HO_11.out).2.2 | (with_reducible refine Kd.C_alloc ?_ _) | (with_reducible refine Kd.C_drewN ?_ _) | (with_reducible refine Kd.C_drew ?_))); (case side2 => exact (Kd.R_reads' HO_11.out).2.1); (case side3 => repeat (first | exact (Kd.R_reads' HO_8.out).2.2 | (with_reducible refine Kd.C_alloc ?_ _) | (with_reducible refine Kd.C_drewN ?_ _) | (with_reducible refine Kd.C_drew ?_))); (case side4 => exact (Kd.R_reads' HO_8.out).2.1); rintro e w' ⟨rfl, ⟨nd, rfl⟩⟩))
         go_meet
         case rel => exact ⟨_, ((t275 != t267)), (by first | rfl | (simp; done) | (simp [*]; done)), H', ⟨by have := HJ12.out; first | omega | exact Nat.le_refl _⟩, ⟨by exact vr HO_8.out⟩, ⟨by exact vr HO_11.out⟩, ⟨by exact vr (Kd.R_mono HO_272000.out (fun _ hk => trivial))⟩, ⟨by exact vb BK259.out⟩, ⟨by exact vb BK271.out⟩, ⟨by exact vs2 HB.out GE259.out GE271.out⟩⟩
        ·replace c58 := Bool.eq_false_iff.mpr c58
         subst c58
         have H1 : (laws_FnExactMistakeChain.j1 kj12 a1 a2 t264 t267 t272 true l0_0) = some r := by rw [if_neg (show ¬ (false = true) by decide)] at H; first | exact H | (simp only [if_true, eq_self] at H ⊢; exact H)
         clear H
         have H := H1
         clear H1
         have H' := Aside0.mk H
         clear H
         obtain ⟨Ao61, co61, eo61⟩ := Kd.R_slice HO_11.out
         subst eo61
         obtain ⟨Ao62, co62, eo62⟩ := Kd.R_slice HO_8.out
         subst eo62
         go_wp2_with (first | (go_at_call 18; (with_reducible refine (laws_eqIntS.calls kj12 _ _ t272 _ _ t264 false _ ?side1 ?side2 ?side3 ?side4 A57.out).mono ?_); (case side1 => repeat (first | exact (Kd.R_reads' HO_11.out).2.2 | (with_reducible refine Kd.C_alloc ?_ _) | (with_reducible refine Kd.C_drewN ?_ _) | (with_reducible refine Kd.C_drew ?_))); (case side2 => exact (Kd.R_reads' HO_11.out).2.1); (case side3 => repeat (first | exact (Kd.R_reads' HO_8.out).2.2 | (with_reducible refine Kd.C_alloc ?_ _) | (with_reducible refine Kd.C_drewN ?_ _) | (with_reducible refine Kd.C_drew ?_))); (case side4 => exact (Kd.R_reads' HO_8.out).2.1); rintro e w' ⟨rfl, ⟨nd, rfl⟩⟩))
         go_meet
         case rel => exact ⟨_, (true), (by first | rfl | (simp; done) | (simp [*]; done)), H', ⟨by have := HJ12.out; first | omega | exact Nat.le_refl _⟩, ⟨by exact vr HO_8.out⟩, ⟨by exact vr HO_11.out⟩, ⟨by exact vr (Kd.R_mono HO_272000.out (fun _ hk => trivial))⟩, ⟨by exact vb BK259.out⟩, ⟨by exact vb BK271.out⟩, ⟨by exact vs2 HB.out GE259.out GE271.out⟩⟩
      case rest =>
       clear HC44
       try clear c1
       try clear c2
       try clear p2
       try clear c3
       try clear c4
       try clear c5
       try clear c5b0
       try clear c7
       try clear c11
       try clear c13
       try clear c15
       try clear c18
       try clear c19
       try clear c27
       try clear c28
       try clear c29
       try clear c34
       try clear c39
       try clear c42
       try clear c49
       try clear c56
       try clear c56b0
       try clear c58
       try clear hcz15_0
       try clear hcz17_0
       try clear hcz21_0
       try clear hcz28_0
       try clear hcz50_0
       try clear hcz7_0
       try clear hfz15_0
       try clear hfz17_0
       try clear hfz21_0
       try clear hfz28_0
       try clear hfz50_0
       try clear hfz7_0
       try clear p2
       obtain ⟨kq, x69_43, rfl, HA, HJ43, HO_8, HO_11, HO_272000, BK259, BK271, HB⟩ := hcut
       have hl272000_43 := (Kd.R_reads' HO_272000.out).1
       rw [hl272000_43] at HO_272000
       (try simp only [hl272000_43])
       (try simp only [hl272000_43] at BK259)
       (try simp only [hl272000_43] at BK271)
       (try simp only [hl272000_43] at HO_8)
       (try simp only [hl272000_43] at HO_11)
       cases kq with
       | zero => exact absurd HA.out (by simp [laws_FnExactMistakeChain.j1])
       | succ kj43 =>
        have H := HA.out
        clear HA
        simp only [laws_FnExactMistakeChain.j1] at H
        by_cases c63 : x69_43 = true
        ·subst c63
         have H1 : (some false) = some r := by rw [if_pos rfl] at H; first | exact H | (simp only [if_true, eq_self] at H ⊢; exact H)
         clear H
         have H := H1
         clear H1
         obtain rfl := Option.some.inj H
         go_wp2
         go_ret
         exact ⟨by first | rfl | (simp [errW_none, errW_some] <;> rfl) | (simp [*, errW_none, errW_some] <;> rfl), by exact vs2 HB.out GE259.out GE271.out⟩
        ·replace c63 := Bool.eq_false_iff.mpr c63
         subst c63
         have H1 : ((laws_markIntS.f kj43 t272 1).bind fun bt284 => ((laws_heldIntS.f kj43 bt284.2 1).bind fun t286 => (if t286 < 0 then (some false) else (if t286 = bt284.1 then ((laws_toTable.f kj43 l0_0).bind fun t287 => ((impl_MistakeChain.f kj43 t287 a1 a2).bind fun bt290 => ((laws_eqIntS.f kj43 bt290.1 t264).bind fun t294 => (if t294 = true then (laws_FnExactMistakeChain.j2 kj43 bt284.2 bt284.1 (bt290.2 != t267)) else (laws_FnExactMistakeChain.j2 kj43 bt284.2 bt284.1 true))))) else (some false))))) = some r := by rw [if_neg (show ¬ (false = true) by decide)] at H; first | exact H | (simp only [if_true, eq_self] at H ⊢; exact H)
         clear H
         have H := H1
         clear H1
         replace H := Option.bind_eq_some_iff.mp H
         obtain ⟨⟨t284, t285⟩, A640, H⟩ := H
         replace H : ((laws_heldIntS.f kj43 t285 1).bind fun t286 => (if t286 < 0 then (some false) else (if t286 = t284 then ((laws_toTable.f kj43 l0_0).bind fun t287 => ((impl_MistakeChain.f kj43 t287 a1 a2).bind fun bt290 => ((laws_eqIntS.f kj43 bt290.1 t264).bind fun t294 => (if t294 = true then (laws_FnExactMistakeChain.j2 kj43 t285 t284 (bt290.2 != t267)) else (laws_FnExactMistakeChain.j2 kj43 t285 t284 true))))) else (some false)))) = some r := H
         have A64 := Aside0.mk A640
         clear A640
         replace H := Option.bind_eq_some_iff.mp H
         obtain ⟨t286, A650, H⟩ := H
         replace H : (if t286 < 0 then (some false) else (if t286 = t284 then ((laws_toTable.f kj43 l0_0).bind fun t287 => ((impl_MistakeChain.f kj43 t287 a1 a2).bind fun bt290 => ((laws_eqIntS.f kj43 bt290.1 t264).bind fun t294 => (if t294 = true then (laws_FnExactMistakeChain.j2 kj43 t285 t284 (bt290.2 != t267)) else (laws_FnExactMistakeChain.j2 kj43 t285 t284 true))))) else (some false))) = some r := H
         have A65 := Aside0.mk A650
         clear A650
         by_cases c66 : t286 < 0
         ·rw [if_pos c66] at H
          have c66b0 : decide (t286 < 0) = true := decide_eq_true c66
          clear c66
          obtain rfl := Option.some.inj H
          obtain ⟨Ao67, co67, eo67⟩ := Kd.R_slice HO_11.out
          subst eo67
          go_wp2_with (first | ((with_reducible refine gate_callee (f := 20) rfl ?_); refine goesL_ (some 72) rfl rfl Tryd.func20 (by kernel_rfl) rfl #[.slice Ao67 t272.length co67, .int .i64 1] rfl vm ?_; (with_reducible refine (laws_markIntS.calls kj43 (fun k_ => some k_ = (.slice Ao67 t272.length co67 : Value).ownBlock) (.slice Ao67 t272.length co67) t272 1 t284 t285 w _ ?side1 ?side2 A64.out).mono ?_); (case side1 => exact vs2 HB.out GE259.out GE271.out); (case side2 => exact Kd.R_tight rfl HO_11.out); rintro e w68 ⟨rfl, hy0, hb, hkp⟩; refine ⟨_, rfl, ?_⟩; have n0_ := ak (Kd.R_mono (ok' := fun k_ => some k_ ≠ (.slice Ao67 t272.length co67 : Value).ownBlock) (Kd.R_keptB (HO_8.out) hkp (fun k_ hk_ hs_ => (hk_) hs_)) (fun k_ hk_ => hk_.1)); have n1_ := ak (Kd.R_reok rfl hy0 (fun k_ e_ => HO_11.out.1 k_ e_)); have n2_ := ak (Kd.R_mono (ok' := fun k_ => True) (Kd.R_keptB ((Kd.R_apart' HO_272000.out (Kd.R_typed HO_11.out) (by decide))) hkp (fun k_ hk_ hs_ => (hk_.2) hs_)) (fun k_ hk_ => trivial)); have n3_ := ak (blk_kept (vb BK259.out) hkp (fun hs_ => (fun e_ => (Kd.R_ne HO_11.out BK259.out (by decide)) e_) hs_)); have n4_ := ak (blk_kept (vb BK271.out) hkp (fun hs_ => (fun e_ => (Kd.R_ne HO_11.out BK271.out (by decide)) e_) hs_)); have n5_ := ak (hb); clear HO_8; clear HO_11; clear HO_272000; clear BK259; clear BK271; clear HB; have HO_8 := n0_; have HO_11 := n1_; have HO_272000 := n2_; have BK259 := n3_; have BK271 := n4_; have HB := n5_; clear n0_ n1_ n2_ n3_ n4_ n5_; (try clear hb); (try clear hkp); (try clear hy0)) | ((with_reducible refine gate_callee (f := 21) rfl ?_); refine goesL_ (some 75) rfl rfl Tryd.func21 (by kernel_rfl) rfl #[.slice Ao67 t285.length co67, .int .i64 1] rfl (by (try simp only [List.map_toArray, List.map_cons, List.map_nil]); first | done | (rw [show t285.length = t272.length from (Kd.R_reads' HO_11.out).1.symm] <;> rfl) | rfl | (simp only [List.length_drop, List.length_take]; rfl)) ?_; (with_reducible refine (laws_heldIntS.calls kj43 _ _ t285 1 t286 _ ?side1 ?side2 A65.out).mono ?_); (case side1 => repeat (first | exact (Kd.R_reads' HO_11.out).2.2 | (with_reducible refine Kd.C_alloc ?_ _) | (with_reducible refine Kd.C_drewN ?_ _) | (with_reducible refine Kd.C_drew ?_))); (case side2 => rw [show t285.length = t272.length from (Kd.R_reads' HO_11.out).1.symm]; exact (Kd.R_reads' HO_11.out).2.1); rintro e w' ⟨rfl, ⟨nd, rfl⟩⟩; refine ⟨_, rfl, ?_⟩))
          go_ret
          exact ⟨by first | rfl | (simp [errW_none, errW_some] <;> rfl) | (simp [*, errW_none, errW_some] <;> rfl), by exact vs2 HB.out GE259.out GE271.out⟩
         ·rw [if_neg c66] at H
          have c66b0 : decide (t286 < 0) = false := decide_eq_false c66
          clear c66
          by_cases c69 : t286 = t284
          ·rw [if_pos c69] at H
           have c69b0 : (t286 == t284) = true := beq_iff_eq.mpr c69
           have c69b1 : (t286 != t284) = false := bne_eq_false_iff_eq.mpr c69
           clear c69
           replace H := Option.bind_eq_some_iff.mp H
           obtain ⟨t287, A700, H⟩ := H
           replace H : ((impl_MistakeChain.f kj43 t287 a1 a2).bind fun bt290 => ((laws_eqIntS.f kj43 bt290.1 t264).bind fun t294 => (if t294 = true then (laws_FnExactMistakeChain.j2 kj43 t285 t284 (bt290.2 != t267)) else (laws_FnExactMistakeChain.j2 kj43 t285 t284 true)))) = some r := H
           have A70 := Aside0.mk A700
           clear A700
           replace H := Option.bind_eq_some_iff.mp H
           obtain ⟨⟨t290, t293⟩, A710, H⟩ := H
           replace H : ((laws_eqIntS.f kj43 t290 t264).bind fun t294 => (if t294 = true then (laws_FnExactMistakeChain.j2 kj43 t285 t284 (t293 != t267)) else (laws_FnExactMistakeChain.j2 kj43 t285 t284 true))) = some r := H
           have A71 := Aside0.mk A710
           clear A710
           have HC72 := Aside0.mk H
           clear H
           obtain ⟨Ao73, co73, eo73⟩ := Kd.R_slice HO_11.out
           subst eo73
           go_upto_region 25 with (first | ((with_reducible refine gate_callee (f := 20) rfl ?_); refine goesL_ (some 72) rfl rfl Tryd.func20 (by kernel_rfl) rfl #[.slice Ao73 t272.length co73, .int .i64 1] rfl vm ?_; (with_reducible refine (laws_markIntS.calls kj43 (fun k_ => some k_ = (.slice Ao73 t272.length co73 : Value).ownBlock) (.slice Ao73 t272.length co73) t272 1 t284 t285 w _ ?side1 ?side2 A64.out).mono ?_); (case side1 => exact vs2 HB.out GE259.out GE271.out); (case side2 => exact Kd.R_tight rfl HO_11.out); rintro e w74 ⟨rfl, hy0, hb, hkp⟩; refine ⟨_, rfl, ?_⟩; have n0_ := ak (Kd.R_mono (ok' := fun k_ => some k_ ≠ (.slice Ao73 t272.length co73 : Value).ownBlock) (Kd.R_keptB (HO_8.out) hkp (fun k_ hk_ hs_ => (hk_) hs_)) (fun k_ hk_ => hk_.1)); have n1_ := ak (Kd.R_reok rfl hy0 (fun k_ e_ => HO_11.out.1 k_ e_)); have n2_ := ak (Kd.R_mono (ok' := fun k_ => True) (Kd.R_keptB ((Kd.R_apart' HO_272000.out (Kd.R_typed HO_11.out) (by decide))) hkp (fun k_ hk_ hs_ => (hk_.2) hs_)) (fun k_ hk_ => trivial)); have n3_ := ak (blk_kept (vb BK259.out) hkp (fun hs_ => (fun e_ => (Kd.R_ne HO_11.out BK259.out (by decide)) e_) hs_)); have n4_ := ak (blk_kept (vb BK271.out) hkp (fun hs_ => (fun e_ => (Kd.R_ne HO_11.out BK271.out (by decide)) e_) hs_)); have n5_ := ak (hb); clear HO_8; clear HO_11; clear HO_272000; clear BK259; clear BK271; clear HB; have HO_8 := n0_; have HO_11 := n1_; have HO_272000 := n2_; have BK259 := n3_; have BK271 := n4_; have HB := n5_; clear n0_ n1_ n2_ n3_ n4_ n5_; (try clear hb); (try clear hkp); (try clear hy0)) | ((with_reducible refine gate_callee (f := 21) rfl ?_); refine goesL_ (some 75) rfl rfl Tryd.func21 (by kernel_rfl) rfl #[.slice Ao73 t285.length co73, .int .i64 1] rfl (by (try simp only [List.map_toArray, List.map_cons, List.map_nil]); first | done | (rw [show t285.length = t272.length from (Kd.R_reads' HO_11.out).1.symm] <;> rfl) | rfl | (simp only [List.length_drop, List.length_take]; rfl)) ?_; (with_reducible refine (laws_heldIntS.calls kj43 _ _ t285 1 t286 _ ?side1 ?side2 A65.out).mono ?_); (case side1 => repeat (first | exact (Kd.R_reads' HO_11.out).2.2 | (with_reducible refine Kd.C_alloc ?_ _) | (with_reducible refine Kd.C_drewN ?_ _) | (with_reducible refine Kd.C_drew ?_))); (case side2 => rw [show t285.length = t272.length from (Kd.R_reads' HO_11.out).1.symm]; exact (Kd.R_reads' HO_11.out).2.1); rintro e w' ⟨rfl, ⟨nd, rfl⟩⟩; refine ⟨_, rfl, ?_⟩; have hnb75 := NB259_271.out; have hnc75 := NB271_259.out; (try (have hnw77 := Kd.R_ne HO_8.out BK259.out (by decide); change some gb259 ≠ some _ at hnw77; have how77 := fun (e_ : gb259 = _) => hnw77 (congrArg some e_); have hpw77 := fun e_ => how77 (Eq.symm e_); clear hnw77; replace how77 := eq_false how77; replace hpw77 := eq_false hpw77)); (try (have hnw78 := Kd.R_ne HO_11.out BK259.out (by decide); change some gb259 ≠ some _ at hnw78; have how78 := fun (e_ : gb259 = _) => hnw78 (congrArg some e_); have hpw78 := fun e_ => how78 (Eq.symm e_); clear hnw78; replace how78 := eq_false how78; replace hpw78 := eq_false hpw78)); (try (have hnw79 := Kd.R_ne HO_272000.out BK259.out (by decide); change some gb259 ≠ some _ at hnw79; have how79 := fun (e_ : gb259 = _) => hnw79 (congrArg some e_); have hpw79 := fun e_ => how79 (Eq.symm e_); clear hnw79; replace how79 := eq_false how79; replace hpw79 := eq_false hpw79)); have hcz76_0 : w74.cell? ⟨gb259, 0, none⟩ = some (.slice A0_0 l0_0.length c0_0) := (blk_cell BK259.out 0).trans rfl; have hfz76_0 := blk_frozen BK259.out 0) | ((with_reducible refine gate_callee (f := 13) rfl ?_); refine goesL_ (some 83) rfl rfl Tryd.func13 (by kernel_rfl) rfl #[.agg #[.slice A0_0 l0_0.length c0_0]] rfl vm ?_; (with_reducible refine (laws_toTable.calls kj43 _ _ l0_0 t287 _ ?side1 ?side2 A70.out).mono ?_); (case side1 => repeat (first | exact (Kd.C_below HR0_0.out (vs2 HB.out GE259.out GE271.out)) | (with_reducible refine Kd.C_alloc ?_ _) | (with_reducible refine Kd.C_drewN ?_ _) | (with_reducible refine Kd.C_drew ?_))); (case side2 => exact HC0_0.out); rintro e w80 ⟨v288, rfl, ho0, hb⟩; refine ⟨_, rfl, ?_⟩; have n0_ := ak (Kd.R_below (vr HO_8.out) hb); have n1_ := ak (Kd.R_below (vr HO_11.out) hb); have n2_ := ak (Kd.R_elder' (vr HO_272000.out) (Kd.R_base ho0) hb); have n3_ := ak (Kd.R_lower (Kd.R_new' ho0 (Kd.R_lt (vr HO_272000.out))) (below_size (vs2 HB.out GE259.out GE271.out))); have n4_ := ak (blk_below (vb BK259.out) hb); have n5_ := ak (blk_below (vb BK271.out) hb); have n6_ := ak (below_step (vs2 HB.out GE259.out GE271.out) hb); clear HO_8; clear HO_11; clear HO_272000; clear BK259; clear BK271; clear HB; have HO_8 := n0_; have HO_11 := n1_; have HO_272000 := n2_; have HO289 := n3_; have BK259 := n4_; have BK271 := n5_; have HB := n6_; clear n0_ n1_ n2_ n3_ n4_ n5_ n6_; (try clear hb); (try clear hb2); (try clear hk); (try clear hi); (try clear ho0); obtain ⟨Ao81, co81, eo81⟩ := Kd.R_slice HO289.out; subst eo81) | ((with_reducible refine gate_callee (f := 29) rfl ?_); refine goesL_ (some 86) rfl rfl Tryd.func29 (by kernel_rfl) rfl #[.agg #[.slice Ao81 t287.length co81], .int .i64 a1, .int .i64 a2] rfl vm ?_; (with_reducible refine (impl_MistakeChain.calls kj43 _ _ t287 a1 a2 t290 t293 _ ?side1 ?side2 A71.out).mono ?_); (case side1 => repeat (first | exact (Kd.R_reads' HO289.out).2.2 | (with_reducible refine Kd.C_alloc ?_ _) | (with_reducible refine Kd.C_drewN ?_ _) | (with_reducible refine Kd.C_drew ?_))); (case side2 => exact (Kd.R_reads' HO289.out).2.1); rintro e w82 ⟨v291, rfl, ho0, hb⟩; refine ⟨_, rfl, ?_⟩; have n0_ := ak (Kd.R_elder' (vr HO_8.out) (Kd.R_base ho0) hb); have n1_ := ak (Kd.R_elder' (vr HO_11.out) (Kd.R_base ho0) hb); have n2_ := ak (Kd.R_below (vr HO_272000.out) hb); have n3_ := ak (Kd.R_below (vr HO289.out) hb); have n4_ := ak (Kd.R_lower (Kd.R_new' (Kd.R_new' ho0 (Kd.R_lt (vr HO_8.out))) (Kd.R_lt (vr HO_11.out))) (below_size (vs2 HB.out GE259.out GE271.out))); have n5_ := ak (blk_below (vb BK259.out) hb); have n6_ := ak (blk_below (vb BK271.out) hb); have n7_ := ak (below_step (vs2 HB.out GE259.out GE271.out) hb); clear HO_8; clear HO_11; clear HO_272000; clear HO289; clear BK259; clear BK271; clear HB; have HO_8 := n0_; have HO_11 := n1_; have HO_272000 := n2_; have HO289 := n3_; have HO292 := n4_; have BK259 := n5_; have BK271 := n6_; have HB := n7_; clear n0_ n1_ n2_ n3_ n4_ n5_ n6_ n7_; (try clear hb); (try clear hb2); (try clear hk); (try clear hi); (try clear ho0)))
           (try simp only [Act.put, List.setIfInBounds_toArray, List.set_cons_zero, List.set_cons_succ])
           go_cut [97] (fun v97 wc => ∃ (kq : Nat) (x97_71 : Bool), v97 = .bool x97_71 ∧ Aside0 (laws_FnExactMistakeChain.j2 kq t285 t284 x97_71 = some r) ∧ Aside0 (kq ≤ kj43) ∧ Aside0 (Kd.R (Kd.int .i64) 3 wc w.heap.size (fun _ => True) (.slice Ao73 t272.length co73) t285) ∧ Aside0 (Kd.R Kd.string 9 wc w.heap.size (fun _ => True) (.slice Ao26 t282.length co26) t282) ∧ Aside0 (wc.heap[gb259]? = some (.cells #[(.slice A0_0 l0_0.length c0_0)] 24 (0, 0))) ∧ Aside0 (wc.heap[gb271]? = some (.cells #[(.slice Ao26 t282.length co26)] 28 (0, 0))) ∧ Aside0 (Below w.heap.size w wc))
           case first =>
            have H := HC72.out
            clear HC72
            replace H := Option.bind_eq_some_iff.mp H
            obtain ⟨t294, A830, H⟩ := H
            replace H : (if t294 = true then (laws_FnExactMistakeChain.j2 kj43 t285 t284 (t293 != t267)) else (laws_FnExactMistakeChain.j2 kj43 t285 t284 true)) = some r := H
            have A83 := Aside0.mk A830
            clear A830
            by_cases c84 : t294 = true
            ·subst c84
             have H1 : (laws_FnExactMistakeChain.j2 kj43 t285 t284 (t293 != t267)) = some r := by rw [if_pos rfl] at H; first | exact H | (simp only [if_true, eq_self] at H ⊢; exact H)
             clear H
             have H := H1
             clear H1
             have H' := Aside0.mk H
             clear H
             obtain ⟨Ao85, co85, eo85⟩ := Kd.R_slice HO292.out
             subst eo85
             obtain ⟨Ao86, co86, eo86⟩ := Kd.R_slice HO_8.out
             subst eo86
             go_wp2_with (first | ((with_reducible refine gate_callee (f := 18) rfl ?_); refine goesL_ (some 91) rfl rfl Tryd.func18 (by kernel_rfl) rfl #[.slice Ao85 t290.length co85, .slice Ao86 t264.length co86] rfl vm ?_; (with_reducible refine (laws_eqIntS.calls kj43 _ _ t290 _ _ t264 true _ ?side1 ?side2 ?side3 ?side4 A83.out).mono ?_); (case side1 => repeat (first | exact (Kd.R_reads' HO292.out).2.2 | (with_reducible refine Kd.C_alloc ?_ _) | (with_reducible refine Kd.C_drewN ?_ _) | (with_reducible refine Kd.C_drew ?_))); (case side2 => exact (Kd.R_reads' HO292.out).2.1); (case side3 => repeat (first | exact (Kd.R_reads' HO_8.out).2.2 | (with_reducible refine Kd.C_alloc ?_ _) | (with_reducible refine Kd.C_drewN ?_ _) | (with_reducible refine Kd.C_drew ?_))); (case side4 => exact (Kd.R_reads' HO_8.out).2.1); rintro e w' ⟨rfl, ⟨nd, rfl⟩⟩; refine ⟨_, rfl, ?_⟩))
             go_meet
             case rel => exact ⟨_, ((t293 != t267)), (by first | rfl | (simp; done) | (simp [*]; done)), H', ⟨by have := HJ12.out; have := HJ43.out; first | omega | exact Nat.le_refl _⟩, ⟨by (try simp only [hl272000_43]); exact vr (Kd.R_mono HO_11.out (fun _ hk => trivial))⟩, ⟨by (try simp only [hl272000_43]); exact vr (Kd.R_mono HO_272000.out (fun _ hk => trivial))⟩, ⟨by (try simp only [hl272000_43]); exact vb BK259.out⟩, ⟨by (try simp only [hl272000_43]); exact vb BK271.out⟩, ⟨by exact vs2 HB.out GE259.out GE271.out⟩⟩
            ·replace c84 := Bool.eq_false_iff.mpr c84
             subst c84
             have H1 : (laws_FnExactMistakeChain.j2 kj43 t285 t284 true) = some r := by rw [if_neg (show ¬ (false = true) by decide)] at H; first | exact H | (simp only [if_true, eq_self] at H ⊢; exact H)
             clear H
             have H := H1
             clear H1
             have H' := Aside0.mk H
             clear H
             obtain ⟨Ao87, co87, eo87⟩ := Kd.R_slice HO292.out
             subst eo87
             obtain ⟨Ao88, co88, eo88⟩ := Kd.R_slice HO_8.out
             subst eo88
             go_wp2_with (first | ((with_reducible refine gate_callee (f := 18) rfl ?_); refine goesL_ (some 91) rfl rfl Tryd.func18 (by kernel_rfl) rfl #[.slice Ao87 t290.length co87, .slice Ao88 t264.length co88] rfl vm ?_; (with_reducible refine (laws_eqIntS.calls kj43 _ _ t290 _ _ t264 false _ ?side1 ?side2 ?side3 ?side4 A83.out).mono ?_); (case side1 => repeat (first | exact (Kd.R_reads' HO292.out).2.2 | (with_reducible refine Kd.C_alloc ?_ _) | (with_reducible refine Kd.C_drewN ?_ _) | (with_reducible refine Kd.C_drew ?_))); (case side2 => exact (Kd.R_reads' HO292.out).2.1); (case side3 => repeat (first | exact (Kd.R_reads' HO_8.out).2.2 | (with_reducible refine Kd.C_alloc ?_ _) | (with_reducible refine Kd.C_drewN ?_ _) | (with_reducible refine Kd.C_drew ?_))); (case side4 => exact (Kd.R_reads' HO_8.out).2.1); rintro e w' ⟨rfl, ⟨nd, rfl⟩⟩; refine ⟨_, rfl, ?_⟩))
             go_meet
             case rel => exact ⟨_, (true), (by first | rfl | (simp; done) | (simp [*]; done)), H', ⟨by have := HJ12.out; have := HJ43.out; first | omega | exact Nat.le_refl _⟩, ⟨by (try simp only [hl272000_43]); exact vr (Kd.R_mono HO_11.out (fun _ hk => trivial))⟩, ⟨by (try simp only [hl272000_43]); exact vr (Kd.R_mono HO_272000.out (fun _ hk => trivial))⟩, ⟨by (try simp only [hl272000_43]); exact vb BK259.out⟩, ⟨by (try simp only [hl272000_43]); exact vb BK271.out⟩, ⟨by exact vs2 HB.out GE259.out GE271.out⟩⟩
           case rest =>
            clear HC72
            try clear c1
            try clear c2
            try clear p2
            try clear c3
            try clear c4
            try clear c5
            try clear c5b0
            try clear c6
            try clear c7
            try clear c8
            try clear c11
            try clear c13
            try clear c15
            try clear c18
            try clear c19
            try clear c20
            try clear c21
            try clear c27
            try clear c28
            try clear c29
            try clear c34
            try clear c39
            try clear c42
            try clear c49
            try clear c56
            try clear c56b0
            try clear c58
            try clear c63
            try clear c66
            try clear c66b0
            try clear c69
            try clear c69b0
            try clear c69b1
            try clear c75
            try clear c84
            try clear hcz15_0
            try clear hcz17_0
            try clear hcz21_0
            try clear hcz28_0
            try clear hcz50_0
            try clear hcz76_0
            try clear hcz7_0
            try clear hfz15_0
            try clear hfz17_0
            try clear hfz21_0
            try clear hfz28_0
            try clear hfz50_0
            try clear hfz76_0
            try clear hfz7_0
            try clear p2
            obtain ⟨kq, x97_71, rfl, HA, HJ71, HO_11, HO_272000, BK259, BK271, HB⟩ := hcut
            have hl11_71 := (Kd.R_reads' HO_11.out).1
            rw [hl11_71] at HO_11
            (try simp only [hl11_71])
            (try simp only [hl11_71] at BK259)
            (try simp only [hl11_71] at BK271)
            (try simp only [hl11_71] at HO_272000)
            cases kq with
            | zero => exact absurd HA.out (by simp [laws_FnExactMistakeChain.j2])
            | succ kj71 =>
             have H := HA.out
             clear HA
             simp only [laws_FnExactMistakeChain.j2] at H
             by_cases c89 : x97_71 = true
             ·subst c89
              have H1 : (some false) = some r := by rw [if_pos rfl] at H; first | exact H | (simp only [if_true, eq_self] at H ⊢; exact H)
              clear H
              have H := H1
              clear H1
              obtain rfl := Option.some.inj H
              go_wp2
              go_ret
              exact ⟨by first | rfl | (simp [errW_none, errW_some] <;> rfl) | (simp [*, errW_none, errW_some] <;> rfl), by exact vs2 HB.out GE259.out GE271.out⟩
             ·replace c89 := Bool.eq_false_iff.mpr c89
              subst c89
              have H1 : ((laws_heldIntS.f kj71 t285 1).bind fun t295 => (if t295 < 0 then (some false) else (if t295 = t284 then (some true) else (some false)))) = some r := by rw [if_neg (show ¬ (false = true) by decide)] at H; first | exact H | (simp only [if_true, eq_self] at H ⊢; exact H)
              clear H
              have H := H1
              clear H1
              replace H := Option.bind_eq_some_iff.mp H
              obtain ⟨t295, A900, H⟩ := H
              replace H : (if t295 < 0 then (some false) else (if t295 = t284 then (some true) else (some false))) = some r := H
              have A90 := Aside0.mk A900
              clear A900
              by_cases c91 : t295 < 0
              ·rw [if_pos c91] at H
               have c91b0 : decide (t295 < 0) = true := decide_eq_true c91
               clear c91
               obtain rfl := Option.some.inj H
               go_wp2_with (first | ((with_reducible refine gate_callee (f := 21) rfl ?_); refine goesL_ (some 100) rfl rfl Tryd.func21 (by kernel_rfl) rfl #[.slice Ao73 t285.length co73, .int .i64 1] rfl vm ?_; (with_reducible refine (laws_heldIntS.calls kj71 _ _ t285 1 t295 _ ?side1 ?side2 A90.out).mono ?_); (case side1 => repeat (first | exact (Kd.R_reads' HO_11.out).2.2 | (with_reducible refine Kd.C_alloc ?_ _) | (with_reducible refine Kd.C_drewN ?_ _) | (with_reducible refine Kd.C_drew ?_))); (case side2 => exact (Kd.R_reads' HO_11.out).2.1); rintro e w' ⟨rfl, ⟨nd, rfl⟩⟩; refine ⟨_, rfl, ?_⟩))
               go_ret
               exact ⟨by first | rfl | (simp [errW_none, errW_some] <;> rfl) | (simp [*, errW_none, errW_some] <;> rfl), by exact vs2 HB.out GE259.out GE271.out⟩
              ·rw [if_neg c91] at H
               have c91b0 : decide (t295 < 0) = false := decide_eq_false c91
               clear c91
               by_cases c92 : t295 = t284
               ·rw [if_pos c92] at H
                have c92b0 : (t295 == t284) = true := beq_iff_eq.mpr c92
                have c92b1 : (t295 != t284) = false := bne_eq_false_iff_eq.mpr c92
                clear c92
                obtain rfl := Option.some.inj H
                go_wp2_with (first | ((with_reducible refine gate_callee (f := 21) rfl ?_); refine goesL_ (some 100) rfl rfl Tryd.func21 (by kernel_rfl) rfl #[.slice Ao73 t285.length co73, .int .i64 1] rfl vm ?_; (with_reducible refine (laws_heldIntS.calls kj71 _ _ t285 1 t295 _ ?side1 ?side2 A90.out).mono ?_); (case side1 => repeat (first | exact (Kd.R_reads' HO_11.out).2.2 | (with_reducible refine Kd.C_alloc ?_ _) | (with_reducible refine Kd.C_drewN ?_ _) | (with_reducible refine Kd.C_drew ?_))); (case side2 => exact (Kd.R_reads' HO_11.out).2.1); rintro e w' ⟨rfl, ⟨nd, rfl⟩⟩; refine ⟨_, rfl, ?_⟩))
                go_ret
                exact ⟨by first | rfl | (simp [errW_none, errW_some] <;> rfl) | (simp [*, errW_none, errW_some] <;> rfl), by exact vs2 HB.out GE259.out GE271.out⟩
               ·rw [if_neg c92] at H
                have c92b0 : (t295 == t284) = false := beq_eq_false_iff_ne.mpr c92
                have c92b1 : (t295 != t284) = true := bne_iff_ne.mpr c92
                obtain rfl := Option.some.inj H
                go_wp2_with (first | ((with_reducible refine gate_callee (f := 21) rfl ?_); refine goesL_ (some 100) rfl rfl Tryd.func21 (by kernel_rfl) rfl #[.slice Ao73 t285.length co73, .int .i64 1] rfl vm ?_; (with_reducible refine (laws_heldIntS.calls kj71 _ _ t285 1 t295 _ ?side1 ?side2 A90.out).mono ?_); (case side1 => repeat (first | exact (Kd.R_reads' HO_11.out).2.2 | (with_reducible refine Kd.C_alloc ?_ _) | (with_reducible refine Kd.C_drewN ?_ _) | (with_reducible refine Kd.C_drew ?_))); (case side2 => exact (Kd.R_reads' HO_11.out).2.1); rintro e w' ⟨rfl, ⟨nd, rfl⟩⟩; refine ⟨_, rfl, ?_⟩))
                go_ret
                exact ⟨by first | rfl | (simp [errW_none, errW_some] <;> rfl) | (simp [*, errW_none, errW_some] <;> rfl), by exact vs2 HB.out GE259.out GE271.out⟩
          ·rw [if_neg c69] at H
           have c69b0 : (t286 == t284) = false := beq_eq_false_iff_ne.mpr c69
           have c69b1 : (t286 != t284) = true := bne_iff_ne.mpr c69
           obtain rfl := Option.some.inj H
           obtain ⟨Ao93, co93, eo93⟩ := Kd.R_slice HO_11.out
           subst eo93
           go_wp2_with (first | ((with_reducible refine gate_callee (f := 20) rfl ?_); refine goesL_ (some 72) rfl rfl Tryd.func20 (by kernel_rfl) rfl #[.slice Ao93 t272.length co93, .int .i64 1] rfl vm ?_; (with_reducible refine (laws_markIntS.calls kj43 (fun k_ => some k_ = (.slice Ao93 t272.length co93 : Value).ownBlock) (.slice Ao93 t272.length co93) t272 1 t284 t285 w _ ?side1 ?side2 A64.out).mono ?_); (case side1 => exact vs2 HB.out GE259.out GE271.out); (case side2 => exact Kd.R_tight rfl HO_11.out); rintro e w94 ⟨rfl, hy0, hb, hkp⟩; refine ⟨_, rfl, ?_⟩; have n0_ := ak (Kd.R_mono (ok' := fun k_ => some k_ ≠ (.slice Ao93 t272.length co93 : Value).ownBlock) (Kd.R_keptB (HO_8.out) hkp (fun k_ hk_ hs_ => (hk_) hs_)) (fun k_ hk_ => hk_.1)); have n1_ := ak (Kd.R_reok rfl hy0 (fun k_ e_ => HO_11.out.1 k_ e_)); have n2_ := ak (Kd.R_mono (ok' := fun k_ => True) (Kd.R_keptB ((Kd.R_apart' HO_272000.out (Kd.R_typed HO_11.out) (by decide))) hkp (fun k_ hk_ hs_ => (hk_.2) hs_)) (fun k_ hk_ => trivial)); have n3_ := ak (blk_kept (vb BK259.out) hkp (fun hs_ => (fun e_ => (Kd.R_ne HO_11.out BK259.out (by decide)) e_) hs_)); have n4_ := ak (blk_kept (vb BK271.out) hkp (fun hs_ => (fun e_ => (Kd.R_ne HO_11.out BK271.out (by decide)) e_) hs_)); have n5_ := ak (hb); clear HO_8; clear HO_11; clear HO_272000; clear BK259; clear BK271; clear HB; have HO_8 := n0_; have HO_11 := n1_; have HO_272000 := n2_; have BK259 := n3_; have BK271 := n4_; have HB := n5_; clear n0_ n1_ n2_ n3_ n4_ n5_; (try clear hb); (try clear hkp); (try clear hy0)) | ((with_reducible refine gate_callee (f := 21) rfl ?_); refine goesL_ (some 75) rfl rfl Tryd.func21 (by kernel_rfl) rfl #[.slice Ao93 t285.length co93, .int .i64 1] rfl (by (try simp only [List.map_toArray, List.map_cons, List.map_nil]); first | done | (rw [show t285.length = t272.length from (Kd.R_reads' HO_11.out).1.symm] <;> rfl) | rfl | (simp only [List.length_drop, List.length_take]; rfl)) ?_; (with_reducible refine (laws_heldIntS.calls kj43 _ _ t285 1 t286 _ ?side1 ?side2 A65.out).mono ?_); (case side1 => repeat (first | exact (Kd.R_reads' HO_11.out).2.2 | (with_reducible refine Kd.C_alloc ?_ _) | (with_reducible refine Kd.C_drewN ?_ _) | (with_reducible refine Kd.C_drew ?_))); (case side2 => rw [show t285.length = t272.length from (Kd.R_reads' HO_11.out).1.symm]; exact (Kd.R_reads' HO_11.out).2.1); rintro e w' ⟨rfl, ⟨nd, rfl⟩⟩; refine ⟨_, rfl, ?_⟩))
           go_ret
           exact ⟨by first | rfl | (simp [errW_none, errW_some] <;> rfl) | (simp [*, errW_none, errW_some] <;> rfl), by exact vs2 HB.out GE259.out GE271.out⟩
     ·replace c42 := Bool.eq_false_iff.mpr c42
      subst c42
      have H1 : (some false) = some r := by rw [if_neg (show ¬ (false = true) by decide)] at H; first | exact H | (simp only [if_true, eq_self] at H ⊢; exact H)
      clear H
      have H := H1
      clear H1
      obtain rfl := Option.some.inj H
      try go_wp2
      have n0_ := ak (Kd.R_drew HO_8.out)
      have n1_ := ak (Kd.R_drew HO_11.out)
      have n2_ := ak (Kd.R_drew HO_272000.out)
      have n3_ := ak (blk_drew BK259.out)
      have n4_ := ak (blk_drew BK271.out)
      have n5_ := ak (below_drew1 HB.out)
      clear HO_8
      clear HO_11
      clear HO_272000
      clear BK259
      clear BK271
      clear HB
      have HO_8 := n0_
      have HO_11 := n1_
      have HO_272000 := n2_
      have BK259 := n3_
      have BK271 := n4_
      have HB := n5_
      clear n0_ n1_ n2_ n3_ n4_ n5_
      refine start_ (n := 5) (S := fun w' => w'.cell? ⟨gb271, 0, none⟩ = some (.slice Ao26 t268.length co26) ∧ w'.cell? ⟨gb259, 0, none⟩ = some (.slice A0_0 l0_0.length c0_0)) (ds := []) #[false, false, false, false, false] (by kernel_rfl) rfl rfl ⟨(blk_cell BK271.out 0).trans rfl, (blk_cell BK259.out 0).trans rfl⟩ (fun hHeld => ?_)
      generalize wc.drew = w95 at HO_8 HO_11 HO_272000 BK259 BK271 HB hHeld ⊢
      refine take_ (i := 0) (N := some 49) (v := ?_) (a' := ?_) #[true, false, false, false, false] rfl rfl (by kernel_rfl) (fun _ _ _ h => h) (Or.inl ⟨by rfl, ?_⟩) hHeld ?_ ?_
      rotate_left
      ·rintro w' ⟨s0, s1⟩
       go_simp
       with_reducible rfl
      rotate_left
      ·simp only [Act.put, List.setIfInBounds_toArray, List.set_cons_zero, List.set_cons_succ, i64_w, i32_w]
       rfl
      refine take_ (i := 1) (N := some 50) (v := ?_) (a' := ?_) #[true, true, false, false, false] rfl rfl (by kernel_rfl) (fun _ _ _ h => h) (Or.inl ⟨by rfl, ?_⟩) hHeld ?_ ?_
      rotate_left
      ·rintro w' ⟨s0, s1⟩
       go_simp
       with_reducible rfl
      rotate_left
      ·simp only [Act.put, List.setIfInBounds_toArray, List.set_cons_zero, List.set_cons_succ, i64_w, i32_w]
       rfl
      refine one_ (i := 2) (N := some 51) #[true, true, true, false, false] rfl rfl (by kernel_rfl) (by decide) (fun K hK => ?_)
      refine goes_ Tryd.func13 (by kernel_rfl) rfl #[.agg #[.slice A0_0 l0_0.length c0_0]] (by rfl) rfl rfl vm ?_
      with_reducible refine (laws_toTable.calls kj12 _ _ l0_0 t277 _ ?side1 ?side2 A40.out).mono ?_
      (case side1 => exact vc HR0_0.out HB.out)
      (case side2 => exact HC0_0.out)
      rintro e w96 ⟨v278, rfl, ho0, hb⟩
      refine ⟨_, rfl, ?_⟩
      have n0_ := ak (Kd.R_below (vr HO_8.out) hb)
      have n1_ := ak (Kd.R_below (vr HO_11.out) hb)
      have n2_ := ak (Kd.R_elder' (vr HO_272000.out) (Kd.R_base ho0) hb)
      have n3_ := ak (Kd.R_lower (Kd.R_new' ho0 (Kd.R_lt (vr HO_272000.out))) (below_size (vs2 HB.out GE259.out GE271.out)))
      have n4_ := ak (blk_below (vb BK259.out) hb)
      have n5_ := ak (blk_below (vb BK271.out) hb)
      have n6_ := ak (below_step (vs2 HB.out GE259.out GE271.out) hb)
      clear HO_8
      clear HO_11
      clear HO_272000
      clear BK259
      clear BK271
      clear HB
      have HO_8 := n0_
      have HO_11 := n1_
      have HO_272000 := n2_
      have HO279 := n3_
      have BK259 := n4_
      have BK271 := n5_
      have HB := n6_
      clear n0_ n1_ n2_ n3_ n4_ n5_ n6_
      (try clear hb)
      (try clear hb2)
      (try clear hk)
      (try clear hi)
      (try clear ho0)
      obtain ⟨Ao97, co97, eo97⟩ := Kd.R_slice HO279.out
      (first | subst eo97 | (injection eo97 with f1_ f2_ f3_; have f4_ := f1_.symm; have f5_ := f3_.symm; clear f1_ f2_ f3_; subst f4_; subst f5_))
      refine hK.out _ _ ⟨(blk_cell BK271.out 0).trans rfl, (blk_cell BK259.out 0).trans rfl⟩ (fun hHeld => ?_)
      clear hK K
      refine norm_ (a' := ?_) ?_ ?_
      rotate_left
      ·show Act.put _ (some 51) _ = _
       simp only [Act.put, List.setIfInBounds_toArray, List.set_cons_zero, List.set_cons_succ, i64_w, i32_w]
       rfl
      refine one_ (i := 3) (N := some 52) #[true, true, true, true, false] rfl rfl (by kernel_rfl) (by decide) (fun K hK => ?_)
      refine goes_ Tryd.func15 (by kernel_rfl) rfl #[.agg #[.slice Ao26 t268.length co26], .agg #[.slice Ao97 t277.length co97]] (by rfl) rfl rfl vm ?_
      with_reducible refine (laws_eqTable.calls kj12 _ _ t268 _ _ t277 false _ ?side1 ?side2 ?side3 ?side4 A41.out).mono ?_
      (case side1 => repeat (first | exact (Kd.R_reads' HO_272000.out).2.2 | (with_reducible refine Kd.C_alloc ?_ _) | (with_reducible refine Kd.C_drewN ?_ _) | (with_reducible refine Kd.C_drew ?_)))
      (case side2 => exact (Kd.R_reads' HO_272000.out).2.1)
      (case side3 => repeat (first | exact (Kd.R_reads' HO279.out).2.2 | (with_reducible refine Kd.C_alloc ?_ _) | (with_reducible refine Kd.C_drewN ?_ _) | (with_reducible refine Kd.C_drew ?_)))
      (case side4 => exact (Kd.R_reads' HO279.out).2.1)
      rintro e w98 ⟨rfl, hb⟩
      refine ⟨_, rfl, ?_⟩
      have n0_ := ak (Kd.R_below (vr HO_8.out) hb)
      have n1_ := ak (Kd.R_below (vr HO_11.out) hb)
      have n2_ := ak (Kd.R_below (vr HO_272000.out) hb)
      have n3_ := ak (Kd.R_below (vr HO279.out) hb)
      have n4_ := ak (blk_below (vb BK259.out) hb)
      have n5_ := ak (blk_below (vb BK271.out) hb)
      have n6_ := ak (below_step (vs2 HB.out GE259.out GE271.out) hb)
      clear HO_8
      clear HO_11
      clear HO_272000
      clear HO279
      clear BK259
      clear BK271
      clear HB
      have HO_8 := n0_
      have HO_11 := n1_
      have HO_272000 := n2_
      have HO279 := n3_
      have BK259 := n4_
      have BK271 := n5_
      have HB := n6_
      clear n0_ n1_ n2_ n3_ n4_ n5_ n6_
      (try clear hb)
      (try clear hb2)
      (try clear hk)
      (try clear hi)
      refine hK.out _ _ ⟨(blk_cell BK271.out 0).trans rfl, (blk_cell BK259.out 0).trans rfl⟩ (fun hHeld => ?_)
      clear hK K
      refine norm_ (a' := ?_) ?_ ?_
      rotate_left
      ·show Act.put _ (some 52) _ = _
       simp only [Act.put, List.setIfInBounds_toArray, List.set_cons_zero, List.set_cons_succ, i64_w, i32_w]
       rfl
      refine pure_ (i := 4) (N := some 53) (v := ?_) (a' := ?_) #[true, true, true, true, true] rfl rfl (by kernel_rfl) (fun _ _ _ h => h) (Or.inl ⟨by rfl, ?_⟩) ?_ ?_
      rotate_left
      ·intro w'
       go_simp
       with_reducible rfl
      rotate_left
      ·simp only [Act.put, List.setIfInBounds_toArray, List.set_cons_zero, List.set_cons_succ, i64_w, i32_w]
       rfl
      refine done_ (by kernel_rfl) ?_
      try go_wp2
      go_ret
      exact ⟨by first | rfl | (simp [errW_none, errW_some] <;> rfl) | (simp [*, errW_none, errW_some] <;> rfl), by exact vs2 HB.out GE259.out GE271.out⟩

/-- THE ONE PURE STATEMENT of laws_FnExactMistakeChain: yours. -/
def laws_FnExactMistakeChain.Pure : Prop := ∀ (l0_0 : List ByteArray) (a1 : Int) (a2 : Int), (l0_0.length ≤ 9223372036854775807) → (∀ y_ ∈ l0_0, (y_.size ≤ 9223372036854775807)) → ((Lit.int .i64 a1).wf = true) → ((Lit.int .i64 a2).wf = true) → ∃ k, laws_FnExactMistakeChain.f k l0_0 a1 a2 = some true

end Go.Proofs.YtlgmccliclmbaaaDoor.PFnExactMistakeChain
