-- Written by a program of this session (the kit's print with this session's additions, wip/tools): Lean checks it.
import Derived.Test.YtgaadjlcmgmfaaaGreatPFnExactBestTablex0
import Derived.Test.YtgaadjlcmgmfaaaGreatPFnExactBestTablex4
import Derived.Test.YtgaadjlcmgmfaaaGreatPFnExactBestTablex8
import Derived.Test.YtgaadjlcmgmfaaaGreatPFnExactBestTablex9
namespace Go.Proofs.YtgaadjlcmgmfaaaGreat.PFnExactBestTable
open Go.RowKit Go.Proofs.YtgaadjlcmgmfaaaGreatW.PrintWords Go.Proofs.YtgaadjlcmgmfaaaGreatW.PrintLast Go.Proofs.YtgaadjlcmgmfaaaGreatW.PrintMore
attribute [local go_sem] max2_int min2_int max_two min_two max_three min_three max_four min_four   -- for this text's walks alone
set_option linter.unusedVariables false
set_option linter.unusedSimpArgs false

/-! ### laws_FnExactBestTable: function 3 -/
mutual
def laws_FnExactBestTable.j0 : Nat → List Int → Bool → List Int → Bool → Bool → List ByteArray → List ByteArray → Option (Bool)
  | 0, _, _, _, _, _, _, _ => none
  | k + 1, x0, x4, x5, x7, x37, x302000, x310000 => if x37 = true then (some false) else ((laws_toIntS.f k x0).bind fun t311 => ((laws_eqIntS.f k x5 t311).bind fun t314 => (if t314 = true then ((laws_markIntS.f k x5 1).bind fun bt315 => (if bt315.1 < 0 then (laws_FnExactBestTable.j1 k x0 x4 true x302000 x310000) else ((laws_eqTable.f k x310000 x302000).bind fun t317 => (if t317 = true then (laws_FnExactBestTable.j1 k x0 x4 (x7 != x4) x302000 x310000) else (laws_FnExactBestTable.j1 k x0 x4 true x302000 x310000))))) else (some false))))
def laws_FnExactBestTable.j1 : Nat → List Int → Bool → Bool → List ByteArray → List ByteArray → Option (Bool)
  | 0, _, _, _, _, _ => none
  | k + 1, x0, x4, x58, x302000, x310000 => if x58 = true then (some false) else ((laws_markTable.f k x310000 1).bind fun bt318 => ((laws_heldTable.f k bt318.2 1).bind fun t320 => (if t320 < 0 then (some false) else (if t320 = bt318.1 then ((laws_toIntS.f k x0).bind fun t321 => ((impl_BestTable.f k t321).bind fun bt324 => ((laws_eqTable.f k bt324.1 x302000).bind fun t329 => (if t329 = true then (laws_FnExactBestTable.j2 k bt318.1 (bt324.2 != x4) bt318.2) else (laws_FnExactBestTable.j2 k bt318.1 true bt318.2))))) else (some false)))))
def laws_FnExactBestTable.j2 : Nat → Int → Bool → List ByteArray → Option (Bool)
  | 0, _, _, _ => none
  | k + 1, x9, x84, x310000 => if x84 = true then (some false) else ((laws_heldTable.f k x310000 1).bind fun t330 => (if t330 < 0 then (some false) else (if t330 = x9 then (some true) else (some false))))
end
def laws_FnExactBestTable.f (k : Nat) (l0 : List Int) : Option (Bool) := if (l0.length : Int) > 1048576 then (some true) else ((laws_toIntS.f k l0).bind fun t294 => ((spec_BestTable.f k t294).bind fun bt297 => ((laws_toIntS.f k l0).bind fun t302 => ((impl_BestTable.f k t302).bind fun bt305 => ((laws_eqTable.f k bt305.1 bt297.1).bind fun t310 => (if t310 = true then (laws_FnExactBestTable.j0 k l0 bt297.2 t302 bt305.2 (bt305.2 != bt297.2) bt297.1 bt305.1) else (laws_FnExactBestTable.j0 k l0 bt297.2 t302 bt305.2 true bt297.1 bt305.1)))))))
theorem laws_FnExactBestTable.mono_l : ∀ k, (∀ y0 y1 y2 y3 y4 y5 y6, LeO (laws_FnExactBestTable.j0 k y0 y1 y2 y3 y4 y5 y6) (laws_FnExactBestTable.j0 (k + 1) y0 y1 y2 y3 y4 y5 y6)) ∧ (∀ y0 y1 y2 y3 y4, LeO (laws_FnExactBestTable.j1 k y0 y1 y2 y3 y4) (laws_FnExactBestTable.j1 (k + 1) y0 y1 y2 y3 y4)) ∧ (∀ y0 y1 y2, LeO (laws_FnExactBestTable.j2 k y0 y1 y2) (laws_FnExactBestTable.j2 (k + 1) y0 y1 y2))
  | 0 => ⟨fun _ _ _ _ _ _ _ r h => by simp [laws_FnExactBestTable.j0] at h, fun _ _ _ _ _ r h => by simp [laws_FnExactBestTable.j1] at h, fun _ _ _ r h => by simp [laws_FnExactBestTable.j2] at h⟩
  | k + 1 => by
    obtain ⟨ih0, ih1, ih2⟩ := laws_FnExactBestTable.mono_l k
    refine ⟨?_, ?_, ?_⟩
    · intro y0 y1 y2 y3 y4 y5 y6
      unfold laws_FnExactBestTable.j0
      repeat' first
      | (with_reducible exact ih0 _ _ _ _ _ _ _)
      | (with_reducible exact ih1 _ _ _ _ _)
      | (with_reducible exact ih2 _ _ _)
      | (with_reducible exact impl_BestTable.mono _ _)
      | (with_reducible exact laws_eqIntS.mono _ _ _)
      | (with_reducible exact laws_eqTable.mono _ _ _)
      | (with_reducible exact laws_heldTable.mono _ _ _)
      | (with_reducible exact laws_markIntS.mono _ _ _)
      | (with_reducible exact laws_markTable.mono _ _ _)
      | (with_reducible exact laws_toIntS.mono _ _)
      | (with_reducible exact spec_BestTable.mono _ _)
      | (with_reducible exact LeO.refl _)
      | (with_reducible exact LeO.none _)
      | (with_reducible refine LeO.ite ?_ ?_)
      | (with_reducible refine LeO.bind ?_ (fun _ => ?_))
      | exact ih0 _ _ _ _ _ _ _
      | exact ih1 _ _ _ _ _
      | exact ih2 _ _ _
      | exact impl_BestTable.mono _ _
      | exact laws_eqIntS.mono _ _ _
      | exact laws_eqTable.mono _ _ _
      | exact laws_heldTable.mono _ _ _
      | exact laws_markIntS.mono _ _ _
      | exact laws_markTable.mono _ _ _
      | exact laws_toIntS.mono _ _
      | exact spec_BestTable.mono _ _
      | exact LeO.none _
      | refine LeO.ite ?_ ?_
      | refine LeO.bind ?_ (fun _ => ?_)
    · intro y0 y1 y2 y3 y4
      unfold laws_FnExactBestTable.j1
      repeat' first
      | (with_reducible exact ih0 _ _ _ _ _ _ _)
      | (with_reducible exact ih1 _ _ _ _ _)
      | (with_reducible exact ih2 _ _ _)
      | (with_reducible exact impl_BestTable.mono _ _)
      | (with_reducible exact laws_eqIntS.mono _ _ _)
      | (with_reducible exact laws_eqTable.mono _ _ _)
      | (with_reducible exact laws_heldTable.mono _ _ _)
      | (with_reducible exact laws_markIntS.mono _ _ _)
      | (with_reducible exact laws_markTable.mono _ _ _)
      | (with_reducible exact laws_toIntS.mono _ _)
      | (with_reducible exact spec_BestTable.mono _ _)
      | (with_reducible exact LeO.refl _)
      | (with_reducible exact LeO.none _)
      | (with_reducible refine LeO.ite ?_ ?_)
      | (with_reducible refine LeO.bind ?_ (fun _ => ?_))
      | exact ih0 _ _ _ _ _ _ _
      | exact ih1 _ _ _ _ _
      | exact ih2 _ _ _
      | exact impl_BestTable.mono _ _
      | exact laws_eqIntS.mono _ _ _
      | exact laws_eqTable.mono _ _ _
      | exact laws_heldTable.mono _ _ _
      | exact laws_markIntS.mono _ _ _
      | exact laws_markTable.mono _ _ _
      | exact laws_toIntS.mono _ _
      | exact spec_BestTable.mono _ _
      | exact LeO.none _
      | refine LeO.ite ?_ ?_
      | refine LeO.bind ?_ (fun _ => ?_)
    · intro y0 y1 y2
      unfold laws_FnExactBestTable.j2
      repeat' first
      | (with_reducible exact ih0 _ _ _ _ _ _ _)
      | (with_reducible exact ih1 _ _ _ _ _)
      | (with_reducible exact ih2 _ _ _)
      | (with_reducible exact impl_BestTable.mono _ _)
      | (with_reducible exact laws_eqIntS.mono _ _ _)
      | (with_reducible exact laws_eqTable.mono _ _ _)
      | (with_reducible exact laws_heldTable.mono _ _ _)
      | (with_reducible exact laws_markIntS.mono _ _ _)
      | (with_reducible exact laws_markTable.mono _ _ _)
      | (with_reducible exact laws_toIntS.mono _ _)
      | (with_reducible exact spec_BestTable.mono _ _)
      | (with_reducible exact LeO.refl _)
      | (with_reducible exact LeO.none _)
      | (with_reducible refine LeO.ite ?_ ?_)
      | (with_reducible refine LeO.bind ?_ (fun _ => ?_))
      | exact ih0 _ _ _ _ _ _ _
      | exact ih1 _ _ _ _ _
      | exact ih2 _ _ _
      | exact impl_BestTable.mono _ _
      | exact laws_eqIntS.mono _ _ _
      | exact laws_eqTable.mono _ _ _
      | exact laws_heldTable.mono _ _ _
      | exact laws_markIntS.mono _ _ _
      | exact laws_markTable.mono _ _ _
      | exact laws_toIntS.mono _ _
      | exact spec_BestTable.mono _ _
      | exact LeO.none _
      | refine LeO.ite ?_ ?_
      | refine LeO.bind ?_ (fun _ => ?_)
theorem laws_FnExactBestTable.mono : ∀ a0 k, LeO (laws_FnExactBestTable.f k a0) (laws_FnExactBestTable.f (k + 1) a0) := by
  intro a0 k
  obtain ⟨ih0, ih1, ih2⟩ := laws_FnExactBestTable.mono_l k
  unfold laws_FnExactBestTable.f
  repeat' first
      | (with_reducible exact ih0 _ _ _ _ _ _ _)
      | (with_reducible exact ih1 _ _ _ _ _)
      | (with_reducible exact ih2 _ _ _)
      | (with_reducible exact impl_BestTable.mono _ _)
      | (with_reducible exact laws_eqIntS.mono _ _ _)
      | (with_reducible exact laws_eqTable.mono _ _ _)
      | (with_reducible exact laws_heldTable.mono _ _ _)
      | (with_reducible exact laws_markIntS.mono _ _ _)
      | (with_reducible exact laws_markTable.mono _ _ _)
      | (with_reducible exact laws_toIntS.mono _ _)
      | (with_reducible exact spec_BestTable.mono _ _)
      | (with_reducible exact LeO.refl _)
      | (with_reducible exact LeO.none _)
      | (with_reducible refine LeO.ite ?_ ?_)
      | (with_reducible refine LeO.bind ?_ (fun _ => ?_))
      | exact ih0 _ _ _ _ _ _ _
      | exact ih1 _ _ _ _ _
      | exact ih2 _ _ _
      | exact impl_BestTable.mono _ _
      | exact laws_eqIntS.mono _ _ _
      | exact laws_eqTable.mono _ _ _
      | exact laws_heldTable.mono _ _ _
      | exact laws_markIntS.mono _ _ _
      | exact laws_markTable.mono _ _ _
      | exact laws_toIntS.mono _ _
      | exact spec_BestTable.mono _ _
      | exact LeO.none _
      | refine LeO.ite ?_ ?_
      | refine LeO.bind ?_ (fun _ => ?_)
set_option maxHeartbeats 8000000 in
set_option maxRecDepth 100000 in
theorem laws_FnExactBestTable.calls (k : Nat) (A0 : Option Addr) (c0 : Nat) (l0 : List Int) (r : Bool) (w : World) (hr0 : Kd.C (Kd.int .i64) w A0 l0.length l0) (hc0 : l0.length ≤ c0) (h : laws_FnExactBestTable.f k l0 = some r) :
    Calls Tryz.prog 3 #[.slice A0 l0.length c0] w fun e w' => e = .returned (.bool r) ∧ Below w.heap.size w w' := by
  have hu25 := Tryz.underlying25
  have HR0 := Aside0.mk hr0
  have HC0 := Aside0.mk hc0
  clear hr0 hc0
  have HB := Aside0.mk (Below.refl w.heap.size w)
  have H : (if (l0.length : Int) > 1048576 then (some true) else ((laws_toIntS.f k l0).bind fun t294 => ((spec_BestTable.f k t294).bind fun bt297 => ((laws_toIntS.f k l0).bind fun t302 => ((impl_BestTable.f k t302).bind fun bt305 => ((laws_eqTable.f k bt305.1 bt297.1).bind fun t310 => (if t310 = true then (laws_FnExactBestTable.j0 k l0 bt297.2 t302 bt305.2 (bt305.2 != bt297.2) bt297.1 bt305.1) else (laws_FnExactBestTable.j0 k l0 bt297.2 t302 bt305.2 true bt297.1 bt305.1)))))))) = some r := h
  clear h
  by_cases c2 : (l0.length : Int) > 1048576
  · rw [if_pos c2] at H
    have c2b0 : decide (1048576 < (l0.length : Int)) = true := decide_eq_true c2
    have c2b1 : decide (1048576 < l0.length) = true := decide_eq_true (by omega)
    clear c2
    obtain rfl := Option.some.inj H
    go_enter Tryz.func3, Tryz.ntmps3
    go_wp2
    go_ret
    exact ⟨by first | rfl | (simp [errW_none, errW_some] <;> rfl) | (simp [*, errW_none, errW_some] <;> rfl), by repeat (first | (with_reducible first | exact HB.out | apply below_alloc | apply pw_below_drewN | apply below_drew1) | exact HB.out)⟩
  · rw [if_neg c2] at H
    have c2b0 : decide (1048576 < (l0.length : Int)) = false := decide_eq_false c2
    have c2b1 : decide (1048576 < l0.length) = false := decide_eq_false (by omega)
    clear c2
    replace H := Option.bind_eq_some_iff.mp H
    obtain ⟨t294, A30, H⟩ := H
    replace H : ((spec_BestTable.f k t294).bind fun bt297 => ((laws_toIntS.f k l0).bind fun t302 => ((impl_BestTable.f k t302).bind fun bt305 => ((laws_eqTable.f k bt305.1 bt297.1).bind fun t310 => (if t310 = true then (laws_FnExactBestTable.j0 k l0 bt297.2 t302 bt305.2 (bt305.2 != bt297.2) bt297.1 bt305.1) else (laws_FnExactBestTable.j0 k l0 bt297.2 t302 bt305.2 true bt297.1 bt305.1)))))) = some r := H
    have A3 := Aside0.mk A30
    clear A30
    replace H := Option.bind_eq_some_iff.mp H
    obtain ⟨⟨t297, t300⟩, A40, H⟩ := H
    replace H : ((laws_toIntS.f k l0).bind fun t302 => ((impl_BestTable.f k t302).bind fun bt305 => ((laws_eqTable.f k bt305.1 t297).bind fun t310 => (if t310 = true then (laws_FnExactBestTable.j0 k l0 t300 t302 bt305.2 (bt305.2 != t300) t297 bt305.1) else (laws_FnExactBestTable.j0 k l0 t300 t302 bt305.2 true t297 bt305.1))))) = some r := H
    have A4 := Aside0.mk A40
    clear A40
    replace H := Option.bind_eq_some_iff.mp H
    obtain ⟨t302, A50, H⟩ := H
    replace H : ((impl_BestTable.f k t302).bind fun bt305 => ((laws_eqTable.f k bt305.1 t297).bind fun t310 => (if t310 = true then (laws_FnExactBestTable.j0 k l0 t300 t302 bt305.2 (bt305.2 != t300) t297 bt305.1) else (laws_FnExactBestTable.j0 k l0 t300 t302 bt305.2 true t297 bt305.1)))) = some r := H
    have A5 := Aside0.mk A50
    clear A50
    replace H := Option.bind_eq_some_iff.mp H
    obtain ⟨⟨t305, t308⟩, A60, H⟩ := H
    replace H : ((laws_eqTable.f k t305 t297).bind fun t310 => (if t310 = true then (laws_FnExactBestTable.j0 k l0 t300 t302 t308 (t308 != t300) t297 t305) else (laws_FnExactBestTable.j0 k l0 t300 t302 t308 true t297 t305))) = some r := H
    have A6 := Aside0.mk A60
    clear A60
    have HC7 := Aside0.mk H
    clear H
    go_enter Tryz.func3, Tryz.ntmps3
    go_upto_region 6 with (first | ((with_reducible refine gate_callee (f := 7) rfl ?_); refine goesL_ (some 18) rfl rfl Tryz.func7 (by kernel_rfl) rfl #[.slice A0 l0.length c0] rfl (by (try simp only [List.map_toArray, List.map_cons, List.map_nil]); first | done | rfl | (simp only [List.length_drop, List.length_take]; rfl)) ?_; (with_reducible refine (laws_toIntS.calls k _ _ l0 t294 _ ?side1 ?side2 A3.out).mono ?_); (case side1 => repeat (first | exact HR0.out | (with_reducible refine Kd.C_alloc ?_ _) | (with_reducible refine Kd.C_drewN ?_ _) | (with_reducible refine Kd.C_drew ?_))); (case side2 => exact HC0.out); rintro e w8 ⟨v295, rfl, ho0, hb⟩; refine ⟨_, rfl, ?_⟩; have n0_ := Aside0.mk (Kd.R_lower ho0 (below_size (by repeat (first | (with_reducible first | exact HB.out | apply below_alloc | apply pw_below_drewN | apply below_drew1) | exact HB.out)))); have n1_ := Aside0.mk (below_step (by repeat (first | (with_reducible first | exact HB.out | apply below_alloc | apply pw_below_drewN | apply below_drew1) | exact HB.out)) hb); clear HB; have HO296 := n0_; have HB := n1_; clear n0_ n1_; (try clear hb); (try clear hb2); (try clear hk); (try clear hi); (try clear ho0); obtain ⟨Ao9, co9, eo9⟩ := Kd.R_slice HO296.out; subst eo9) | ((with_reducible refine gate_callee (f := 6) rfl ?_); refine goesL_ (some 19) rfl rfl Tryz.func6 (by kernel_rfl) rfl #[.slice Ao9 t294.length co9] rfl (by (try simp only [List.map_toArray, List.map_cons, List.map_nil]); first | done | rfl | (simp only [List.length_drop, List.length_take]; rfl)) ?_; (with_reducible refine (spec_BestTable.calls k _ _ t294 t297 t300 _ ?side1 ?side2 A4.out).mono ?_); (case side1 => repeat (first | exact (Kd.R_reads' HO296.out).2.2 | (with_reducible refine Kd.C_alloc ?_ _) | (with_reducible refine Kd.C_drewN ?_ _) | (with_reducible refine Kd.C_drew ?_))); (case side2 => exact (Kd.R_reads' HO296.out).2.1); rintro e w10 ⟨v298, rfl, ho0, hb⟩; refine ⟨_, rfl, ?_⟩; have n0_ := Aside0.mk (Kd.R_below (by (with_reducible repeat (first | apply Kd.R_alloc | apply Kd.R_drewN | apply Kd.R_drew)); exact HO296.out) hb); have n1_ := Aside0.mk (Kd.R_lower ho0 (below_size (by repeat (first | (with_reducible first | exact HB.out | apply below_alloc | apply pw_below_drewN | apply below_drew1) | exact HB.out)))); have n2_ := Aside0.mk (below_step (by repeat (first | (with_reducible first | exact HB.out | apply below_alloc | apply pw_below_drewN | apply below_drew1) | exact HB.out)) hb); clear HO296; clear HB; have HO296 := n0_; have HO299 := n1_; have HB := n2_; clear n0_ n1_ n2_; (try clear hb); (try clear hb2); (try clear hk); (try clear hi); (try clear ho0)) | ((with_reducible refine gate_dst (N := 3) rfl ?_); refine box_event ?hg (N := 3) ?hd (cs := #[.slice none 0 0]) (t := 25) ?hr ?_; (case hd => rfl); (case hg => rfl); (case hr => first | (go_simp; done) | (go_simp; rfl)); intro gb301 hg w11 hbox hb; have n0_ := Aside0.mk (Kd.R_below (by (with_reducible repeat (first | apply Kd.R_alloc | apply Kd.R_drewN | apply Kd.R_drew)); exact HO296.out) hb); have n1_ := Aside0.mk (Kd.R_below (by (with_reducible repeat (first | apply Kd.R_alloc | apply Kd.R_drewN | apply Kd.R_drew)); exact HO299.out) hb); have n2_ := Aside0.mk (below_step (by repeat (first | (with_reducible first | exact HB.out | apply below_alloc | apply pw_below_drewN | apply below_drew1) | exact HB.out)) hb); have n3_ := Aside0.mk (hbox); have n4_ := Aside0.mk ((by rw [hg]; exact (below_size (by repeat (first | (with_reducible first | exact HB.out | apply below_alloc | apply pw_below_drewN | apply below_drew1) | exact HB.out))) : w.heap.size ≤ gb301)); have n5_ := Aside0.mk ((by rw [hg]; exact (below_size (by repeat (first | (with_reducible first | exact HB.out | apply below_alloc | apply pw_below_drewN | apply below_drew1) | exact HB.out))) : w.heap.size ≤ gb301)); clear HO296; clear HO299; clear HB; have HO296 := n0_; have HO299 := n1_; have HB := n2_; have BK301 := n3_; have GW301 := n4_; have GE301 := n5_; clear n0_ n1_ n2_ n3_ n4_ n5_; clear hb hbox hg; obtain ⟨Ao12, co12, eo12⟩ := Kd.R_slice HO299.out; subst eo12; (try (have hnw14 := Kd.R_ne HO296.out BK301.out (by decide); change some gb301 ≠ some _ at hnw14; have how14 := fun (e_ : gb301 = _) => hnw14 (congrArg some e_); have hpw14 := fun e_ => how14 (Eq.symm e_); clear hnw14; replace how14 := eq_false how14; replace hpw14 := eq_false hpw14)); (try (have hnw15 := Kd.R_ne HO299.out BK301.out (by decide); change some gb301 ≠ some _ at hnw15; have how15 := fun (e_ : gb301 = _) => hnw15 (congrArg some e_); have hpw15 := fun e_ => how15 (Eq.symm e_); clear hnw15; replace how15 := eq_false how15; replace hpw15 := eq_false hpw15)); have hcz13_0 : w11.cell? ⟨gb301, 0, none⟩ = some (.slice none 0 0) := (blk_cell BK301.out 0).trans rfl; have hfz13_0 := blk_frozen BK301.out 0) | ((with_reducible refine gate_callee (f := 7) rfl ?_); refine goesL_ (some 23) rfl rfl Tryz.func7 (by kernel_rfl) rfl #[.slice A0 l0.length c0] rfl (by (try simp only [List.map_toArray, List.map_cons, List.map_nil]); first | done | rfl | (simp only [List.length_drop, List.length_take]; rfl)) ?_; (with_reducible refine (laws_toIntS.calls k _ _ l0 t302 _ ?side1 ?side2 A5.out).mono ?_); (case side1 => exact Kd.C_below HR0.out (by repeat (first | (with_reducible first | exact HB.out | apply below_alloc | apply pw_below_drewN | apply below_drew1 | refine below_set ?_ GE301.out) | exact HB.out))); (case side2 => exact HC0.out); rintro e w16 ⟨v303, rfl, ho0, hb⟩; refine ⟨_, rfl, ?_⟩; have n0_ := Aside0.mk (Kd.R_elder' (by (with_reducible repeat (first | apply Kd.R_alloc | apply Kd.R_drewN | apply Kd.R_drew)); exact (Kd.R_mono (Kd.R_far (p := ⟨gb301, 0, none⟩) (Kd.R_types HO296.out BK301.out (by decide)) (fun _ hk => hk.2) (.slice Ao12 t297.length co12)) (fun _ h_ => h_.1))) (Kd.R_base ho0) hb); have n1_ := Aside0.mk (Kd.R_below (by (with_reducible repeat (first | apply Kd.R_alloc | apply Kd.R_drewN | apply Kd.R_drew)); exact (Kd.R_mono (Kd.R_far (p := ⟨gb301, 0, none⟩) (Kd.R_types HO299.out BK301.out (by decide)) (fun _ hk => hk.2) (.slice Ao12 t297.length co12)) (fun _ h_ => h_.1))) hb); have n2_ := Aside0.mk (Kd.R_lower (Kd.R_new' ho0 (Kd.R_lt (by (with_reducible repeat (first | apply Kd.R_alloc | apply Kd.R_drewN | apply Kd.R_drew)); exact (Kd.R_mono (Kd.R_far (p := ⟨gb301, 0, none⟩) (Kd.R_types HO296.out BK301.out (by decide)) (fun _ hk => hk.2) (.slice Ao12 t297.length co12)) (fun _ h_ => h_.1))))) (below_size (by repeat (first | (with_reducible first | exact HB.out | apply below_alloc | apply pw_below_drewN | apply below_drew1 | refine below_set ?_ GE301.out) | exact HB.out)))); have n3_ := Aside0.mk (blk_below (g := gb301) (o := .cells #[.slice Ao12 t297.length co12] 25 (0, 0)) (by (with_reducible repeat (first | refine blk_drewN ?_ _ | refine blk_drew ?_ | refine blk_alloc ?_ _)); refine blk_put (cs := #[.slice none 0 0]) ?_ 0 _ rfl; (with_reducible repeat (first | refine blk_drewN ?_ _ | refine blk_drew ?_ | refine blk_alloc ?_ _)); exact BK301.out) hb); have n4_ := Aside0.mk (below_step (by repeat (first | (with_reducible first | exact HB.out | apply below_alloc | apply pw_below_drewN | apply below_drew1 | refine below_set ?_ GE301.out) | exact HB.out)) hb); clear HO296; clear HO299; clear BK301; clear HB; have HO296 := n0_; have HO299 := n1_; have HO304 := n2_; have BK301 := n3_; have HB := n4_; clear n0_ n1_ n2_ n3_ n4_; (try clear hb); (try clear hb2); (try clear hk); (try clear hi); (try clear ho0); obtain ⟨Ao17, co17, eo17⟩ := Kd.R_slice HO304.out; subst eo17) | ((with_reducible refine gate_callee (f := 8) rfl ?_); refine goesL_ (some 26) rfl rfl Tryz.func8 (by kernel_rfl) rfl #[.slice Ao17 t302.length co17] rfl (by (try simp only [List.map_toArray, List.map_cons, List.map_nil]); first | done | rfl | (simp only [List.length_drop, List.length_take]; rfl)) ?_; (with_reducible refine (impl_BestTable.calls k _ _ t302 t305 t308 _ ?side1 ?side2 A6.out).mono ?_); (case side1 => repeat (first | exact (Kd.R_reads' HO304.out).2.2 | (with_reducible refine Kd.C_alloc ?_ _) | (with_reducible refine Kd.C_drewN ?_ _) | (with_reducible refine Kd.C_drew ?_))); (case side2 => exact (Kd.R_reads' HO304.out).2.1); rintro e w18 ⟨v306, rfl, ho0, hb⟩; refine ⟨_, rfl, ?_⟩; have n0_ := Aside0.mk (Kd.R_below (by (with_reducible repeat (first | apply Kd.R_alloc | apply Kd.R_drewN | apply Kd.R_drew)); exact HO296.out) hb); have n1_ := Aside0.mk (Kd.R_elder' (by (with_reducible repeat (first | apply Kd.R_alloc | apply Kd.R_drewN | apply Kd.R_drew)); exact HO299.out) (Kd.R_base ho0) hb); have n2_ := Aside0.mk (Kd.R_below (by (with_reducible repeat (first | apply Kd.R_alloc | apply Kd.R_drewN | apply Kd.R_drew)); exact HO304.out) hb); have n3_ := Aside0.mk (Kd.R_lower (Kd.R_new' ho0 (Kd.R_lt (by (with_reducible repeat (first | apply Kd.R_alloc | apply Kd.R_drewN | apply Kd.R_drew)); exact HO299.out))) (below_size (by repeat (first | (with_reducible first | exact HB.out | apply below_alloc | apply pw_below_drewN | apply below_drew1 | refine below_set ?_ GE301.out) | exact HB.out)))); have n4_ := Aside0.mk (blk_below (g := gb301) (o := .cells #[.slice Ao12 t297.length co12] 25 (0, 0)) (by (with_reducible repeat (first | refine blk_drewN ?_ _ | refine blk_drew ?_ | refine blk_alloc ?_ _)); exact BK301.out) hb); have n5_ := Aside0.mk (below_step (by repeat (first | (with_reducible first | exact HB.out | apply below_alloc | apply pw_below_drewN | apply below_drew1 | refine below_set ?_ GE301.out) | exact HB.out)) hb); clear HO296; clear HO299; clear HO304; clear BK301; clear HB; have HO296 := n0_; have HO299 := n1_; have HO304 := n2_; have HO307 := n3_; have BK301 := n4_; have HB := n5_; clear n0_ n1_ n2_ n3_ n4_ n5_; (try clear hb); (try clear hb2); (try clear hk); (try clear hi); (try clear ho0)) | ((with_reducible refine gate_dst (N := 6) rfl ?_); refine box_event ?hg (N := 6) ?hd (cs := #[.slice none 0 0]) (t := 25) ?hr ?_; (case hd => rfl); (case hg => rfl); (case hr => first | (go_simp; done) | (go_simp; rfl)); intro gb309 hg w19 hbox hb; have n0_ := Aside0.mk (Kd.R_below (by (with_reducible repeat (first | apply Kd.R_alloc | apply Kd.R_drewN | apply Kd.R_drew)); exact HO296.out) hb); have n1_ := Aside0.mk (Kd.R_below (by (with_reducible repeat (first | apply Kd.R_alloc | apply Kd.R_drewN | apply Kd.R_drew)); exact HO299.out) hb); have n2_ := Aside0.mk (Kd.R_below (by (with_reducible repeat (first | apply Kd.R_alloc | apply Kd.R_drewN | apply Kd.R_drew)); exact HO304.out) hb); have n3_ := Aside0.mk (Kd.R_below (by (with_reducible repeat (first | apply Kd.R_alloc | apply Kd.R_drewN | apply Kd.R_drew)); exact HO307.out) hb); have n4_ := Aside0.mk (blk_below (g := gb301) (o := .cells #[.slice Ao12 t297.length co12] 25 (0, 0)) (by (with_reducible repeat (first | refine blk_drewN ?_ _ | refine blk_drew ?_ | refine blk_alloc ?_ _)); exact BK301.out) hb); have n5_ := Aside0.mk (below_step (by repeat (first | (with_reducible first | exact HB.out | apply below_alloc | apply pw_below_drewN | apply below_drew1 | refine below_set ?_ GE301.out) | exact HB.out)) hb); have n6_ := Aside0.mk (hbox); have n7_ := Aside0.mk ((by rw [hg]; exact (below_size (by repeat (first | (with_reducible first | exact HB.out | apply below_alloc | apply pw_below_drewN | apply below_drew1 | refine below_set ?_ GE301.out) | exact HB.out))) : w.heap.size ≤ gb309)); have n8_ := Aside0.mk ((by rw [hg]; exact (below_size (by repeat (first | (with_reducible first | exact HB.out | apply below_alloc | apply pw_below_drewN | apply below_drew1 | refine below_set ?_ GE301.out) | exact HB.out))) : w.heap.size ≤ gb309)); have n9_ := Aside0.mk ((by rw [hg]; exact Nat.ne_of_lt (blk_lt (g := gb301) (o := .cells #[.slice Ao12 t297.length co12] 25 (0, 0)) (by (with_reducible repeat (first | refine blk_drewN ?_ _ | refine blk_drew ?_ | refine blk_alloc ?_ _)); exact BK301.out)) : gb301 ≠ gb309)); have n10_ := Aside0.mk ((by rw [hg]; exact Nat.ne_of_gt (blk_lt (g := gb301) (o := .cells #[.slice Ao12 t297.length co12] 25 (0, 0)) (by (with_reducible repeat (first | refine blk_drewN ?_ _ | refine blk_drew ?_ | refine blk_alloc ?_ _)); exact BK301.out)) : gb309 ≠ gb301)); clear HO296; clear HO299; clear HO304; clear HO307; clear BK301; clear HB; have HO296 := n0_; have HO299 := n1_; have HO304 := n2_; have HO307 := n3_; have BK301 := n4_; have HB := n5_; have BK309 := n6_; have GW309 := n7_; have GE309 := n8_; have NB301_309 := n9_; have NB309_301 := n10_; clear n0_ n1_ n2_ n3_ n4_ n5_ n6_ n7_ n8_ n9_ n10_; clear hb hbox hg; obtain ⟨Ao20, co20, eo20⟩ := Kd.R_slice HO307.out; subst eo20; have hnb21 := NB309_301.out; have hnc21 := NB301_309.out; (try (have hnw23 := Kd.R_ne HO296.out BK309.out (by decide); change some gb309 ≠ some _ at hnw23; have how23 := fun (e_ : gb309 = _) => hnw23 (congrArg some e_); have hpw23 := fun e_ => how23 (Eq.symm e_); clear hnw23; replace how23 := eq_false how23; replace hpw23 := eq_false hpw23)); (try (have hnw24 := Kd.R_ne HO299.out BK309.out (by decide); change some gb309 ≠ some _ at hnw24; have how24 := fun (e_ : gb309 = _) => hnw24 (congrArg some e_); have hpw24 := fun e_ => how24 (Eq.symm e_); clear hnw24; replace how24 := eq_false how24; replace hpw24 := eq_false hpw24)); (try (have hnw25 := Kd.R_ne HO304.out BK309.out (by decide); change some gb309 ≠ some _ at hnw25; have how25 := fun (e_ : gb309 = _) => hnw25 (congrArg some e_); have hpw25 := fun e_ => how25 (Eq.symm e_); clear hnw25; replace how25 := eq_false how25; replace hpw25 := eq_false hpw25)); (try (have hnw26 := Kd.R_ne HO307.out BK309.out (by decide); change some gb309 ≠ some _ at hnw26; have how26 := fun (e_ : gb309 = _) => hnw26 (congrArg some e_); have hpw26 := fun e_ => how26 (Eq.symm e_); clear hnw26; replace how26 := eq_false how26; replace hpw26 := eq_false hpw26)); have hcz22_0 : w19.cell? ⟨gb309, 0, none⟩ = some (.slice none 0 0) := (blk_cell BK309.out 0).trans rfl; have hfz22_0 := blk_frozen BK309.out 0))
    (try simp only [Act.put, List.setIfInBounds_toArray, List.set_cons_zero, List.set_cons_succ])
    go_cut [37] (fun v37 wc => ∃ (kq : Nat) (x37_6 : Bool), v37 = .bool x37_6 ∧ Aside0 (laws_FnExactBestTable.j0 kq l0 t300 t302 t308 x37_6 t297 t305 = some r) ∧ Aside0 (kq ≤ k) ∧ Aside0 (Kd.R (Kd.int .i64) 3 wc w.heap.size (fun _ => True) (.slice Ao17 t302.length co17) t302) ∧ Aside0 (Kd.R Kd.string 9 wc w.heap.size (fun k_ => some k_ ≠ ((.slice Ao20 t305.length co20) : Value).ownBlock) (.slice Ao12 t297.length co12) t297) ∧ Aside0 (Kd.R Kd.string 9 wc w.heap.size (fun k_ => some k_ ≠ ((.slice Ao12 t297.length co12) : Value).ownBlock) (.slice Ao20 t305.length co20) t305) ∧ Aside0 (wc.heap[gb301]? = some (.cells #[(.slice Ao12 t297.length co12)] 25 (0, 0))) ∧ Aside0 (wc.heap[gb309]? = some (.cells #[(.slice Ao20 t305.length co20)] 25 (0, 0))) ∧ Aside0 (Below w.heap.size w wc))
    case first =>
      have H := HC7.out
      clear HC7
      replace H := Option.bind_eq_some_iff.mp H
      obtain ⟨t310, A270, H⟩ := H
      replace H : (if t310 = true then (laws_FnExactBestTable.j0 k l0 t300 t302 t308 (t308 != t300) t297 t305) else (laws_FnExactBestTable.j0 k l0 t300 t302 t308 true t297 t305)) = some r := H
      have A27 := Aside0.mk A270
      clear A270
      by_cases c28 : t310 = true
      · subst c28
        have H1 : (laws_FnExactBestTable.j0 k l0 t300 t302 t308 (t308 != t300) t297 t305) = some r := by rw [if_pos rfl] at H; first | exact H | (simp only [if_true, eq_self] at H ⊢; exact H)
        clear H
        have H := H1
        clear H1
        have H' := Aside0.mk H
        clear H
        have hnb29 := NB309_301.out
        have hnc29 := NB301_309.out
        (try (have hnw31 := Kd.R_ne HO296.out BK309.out (by decide); change some gb309 ≠ some _ at hnw31; have how31 := fun (e_ : gb309 = _) => hnw31 (congrArg some e_); have hpw31 := fun e_ => how31 (Eq.symm e_); clear hnw31; replace how31 := eq_false how31; replace hpw31 := eq_false hpw31))
        (try (have hnw32 := Kd.R_ne HO299.out BK309.out (by decide); change some gb309 ≠ some _ at hnw32; have how32 := fun (e_ : gb309 = _) => hnw32 (congrArg some e_); have hpw32 := fun e_ => how32 (Eq.symm e_); clear hnw32; replace how32 := eq_false how32; replace hpw32 := eq_false hpw32))
        (try (have hnw33 := Kd.R_ne HO304.out BK309.out (by decide); change some gb309 ≠ some _ at hnw33; have how33 := fun (e_ : gb309 = _) => hnw33 (congrArg some e_); have hpw33 := fun e_ => how33 (Eq.symm e_); clear hnw33; replace how33 := eq_false how33; replace hpw33 := eq_false hpw33))
        (try (have hnw34 := Kd.R_ne HO307.out BK309.out (by decide); change some gb309 ≠ some _ at hnw34; have how34 := fun (e_ : gb309 = _) => hnw34 (congrArg some e_); have hpw34 := fun e_ => how34 (Eq.symm e_); clear hnw34; replace how34 := eq_false how34; replace hpw34 := eq_false hpw34))
        have hcz30_0 : w19.cell? ⟨gb309, 0, none⟩ = some (.slice none 0 0) := (blk_cell BK309.out 0).trans rfl
        have hfz30_0 := blk_frozen BK309.out 0
        (try (have hnw36 := Kd.R_ne HO296.out BK301.out (by decide); change some gb301 ≠ some _ at hnw36; have how36 := fun (e_ : gb301 = _) => hnw36 (congrArg some e_); have hpw36 := fun e_ => how36 (Eq.symm e_); clear hnw36; replace how36 := eq_false how36; replace hpw36 := eq_false hpw36))
        (try (have hnw37 := Kd.R_ne HO299.out BK301.out (by decide); change some gb301 ≠ some _ at hnw37; have how37 := fun (e_ : gb301 = _) => hnw37 (congrArg some e_); have hpw37 := fun e_ => how37 (Eq.symm e_); clear hnw37; replace how37 := eq_false how37; replace hpw37 := eq_false hpw37))
        (try (have hnw38 := Kd.R_ne HO304.out BK301.out (by decide); change some gb301 ≠ some _ at hnw38; have how38 := fun (e_ : gb301 = _) => hnw38 (congrArg some e_); have hpw38 := fun e_ => how38 (Eq.symm e_); clear hnw38; replace how38 := eq_false how38; replace hpw38 := eq_false hpw38))
        (try (have hnw39 := Kd.R_ne HO307.out BK301.out (by decide); change some gb301 ≠ some _ at hnw39; have how39 := fun (e_ : gb301 = _) => hnw39 (congrArg some e_); have hpw39 := fun e_ => how39 (Eq.symm e_); clear hnw39; replace how39 := eq_false how39; replace hpw39 := eq_false hpw39))
        have hcz35_0 : w19.cell? ⟨gb301, 0, none⟩ = some (.slice Ao12 t297.length co12) := (blk_cell BK301.out 0).trans rfl
        have hfz35_0 := blk_frozen BK301.out 0
        go_wp2_with (first | ((with_reducible refine gate_callee (f := 9) rfl ?_); refine goesL_ (some 31) rfl rfl Tryz.func9 (by kernel_rfl) rfl #[.agg #[.slice Ao20 t305.length co20], .agg #[.slice Ao12 t297.length co12]] rfl (by (try simp only [List.map_toArray, List.map_cons, List.map_nil]); first | done | rfl | (simp only [List.length_drop, List.length_take]; rfl)) ?_; (with_reducible refine (laws_eqTable.calls k _ _ t305 _ _ t297 true _ ?side1 ?side2 ?side3 ?side4 A27.out).mono ?_); (case side1 => refine (Kd.R_reads' (e := 9) (base := w.heap.size) (ok := fun k_ => (True ∧ some k_ ≠ (.slice Ao12 t297.length co12 : Value).ownBlock)) (n := t305.length) (c := co20) ?_).2.2; exact (by (with_reducible repeat (first | apply Kd.R_alloc | apply Kd.R_drewN | apply Kd.R_drew)); exact (Kd.R_mono (Kd.R_far (p := ⟨gb309, 0, none⟩) (Kd.R_types HO307.out BK309.out (by decide)) (fun _ hk => hk.2) (.slice Ao20 t305.length co20)) (fun _ h_ => h_.1)))); (case side2 => exact (Kd.R_reads' HO307.out).2.1); (case side3 => refine (Kd.R_reads' (e := 9) (base := w.heap.size) (ok := fun k_ => (True ∧ some k_ ≠ (.slice Ao20 t305.length co20 : Value).ownBlock)) (n := t297.length) (c := co12) ?_).2.2; exact (by (with_reducible repeat (first | apply Kd.R_alloc | apply Kd.R_drewN | apply Kd.R_drew)); exact (Kd.R_mono (Kd.R_far (p := ⟨gb309, 0, none⟩) (Kd.R_types HO299.out BK309.out (by decide)) (fun _ hk => hk.2) (.slice Ao20 t305.length co20)) (fun _ h_ => h_.1)))); (case side4 => exact (Kd.R_reads' HO299.out).2.1); rintro e w40 ⟨rfl, hb⟩; refine ⟨_, rfl, ?_⟩; have n0_ := Aside0.mk (Kd.R_below (by (with_reducible repeat (first | apply Kd.R_alloc | apply Kd.R_drewN | apply Kd.R_drew)); exact (Kd.R_mono (Kd.R_far (p := ⟨gb309, 0, none⟩) (Kd.R_types HO296.out BK309.out (by decide)) (fun _ hk => hk.2) (.slice Ao20 t305.length co20)) (fun _ h_ => h_.1))) hb); have n1_ := Aside0.mk (Kd.R_below (by (with_reducible repeat (first | apply Kd.R_alloc | apply Kd.R_drewN | apply Kd.R_drew)); exact (Kd.R_mono (Kd.R_far (p := ⟨gb309, 0, none⟩) (Kd.R_types HO299.out BK309.out (by decide)) (fun _ hk => hk.2) (.slice Ao20 t305.length co20)) (fun _ h_ => h_.1))) hb); have n2_ := Aside0.mk (Kd.R_below (by (with_reducible repeat (first | apply Kd.R_alloc | apply Kd.R_drewN | apply Kd.R_drew)); exact (Kd.R_mono (Kd.R_far (p := ⟨gb309, 0, none⟩) (Kd.R_types HO304.out BK309.out (by decide)) (fun _ hk => hk.2) (.slice Ao20 t305.length co20)) (fun _ h_ => h_.1))) hb); have n3_ := Aside0.mk (Kd.R_below (by (with_reducible repeat (first | apply Kd.R_alloc | apply Kd.R_drewN | apply Kd.R_drew)); exact (Kd.R_mono (Kd.R_far (p := ⟨gb309, 0, none⟩) (Kd.R_types HO307.out BK309.out (by decide)) (fun _ hk => hk.2) (.slice Ao20 t305.length co20)) (fun _ h_ => h_.1))) hb); have n4_ := Aside0.mk (blk_below (g := gb301) (o := .cells #[.slice Ao12 t297.length co12] 25 (0, 0)) (by (with_reducible repeat (first | refine blk_drewN ?_ _ | refine blk_drew ?_ | refine blk_alloc ?_ _)); refine blk_far ?_ NB301_309.out _; (with_reducible repeat (first | refine blk_drewN ?_ _ | refine blk_drew ?_ | refine blk_alloc ?_ _)); exact BK301.out) hb); have n5_ := Aside0.mk (blk_below (g := gb309) (o := .cells #[.slice Ao20 t305.length co20] 25 (0, 0)) (by (with_reducible repeat (first | refine blk_drewN ?_ _ | refine blk_drew ?_ | refine blk_alloc ?_ _)); refine blk_put (cs := #[.slice none 0 0]) ?_ 0 _ rfl; (with_reducible repeat (first | refine blk_drewN ?_ _ | refine blk_drew ?_ | refine blk_alloc ?_ _)); exact BK309.out) hb); have n6_ := Aside0.mk (below_step (by repeat (first | (with_reducible first | exact HB.out | apply below_alloc | apply pw_below_drewN | apply below_drew1 | refine below_set ?_ GE301.out | refine below_set ?_ GE309.out) | exact HB.out)) hb); clear HO296; clear HO299; clear HO304; clear HO307; clear BK301; clear BK309; clear HB; have HO296 := n0_; have HO299 := n1_; have HO304 := n2_; have HO307 := n3_; have BK301 := n4_; have BK309 := n5_; have HB := n6_; clear n0_ n1_ n2_ n3_ n4_ n5_ n6_; (try clear hb); (try clear hb2); (try clear hk); (try clear hi)))
        go_meet
        case rel => exact ⟨_, ((t308 != t300)), (by first | rfl | (simp; done) | (simp [*]; done)), H', ⟨by first | omega | exact Nat.le_refl _⟩, ⟨by (with_reducible repeat (first | apply Kd.R_alloc | apply Kd.R_drewN | apply Kd.R_drew)); exact Kd.R_mono HO304.out (fun _ hk => trivial)⟩, ⟨by (with_reducible repeat (first | apply Kd.R_alloc | apply Kd.R_drewN | apply Kd.R_drew)); exact Kd.R_mono HO299.out (fun _ hk => hk.2)⟩, ⟨by (with_reducible repeat (first | apply Kd.R_alloc | apply Kd.R_drewN | apply Kd.R_drew)); exact Kd.R_mono HO307.out (fun _ hk => hk.2)⟩, ⟨by (with_reducible repeat (first | refine blk_drewN ?_ _ | refine blk_drew ?_ | refine blk_alloc ?_ _)); exact BK301.out⟩, ⟨by (with_reducible repeat (first | refine blk_drewN ?_ _ | refine blk_drew ?_ | refine blk_alloc ?_ _)); exact BK309.out⟩, ⟨by repeat (first | (with_reducible first | exact HB.out | apply below_alloc | apply pw_below_drewN | apply below_drew1 | refine below_set ?_ GE301.out | refine below_set ?_ GE309.out) | exact HB.out)⟩⟩
      · replace c28 := Bool.eq_false_iff.mpr c28
        subst c28
        have H1 : (laws_FnExactBestTable.j0 k l0 t300 t302 t308 true t297 t305) = some r := by rw [if_neg (show ¬ (false = true) by decide)] at H; first | exact H | (simp only [if_true, eq_self] at H ⊢; exact H)
        clear H
        have H := H1
        clear H1
        have H' := Aside0.mk H
        clear H
        have hnb41 := NB309_301.out
        have hnc41 := NB301_309.out
        (try (have hnw43 := Kd.R_ne HO296.out BK309.out (by decide); change some gb309 ≠ some _ at hnw43; have how43 := fun (e_ : gb309 = _) => hnw43 (congrArg some e_); have hpw43 := fun e_ => how43 (Eq.symm e_); clear hnw43; replace how43 := eq_false how43; replace hpw43 := eq_false hpw43))
        (try (have hnw44 := Kd.R_ne HO299.out BK309.out (by decide); change some gb309 ≠ some _ at hnw44; have how44 := fun (e_ : gb309 = _) => hnw44 (congrArg some e_); have hpw44 := fun e_ => how44 (Eq.symm e_); clear hnw44; replace how44 := eq_false how44; replace hpw44 := eq_false hpw44))
        (try (have hnw45 := Kd.R_ne HO304.out BK309.out (by decide); change some gb309 ≠ some _ at hnw45; have how45 := fun (e_ : gb309 = _) => hnw45 (congrArg some e_); have hpw45 := fun e_ => how45 (Eq.symm e_); clear hnw45; replace how45 := eq_false how45; replace hpw45 := eq_false hpw45))
        (try (have hnw46 := Kd.R_ne HO307.out BK309.out (by decide); change some gb309 ≠ some _ at hnw46; have how46 := fun (e_ : gb309 = _) => hnw46 (congrArg some e_); have hpw46 := fun e_ => how46 (Eq.symm e_); clear hnw46; replace how46 := eq_false how46; replace hpw46 := eq_false hpw46))
        have hcz42_0 : w19.cell? ⟨gb309, 0, none⟩ = some (.slice none 0 0) := (blk_cell BK309.out 0).trans rfl
        have hfz42_0 := blk_frozen BK309.out 0
        (try (have hnw48 := Kd.R_ne HO296.out BK301.out (by decide); change some gb301 ≠ some _ at hnw48; have how48 := fun (e_ : gb301 = _) => hnw48 (congrArg some e_); have hpw48 := fun e_ => how48 (Eq.symm e_); clear hnw48; replace how48 := eq_false how48; replace hpw48 := eq_false hpw48))
        (try (have hnw49 := Kd.R_ne HO299.out BK301.out (by decide); change some gb301 ≠ some _ at hnw49; have how49 := fun (e_ : gb301 = _) => hnw49 (congrArg some e_); have hpw49 := fun e_ => how49 (Eq.symm e_); clear hnw49; replace how49 := eq_false how49; replace hpw49 := eq_false hpw49))
        (try (have hnw50 := Kd.R_ne HO304.out BK301.out (by decide); change some gb301 ≠ some _ at hnw50; have how50 := fun (e_ : gb301 = _) => hnw50 (congrArg some e_); have hpw50 := fun e_ => how50 (Eq.symm e_); clear hnw50; replace how50 := eq_false how50; replace hpw50 := eq_false hpw50))
        (try (have hnw51 := Kd.R_ne HO307.out BK301.out (by decide); change some gb301 ≠ some _ at hnw51; have how51 := fun (e_ : gb301 = _) => hnw51 (congrArg some e_); have hpw51 := fun e_ => how51 (Eq.symm e_); clear hnw51; replace how51 := eq_false how51; replace hpw51 := eq_false hpw51))
        have hcz47_0 : w19.cell? ⟨gb301, 0, none⟩ = some (.slice Ao12 t297.length co12) := (blk_cell BK301.out 0).trans rfl
        have hfz47_0 := blk_frozen BK301.out 0
        go_wp2_with (first | ((with_reducible refine gate_callee (f := 9) rfl ?_); refine goesL_ (some 31) rfl rfl Tryz.func9 (by kernel_rfl) rfl #[.agg #[.slice Ao20 t305.length co20], .agg #[.slice Ao12 t297.length co12]] rfl (by (try simp only [List.map_toArray, List.map_cons, List.map_nil]); first | done | rfl | (simp only [List.length_drop, List.length_take]; rfl)) ?_; (with_reducible refine (laws_eqTable.calls k _ _ t305 _ _ t297 false _ ?side1 ?side2 ?side3 ?side4 A27.out).mono ?_); (case side1 => refine (Kd.R_reads' (e := 9) (base := w.heap.size) (ok := fun k_ => (True ∧ some k_ ≠ (.slice Ao12 t297.length co12 : Value).ownBlock)) (n := t305.length) (c := co20) ?_).2.2; exact (by (with_reducible repeat (first | apply Kd.R_alloc | apply Kd.R_drewN | apply Kd.R_drew)); exact (Kd.R_mono (Kd.R_far (p := ⟨gb309, 0, none⟩) (Kd.R_types HO307.out BK309.out (by decide)) (fun _ hk => hk.2) (.slice Ao20 t305.length co20)) (fun _ h_ => h_.1)))); (case side2 => exact (Kd.R_reads' HO307.out).2.1); (case side3 => refine (Kd.R_reads' (e := 9) (base := w.heap.size) (ok := fun k_ => (True ∧ some k_ ≠ (.slice Ao20 t305.length co20 : Value).ownBlock)) (n := t297.length) (c := co12) ?_).2.2; exact (by (with_reducible repeat (first | apply Kd.R_alloc | apply Kd.R_drewN | apply Kd.R_drew)); exact (Kd.R_mono (Kd.R_far (p := ⟨gb309, 0, none⟩) (Kd.R_types HO299.out BK309.out (by decide)) (fun _ hk => hk.2) (.slice Ao20 t305.length co20)) (fun _ h_ => h_.1)))); (case side4 => exact (Kd.R_reads' HO299.out).2.1); rintro e w52 ⟨rfl, hb⟩; refine ⟨_, rfl, ?_⟩; have n0_ := Aside0.mk (Kd.R_below (by (with_reducible repeat (first | apply Kd.R_alloc | apply Kd.R_drewN | apply Kd.R_drew)); exact (Kd.R_mono (Kd.R_far (p := ⟨gb309, 0, none⟩) (Kd.R_types HO296.out BK309.out (by decide)) (fun _ hk => hk.2) (.slice Ao20 t305.length co20)) (fun _ h_ => h_.1))) hb); have n1_ := Aside0.mk (Kd.R_below (by (with_reducible repeat (first | apply Kd.R_alloc | apply Kd.R_drewN | apply Kd.R_drew)); exact (Kd.R_mono (Kd.R_far (p := ⟨gb309, 0, none⟩) (Kd.R_types HO299.out BK309.out (by decide)) (fun _ hk => hk.2) (.slice Ao20 t305.length co20)) (fun _ h_ => h_.1))) hb); have n2_ := Aside0.mk (Kd.R_below (by (with_reducible repeat (first | apply Kd.R_alloc | apply Kd.R_drewN | apply Kd.R_drew)); exact (Kd.R_mono (Kd.R_far (p := ⟨gb309, 0, none⟩) (Kd.R_types HO304.out BK309.out (by decide)) (fun _ hk => hk.2) (.slice Ao20 t305.length co20)) (fun _ h_ => h_.1))) hb); have n3_ := Aside0.mk (Kd.R_below (by (with_reducible repeat (first | apply Kd.R_alloc | apply Kd.R_drewN | apply Kd.R_drew)); exact (Kd.R_mono (Kd.R_far (p := ⟨gb309, 0, none⟩) (Kd.R_types HO307.out BK309.out (by decide)) (fun _ hk => hk.2) (.slice Ao20 t305.length co20)) (fun _ h_ => h_.1))) hb); have n4_ := Aside0.mk (blk_below (g := gb301) (o := .cells #[.slice Ao12 t297.length co12] 25 (0, 0)) (by (with_reducible repeat (first | refine blk_drewN ?_ _ | refine blk_drew ?_ | refine blk_alloc ?_ _)); refine blk_far ?_ NB301_309.out _; (with_reducible repeat (first | refine blk_drewN ?_ _ | refine blk_drew ?_ | refine blk_alloc ?_ _)); exact BK301.out) hb); have n5_ := Aside0.mk (blk_below (g := gb309) (o := .cells #[.slice Ao20 t305.length co20] 25 (0, 0)) (by (with_reducible repeat (first | refine blk_drewN ?_ _ | refine blk_drew ?_ | refine blk_alloc ?_ _)); refine blk_put (cs := #[.slice none 0 0]) ?_ 0 _ rfl; (with_reducible repeat (first | refine blk_drewN ?_ _ | refine blk_drew ?_ | refine blk_alloc ?_ _)); exact BK309.out) hb); have n6_ := Aside0.mk (below_step (by repeat (first | (with_reducible first | exact HB.out | apply below_alloc | apply pw_below_drewN | apply below_drew1 | refine below_set ?_ GE301.out | refine below_set ?_ GE309.out) | exact HB.out)) hb); clear HO296; clear HO299; clear HO304; clear HO307; clear BK301; clear BK309; clear HB; have HO296 := n0_; have HO299 := n1_; have HO304 := n2_; have HO307 := n3_; have BK301 := n4_; have BK309 := n5_; have HB := n6_; clear n0_ n1_ n2_ n3_ n4_ n5_ n6_; (try clear hb); (try clear hb2); (try clear hk); (try clear hi)))
        go_meet
        case rel => exact ⟨_, (true), (by first | rfl | (simp; done) | (simp [*]; done)), H', ⟨by first | omega | exact Nat.le_refl _⟩, ⟨by (with_reducible repeat (first | apply Kd.R_alloc | apply Kd.R_drewN | apply Kd.R_drew)); exact Kd.R_mono HO304.out (fun _ hk => trivial)⟩, ⟨by (with_reducible repeat (first | apply Kd.R_alloc | apply Kd.R_drewN | apply Kd.R_drew)); exact Kd.R_mono HO299.out (fun _ hk => hk.2)⟩, ⟨by (with_reducible repeat (first | apply Kd.R_alloc | apply Kd.R_drewN | apply Kd.R_drew)); exact Kd.R_mono HO307.out (fun _ hk => hk.2)⟩, ⟨by (with_reducible repeat (first | refine blk_drewN ?_ _ | refine blk_drew ?_ | refine blk_alloc ?_ _)); exact BK301.out⟩, ⟨by (with_reducible repeat (first | refine blk_drewN ?_ _ | refine blk_drew ?_ | refine blk_alloc ?_ _)); exact BK309.out⟩, ⟨by repeat (first | (with_reducible first | exact HB.out | apply below_alloc | apply pw_below_drewN | apply below_drew1 | refine below_set ?_ GE301.out | refine below_set ?_ GE309.out) | exact HB.out)⟩⟩
    case rest =>
      clear HC7
      try clear c2
      try clear c2b0
      try clear c2b1
      try clear p2
      try clear c3
      try clear c4
      try clear c6
      try clear c7
      try clear c8
      try clear c9
      try clear c21
      try clear c28
      try clear c29
      try clear c41
      try clear hcz13_0
      try clear hcz22_0
      try clear hcz30_0
      try clear hcz35_0
      try clear hcz42_0
      try clear hcz47_0
      try clear hfz13_0
      try clear hfz22_0
      try clear hfz30_0
      try clear hfz35_0
      try clear hfz42_0
      try clear hfz47_0
      obtain ⟨kq, x37_6, rfl, HA, HJ6, HO_5, HO_302000, HO_310000, BK301, BK309, HB⟩ := hcut
      cases kq with
      | zero => exact absurd HA.out (by simp [laws_FnExactBestTable.j0])
      | succ kj6 =>
        have H := HA.out
        clear HA
        simp only [laws_FnExactBestTable.j0] at H
        by_cases c53 : x37_6 = true
        · subst c53
          have H1 : (some false) = some r := by rw [if_pos rfl] at H; first | exact H | (simp only [if_true, eq_self] at H ⊢; exact H)
          clear H
          have H := H1
          clear H1
          obtain rfl := Option.some.inj H
          go_wp2
          go_ret
          exact ⟨by first | rfl | (simp [errW_none, errW_some] <;> rfl) | (simp [*, errW_none, errW_some] <;> rfl), by repeat (first | (with_reducible first | exact HB.out | apply below_alloc | apply pw_below_drewN | apply below_drew1 | refine below_set ?_ GE301.out | refine below_set ?_ GE309.out) | exact HB.out)⟩
        · replace c53 := Bool.eq_false_iff.mpr c53
          subst c53
          have H1 : ((laws_toIntS.f kj6 l0).bind fun t311 => ((laws_eqIntS.f kj6 t302 t311).bind fun t314 => (if t314 = true then ((laws_markIntS.f kj6 t302 1).bind fun bt315 => (if bt315.1 < 0 then (laws_FnExactBestTable.j1 kj6 l0 t300 true t297 t305) else ((laws_eqTable.f kj6 t305 t297).bind fun t317 => (if t317 = true then (laws_FnExactBestTable.j1 kj6 l0 t300 (t308 != t300) t297 t305) else (laws_FnExactBestTable.j1 kj6 l0 t300 true t297 t305))))) else (some false)))) = some r := by rw [if_neg (show ¬ (false = true) by decide)] at H; first | exact H | (simp only [if_true, eq_self] at H ⊢; exact H)
          clear H
          have H := H1
          clear H1
          replace H := Option.bind_eq_some_iff.mp H
          obtain ⟨t311, A540, H⟩ := H
          replace H : ((laws_eqIntS.f kj6 t302 t311).bind fun t314 => (if t314 = true then ((laws_markIntS.f kj6 t302 1).bind fun bt315 => (if bt315.1 < 0 then (laws_FnExactBestTable.j1 kj6 l0 t300 true t297 t305) else ((laws_eqTable.f kj6 t305 t297).bind fun t317 => (if t317 = true then (laws_FnExactBestTable.j1 kj6 l0 t300 (t308 != t300) t297 t305) else (laws_FnExactBestTable.j1 kj6 l0 t300 true t297 t305))))) else (some false))) = some r := H
          have A54 := Aside0.mk A540
          clear A540
          replace H := Option.bind_eq_some_iff.mp H
          obtain ⟨t314, A550, H⟩ := H
          replace H : (if t314 = true then ((laws_markIntS.f kj6 t302 1).bind fun bt315 => (if bt315.1 < 0 then (laws_FnExactBestTable.j1 kj6 l0 t300 true t297 t305) else ((laws_eqTable.f kj6 t305 t297).bind fun t317 => (if t317 = true then (laws_FnExactBestTable.j1 kj6 l0 t300 (t308 != t300) t297 t305) else (laws_FnExactBestTable.j1 kj6 l0 t300 true t297 t305))))) else (some false)) = some r := H
          have A55 := Aside0.mk A550
          clear A550
          by_cases c56 : t314 = true
          · subst c56
            have H1 : ((laws_markIntS.f kj6 t302 1).bind fun bt315 => (if bt315.1 < 0 then (laws_FnExactBestTable.j1 kj6 l0 t300 true t297 t305) else ((laws_eqTable.f kj6 t305 t297).bind fun t317 => (if t317 = true then (laws_FnExactBestTable.j1 kj6 l0 t300 (t308 != t300) t297 t305) else (laws_FnExactBestTable.j1 kj6 l0 t300 true t297 t305))))) = some r := by rw [if_pos rfl] at H; first | exact H | (simp only [if_true, eq_self] at H ⊢; exact H)
            clear H
            have H := H1
            clear H1
            replace H := Option.bind_eq_some_iff.mp H
            obtain ⟨⟨t315, t316⟩, A570, H⟩ := H
            replace H : (if t315 < 0 then (laws_FnExactBestTable.j1 kj6 l0 t300 true t297 t305) else ((laws_eqTable.f kj6 t305 t297).bind fun t317 => (if t317 = true then (laws_FnExactBestTable.j1 kj6 l0 t300 (t308 != t300) t297 t305) else (laws_FnExactBestTable.j1 kj6 l0 t300 true t297 t305)))) = some r := H
            have A57 := Aside0.mk A570
            clear A570
            have HC58 := Aside0.mk H
            clear H
            go_upto_region 12 with (first | ((with_reducible refine gate_callee (f := 7) rfl ?_); refine goesL_ (some 40) rfl rfl Tryz.func7 (by kernel_rfl) rfl #[.slice A0 l0.length c0] rfl (by (try simp only [List.map_toArray, List.map_cons, List.map_nil]); first | done | rfl | (simp only [List.length_drop, List.length_take]; rfl)) ?_; (with_reducible refine (laws_toIntS.calls kj6 _ _ l0 t311 _ ?side1 ?side2 A54.out).mono ?_); (case side1 => repeat (first | exact (Kd.C_below HR0.out HB.out) | (with_reducible refine Kd.C_alloc ?_ _) | (with_reducible refine Kd.C_drewN ?_ _) | (with_reducible refine Kd.C_drew ?_))); (case side2 => exact HC0.out); rintro e w59 ⟨v312, rfl, ho0, hb⟩; refine ⟨_, rfl, ?_⟩; have n0_ := Aside0.mk (Kd.R_elder' (by (with_reducible repeat (first | apply Kd.R_alloc | apply Kd.R_drewN | apply Kd.R_drew)); exact HO_5.out) (Kd.R_base ho0) hb); have n1_ := Aside0.mk (Kd.R_below (by (with_reducible repeat (first | apply Kd.R_alloc | apply Kd.R_drewN | apply Kd.R_drew)); exact HO_302000.out) hb); have n2_ := Aside0.mk (Kd.R_below (by (with_reducible repeat (first | apply Kd.R_alloc | apply Kd.R_drewN | apply Kd.R_drew)); exact HO_310000.out) hb); have n3_ := Aside0.mk (Kd.R_lower (Kd.R_new' ho0 (Kd.R_lt (by (with_reducible repeat (first | apply Kd.R_alloc | apply Kd.R_drewN | apply Kd.R_drew)); exact HO_5.out))) (below_size (by repeat (first | (with_reducible first | exact HB.out | apply below_alloc | apply pw_below_drewN | apply below_drew1 | refine below_set ?_ GE301.out | refine below_set ?_ GE309.out) | exact HB.out)))); have n4_ := Aside0.mk (blk_below (g := gb301) (o := .cells #[.slice Ao12 t297.length co12] 25 (0, 0)) (by (with_reducible repeat (first | refine blk_drewN ?_ _ | refine blk_drew ?_ | refine blk_alloc ?_ _)); exact BK301.out) hb); have n5_ := Aside0.mk (blk_below (g := gb309) (o := .cells #[.slice Ao20 t305.length co20] 25 (0, 0)) (by (with_reducible repeat (first | refine blk_drewN ?_ _ | refine blk_drew ?_ | refine blk_alloc ?_ _)); exact BK309.out) hb); have n6_ := Aside0.mk (below_step (by repeat (first | (with_reducible first | exact HB.out | apply below_alloc | apply pw_below_drewN | apply below_drew1 | refine below_set ?_ GE301.out | refine below_set ?_ GE309.out) | exact HB.out)) hb); clear HO_5; clear HO_302000; clear HO_310000; clear BK301; clear BK309; clear HB; have HO_5 := n0_; have HO_302000 := n1_; have HO_310000 := n2_; have HO313 := n3_; have BK301 := n4_; have BK309 := n5_; have HB := n6_; clear n0_ n1_ n2_ n3_ n4_ n5_ n6_; (try clear hb); (try clear hb2); (try clear hk); (try clear hi); (try clear ho0); obtain ⟨Ao60, co60, eo60⟩ := Kd.R_slice HO313.out; subst eo60) | ((with_reducible refine gate_callee (f := 10) rfl ?_); refine goesL_ (some 41) rfl rfl Tryz.func10 (by kernel_rfl) rfl #[.slice Ao17 t302.length co17, .slice Ao60 t311.length co60] rfl (by (try simp only [List.map_toArray, List.map_cons, List.map_nil]); first | done | rfl | (simp only [List.length_drop, List.length_take]; rfl)) ?_; (with_reducible refine (laws_eqIntS.calls kj6 _ _ t302 _ _ t311 true _ ?side1 ?side2 ?side3 ?side4 A55.out).mono ?_); (case side1 => repeat (first | exact (Kd.R_reads' HO_5.out).2.2 | (with_reducible refine Kd.C_alloc ?_ _) | (with_reducible refine Kd.C_drewN ?_ _) | (with_reducible refine Kd.C_drew ?_))); (case side2 => exact (Kd.R_reads' HO_5.out).2.1); (case side3 => repeat (first | exact (Kd.R_reads' HO313.out).2.2 | (with_reducible refine Kd.C_alloc ?_ _) | (with_reducible refine Kd.C_drewN ?_ _) | (with_reducible refine Kd.C_drew ?_))); (case side4 => exact (Kd.R_reads' HO313.out).2.1); rintro e w' ⟨rfl, ⟨nd, rfl⟩⟩; refine ⟨_, rfl, ?_⟩) | ((with_reducible refine gate_callee (f := 11) rfl ?_); refine goesL_ (some 45) rfl rfl Tryz.func11 (by kernel_rfl) rfl #[.slice Ao17 t302.length co17, .int .i64 1] rfl (by (try simp only [List.map_toArray, List.map_cons, List.map_nil]); first | done | rfl | (simp only [List.length_drop, List.length_take]; rfl)) ?_; (with_reducible refine (laws_markIntS.calls kj6 (fun k_ => some k_ = (.slice Ao17 t302.length co17 : Value).ownBlock) (.slice Ao17 t302.length co17) t302 1 t315 t316 w _ ?side1 ?side2 A57.out).mono ?_); (case side1 => repeat (first | (with_reducible first | exact HB.out | apply below_alloc | apply pw_below_drewN | apply below_drew1 | refine below_set ?_ GE301.out | refine below_set ?_ GE309.out) | exact HB.out)); (case side2 => exact Kd.R_tight rfl HO_5.out); rintro e w61 ⟨rfl, hy0, hb, hkp⟩; refine ⟨_, rfl, ?_⟩; have n0_ := Aside0.mk (Kd.R_reok rfl hy0 (fun k_ e_ => HO_5.out.1 k_ e_)); have n1_ := Aside0.mk (Kd.R_mono (ok' := fun k_ => some k_ ≠ (.slice Ao20 t305.length co20 : Value).ownBlock) (Kd.R_keptB ((Kd.R_apart' HO_302000.out (Kd.R_typed HO_5.out) (by decide))) hkp (fun k_ hk_ hs_ => (hk_.2) hs_)) (fun k_ hk_ => hk_.1.1)); have n2_ := Aside0.mk (Kd.R_mono (ok' := fun k_ => some k_ ≠ (.slice Ao12 t297.length co12 : Value).ownBlock) (Kd.R_keptB ((Kd.R_apart' HO_310000.out (Kd.R_typed HO_5.out) (by decide))) hkp (fun k_ hk_ hs_ => (hk_.2) hs_)) (fun k_ hk_ => hk_.1.1)); have n3_ := Aside0.mk (blk_kept (by (with_reducible repeat (first | refine blk_drewN ?_ _ | refine blk_drew ?_ | refine blk_alloc ?_ _)); exact BK301.out) hkp (fun hs_ => (fun e_ => (Kd.R_ne HO_5.out BK301.out (by decide)) e_) hs_)); have n4_ := Aside0.mk (blk_kept (by (with_reducible repeat (first | refine blk_drewN ?_ _ | refine blk_drew ?_ | refine blk_alloc ?_ _)); exact BK309.out) hkp (fun hs_ => (fun e_ => (Kd.R_ne HO_5.out BK309.out (by decide)) e_) hs_)); have n5_ := Aside0.mk (Kd.R_mono (ok' := fun k_ => some k_ ≠ (.slice Ao17 t302.length co17 : Value).ownBlock) (Kd.R_keptB (HO313.out) hkp (fun k_ hk_ hs_ => (hk_.2) hs_)) (fun k_ hk_ => hk_.1.2)); have n6_ := Aside0.mk (hb); clear HO_5; clear HO_302000; clear HO_310000; clear BK301; clear BK309; clear HO313; clear HB; have HO_5 := n0_; have HO_302000 := n1_; have HO_310000 := n2_; have BK301 := n3_; have BK309 := n4_; have HO313 := n5_; have HB := n6_; clear n0_ n1_ n2_ n3_ n4_ n5_ n6_; (try clear hb); (try clear hkp); (try clear hy0)))
            (try simp only [Act.put, List.setIfInBounds_toArray, List.set_cons_zero, List.set_cons_succ])
            go_cut [58] (fun v58 wc => ∃ (kq : Nat) (x58_57 : Bool), v58 = .bool x58_57 ∧ Aside0 (laws_FnExactBestTable.j1 kq l0 t300 x58_57 t297 t305 = some r) ∧ Aside0 (kq ≤ kj6) ∧ Aside0 (Kd.R Kd.string 9 wc w.heap.size (fun k_ => some k_ ≠ ((.slice Ao20 t305.length co20) : Value).ownBlock) (.slice Ao12 t297.length co12) t297) ∧ Aside0 (Kd.R Kd.string 9 wc w.heap.size (fun k_ => some k_ ≠ ((.slice Ao12 t297.length co12) : Value).ownBlock) (.slice Ao20 t305.length co20) t305) ∧ Aside0 (wc.heap[gb301]? = some (.cells #[(.slice Ao12 t297.length co12)] 25 (0, 0))) ∧ Aside0 (wc.heap[gb309]? = some (.cells #[(.slice Ao20 t305.length co20)] 25 (0, 0))) ∧ Aside0 (Below w.heap.size w wc))
            case first =>
              have H := HC58.out
              clear HC58
              by_cases c62 : t315 < 0
              · rw [if_pos c62] at H
                have c62b0 : decide (t315 < 0) = true := decide_eq_true c62
                clear c62
                (first | rw [c62b0] | (simp only [i64_w, i32_w]; rw [c62b0]) | skip)
                have H' := Aside0.mk H
                clear H
                go_wp2
                go_meet
                case rel => exact ⟨_, (true), (by first | rfl | (simp; done) | (simp [*]; done)), H', ⟨by have := HJ6.out; first | omega | exact Nat.le_refl _⟩, ⟨by (with_reducible repeat (first | apply Kd.R_alloc | apply Kd.R_drewN | apply Kd.R_drew)); exact HO_302000.out⟩, ⟨by (with_reducible repeat (first | apply Kd.R_alloc | apply Kd.R_drewN | apply Kd.R_drew)); exact HO_310000.out⟩, ⟨by (with_reducible repeat (first | refine blk_drewN ?_ _ | refine blk_drew ?_ | refine blk_alloc ?_ _)); exact BK301.out⟩, ⟨by (with_reducible repeat (first | refine blk_drewN ?_ _ | refine blk_drew ?_ | refine blk_alloc ?_ _)); exact BK309.out⟩, ⟨by repeat (first | (with_reducible first | exact HB.out | apply below_alloc | apply pw_below_drewN | apply below_drew1 | refine below_set ?_ GE301.out | refine below_set ?_ GE309.out) | exact HB.out)⟩⟩
              · rw [if_neg c62] at H
                have c62b0 : decide (t315 < 0) = false := decide_eq_false c62
                clear c62
                (first | rw [c62b0] | (simp only [i64_w, i32_w]; rw [c62b0]) | skip)
                replace H := Option.bind_eq_some_iff.mp H
                obtain ⟨t317, A630, H⟩ := H
                replace H : (if t317 = true then (laws_FnExactBestTable.j1 kj6 l0 t300 (t308 != t300) t297 t305) else (laws_FnExactBestTable.j1 kj6 l0 t300 true t297 t305)) = some r := H
                have A63 := Aside0.mk A630
                clear A630
                by_cases c64 : t317 = true
                · subst c64
                  have H1 : (laws_FnExactBestTable.j1 kj6 l0 t300 (t308 != t300) t297 t305) = some r := by rw [if_pos rfl] at H; first | exact H | (simp only [if_true, eq_self] at H ⊢; exact H)
                  clear H
                  have H := H1
                  clear H1
                  have H' := Aside0.mk H
                  clear H
                  have hnb65 := NB309_301.out
                  have hnc65 := NB301_309.out
                  (try (have hnw67 := Kd.R_ne HO_5.out BK309.out (by decide); change some gb309 ≠ some _ at hnw67; have how67 := fun (e_ : gb309 = _) => hnw67 (congrArg some e_); have hpw67 := fun e_ => how67 (Eq.symm e_); clear hnw67; replace how67 := eq_false how67; replace hpw67 := eq_false hpw67))
                  (try (have hnw68 := Kd.R_ne HO_302000.out BK309.out (by decide); change some gb309 ≠ some _ at hnw68; have how68 := fun (e_ : gb309 = _) => hnw68 (congrArg some e_); have hpw68 := fun e_ => how68 (Eq.symm e_); clear hnw68; replace how68 := eq_false how68; replace hpw68 := eq_false hpw68))
                  (try (have hnw69 := Kd.R_ne HO_310000.out BK309.out (by decide); change some gb309 ≠ some _ at hnw69; have how69 := fun (e_ : gb309 = _) => hnw69 (congrArg some e_); have hpw69 := fun e_ => how69 (Eq.symm e_); clear hnw69; replace how69 := eq_false how69; replace hpw69 := eq_false hpw69))
                  (try (have hnw70 := Kd.R_ne HO313.out BK309.out (by decide); change some gb309 ≠ some _ at hnw70; have how70 := fun (e_ : gb309 = _) => hnw70 (congrArg some e_); have hpw70 := fun e_ => how70 (Eq.symm e_); clear hnw70; replace how70 := eq_false how70; replace hpw70 := eq_false hpw70))
                  have hcz66_0 : w61.cell? ⟨gb309, 0, none⟩ = some (.slice Ao20 t305.length co20) := (blk_cell BK309.out 0).trans rfl
                  have hfz66_0 := blk_frozen BK309.out 0
                  (try (have hnw72 := Kd.R_ne HO_5.out BK301.out (by decide); change some gb301 ≠ some _ at hnw72; have how72 := fun (e_ : gb301 = _) => hnw72 (congrArg some e_); have hpw72 := fun e_ => how72 (Eq.symm e_); clear hnw72; replace how72 := eq_false how72; replace hpw72 := eq_false hpw72))
                  (try (have hnw73 := Kd.R_ne HO_302000.out BK301.out (by decide); change some gb301 ≠ some _ at hnw73; have how73 := fun (e_ : gb301 = _) => hnw73 (congrArg some e_); have hpw73 := fun e_ => how73 (Eq.symm e_); clear hnw73; replace how73 := eq_false how73; replace hpw73 := eq_false hpw73))
                  (try (have hnw74 := Kd.R_ne HO_310000.out BK301.out (by decide); change some gb301 ≠ some _ at hnw74; have how74 := fun (e_ : gb301 = _) => hnw74 (congrArg some e_); have hpw74 := fun e_ => how74 (Eq.symm e_); clear hnw74; replace how74 := eq_false how74; replace hpw74 := eq_false hpw74))
                  (try (have hnw75 := Kd.R_ne HO313.out BK301.out (by decide); change some gb301 ≠ some _ at hnw75; have how75 := fun (e_ : gb301 = _) => hnw75 (congrArg some e_); have hpw75 := fun e_ => how75 (Eq.symm e_); clear hnw75; replace how75 := eq_false how75; replace hpw75 := eq_false hpw75))
                  have hcz71_0 : w61.cell? ⟨gb301, 0, none⟩ = some (.slice Ao12 t297.length co12) := (blk_cell BK301.out 0).trans rfl
                  have hfz71_0 := blk_frozen BK301.out 0
                  go_wp2_with (first | (go_at_call 9; (with_reducible refine (laws_eqTable.calls kj6 _ _ t305 _ _ t297 true _ ?side1 ?side2 ?side3 ?side4 A63.out).mono ?_); (case side1 => repeat (first | exact (Kd.R_reads' HO_310000.out).2.2 | (with_reducible refine Kd.C_alloc ?_ _) | (with_reducible refine Kd.C_drewN ?_ _) | (with_reducible refine Kd.C_drew ?_))); (case side2 => exact (Kd.R_reads' HO_310000.out).2.1); (case side3 => repeat (first | exact (Kd.R_reads' HO_302000.out).2.2 | (with_reducible refine Kd.C_alloc ?_ _) | (with_reducible refine Kd.C_drewN ?_ _) | (with_reducible refine Kd.C_drew ?_))); (case side4 => exact (Kd.R_reads' HO_302000.out).2.1); rintro e w76 ⟨rfl, hb⟩; have n0_ := Aside0.mk (Kd.R_below (by (with_reducible repeat (first | apply Kd.R_alloc | apply Kd.R_drewN | apply Kd.R_drew)); exact HO_5.out) hb); have n1_ := Aside0.mk (Kd.R_below (by (with_reducible repeat (first | apply Kd.R_alloc | apply Kd.R_drewN | apply Kd.R_drew)); exact HO_302000.out) hb); have n2_ := Aside0.mk (Kd.R_below (by (with_reducible repeat (first | apply Kd.R_alloc | apply Kd.R_drewN | apply Kd.R_drew)); exact HO_310000.out) hb); have n3_ := Aside0.mk (Kd.R_below (by (with_reducible repeat (first | apply Kd.R_alloc | apply Kd.R_drewN | apply Kd.R_drew)); exact HO313.out) hb); have n4_ := Aside0.mk (blk_below (g := gb301) (o := .cells #[.slice Ao12 t297.length co12] 25 (0, 0)) (by (with_reducible repeat (first | refine blk_drewN ?_ _ | refine blk_drew ?_ | refine blk_alloc ?_ _)); exact BK301.out) hb); have n5_ := Aside0.mk (blk_below (g := gb309) (o := .cells #[.slice Ao20 t305.length co20] 25 (0, 0)) (by (with_reducible repeat (first | refine blk_drewN ?_ _ | refine blk_drew ?_ | refine blk_alloc ?_ _)); exact BK309.out) hb); have n6_ := Aside0.mk (below_step (by repeat (first | (with_reducible first | exact HB.out | apply below_alloc | apply pw_below_drewN | apply below_drew1 | refine below_set ?_ GE301.out | refine below_set ?_ GE309.out) | exact HB.out)) hb); clear HO_5; clear HO_302000; clear HO_310000; clear HO313; clear BK301; clear BK309; clear HB; have HO_5 := n0_; have HO_302000 := n1_; have HO_310000 := n2_; have HO313 := n3_; have BK301 := n4_; have BK309 := n5_; have HB := n6_; clear n0_ n1_ n2_ n3_ n4_ n5_ n6_; (try clear hb); (try clear hb2); (try clear hk); (try clear hi)))
                  go_meet
                  case rel => exact ⟨_, ((t308 != t300)), (by first | rfl | (simp; done) | (simp [*]; done)), H', ⟨by have := HJ6.out; first | omega | exact Nat.le_refl _⟩, ⟨by (with_reducible repeat (first | apply Kd.R_alloc | apply Kd.R_drewN | apply Kd.R_drew)); exact HO_302000.out⟩, ⟨by (with_reducible repeat (first | apply Kd.R_alloc | apply Kd.R_drewN | apply Kd.R_drew)); exact HO_310000.out⟩, ⟨by (with_reducible repeat (first | refine blk_drewN ?_ _ | refine blk_drew ?_ | refine blk_alloc ?_ _)); exact BK301.out⟩, ⟨by (with_reducible repeat (first | refine blk_drewN ?_ _ | refine blk_drew ?_ | refine blk_alloc ?_ _)); exact BK309.out⟩, ⟨by repeat (first | (with_reducible first | exact HB.out | apply below_alloc | apply pw_below_drewN | apply below_drew1 | refine below_set ?_ GE301.out | refine below_set ?_ GE309.out) | exact HB.out)⟩⟩
                · replace c64 := Bool.eq_false_iff.mpr c64
                  subst c64
                  have H1 : (laws_FnExactBestTable.j1 kj6 l0 t300 true t297 t305) = some r := by rw [if_neg (show ¬ (false = true) by decide)] at H; first | exact H | (simp only [if_true, eq_self] at H ⊢; exact H)
                  clear H
                  have H := H1
                  clear H1
                  have H' := Aside0.mk H
                  clear H
                  have hnb77 := NB309_301.out
                  have hnc77 := NB301_309.out
                  (try (have hnw79 := Kd.R_ne HO_5.out BK309.out (by decide); change some gb309 ≠ some _ at hnw79; have how79 := fun (e_ : gb309 = _) => hnw79 (congrArg some e_); have hpw79 := fun e_ => how79 (Eq.symm e_); clear hnw79; replace how79 := eq_false how79; replace hpw79 := eq_false hpw79))
                  (try (have hnw80 := Kd.R_ne HO_302000.out BK309.out (by decide); change some gb309 ≠ some _ at hnw80; have how80 := fun (e_ : gb309 = _) => hnw80 (congrArg some e_); have hpw80 := fun e_ => how80 (Eq.symm e_); clear hnw80; replace how80 := eq_false how80; replace hpw80 := eq_false hpw80))
                  (try (have hnw81 := Kd.R_ne HO_310000.out BK309.out (by decide); change some gb309 ≠ some _ at hnw81; have how81 := fun (e_ : gb309 = _) => hnw81 (congrArg some e_); have hpw81 := fun e_ => how81 (Eq.symm e_); clear hnw81; replace how81 := eq_false how81; replace hpw81 := eq_false hpw81))
                  (try (have hnw82 := Kd.R_ne HO313.out BK309.out (by decide); change some gb309 ≠ some _ at hnw82; have how82 := fun (e_ : gb309 = _) => hnw82 (congrArg some e_); have hpw82 := fun e_ => how82 (Eq.symm e_); clear hnw82; replace how82 := eq_false how82; replace hpw82 := eq_false hpw82))
                  have hcz78_0 : w61.cell? ⟨gb309, 0, none⟩ = some (.slice Ao20 t305.length co20) := (blk_cell BK309.out 0).trans rfl
                  have hfz78_0 := blk_frozen BK309.out 0
                  (try (have hnw84 := Kd.R_ne HO_5.out BK301.out (by decide); change some gb301 ≠ some _ at hnw84; have how84 := fun (e_ : gb301 = _) => hnw84 (congrArg some e_); have hpw84 := fun e_ => how84 (Eq.symm e_); clear hnw84; replace how84 := eq_false how84; replace hpw84 := eq_false hpw84))
                  (try (have hnw85 := Kd.R_ne HO_302000.out BK301.out (by decide); change some gb301 ≠ some _ at hnw85; have how85 := fun (e_ : gb301 = _) => hnw85 (congrArg some e_); have hpw85 := fun e_ => how85 (Eq.symm e_); clear hnw85; replace how85 := eq_false how85; replace hpw85 := eq_false hpw85))
                  (try (have hnw86 := Kd.R_ne HO_310000.out BK301.out (by decide); change some gb301 ≠ some _ at hnw86; have how86 := fun (e_ : gb301 = _) => hnw86 (congrArg some e_); have hpw86 := fun e_ => how86 (Eq.symm e_); clear hnw86; replace how86 := eq_false how86; replace hpw86 := eq_false hpw86))
                  (try (have hnw87 := Kd.R_ne HO313.out BK301.out (by decide); change some gb301 ≠ some _ at hnw87; have how87 := fun (e_ : gb301 = _) => hnw87 (congrArg some e_); have hpw87 := fun e_ => how87 (Eq.symm e_); clear hnw87; replace how87 := eq_false how87; replace hpw87 := eq_false hpw87))
                  have hcz83_0 : w61.cell? ⟨gb301, 0, none⟩ = some (.slice Ao12 t297.length co12) := (blk_cell BK301.out 0).trans rfl
                  have hfz83_0 := blk_frozen BK301.out 0
                  go_wp2_with (first | (go_at_call 9; (with_reducible refine (laws_eqTable.calls kj6 _ _ t305 _ _ t297 false _ ?side1 ?side2 ?side3 ?side4 A63.out).mono ?_); (case side1 => repeat (first | exact (Kd.R_reads' HO_310000.out).2.2 | (with_reducible refine Kd.C_alloc ?_ _) | (with_reducible refine Kd.C_drewN ?_ _) | (with_reducible refine Kd.C_drew ?_))); (case side2 => exact (Kd.R_reads' HO_310000.out).2.1); (case side3 => repeat (first | exact (Kd.R_reads' HO_302000.out).2.2 | (with_reducible refine Kd.C_alloc ?_ _) | (with_reducible refine Kd.C_drewN ?_ _) | (with_reducible refine Kd.C_drew ?_))); (case side4 => exact (Kd.R_reads' HO_302000.out).2.1); rintro e w88 ⟨rfl, hb⟩; have n0_ := Aside0.mk (Kd.R_below (by (with_reducible repeat (first | apply Kd.R_alloc | apply Kd.R_drewN | apply Kd.R_drew)); exact HO_5.out) hb); have n1_ := Aside0.mk (Kd.R_below (by (with_reducible repeat (first | apply Kd.R_alloc | apply Kd.R_drewN | apply Kd.R_drew)); exact HO_302000.out) hb); have n2_ := Aside0.mk (Kd.R_below (by (with_reducible repeat (first | apply Kd.R_alloc | apply Kd.R_drewN | apply Kd.R_drew)); exact HO_310000.out) hb); have n3_ := Aside0.mk (Kd.R_below (by (with_reducible repeat (first | apply Kd.R_alloc | apply Kd.R_drewN | apply Kd.R_drew)); exact HO313.out) hb); have n4_ := Aside0.mk (blk_below (g := gb301) (o := .cells #[.slice Ao12 t297.length co12] 25 (0, 0)) (by (with_reducible repeat (first | refine blk_drewN ?_ _ | refine blk_drew ?_ | refine blk_alloc ?_ _)); exact BK301.out) hb); have n5_ := Aside0.mk (blk_below (g := gb309) (o := .cells #[.slice Ao20 t305.length co20] 25 (0, 0)) (by (with_reducible repeat (first | refine blk_drewN ?_ _ | refine blk_drew ?_ | refine blk_alloc ?_ _)); exact BK309.out) hb); have n6_ := Aside0.mk (below_step (by repeat (first | (with_reducible first | exact HB.out | apply below_alloc | apply pw_below_drewN | apply below_drew1 | refine below_set ?_ GE301.out | refine below_set ?_ GE309.out) | exact HB.out)) hb); clear HO_5; clear HO_302000; clear HO_310000; clear HO313; clear BK301; clear BK309; clear HB; have HO_5 := n0_; have HO_302000 := n1_; have HO_310000 := n2_; have HO313 := n3_; have BK301 := n4_; have BK309 := n5_; have HB := n6_; clear n0_ n1_ n2_ n3_ n4_ n5_ n6_; (try clear hb); (try clear hb2); (try clear hk); (try clear hi)))
                  go_meet
                  case rel => exact ⟨_, (true), (by first | rfl | (simp; done) | (simp [*]; done)), H', ⟨by have := HJ6.out; first | omega | exact Nat.le_refl _⟩, ⟨by (with_reducible repeat (first | apply Kd.R_alloc | apply Kd.R_drewN | apply Kd.R_drew)); exact HO_302000.out⟩, ⟨by (with_reducible repeat (first | apply Kd.R_alloc | apply Kd.R_drewN | apply Kd.R_drew)); exact HO_310000.out⟩, ⟨by (with_reducible repeat (first | refine blk_drewN ?_ _ | refine blk_drew ?_ | refine blk_alloc ?_ _)); exact BK301.out⟩, ⟨by (with_reducible repeat (first | refine blk_drewN ?_ _ | refine blk_drew ?_ | refine blk_alloc ?_ _)); exact BK309.out⟩, ⟨by repeat (first | (with_reducible first | exact HB.out | apply below_alloc | apply pw_below_drewN | apply below_drew1 | refine below_set ?_ GE301.out | refine below_set ?_ GE309.out) | exact HB.out)⟩⟩
            case rest =>
              clear HC58
              try clear c1
              try clear c2
              try clear c2b0
              try clear c2b1
              try clear p2
              try clear c3
              try clear c4
              try clear c5
              try clear c6
              try clear c7
              try clear c8
              try clear c9
              try clear c10
              try clear c11
              try clear c21
              try clear c28
              try clear c29
              try clear c41
              try clear c53
              try clear c56
              try clear c62
              try clear c62b0
              try clear c64
              try clear c65
              try clear c77
              try clear hcz13_0
              try clear hcz22_0
              try clear hcz30_0
              try clear hcz35_0
              try clear hcz42_0
              try clear hcz47_0
              try clear hcz66_0
              try clear hcz71_0
              try clear hcz78_0
              try clear hcz83_0
              try clear hfz13_0
              try clear hfz22_0
              try clear hfz30_0
              try clear hfz35_0
              try clear hfz42_0
              try clear hfz47_0
              try clear hfz66_0
              try clear hfz71_0
              try clear hfz78_0
              try clear hfz83_0
              try clear p2
              obtain ⟨kq, x58_57, rfl, HA, HJ57, HO_302000, HO_310000, BK301, BK309, HB⟩ := hcut
              cases kq with
              | zero => exact absurd HA.out (by simp [laws_FnExactBestTable.j1])
              | succ kj57 =>
                have H := HA.out
                clear HA
                simp only [laws_FnExactBestTable.j1] at H
                by_cases c89 : x58_57 = true
                · subst c89
                  have H1 : (some false) = some r := by rw [if_pos rfl] at H; first | exact H | (simp only [if_true, eq_self] at H ⊢; exact H)
                  clear H
                  have H := H1
                  clear H1
                  obtain rfl := Option.some.inj H
                  go_wp2
                  go_ret
                  exact ⟨by first | rfl | (simp [errW_none, errW_some] <;> rfl) | (simp [*, errW_none, errW_some] <;> rfl), by repeat (first | (with_reducible first | exact HB.out | apply below_alloc | apply pw_below_drewN | apply below_drew1 | refine below_set ?_ GE301.out | refine below_set ?_ GE309.out) | exact HB.out)⟩
                · replace c89 := Bool.eq_false_iff.mpr c89
                  subst c89
                  have H1 : ((laws_markTable.f kj57 t305 1).bind fun bt318 => ((laws_heldTable.f kj57 bt318.2 1).bind fun t320 => (if t320 < 0 then (some false) else (if t320 = bt318.1 then ((laws_toIntS.f kj57 l0).bind fun t321 => ((impl_BestTable.f kj57 t321).bind fun bt324 => ((laws_eqTable.f kj57 bt324.1 t297).bind fun t329 => (if t329 = true then (laws_FnExactBestTable.j2 kj57 bt318.1 (bt324.2 != t300) bt318.2) else (laws_FnExactBestTable.j2 kj57 bt318.1 true bt318.2))))) else (some false))))) = some r := by rw [if_neg (show ¬ (false = true) by decide)] at H; first | exact H | (simp only [if_true, eq_self] at H ⊢; exact H)
                  clear H
                  have H := H1
                  clear H1
                  replace H := Option.bind_eq_some_iff.mp H
                  obtain ⟨⟨t318, t319⟩, A900, H⟩ := H
                  replace H : ((laws_heldTable.f kj57 t319 1).bind fun t320 => (if t320 < 0 then (some false) else (if t320 = t318 then ((laws_toIntS.f kj57 l0).bind fun t321 => ((impl_BestTable.f kj57 t321).bind fun bt324 => ((laws_eqTable.f kj57 bt324.1 t297).bind fun t329 => (if t329 = true then (laws_FnExactBestTable.j2 kj57 t318 (bt324.2 != t300) t319) else (laws_FnExactBestTable.j2 kj57 t318 true t319))))) else (some false)))) = some r := H
                  have A90 := Aside0.mk A900
                  clear A900
                  replace H := Option.bind_eq_some_iff.mp H
                  obtain ⟨t320, A910, H⟩ := H
                  replace H : (if t320 < 0 then (some false) else (if t320 = t318 then ((laws_toIntS.f kj57 l0).bind fun t321 => ((impl_BestTable.f kj57 t321).bind fun bt324 => ((laws_eqTable.f kj57 bt324.1 t297).bind fun t329 => (if t329 = true then (laws_FnExactBestTable.j2 kj57 t318 (bt324.2 != t300) t319) else (laws_FnExactBestTable.j2 kj57 t318 true t319))))) else (some false))) = some r := H
                  have A91 := Aside0.mk A910
                  clear A910
                  by_cases c92 : t320 < 0
                  · rw [if_pos c92] at H
                    have c92b0 : decide (t320 < 0) = true := decide_eq_true c92
                    clear c92
                    obtain rfl := Option.some.inj H
                    have hnb93 := NB309_301.out
                    have hnc93 := NB301_309.out
                    (try (have hnw95 := Kd.R_ne HO_302000.out BK309.out (by decide); change some gb309 ≠ some _ at hnw95; have how95 := fun (e_ : gb309 = _) => hnw95 (congrArg some e_); have hpw95 := fun e_ => how95 (Eq.symm e_); clear hnw95; replace how95 := eq_false how95; replace hpw95 := eq_false hpw95))
                    (try (have hnw96 := Kd.R_ne HO_310000.out BK309.out (by decide); change some gb309 ≠ some _ at hnw96; have how96 := fun (e_ : gb309 = _) => hnw96 (congrArg some e_); have hpw96 := fun e_ => how96 (Eq.symm e_); clear hnw96; replace how96 := eq_false how96; replace hpw96 := eq_false hpw96))
                    have hcz94_0 : wc.cell? ⟨gb309, 0, none⟩ = some (.slice Ao20 t305.length co20) := (blk_cell BK309.out 0).trans rfl
                    have hfz94_0 := blk_frozen BK309.out 0
                    go_wp2_with (first | ((with_reducible refine gate_callee (f := 12) rfl ?_); refine goesL_ (some 61) rfl rfl Tryz.func12 (by kernel_rfl) rfl #[.agg #[.slice Ao20 t305.length co20], .int .i64 1] rfl (by (try simp only [List.map_toArray, List.map_cons, List.map_nil]); first | done | rfl | (simp only [List.length_drop, List.length_take]; rfl)) ?_; (with_reducible refine (laws_markTable.calls kj57 (fun k_ => some k_ = (.slice Ao20 t305.length co20 : Value).ownBlock) (.slice Ao20 t305.length co20) t305 1 t318 t319 w _ ?side1 ?side2 A90.out).mono ?_); (case side1 => repeat (first | (with_reducible first | exact HB.out | apply below_alloc | apply pw_below_drewN | apply below_drew1 | refine below_set ?_ GE301.out | refine below_set ?_ GE309.out) | exact HB.out)); (case side2 => exact Kd.R_tight rfl HO_310000.out); rintro e w97 ⟨rfl, hy0, hb, hkp⟩; refine ⟨_, rfl, ?_⟩; have n0_ := Aside0.mk (Kd.R_mono (ok' := fun k_ => some k_ ≠ (.slice Ao20 t305.length co20 : Value).ownBlock) (Kd.R_keptB (HO_302000.out) hkp (fun k_ hk_ hs_ => (hk_) hs_)) (fun k_ hk_ => hk_.1)); have n1_ := Aside0.mk (Kd.R_reok rfl hy0 (fun k_ e_ => HO_310000.out.1 k_ e_)); have n2_ := Aside0.mk (blk_kept (by (with_reducible repeat (first | refine blk_drewN ?_ _ | refine blk_drew ?_ | refine blk_alloc ?_ _)); exact BK301.out) hkp (fun hs_ => (fun e_ => (Kd.R_ne HO_310000.out BK301.out (by decide)) e_) hs_)); have n3_ := Aside0.mk (blk_kept (by (with_reducible repeat (first | refine blk_drewN ?_ _ | refine blk_drew ?_ | refine blk_alloc ?_ _)); exact BK309.out) hkp (fun hs_ => (fun e_ => (Kd.R_ne HO_310000.out BK309.out (by decide)) e_) hs_)); have n4_ := Aside0.mk (hb); clear HO_302000; clear HO_310000; clear BK301; clear BK309; clear HB; have HO_302000 := n0_; have HO_310000 := n1_; have BK301 := n2_; have BK309 := n3_; have HB := n4_; clear n0_ n1_ n2_ n3_ n4_; (try clear hb); (try clear hkp); (try clear hy0); (try (have hnw99 := Kd.R_ne HO_302000.out BK309.out (by decide); change some gb309 ≠ some _ at hnw99; have how99 := fun (e_ : gb309 = _) => hnw99 (congrArg some e_); have hpw99 := fun e_ => how99 (Eq.symm e_); clear hnw99; replace how99 := eq_false how99; replace hpw99 := eq_false hpw99)); (try (have hnw100 := Kd.R_ne HO_310000.out BK309.out (by decide); change some gb309 ≠ some _ at hnw100; have how100 := fun (e_ : gb309 = _) => hnw100 (congrArg some e_); have hpw100 := fun e_ => how100 (Eq.symm e_); clear hnw100; replace how100 := eq_false how100; replace hpw100 := eq_false hpw100)); have hcz98_0 : w97.cell? ⟨gb309, 0, none⟩ = some (.slice Ao20 t305.length co20) := (blk_cell BK309.out 0).trans rfl; have hfz98_0 := blk_frozen BK309.out 0) | ((with_reducible refine gate_callee (f := 13) rfl ?_); refine goesL_ (some 64) rfl rfl Tryz.func13 (by kernel_rfl) rfl #[.agg #[.slice Ao20 t319.length co20], .int .i64 1] rfl (by (try simp only [List.map_toArray, List.map_cons, List.map_nil]); first | done | (rw [show t319.length = t305.length from (Kd.R_reads' HO_310000.out).1.symm] <;> rfl) | rfl | (simp only [List.length_drop, List.length_take]; rfl)) ?_; (with_reducible refine (laws_heldTable.calls kj57 _ _ t319 1 t320 _ ?side1 ?side2 A91.out).mono ?_); (case side1 => repeat (first | exact (Kd.R_reads' HO_310000.out).2.2 | (with_reducible refine Kd.C_alloc ?_ _) | (with_reducible refine Kd.C_drewN ?_ _) | (with_reducible refine Kd.C_drew ?_))); (case side2 => rw [show t319.length = t305.length from (Kd.R_reads' HO_310000.out).1.symm]; exact (Kd.R_reads' HO_310000.out).2.1); rintro e w101 ⟨rfl, hb⟩; refine ⟨_, rfl, ?_⟩; have n0_ := Aside0.mk (Kd.R_below (by (with_reducible repeat (first | apply Kd.R_alloc | apply Kd.R_drewN | apply Kd.R_drew)); exact HO_302000.out) hb); have n1_ := Aside0.mk (Kd.R_below (by (with_reducible repeat (first | apply Kd.R_alloc | apply Kd.R_drewN | apply Kd.R_drew)); exact HO_310000.out) hb); have n2_ := Aside0.mk (blk_below (g := gb301) (o := .cells #[.slice Ao12 t297.length co12] 25 (0, 0)) (by (with_reducible repeat (first | refine blk_drewN ?_ _ | refine blk_drew ?_ | refine blk_alloc ?_ _)); exact BK301.out) hb); have n3_ := Aside0.mk (blk_below (g := gb309) (o := .cells #[.slice Ao20 t305.length co20] 25 (0, 0)) (by (with_reducible repeat (first | refine blk_drewN ?_ _ | refine blk_drew ?_ | refine blk_alloc ?_ _)); exact BK309.out) hb); have n4_ := Aside0.mk (below_step (by repeat (first | (with_reducible first | exact HB.out | apply below_alloc | apply pw_below_drewN | apply below_drew1 | refine below_set ?_ GE301.out | refine below_set ?_ GE309.out) | exact HB.out)) hb); clear HO_302000; clear HO_310000; clear BK301; clear BK309; clear HB; have HO_302000 := n0_; have HO_310000 := n1_; have BK301 := n2_; have BK309 := n3_; have HB := n4_; clear n0_ n1_ n2_ n3_ n4_; (try clear hb); (try clear hb2); (try clear hk); (try clear hi)))
                    go_ret
                    exact ⟨by first | rfl | (simp [errW_none, errW_some] <;> rfl) | (simp [*, errW_none, errW_some] <;> rfl), by repeat (first | (with_reducible first | exact HB.out | apply below_alloc | apply pw_below_drewN | apply below_drew1 | refine below_set ?_ GE301.out | refine below_set ?_ GE309.out) | exact HB.out)⟩
                  · rw [if_neg c92] at H
                    have c92b0 : decide (t320 < 0) = false := decide_eq_false c92
                    clear c92
                    by_cases c102 : t320 = t318
                    · rw [if_pos c102] at H
                      have c102b0 : (t320 == t318) = true := beq_iff_eq.mpr c102
                      have c102b1 : (t320 != t318) = false := bne_eq_false_iff_eq.mpr c102
                      clear c102
                      replace H := Option.bind_eq_some_iff.mp H
                      obtain ⟨t321, A1030, H⟩ := H
                      replace H : ((impl_BestTable.f kj57 t321).bind fun bt324 => ((laws_eqTable.f kj57 bt324.1 t297).bind fun t329 => (if t329 = true then (laws_FnExactBestTable.j2 kj57 t318 (bt324.2 != t300) t319) else (laws_FnExactBestTable.j2 kj57 t318 true t319)))) = some r := H
                      have A103 := Aside0.mk A1030
                      clear A1030
                      replace H := Option.bind_eq_some_iff.mp H
                      obtain ⟨⟨t324, t327⟩, A1040, H⟩ := H
                      replace H : ((laws_eqTable.f kj57 t324 t297).bind fun t329 => (if t329 = true then (laws_FnExactBestTable.j2 kj57 t318 (t327 != t300) t319) else (laws_FnExactBestTable.j2 kj57 t318 true t319))) = some r := H
                      have A104 := Aside0.mk A1040
                      clear A1040
                      have HC105 := Aside0.mk H
                      clear H
                      have hnb106 := NB309_301.out
                      have hnc106 := NB301_309.out
                      (try (have hnw108 := Kd.R_ne HO_302000.out BK309.out (by decide); change some gb309 ≠ some _ at hnw108; have how108 := fun (e_ : gb309 = _) => hnw108 (congrArg some e_); have hpw108 := fun e_ => how108 (Eq.symm e_); clear hnw108; replace how108 := eq_false how108; replace hpw108 := eq_false hpw108))
                      (try (have hnw109 := Kd.R_ne HO_310000.out BK309.out (by decide); change some gb309 ≠ some _ at hnw109; have how109 := fun (e_ : gb309 = _) => hnw109 (congrArg some e_); have hpw109 := fun e_ => how109 (Eq.symm e_); clear hnw109; replace how109 := eq_false how109; replace hpw109 := eq_false hpw109))
                      have hcz107_0 : wc.cell? ⟨gb309, 0, none⟩ = some (.slice Ao20 t305.length co20) := (blk_cell BK309.out 0).trans rfl
                      have hfz107_0 := blk_frozen BK309.out 0
                      go_upto_region 23 with (first | ((with_reducible refine gate_callee (f := 12) rfl ?_); refine goesL_ (some 61) rfl rfl Tryz.func12 (by kernel_rfl) rfl #[.agg #[.slice Ao20 t305.length co20], .int .i64 1] rfl (by (try simp only [List.map_toArray, List.map_cons, List.map_nil]); first | done | rfl | (simp only [List.length_drop, List.length_take]; rfl)) ?_; (with_reducible refine (laws_markTable.calls kj57 (fun k_ => some k_ = (.slice Ao20 t305.length co20 : Value).ownBlock) (.slice Ao20 t305.length co20) t305 1 t318 t319 w _ ?side1 ?side2 A90.out).mono ?_); (case side1 => repeat (first | (with_reducible first | exact HB.out | apply below_alloc | apply pw_below_drewN | apply below_drew1 | refine below_set ?_ GE301.out | refine below_set ?_ GE309.out) | exact HB.out)); (case side2 => exact Kd.R_tight rfl HO_310000.out); rintro e w110 ⟨rfl, hy0, hb, hkp⟩; refine ⟨_, rfl, ?_⟩; have n0_ := Aside0.mk (Kd.R_mono (ok' := fun k_ => some k_ ≠ (.slice Ao20 t305.length co20 : Value).ownBlock) (Kd.R_keptB (HO_302000.out) hkp (fun k_ hk_ hs_ => (hk_) hs_)) (fun k_ hk_ => hk_.1)); have n1_ := Aside0.mk (Kd.R_reok rfl hy0 (fun k_ e_ => HO_310000.out.1 k_ e_)); have n2_ := Aside0.mk (blk_kept (by (with_reducible repeat (first | refine blk_drewN ?_ _ | refine blk_drew ?_ | refine blk_alloc ?_ _)); exact BK301.out) hkp (fun hs_ => (fun e_ => (Kd.R_ne HO_310000.out BK301.out (by decide)) e_) hs_)); have n3_ := Aside0.mk (blk_kept (by (with_reducible repeat (first | refine blk_drewN ?_ _ | refine blk_drew ?_ | refine blk_alloc ?_ _)); exact BK309.out) hkp (fun hs_ => (fun e_ => (Kd.R_ne HO_310000.out BK309.out (by decide)) e_) hs_)); have n4_ := Aside0.mk (hb); clear HO_302000; clear HO_310000; clear BK301; clear BK309; clear HB; have HO_302000 := n0_; have HO_310000 := n1_; have BK301 := n2_; have BK309 := n3_; have HB := n4_; clear n0_ n1_ n2_ n3_ n4_; (try clear hb); (try clear hkp); (try clear hy0); (try (have hnw112 := Kd.R_ne HO_302000.out BK309.out (by decide); change some gb309 ≠ some _ at hnw112; have how112 := fun (e_ : gb309 = _) => hnw112 (congrArg some e_); have hpw112 := fun e_ => how112 (Eq.symm e_); clear hnw112; replace how112 := eq_false how112; replace hpw112 := eq_false hpw112)); (try (have hnw113 := Kd.R_ne HO_310000.out BK309.out (by decide); change some gb309 ≠ some _ at hnw113; have how113 := fun (e_ : gb309 = _) => hnw113 (congrArg some e_); have hpw113 := fun e_ => how113 (Eq.symm e_); clear hnw113; replace how113 := eq_false how113; replace hpw113 := eq_false hpw113)); have hcz111_0 : w110.cell? ⟨gb309, 0, none⟩ = some (.slice Ao20 t305.length co20) := (blk_cell BK309.out 0).trans rfl; have hfz111_0 := blk_frozen BK309.out 0) | ((with_reducible refine gate_callee (f := 13) rfl ?_); refine goesL_ (some 64) rfl rfl Tryz.func13 (by kernel_rfl) rfl #[.agg #[.slice Ao20 t319.length co20], .int .i64 1] rfl (by (try simp only [List.map_toArray, List.map_cons, List.map_nil]); first | done | (rw [show t319.length = t305.length from (Kd.R_reads' HO_310000.out).1.symm] <;> rfl) | rfl | (simp only [List.length_drop, List.length_take]; rfl)) ?_; (with_reducible refine (laws_heldTable.calls kj57 _ _ t319 1 t320 _ ?side1 ?side2 A91.out).mono ?_); (case side1 => repeat (first | exact (Kd.R_reads' HO_310000.out).2.2 | (with_reducible refine Kd.C_alloc ?_ _) | (with_reducible refine Kd.C_drewN ?_ _) | (with_reducible refine Kd.C_drew ?_))); (case side2 => rw [show t319.length = t305.length from (Kd.R_reads' HO_310000.out).1.symm]; exact (Kd.R_reads' HO_310000.out).2.1); rintro e w114 ⟨rfl, hb⟩; refine ⟨_, rfl, ?_⟩; have n0_ := Aside0.mk (Kd.R_below (by (with_reducible repeat (first | apply Kd.R_alloc | apply Kd.R_drewN | apply Kd.R_drew)); exact HO_302000.out) hb); have n1_ := Aside0.mk (Kd.R_below (by (with_reducible repeat (first | apply Kd.R_alloc | apply Kd.R_drewN | apply Kd.R_drew)); exact HO_310000.out) hb); have n2_ := Aside0.mk (blk_below (g := gb301) (o := .cells #[.slice Ao12 t297.length co12] 25 (0, 0)) (by (with_reducible repeat (first | refine blk_drewN ?_ _ | refine blk_drew ?_ | refine blk_alloc ?_ _)); exact BK301.out) hb); have n3_ := Aside0.mk (blk_below (g := gb309) (o := .cells #[.slice Ao20 t305.length co20] 25 (0, 0)) (by (with_reducible repeat (first | refine blk_drewN ?_ _ | refine blk_drew ?_ | refine blk_alloc ?_ _)); exact BK309.out) hb); have n4_ := Aside0.mk (below_step (by repeat (first | (with_reducible first | exact HB.out | apply below_alloc | apply pw_below_drewN | apply below_drew1 | refine below_set ?_ GE301.out | refine below_set ?_ GE309.out) | exact HB.out)) hb); clear HO_302000; clear HO_310000; clear BK301; clear BK309; clear HB; have HO_302000 := n0_; have HO_310000 := n1_; have BK301 := n2_; have BK309 := n3_; have HB := n4_; clear n0_ n1_ n2_ n3_ n4_; (try clear hb); (try clear hb2); (try clear hk); (try clear hi)) | ((with_reducible refine gate_callee (f := 7) rfl ?_); refine goesL_ (some 72) rfl rfl Tryz.func7 (by kernel_rfl) rfl #[.slice A0 l0.length c0] rfl (by (try simp only [List.map_toArray, List.map_cons, List.map_nil]); first | done | rfl | (simp only [List.length_drop, List.length_take]; rfl)) ?_; (with_reducible refine (laws_toIntS.calls kj57 _ _ l0 t321 _ ?side1 ?side2 A103.out).mono ?_); (case side1 => repeat (first | exact (Kd.C_below HR0.out HB.out) | (with_reducible refine Kd.C_alloc ?_ _) | (with_reducible refine Kd.C_drewN ?_ _) | (with_reducible refine Kd.C_drew ?_))); (case side2 => exact HC0.out); rintro e w115 ⟨v322, rfl, ho0, hb⟩; refine ⟨_, rfl, ?_⟩; have n0_ := Aside0.mk (Kd.R_below (by (with_reducible repeat (first | apply Kd.R_alloc | apply Kd.R_drewN | apply Kd.R_drew)); exact HO_302000.out) hb); have n1_ := Aside0.mk (Kd.R_below (by (with_reducible repeat (first | apply Kd.R_alloc | apply Kd.R_drewN | apply Kd.R_drew)); exact HO_310000.out) hb); have n2_ := Aside0.mk (Kd.R_lower ho0 (below_size (by repeat (first | (with_reducible first | exact HB.out | apply below_alloc | apply pw_below_drewN | apply below_drew1 | refine below_set ?_ GE301.out | refine below_set ?_ GE309.out) | exact HB.out)))); have n3_ := Aside0.mk (blk_below (g := gb301) (o := .cells #[.slice Ao12 t297.length co12] 25 (0, 0)) (by (with_reducible repeat (first | refine blk_drewN ?_ _ | refine blk_drew ?_ | refine blk_alloc ?_ _)); exact BK301.out) hb); have n4_ := Aside0.mk (blk_below (g := gb309) (o := .cells #[.slice Ao20 t305.length co20] 25 (0, 0)) (by (with_reducible repeat (first | refine blk_drewN ?_ _ | refine blk_drew ?_ | refine blk_alloc ?_ _)); exact BK309.out) hb); have n5_ := Aside0.mk (below_step (by repeat (first | (with_reducible first | exact HB.out | apply below_alloc | apply pw_below_drewN | apply below_drew1 | refine below_set ?_ GE301.out | refine below_set ?_ GE309.out) | exact HB.out)) hb); clear HO_302000; clear HO_310000; clear BK301; clear BK309; clear HB; have HO_302000 := n0_; have HO_310000 := n1_; have HO323 := n2_; have BK301 := n3_; have BK309 := n4_; have HB := n5_; clear n0_ n1_ n2_ n3_ n4_ n5_; (try clear hb); (try clear hb2); (try clear hk); (try clear hi); (try clear ho0); obtain ⟨Ao116, co116, eo116⟩ := Kd.R_slice HO323.out; subst eo116) | ((with_reducible refine gate_callee (f := 8) rfl ?_); refine goesL_ (some 73) rfl rfl Tryz.func8 (by kernel_rfl) rfl #[.slice Ao116 t321.length co116] rfl (by (try simp only [List.map_toArray, List.map_cons, List.map_nil]); first | done | rfl | (simp only [List.length_drop, List.length_take]; rfl)) ?_; (with_reducible refine (impl_BestTable.calls kj57 _ _ t321 t324 t327 _ ?side1 ?side2 A104.out).mono ?_); (case side1 => repeat (first | exact (Kd.R_reads' HO323.out).2.2 | (with_reducible refine Kd.C_alloc ?_ _) | (with_reducible refine Kd.C_drewN ?_ _) | (with_reducible refine Kd.C_drew ?_))); (case side2 => exact (Kd.R_reads' HO323.out).2.1); rintro e w117 ⟨v325, rfl, ho0, hb⟩; refine ⟨_, rfl, ?_⟩; have n0_ := Aside0.mk (Kd.R_elder' (by (with_reducible repeat (first | apply Kd.R_alloc | apply Kd.R_drewN | apply Kd.R_drew)); exact HO_302000.out) (Kd.R_base ho0) hb); have n1_ := Aside0.mk (Kd.R_elder' (by (with_reducible repeat (first | apply Kd.R_alloc | apply Kd.R_drewN | apply Kd.R_drew)); exact HO_310000.out) (Kd.R_base ho0) hb); have n2_ := Aside0.mk (Kd.R_below (by (with_reducible repeat (first | apply Kd.R_alloc | apply Kd.R_drewN | apply Kd.R_drew)); exact HO323.out) hb); have n3_ := Aside0.mk (Kd.R_lower (Kd.R_new' (Kd.R_new' ho0 (Kd.R_lt (by (with_reducible repeat (first | apply Kd.R_alloc | apply Kd.R_drewN | apply Kd.R_drew)); exact HO_302000.out))) (Kd.R_lt (by (with_reducible repeat (first | apply Kd.R_alloc | apply Kd.R_drewN | apply Kd.R_drew)); exact HO_310000.out))) (below_size (by repeat (first | (with_reducible first | exact HB.out | apply below_alloc | apply pw_below_drewN | apply below_drew1 | refine below_set ?_ GE301.out | refine below_set ?_ GE309.out) | exact HB.out)))); have n4_ := Aside0.mk (blk_below (g := gb301) (o := .cells #[.slice Ao12 t297.length co12] 25 (0, 0)) (by (with_reducible repeat (first | refine blk_drewN ?_ _ | refine blk_drew ?_ | refine blk_alloc ?_ _)); exact BK301.out) hb); have n5_ := Aside0.mk (blk_below (g := gb309) (o := .cells #[.slice Ao20 t305.length co20] 25 (0, 0)) (by (with_reducible repeat (first | refine blk_drewN ?_ _ | refine blk_drew ?_ | refine blk_alloc ?_ _)); exact BK309.out) hb); have n6_ := Aside0.mk (below_step (by repeat (first | (with_reducible first | exact HB.out | apply below_alloc | apply pw_below_drewN | apply below_drew1 | refine below_set ?_ GE301.out | refine below_set ?_ GE309.out) | exact HB.out)) hb); clear HO_302000; clear HO_310000; clear HO323; clear BK301; clear BK309; clear HB; have HO_302000 := n0_; have HO_310000 := n1_; have HO323 := n2_; have HO326 := n3_; have BK301 := n4_; have BK309 := n5_; have HB := n6_; clear n0_ n1_ n2_ n3_ n4_ n5_ n6_; (try clear hb); (try clear hb2); (try clear hk); (try clear hi); (try clear ho0)) | ((with_reducible refine gate_dst (N := 11) rfl ?_); refine box_event ?hg (N := 11) ?hd (cs := #[.slice none 0 0]) (t := 25) ?hr ?_; (case hd => rfl); (case hg => rfl); (case hr => first | (go_simp; done) | (go_simp; rfl)); intro gb328 hg w118 hbox hb; have n0_ := Aside0.mk (Kd.R_below (by (with_reducible repeat (first | apply Kd.R_alloc | apply Kd.R_drewN | apply Kd.R_drew)); exact HO_302000.out) hb); have n1_ := Aside0.mk (Kd.R_below (by (with_reducible repeat (first | apply Kd.R_alloc | apply Kd.R_drewN | apply Kd.R_drew)); exact HO_310000.out) hb); have n2_ := Aside0.mk (Kd.R_below (by (with_reducible repeat (first | apply Kd.R_alloc | apply Kd.R_drewN | apply Kd.R_drew)); exact HO323.out) hb); have n3_ := Aside0.mk (Kd.R_below (by (with_reducible repeat (first | apply Kd.R_alloc | apply Kd.R_drewN | apply Kd.R_drew)); exact HO326.out) hb); have n4_ := Aside0.mk (blk_below (g := gb301) (o := .cells #[.slice Ao12 t297.length co12] 25 (0, 0)) (by (with_reducible repeat (first | refine blk_drewN ?_ _ | refine blk_drew ?_ | refine blk_alloc ?_ _)); exact BK301.out) hb); have n5_ := Aside0.mk (blk_below (g := gb309) (o := .cells #[.slice Ao20 t305.length co20] 25 (0, 0)) (by (with_reducible repeat (first | refine blk_drewN ?_ _ | refine blk_drew ?_ | refine blk_alloc ?_ _)); exact BK309.out) hb); have n6_ := Aside0.mk (below_step (by repeat (first | (with_reducible first | exact HB.out | apply below_alloc | apply pw_below_drewN | apply below_drew1 | refine below_set ?_ GE301.out | refine below_set ?_ GE309.out) | exact HB.out)) hb); have n7_ := Aside0.mk (hbox); have n8_ := Aside0.mk ((by rw [hg]; exact (below_size (by repeat (first | (with_reducible first | exact HB.out | apply below_alloc | apply pw_below_drewN | apply below_drew1 | refine below_set ?_ GE301.out | refine below_set ?_ GE309.out) | exact HB.out))) : w.heap.size ≤ gb328)); have n9_ := Aside0.mk ((by rw [hg]; exact (below_size (by repeat (first | (with_reducible first | exact HB.out | apply below_alloc | apply pw_below_drewN | apply below_drew1 | refine below_set ?_ GE301.out | refine below_set ?_ GE309.out) | exact HB.out))) : w.heap.size ≤ gb328)); have n10_ := Aside0.mk ((by rw [hg]; exact Nat.ne_of_lt (blk_lt (g := gb301) (o := .cells #[.slice Ao12 t297.length co12] 25 (0, 0)) (by (with_reducible repeat (first | refine blk_drewN ?_ _ | refine blk_drew ?_ | refine blk_alloc ?_ _)); exact BK301.out)) : gb301 ≠ gb328)); have n11_ := Aside0.mk ((by rw [hg]; exact Nat.ne_of_gt (blk_lt (g := gb301) (o := .cells #[.slice Ao12 t297.length co12] 25 (0, 0)) (by (with_reducible repeat (first | refine blk_drewN ?_ _ | refine blk_drew ?_ | refine blk_alloc ?_ _)); exact BK301.out)) : gb328 ≠ gb301)); have n12_ := Aside0.mk ((by rw [hg]; exact Nat.ne_of_lt (blk_lt (g := gb309) (o := .cells #[.slice Ao20 t305.length co20] 25 (0, 0)) (by (with_reducible repeat (first | refine blk_drewN ?_ _ | refine blk_drew ?_ | refine blk_alloc ?_ _)); exact BK309.out)) : gb309 ≠ gb328)); have n13_ := Aside0.mk ((by rw [hg]; exact Nat.ne_of_gt (blk_lt (g := gb309) (o := .cells #[.slice Ao20 t305.length co20] 25 (0, 0)) (by (with_reducible repeat (first | refine blk_drewN ?_ _ | refine blk_drew ?_ | refine blk_alloc ?_ _)); exact BK309.out)) : gb328 ≠ gb309)); clear HO_302000; clear HO_310000; clear HO323; clear HO326; clear BK301; clear BK309; clear HB; have HO_302000 := n0_; have HO_310000 := n1_; have HO323 := n2_; have HO326 := n3_; have BK301 := n4_; have BK309 := n5_; have HB := n6_; have BK328 := n7_; have GW328 := n8_; have GE328 := n9_; have NB301_328 := n10_; have NB328_301 := n11_; have NB309_328 := n12_; have NB328_309 := n13_; clear n0_ n1_ n2_ n3_ n4_ n5_ n6_ n7_ n8_ n9_ n10_ n11_ n12_ n13_; clear hb hbox hg; obtain ⟨Ao119, co119, eo119⟩ := Kd.R_slice HO326.out; subst eo119; have hnb120 := NB328_301.out; have hnc120 := NB301_328.out; have hnb121 := NB328_309.out; have hnc121 := NB309_328.out; (try (have hnw123 := Kd.R_ne HO_302000.out BK328.out (by decide); change some gb328 ≠ some _ at hnw123; have how123 := fun (e_ : gb328 = _) => hnw123 (congrArg some e_); have hpw123 := fun e_ => how123 (Eq.symm e_); clear hnw123; replace how123 := eq_false how123; replace hpw123 := eq_false hpw123)); (try (have hnw124 := Kd.R_ne HO_310000.out BK328.out (by decide); change some gb328 ≠ some _ at hnw124; have how124 := fun (e_ : gb328 = _) => hnw124 (congrArg some e_); have hpw124 := fun e_ => how124 (Eq.symm e_); clear hnw124; replace how124 := eq_false how124; replace hpw124 := eq_false hpw124)); (try (have hnw125 := Kd.R_ne HO323.out BK328.out (by decide); change some gb328 ≠ some _ at hnw125; have how125 := fun (e_ : gb328 = _) => hnw125 (congrArg some e_); have hpw125 := fun e_ => how125 (Eq.symm e_); clear hnw125; replace how125 := eq_false how125; replace hpw125 := eq_false hpw125)); (try (have hnw126 := Kd.R_ne HO326.out BK328.out (by decide); change some gb328 ≠ some _ at hnw126; have how126 := fun (e_ : gb328 = _) => hnw126 (congrArg some e_); have hpw126 := fun e_ => how126 (Eq.symm e_); clear hnw126; replace how126 := eq_false how126; replace hpw126 := eq_false hpw126)); have hcz122_0 : w118.cell? ⟨gb328, 0, none⟩ = some (.slice none 0 0) := (blk_cell BK328.out 0).trans rfl; have hfz122_0 := blk_frozen BK328.out 0))
                      (try simp only [Act.put, List.setIfInBounds_toArray, List.set_cons_zero, List.set_cons_succ])
                      go_cut [84] (fun v84 wc => ∃ (kq : Nat) (x84_104 : Bool), v84 = .bool x84_104 ∧ Aside0 (laws_FnExactBestTable.j2 kq t318 x84_104 t319 = some r) ∧ Aside0 (kq ≤ kj57) ∧ Aside0 (Kd.R Kd.string 9 wc w.heap.size (fun k_ => some k_ ≠ ((.slice Ao20 t305.length co20) : Value).ownBlock ∧ some k_ ≠ ((.slice Ao119 t324.length co119) : Value).ownBlock) (.slice Ao12 t297.length co12) t297) ∧ Aside0 (Kd.R Kd.string 9 wc w.heap.size (fun k_ => some k_ ≠ ((.slice Ao12 t297.length co12) : Value).ownBlock ∧ some k_ ≠ ((.slice Ao119 t324.length co119) : Value).ownBlock) (.slice Ao20 t305.length co20) t319) ∧ Aside0 (Kd.R Kd.string 9 wc w.heap.size (fun k_ => some k_ ≠ ((.slice Ao12 t297.length co12) : Value).ownBlock ∧ some k_ ≠ ((.slice Ao20 t305.length co20) : Value).ownBlock) (.slice Ao119 t324.length co119) t324) ∧ Aside0 (wc.heap[gb301]? = some (.cells #[(.slice Ao12 t297.length co12)] 25 (0, 0))) ∧ Aside0 (wc.heap[gb309]? = some (.cells #[(.slice Ao20 t305.length co20)] 25 (0, 0))) ∧ Aside0 (wc.heap[gb328]? = some (.cells #[(.slice Ao119 t324.length co119)] 25 (0, 0))) ∧ Aside0 (Below w.heap.size w wc))
                      case first =>
                        have H := HC105.out
                        clear HC105
                        replace H := Option.bind_eq_some_iff.mp H
                        obtain ⟨t329, A1270, H⟩ := H
                        replace H : (if t329 = true then (laws_FnExactBestTable.j2 kj57 t318 (t327 != t300) t319) else (laws_FnExactBestTable.j2 kj57 t318 true t319)) = some r := H
                        have A127 := Aside0.mk A1270
                        clear A1270
                        by_cases c128 : t329 = true
                        · subst c128
                          have H1 : (laws_FnExactBestTable.j2 kj57 t318 (t327 != t300) t319) = some r := by rw [if_pos rfl] at H; first | exact H | (simp only [if_true, eq_self] at H ⊢; exact H)
                          clear H
                          have H := H1
                          clear H1
                          have H' := Aside0.mk H
                          clear H
                          have hnb129 := NB328_301.out
                          have hnc129 := NB301_328.out
                          have hnb130 := NB328_309.out
                          have hnc130 := NB309_328.out
                          (try (have hnw132 := Kd.R_ne HO_302000.out BK328.out (by decide); change some gb328 ≠ some _ at hnw132; have how132 := fun (e_ : gb328 = _) => hnw132 (congrArg some e_); have hpw132 := fun e_ => how132 (Eq.symm e_); clear hnw132; replace how132 := eq_false how132; replace hpw132 := eq_false hpw132))
                          (try (have hnw133 := Kd.R_ne HO_310000.out BK328.out (by decide); change some gb328 ≠ some _ at hnw133; have how133 := fun (e_ : gb328 = _) => hnw133 (congrArg some e_); have hpw133 := fun e_ => how133 (Eq.symm e_); clear hnw133; replace how133 := eq_false how133; replace hpw133 := eq_false hpw133))
                          (try (have hnw134 := Kd.R_ne HO323.out BK328.out (by decide); change some gb328 ≠ some _ at hnw134; have how134 := fun (e_ : gb328 = _) => hnw134 (congrArg some e_); have hpw134 := fun e_ => how134 (Eq.symm e_); clear hnw134; replace how134 := eq_false how134; replace hpw134 := eq_false hpw134))
                          (try (have hnw135 := Kd.R_ne HO326.out BK328.out (by decide); change some gb328 ≠ some _ at hnw135; have how135 := fun (e_ : gb328 = _) => hnw135 (congrArg some e_); have hpw135 := fun e_ => how135 (Eq.symm e_); clear hnw135; replace how135 := eq_false how135; replace hpw135 := eq_false hpw135))
                          have hcz131_0 : w118.cell? ⟨gb328, 0, none⟩ = some (.slice none 0 0) := (blk_cell BK328.out 0).trans rfl
                          have hfz131_0 := blk_frozen BK328.out 0
                          have hnb136 := NB301_309.out
                          have hnc136 := NB309_301.out
                          (try (have hnw138 := Kd.R_ne HO_302000.out BK301.out (by decide); change some gb301 ≠ some _ at hnw138; have how138 := fun (e_ : gb301 = _) => hnw138 (congrArg some e_); have hpw138 := fun e_ => how138 (Eq.symm e_); clear hnw138; replace how138 := eq_false how138; replace hpw138 := eq_false hpw138))
                          (try (have hnw139 := Kd.R_ne HO_310000.out BK301.out (by decide); change some gb301 ≠ some _ at hnw139; have how139 := fun (e_ : gb301 = _) => hnw139 (congrArg some e_); have hpw139 := fun e_ => how139 (Eq.symm e_); clear hnw139; replace how139 := eq_false how139; replace hpw139 := eq_false hpw139))
                          (try (have hnw140 := Kd.R_ne HO323.out BK301.out (by decide); change some gb301 ≠ some _ at hnw140; have how140 := fun (e_ : gb301 = _) => hnw140 (congrArg some e_); have hpw140 := fun e_ => how140 (Eq.symm e_); clear hnw140; replace how140 := eq_false how140; replace hpw140 := eq_false hpw140))
                          (try (have hnw141 := Kd.R_ne HO326.out BK301.out (by decide); change some gb301 ≠ some _ at hnw141; have how141 := fun (e_ : gb301 = _) => hnw141 (congrArg some e_); have hpw141 := fun e_ => how141 (Eq.symm e_); clear hnw141; replace how141 := eq_false how141; replace hpw141 := eq_false hpw141))
                          have hcz137_0 : w118.cell? ⟨gb301, 0, none⟩ = some (.slice Ao12 t297.length co12) := (blk_cell BK301.out 0).trans rfl
                          have hfz137_0 := blk_frozen BK301.out 0
                          go_wp2_with (first | ((with_reducible refine gate_callee (f := 9) rfl ?_); refine goesL_ (some 78) rfl rfl Tryz.func9 (by kernel_rfl) rfl #[.agg #[.slice Ao119 t324.length co119], .agg #[.slice Ao12 t297.length co12]] rfl (by (try simp only [List.map_toArray, List.map_cons, List.map_nil]); first | done | rfl | (simp only [List.length_drop, List.length_take]; rfl)) ?_; (with_reducible refine (laws_eqTable.calls kj57 _ _ t324 _ _ t297 true _ ?side1 ?side2 ?side3 ?side4 A127.out).mono ?_); (case side1 => refine (Kd.R_reads' (e := 9) (base := w.heap.size) (ok := fun k_ => ((True ∧ some k_ ≠ (.slice Ao12 t297.length co12 : Value).ownBlock) ∧ some k_ ≠ (.slice Ao20 t305.length co20 : Value).ownBlock)) (n := t324.length) (c := co119) ?_).2.2; exact (by (with_reducible repeat (first | apply Kd.R_alloc | apply Kd.R_drewN | apply Kd.R_drew)); exact (Kd.R_mono (Kd.R_far (p := ⟨gb328, 0, none⟩) (Kd.R_types HO326.out BK328.out (by decide)) (fun _ hk => hk.2) (.slice Ao119 t324.length co119)) (fun _ h_ => h_.1)))); (case side2 => exact (Kd.R_reads' HO326.out).2.1); (case side3 => refine (Kd.R_reads' (e := 9) (base := w.heap.size) (ok := fun k_ => (some k_ ≠ (.slice Ao20 t305.length co20 : Value).ownBlock ∧ some k_ ≠ (.slice Ao119 t324.length co119 : Value).ownBlock)) (n := t297.length) (c := co12) ?_).2.2; exact (by (with_reducible repeat (first | apply Kd.R_alloc | apply Kd.R_drewN | apply Kd.R_drew)); exact (Kd.R_mono (Kd.R_far (p := ⟨gb328, 0, none⟩) (Kd.R_types HO_302000.out BK328.out (by decide)) (fun _ hk => hk.2) (.slice Ao119 t324.length co119)) (fun _ h_ => h_.1)))); (case side4 => exact (Kd.R_reads' HO_302000.out).2.1); rintro e w142 ⟨rfl, hb⟩; refine ⟨_, rfl, ?_⟩; have n0_ := Aside0.mk (Kd.R_below (by (with_reducible repeat (first | apply Kd.R_alloc | apply Kd.R_drewN | apply Kd.R_drew)); exact (Kd.R_mono (Kd.R_far (p := ⟨gb328, 0, none⟩) (Kd.R_types HO_302000.out BK328.out (by decide)) (fun _ hk => hk.2) (.slice Ao119 t324.length co119)) (fun _ h_ => h_.1))) hb); have n1_ := Aside0.mk (Kd.R_below (by (with_reducible repeat (first | apply Kd.R_alloc | apply Kd.R_drewN | apply Kd.R_drew)); exact (Kd.R_mono (Kd.R_far (p := ⟨gb328, 0, none⟩) (Kd.R_types HO_310000.out BK328.out (by decide)) (fun _ hk => hk.2) (.slice Ao119 t324.length co119)) (fun _ h_ => h_.1))) hb); have n2_ := Aside0.mk (Kd.R_below (by (with_reducible repeat (first | apply Kd.R_alloc | apply Kd.R_drewN | apply Kd.R_drew)); exact (Kd.R_mono (Kd.R_far (p := ⟨gb328, 0, none⟩) (Kd.R_types HO323.out BK328.out (by decide)) (fun _ hk => hk.2) (.slice Ao119 t324.length co119)) (fun _ h_ => h_.1))) hb); have n3_ := Aside0.mk (Kd.R_below (by (with_reducible repeat (first | apply Kd.R_alloc | apply Kd.R_drewN | apply Kd.R_drew)); exact (Kd.R_mono (Kd.R_far (p := ⟨gb328, 0, none⟩) (Kd.R_types HO326.out BK328.out (by decide)) (fun _ hk => hk.2) (.slice Ao119 t324.length co119)) (fun _ h_ => h_.1))) hb); have n4_ := Aside0.mk (blk_below (g := gb301) (o := .cells #[.slice Ao12 t297.length co12] 25 (0, 0)) (by (with_reducible repeat (first | refine blk_drewN ?_ _ | refine blk_drew ?_ | refine blk_alloc ?_ _)); refine blk_far ?_ NB301_328.out _; (with_reducible repeat (first | refine blk_drewN ?_ _ | refine blk_drew ?_ | refine blk_alloc ?_ _)); exact BK301.out) hb); have n5_ := Aside0.mk (blk_below (g := gb309) (o := .cells #[.slice Ao20 t305.length co20] 25 (0, 0)) (by (with_reducible repeat (first | refine blk_drewN ?_ _ | refine blk_drew ?_ | refine blk_alloc ?_ _)); refine blk_far ?_ NB309_328.out _; (with_reducible repeat (first | refine blk_drewN ?_ _ | refine blk_drew ?_ | refine blk_alloc ?_ _)); exact BK309.out) hb); have n6_ := Aside0.mk (blk_below (g := gb328) (o := .cells #[.slice Ao119 t324.length co119] 25 (0, 0)) (by (with_reducible repeat (first | refine blk_drewN ?_ _ | refine blk_drew ?_ | refine blk_alloc ?_ _)); refine blk_put (cs := #[.slice none 0 0]) ?_ 0 _ rfl; (with_reducible repeat (first | refine blk_drewN ?_ _ | refine blk_drew ?_ | refine blk_alloc ?_ _)); exact BK328.out) hb); have n7_ := Aside0.mk (below_step (by repeat (first | (with_reducible first | exact HB.out | apply below_alloc | apply pw_below_drewN | apply below_drew1 | refine below_set ?_ GE301.out | refine below_set ?_ GE309.out | refine below_set ?_ GE328.out) | exact HB.out)) hb); clear HO_302000; clear HO_310000; clear HO323; clear HO326; clear BK301; clear BK309; clear BK328; clear HB; have HO_302000 := n0_; have HO_310000 := n1_; have HO323 := n2_; have HO326 := n3_; have BK301 := n4_; have BK309 := n5_; have BK328 := n6_; have HB := n7_; clear n0_ n1_ n2_ n3_ n4_ n5_ n6_ n7_; (try clear hb); (try clear hb2); (try clear hk); (try clear hi)))
                          go_meet
                          case rel => exact ⟨_, ((t327 != t300)), (by first | rfl | (simp; done) | (simp [*]; done)), H', ⟨by have := HJ6.out; have := HJ57.out; first | omega | exact Nat.le_refl _⟩, ⟨by (with_reducible repeat (first | apply Kd.R_alloc | apply Kd.R_drewN | apply Kd.R_drew)); exact HO_302000.out⟩, ⟨by (with_reducible repeat (first | apply Kd.R_alloc | apply Kd.R_drewN | apply Kd.R_drew)); exact HO_310000.out⟩, ⟨by (with_reducible repeat (first | apply Kd.R_alloc | apply Kd.R_drewN | apply Kd.R_drew)); exact Kd.R_mono HO326.out (fun _ hk => ⟨hk.1.2, hk.2⟩)⟩, ⟨by (with_reducible repeat (first | refine blk_drewN ?_ _ | refine blk_drew ?_ | refine blk_alloc ?_ _)); exact BK301.out⟩, ⟨by (with_reducible repeat (first | refine blk_drewN ?_ _ | refine blk_drew ?_ | refine blk_alloc ?_ _)); exact BK309.out⟩, ⟨by (with_reducible repeat (first | refine blk_drewN ?_ _ | refine blk_drew ?_ | refine blk_alloc ?_ _)); exact BK328.out⟩, ⟨by repeat (first | (with_reducible first | exact HB.out | apply below_alloc | apply pw_below_drewN | apply below_drew1 | refine below_set ?_ GE301.out | refine below_set ?_ GE309.out | refine below_set ?_ GE328.out) | exact HB.out)⟩⟩
                        · replace c128 := Bool.eq_false_iff.mpr c128
                          subst c128
                          have H1 : (laws_FnExactBestTable.j2 kj57 t318 true t319) = some r := by rw [if_neg (show ¬ (false = true) by decide)] at H; first | exact H | (simp only [if_true, eq_self] at H ⊢; exact H)
                          clear H
                          have H := H1
                          clear H1
                          have H' := Aside0.mk H
                          clear H
                          have hnb143 := NB328_301.out
                          have hnc143 := NB301_328.out
                          have hnb144 := NB328_309.out
                          have hnc144 := NB309_328.out
                          (try (have hnw146 := Kd.R_ne HO_302000.out BK328.out (by decide); change some gb328 ≠ some _ at hnw146; have how146 := fun (e_ : gb328 = _) => hnw146 (congrArg some e_); have hpw146 := fun e_ => how146 (Eq.symm e_); clear hnw146; replace how146 := eq_false how146; replace hpw146 := eq_false hpw146))
                          (try (have hnw147 := Kd.R_ne HO_310000.out BK328.out (by decide); change some gb328 ≠ some _ at hnw147; have how147 := fun (e_ : gb328 = _) => hnw147 (congrArg some e_); have hpw147 := fun e_ => how147 (Eq.symm e_); clear hnw147; replace how147 := eq_false how147; replace hpw147 := eq_false hpw147))
                          (try (have hnw148 := Kd.R_ne HO323.out BK328.out (by decide); change some gb328 ≠ some _ at hnw148; have how148 := fun (e_ : gb328 = _) => hnw148 (congrArg some e_); have hpw148 := fun e_ => how148 (Eq.symm e_); clear hnw148; replace how148 := eq_false how148; replace hpw148 := eq_false hpw148))
                          (try (have hnw149 := Kd.R_ne HO326.out BK328.out (by decide); change some gb328 ≠ some _ at hnw149; have how149 := fun (e_ : gb328 = _) => hnw149 (congrArg some e_); have hpw149 := fun e_ => how149 (Eq.symm e_); clear hnw149; replace how149 := eq_false how149; replace hpw149 := eq_false hpw149))
                          have hcz145_0 : w118.cell? ⟨gb328, 0, none⟩ = some (.slice none 0 0) := (blk_cell BK328.out 0).trans rfl
                          have hfz145_0 := blk_frozen BK328.out 0
                          have hnb150 := NB301_309.out
                          have hnc150 := NB309_301.out
                          (try (have hnw152 := Kd.R_ne HO_302000.out BK301.out (by decide); change some gb301 ≠ some _ at hnw152; have how152 := fun (e_ : gb301 = _) => hnw152 (congrArg some e_); have hpw152 := fun e_ => how152 (Eq.symm e_); clear hnw152; replace how152 := eq_false how152; replace hpw152 := eq_false hpw152))
                          (try (have hnw153 := Kd.R_ne HO_310000.out BK301.out (by decide); change some gb301 ≠ some _ at hnw153; have how153 := fun (e_ : gb301 = _) => hnw153 (congrArg some e_); have hpw153 := fun e_ => how153 (Eq.symm e_); clear hnw153; replace how153 := eq_false how153; replace hpw153 := eq_false hpw153))
                          (try (have hnw154 := Kd.R_ne HO323.out BK301.out (by decide); change some gb301 ≠ some _ at hnw154; have how154 := fun (e_ : gb301 = _) => hnw154 (congrArg some e_); have hpw154 := fun e_ => how154 (Eq.symm e_); clear hnw154; replace how154 := eq_false how154; replace hpw154 := eq_false hpw154))
                          (try (have hnw155 := Kd.R_ne HO326.out BK301.out (by decide); change some gb301 ≠ some _ at hnw155; have how155 := fun (e_ : gb301 = _) => hnw155 (congrArg some e_); have hpw155 := fun e_ => how155 (Eq.symm e_); clear hnw155; replace how155 := eq_false how155; replace hpw155 := eq_false hpw155))
                          have hcz151_0 : w118.cell? ⟨gb301, 0, none⟩ = some (.slice Ao12 t297.length co12) := (blk_cell BK301.out 0).trans rfl
                          have hfz151_0 := blk_frozen BK301.out 0
                          go_wp2_with (first | ((with_reducible refine gate_callee (f := 9) rfl ?_); refine goesL_ (some 78) rfl rfl Tryz.func9 (by kernel_rfl) rfl #[.agg #[.slice Ao119 t324.length co119], .agg #[.slice Ao12 t297.length co12]] rfl (by (try simp only [List.map_toArray, List.map_cons, List.map_nil]); first | done | rfl | (simp only [List.length_drop, List.length_take]; rfl)) ?_; (with_reducible refine (laws_eqTable.calls kj57 _ _ t324 _ _ t297 false _ ?side1 ?side2 ?side3 ?side4 A127.out).mono ?_); (case side1 => refine (Kd.R_reads' (e := 9) (base := w.heap.size) (ok := fun k_ => ((True ∧ some k_ ≠ (.slice Ao12 t297.length co12 : Value).ownBlock) ∧ some k_ ≠ (.slice Ao20 t305.length co20 : Value).ownBlock)) (n := t324.length) (c := co119) ?_).2.2; exact (by (with_reducible repeat (first | apply Kd.R_alloc | apply Kd.R_drewN | apply Kd.R_drew)); exact (Kd.R_mono (Kd.R_far (p := ⟨gb328, 0, none⟩) (Kd.R_types HO326.out BK328.out (by decide)) (fun _ hk => hk.2) (.slice Ao119 t324.length co119)) (fun _ h_ => h_.1)))); (case side2 => exact (Kd.R_reads' HO326.out).2.1); (case side3 => refine (Kd.R_reads' (e := 9) (base := w.heap.size) (ok := fun k_ => (some k_ ≠ (.slice Ao20 t305.length co20 : Value).ownBlock ∧ some k_ ≠ (.slice Ao119 t324.length co119 : Value).ownBlock)) (n := t297.length) (c := co12) ?_).2.2; exact (by (with_reducible repeat (first | apply Kd.R_alloc | apply Kd.R_drewN | apply Kd.R_drew)); exact (Kd.R_mono (Kd.R_far (p := ⟨gb328, 0, none⟩) (Kd.R_types HO_302000.out BK328.out (by decide)) (fun _ hk => hk.2) (.slice Ao119 t324.length co119)) (fun _ h_ => h_.1)))); (case side4 => exact (Kd.R_reads' HO_302000.out).2.1); rintro e w156 ⟨rfl, hb⟩; refine ⟨_, rfl, ?_⟩; have n0_ := Aside0.mk (Kd.R_below (by (with_reducible repeat (first | apply Kd.R_alloc | apply Kd.R_drewN | apply Kd.R_drew)); exact (Kd.R_mono (Kd.R_far (p := ⟨gb328, 0, none⟩) (Kd.R_types HO_302000.out BK328.out (by decide)) (fun _ hk => hk.2) (.slice Ao119 t324.length co119)) (fun _ h_ => h_.1))) hb); have n1_ := Aside0.mk (Kd.R_below (by (with_reducible repeat (first | apply Kd.R_alloc | apply Kd.R_drewN | apply Kd.R_drew)); exact (Kd.R_mono (Kd.R_far (p := ⟨gb328, 0, none⟩) (Kd.R_types HO_310000.out BK328.out (by decide)) (fun _ hk => hk.2) (.slice Ao119 t324.length co119)) (fun _ h_ => h_.1))) hb); have n2_ := Aside0.mk (Kd.R_below (by (with_reducible repeat (first | apply Kd.R_alloc | apply Kd.R_drewN | apply Kd.R_drew)); exact (Kd.R_mono (Kd.R_far (p := ⟨gb328, 0, none⟩) (Kd.R_types HO323.out BK328.out (by decide)) (fun _ hk => hk.2) (.slice Ao119 t324.length co119)) (fun _ h_ => h_.1))) hb); have n3_ := Aside0.mk (Kd.R_below (by (with_reducible repeat (first | apply Kd.R_alloc | apply Kd.R_drewN | apply Kd.R_drew)); exact (Kd.R_mono (Kd.R_far (p := ⟨gb328, 0, none⟩) (Kd.R_types HO326.out BK328.out (by decide)) (fun _ hk => hk.2) (.slice Ao119 t324.length co119)) (fun _ h_ => h_.1))) hb); have n4_ := Aside0.mk (blk_below (g := gb301) (o := .cells #[.slice Ao12 t297.length co12] 25 (0, 0)) (by (with_reducible repeat (first | refine blk_drewN ?_ _ | refine blk_drew ?_ | refine blk_alloc ?_ _)); refine blk_far ?_ NB301_328.out _; (with_reducible repeat (first | refine blk_drewN ?_ _ | refine blk_drew ?_ | refine blk_alloc ?_ _)); exact BK301.out) hb); have n5_ := Aside0.mk (blk_below (g := gb309) (o := .cells #[.slice Ao20 t305.length co20] 25 (0, 0)) (by (with_reducible repeat (first | refine blk_drewN ?_ _ | refine blk_drew ?_ | refine blk_alloc ?_ _)); refine blk_far ?_ NB309_328.out _; (with_reducible repeat (first | refine blk_drewN ?_ _ | refine blk_drew ?_ | refine blk_alloc ?_ _)); exact BK309.out) hb); have n6_ := Aside0.mk (blk_below (g := gb328) (o := .cells #[.slice Ao119 t324.length co119] 25 (0, 0)) (by (with_reducible repeat (first | refine blk_drewN ?_ _ | refine blk_drew ?_ | refine blk_alloc ?_ _)); refine blk_put (cs := #[.slice none 0 0]) ?_ 0 _ rfl; (with_reducible repeat (first | refine blk_drewN ?_ _ | refine blk_drew ?_ | refine blk_alloc ?_ _)); exact BK328.out) hb); have n7_ := Aside0.mk (below_step (by repeat (first | (with_reducible first | exact HB.out | apply below_alloc | apply pw_below_drewN | apply below_drew1 | refine below_set ?_ GE301.out | refine below_set ?_ GE309.out | refine below_set ?_ GE328.out) | exact HB.out)) hb); clear HO_302000; clear HO_310000; clear HO323; clear HO326; clear BK301; clear BK309; clear BK328; clear HB; have HO_302000 := n0_; have HO_310000 := n1_; have HO323 := n2_; have HO326 := n3_; have BK301 := n4_; have BK309 := n5_; have BK328 := n6_; have HB := n7_; clear n0_ n1_ n2_ n3_ n4_ n5_ n6_ n7_; (try clear hb); (try clear hb2); (try clear hk); (try clear hi)))
                          go_meet
                          case rel => exact ⟨_, (true), (by first | rfl | (simp; done) | (simp [*]; done)), H', ⟨by have := HJ6.out; have := HJ57.out; first | omega | exact Nat.le_refl _⟩, ⟨by (with_reducible repeat (first | apply Kd.R_alloc | apply Kd.R_drewN | apply Kd.R_drew)); exact HO_302000.out⟩, ⟨by (with_reducible repeat (first | apply Kd.R_alloc | apply Kd.R_drewN | apply Kd.R_drew)); exact HO_310000.out⟩, ⟨by (with_reducible repeat (first | apply Kd.R_alloc | apply Kd.R_drewN | apply Kd.R_drew)); exact Kd.R_mono HO326.out (fun _ hk => ⟨hk.1.2, hk.2⟩)⟩, ⟨by (with_reducible repeat (first | refine blk_drewN ?_ _ | refine blk_drew ?_ | refine blk_alloc ?_ _)); exact BK301.out⟩, ⟨by (with_reducible repeat (first | refine blk_drewN ?_ _ | refine blk_drew ?_ | refine blk_alloc ?_ _)); exact BK309.out⟩, ⟨by (with_reducible repeat (first | refine blk_drewN ?_ _ | refine blk_drew ?_ | refine blk_alloc ?_ _)); exact BK328.out⟩, ⟨by repeat (first | (with_reducible first | exact HB.out | apply below_alloc | apply pw_below_drewN | apply below_drew1 | refine below_set ?_ GE301.out | refine below_set ?_ GE309.out | refine below_set ?_ GE328.out) | exact HB.out)⟩⟩
                      case rest =>
                        clear HC105
                        try clear c1
                        try clear c2
                        try clear c2b0
                        try clear c2b1
                        try clear p2
                        try clear c3
                        try clear c4
                        try clear c5
                        try clear c6
                        try clear c7
                        try clear c8
                        try clear c9
                        try clear c10
                        try clear c11
                        try clear c12
                        try clear c13
                        try clear c14
                        try clear c15
                        try clear c21
                        try clear c28
                        try clear c29
                        try clear c41
                        try clear c53
                        try clear c56
                        try clear c62
                        try clear c62b0
                        try clear c64
                        try clear c65
                        try clear c77
                        try clear c89
                        try clear c92
                        try clear c92b0
                        try clear c93
                        try clear c102
                        try clear c102b0
                        try clear c102b1
                        try clear c106
                        try clear c120
                        try clear c121
                        try clear c128
                        try clear c129
                        try clear c130
                        try clear c136
                        try clear c143
                        try clear c144
                        try clear c150
                        try clear hcz107_0
                        try clear hcz111_0
                        try clear hcz122_0
                        try clear hcz131_0
                        try clear hcz137_0
                        try clear hcz13_0
                        try clear hcz145_0
                        try clear hcz151_0
                        try clear hcz22_0
                        try clear hcz30_0
                        try clear hcz35_0
                        try clear hcz42_0
                        try clear hcz47_0
                        try clear hcz66_0
                        try clear hcz71_0
                        try clear hcz78_0
                        try clear hcz83_0
                        try clear hcz94_0
                        try clear hcz98_0
                        try clear hfz107_0
                        try clear hfz111_0
                        try clear hfz122_0
                        try clear hfz131_0
                        try clear hfz137_0
                        try clear hfz13_0
                        try clear hfz145_0
                        try clear hfz151_0
                        try clear hfz22_0
                        try clear hfz30_0
                        try clear hfz35_0
                        try clear hfz42_0
                        try clear hfz47_0
                        try clear hfz66_0
                        try clear hfz71_0
                        try clear hfz78_0
                        try clear hfz83_0
                        try clear hfz94_0
                        try clear hfz98_0
                        try clear p2
                        obtain ⟨kq, x84_104, rfl, HA, HJ104, HO_302000, HO_310000, HO_329000, BK301, BK309, BK328, HB⟩ := hcut
                        have hl310000_104 := (Kd.R_reads' HO_310000.out).1
                        rw [hl310000_104] at HO_310000
                        (try simp only [hl310000_104])
                        (try simp only [hl310000_104] at BK301)
                        (try simp only [hl310000_104] at BK309)
                        (try simp only [hl310000_104] at BK328)
                        (try simp only [hl310000_104] at HO_302000)
                        (try simp only [hl310000_104] at HO_329000)
                        cases kq with
                        | zero => exact absurd HA.out (by simp [laws_FnExactBestTable.j2])
                        | succ kj104 =>
                          have H := HA.out
                          clear HA
                          simp only [laws_FnExactBestTable.j2] at H
                          by_cases c157 : x84_104 = true
                          · subst c157
                            have H1 : (some false) = some r := by rw [if_pos rfl] at H; first | exact H | (simp only [if_true, eq_self] at H ⊢; exact H)
                            clear H
                            have H := H1
                            clear H1
                            obtain rfl := Option.some.inj H
                            go_wp2
                            go_ret
                            exact ⟨by first | rfl | (simp [errW_none, errW_some] <;> rfl) | (simp [*, errW_none, errW_some] <;> rfl), by repeat (first | (with_reducible first | exact HB.out | apply below_alloc | apply pw_below_drewN | apply below_drew1 | refine below_set ?_ GE301.out | refine below_set ?_ GE309.out | refine below_set ?_ GE328.out) | exact HB.out)⟩
                          · replace c157 := Bool.eq_false_iff.mpr c157
                            subst c157
                            have H1 : ((laws_heldTable.f kj104 t319 1).bind fun t330 => (if t330 < 0 then (some false) else (if t330 = t318 then (some true) else (some false)))) = some r := by rw [if_neg (show ¬ (false = true) by decide)] at H; first | exact H | (simp only [if_true, eq_self] at H ⊢; exact H)
                            clear H
                            have H := H1
                            clear H1
                            replace H := Option.bind_eq_some_iff.mp H
                            obtain ⟨t330, A1580, H⟩ := H
                            replace H : (if t330 < 0 then (some false) else (if t330 = t318 then (some true) else (some false))) = some r := H
                            have A158 := Aside0.mk A1580
                            clear A1580
                            by_cases c159 : t330 < 0
                            · rw [if_pos c159] at H
                              have c159b0 : decide (t330 < 0) = true := decide_eq_true c159
                              clear c159
                              obtain rfl := Option.some.inj H
                              have hnb160 := NB309_301.out
                              have hnc160 := NB301_309.out
                              have hnb161 := NB309_328.out
                              have hnc161 := NB328_309.out
                              (try (have hnw163 := Kd.R_ne HO_302000.out BK309.out (by decide); change some gb309 ≠ some _ at hnw163; have how163 := fun (e_ : gb309 = _) => hnw163 (congrArg some e_); have hpw163 := fun e_ => how163 (Eq.symm e_); clear hnw163; replace how163 := eq_false how163; replace hpw163 := eq_false hpw163))
                              (try (have hnw164 := Kd.R_ne HO_310000.out BK309.out (by decide); change some gb309 ≠ some _ at hnw164; have how164 := fun (e_ : gb309 = _) => hnw164 (congrArg some e_); have hpw164 := fun e_ => how164 (Eq.symm e_); clear hnw164; replace how164 := eq_false how164; replace hpw164 := eq_false hpw164))
                              (try (have hnw165 := Kd.R_ne HO_329000.out BK309.out (by decide); change some gb309 ≠ some _ at hnw165; have how165 := fun (e_ : gb309 = _) => hnw165 (congrArg some e_); have hpw165 := fun e_ => how165 (Eq.symm e_); clear hnw165; replace how165 := eq_false how165; replace hpw165 := eq_false hpw165))
                              have hcz162_0 : wc.cell? ⟨gb309, 0, none⟩ = some (.slice Ao20 t319.length co20) := (blk_cell BK309.out 0).trans rfl
                              have hfz162_0 := blk_frozen BK309.out 0
                              go_wp2_with (first | ((with_reducible refine gate_callee (f := 13) rfl ?_); refine goesL_ (some 87) rfl rfl Tryz.func13 (by kernel_rfl) rfl #[.agg #[.slice Ao20 t319.length co20], .int .i64 1] rfl (by (try simp only [List.map_toArray, List.map_cons, List.map_nil]); first | done | rfl | (simp only [List.length_drop, List.length_take]; rfl)) ?_; (with_reducible refine (laws_heldTable.calls kj104 _ _ t319 1 t330 _ ?side1 ?side2 A158.out).mono ?_); (case side1 => repeat (first | exact (Kd.R_reads' HO_310000.out).2.2 | (with_reducible refine Kd.C_alloc ?_ _) | (with_reducible refine Kd.C_drewN ?_ _) | (with_reducible refine Kd.C_drew ?_))); (case side2 => exact (Kd.R_reads' HO_310000.out).2.1); rintro e w166 ⟨rfl, hb⟩; refine ⟨_, rfl, ?_⟩; have n0_ := Aside0.mk (Kd.R_below (by (with_reducible repeat (first | apply Kd.R_alloc | apply Kd.R_drewN | apply Kd.R_drew)); exact HO_302000.out) hb); have n1_ := Aside0.mk (Kd.R_below (by (with_reducible repeat (first | apply Kd.R_alloc | apply Kd.R_drewN | apply Kd.R_drew)); exact HO_310000.out) hb); have n2_ := Aside0.mk (Kd.R_below (by (with_reducible repeat (first | apply Kd.R_alloc | apply Kd.R_drewN | apply Kd.R_drew)); exact HO_329000.out) hb); have n3_ := Aside0.mk (blk_below (g := gb301) (o := .cells #[.slice Ao12 t297.length co12] 25 (0, 0)) (by (with_reducible repeat (first | refine blk_drewN ?_ _ | refine blk_drew ?_ | refine blk_alloc ?_ _)); exact BK301.out) hb); have n4_ := Aside0.mk (blk_below (g := gb309) (o := .cells #[.slice Ao20 t319.length co20] 25 (0, 0)) (by (with_reducible repeat (first | refine blk_drewN ?_ _ | refine blk_drew ?_ | refine blk_alloc ?_ _)); exact BK309.out) hb); have n5_ := Aside0.mk (blk_below (g := gb328) (o := .cells #[.slice Ao119 t324.length co119] 25 (0, 0)) (by (with_reducible repeat (first | refine blk_drewN ?_ _ | refine blk_drew ?_ | refine blk_alloc ?_ _)); exact BK328.out) hb); have n6_ := Aside0.mk (below_step (by repeat (first | (with_reducible first | exact HB.out | apply below_alloc | apply pw_below_drewN | apply below_drew1 | refine below_set ?_ GE301.out | refine below_set ?_ GE309.out | refine below_set ?_ GE328.out) | exact HB.out)) hb); clear HO_302000; clear HO_310000; clear HO_329000; clear BK301; clear BK309; clear BK328; clear HB; have HO_302000 := n0_; have HO_310000 := n1_; have HO_329000 := n2_; have BK301 := n3_; have BK309 := n4_; have BK328 := n5_; have HB := n6_; clear n0_ n1_ n2_ n3_ n4_ n5_ n6_; (try clear hb); (try clear hb2); (try clear hk); (try clear hi)))
                              go_ret
                              exact ⟨by first | rfl | (simp [errW_none, errW_some] <;> rfl) | (simp [*, errW_none, errW_some] <;> rfl), by repeat (first | (with_reducible first | exact HB.out | apply below_alloc | apply pw_below_drewN | apply below_drew1 | refine below_set ?_ GE301.out | refine below_set ?_ GE309.out | refine below_set ?_ GE328.out) | exact HB.out)⟩
                            · rw [if_neg c159] at H
                              have c159b0 : decide (t330 < 0) = false := decide_eq_false c159
                              clear c159
                              by_cases c167 : t330 = t318
                              · rw [if_pos c167] at H
                                have c167b0 : (t330 == t318) = true := beq_iff_eq.mpr c167
                                have c167b1 : (t330 != t318) = false := bne_eq_false_iff_eq.mpr c167
                                clear c167
                                obtain rfl := Option.some.inj H
                                have hnb168 := NB309_301.out
                                have hnc168 := NB301_309.out
                                have hnb169 := NB309_328.out
                                have hnc169 := NB328_309.out
                                (try (have hnw171 := Kd.R_ne HO_302000.out BK309.out (by decide); change some gb309 ≠ some _ at hnw171; have how171 := fun (e_ : gb309 = _) => hnw171 (congrArg some e_); have hpw171 := fun e_ => how171 (Eq.symm e_); clear hnw171; replace how171 := eq_false how171; replace hpw171 := eq_false hpw171))
                                (try (have hnw172 := Kd.R_ne HO_310000.out BK309.out (by decide); change some gb309 ≠ some _ at hnw172; have how172 := fun (e_ : gb309 = _) => hnw172 (congrArg some e_); have hpw172 := fun e_ => how172 (Eq.symm e_); clear hnw172; replace how172 := eq_false how172; replace hpw172 := eq_false hpw172))
                                (try (have hnw173 := Kd.R_ne HO_329000.out BK309.out (by decide); change some gb309 ≠ some _ at hnw173; have how173 := fun (e_ : gb309 = _) => hnw173 (congrArg some e_); have hpw173 := fun e_ => how173 (Eq.symm e_); clear hnw173; replace how173 := eq_false how173; replace hpw173 := eq_false hpw173))
                                have hcz170_0 : wc.cell? ⟨gb309, 0, none⟩ = some (.slice Ao20 t319.length co20) := (blk_cell BK309.out 0).trans rfl
                                have hfz170_0 := blk_frozen BK309.out 0
                                go_wp2_with (first | ((with_reducible refine gate_callee (f := 13) rfl ?_); refine goesL_ (some 87) rfl rfl Tryz.func13 (by kernel_rfl) rfl #[.agg #[.slice Ao20 t319.length co20], .int .i64 1] rfl (by (try simp only [List.map_toArray, List.map_cons, List.map_nil]); first | done | rfl | (simp only [List.length_drop, List.length_take]; rfl)) ?_; (with_reducible refine (laws_heldTable.calls kj104 _ _ t319 1 t330 _ ?side1 ?side2 A158.out).mono ?_); (case side1 => repeat (first | exact (Kd.R_reads' HO_310000.out).2.2 | (with_reducible refine Kd.C_alloc ?_ _) | (with_reducible refine Kd.C_drewN ?_ _) | (with_reducible refine Kd.C_drew ?_))); (case side2 => exact (Kd.R_reads' HO_310000.out).2.1); rintro e w174 ⟨rfl, hb⟩; refine ⟨_, rfl, ?_⟩; have n0_ := Aside0.mk (Kd.R_below (by (with_reducible repeat (first | apply Kd.R_alloc | apply Kd.R_drewN | apply Kd.R_drew)); exact HO_302000.out) hb); have n1_ := Aside0.mk (Kd.R_below (by (with_reducible repeat (first | apply Kd.R_alloc | apply Kd.R_drewN | apply Kd.R_drew)); exact HO_310000.out) hb); have n2_ := Aside0.mk (Kd.R_below (by (with_reducible repeat (first | apply Kd.R_alloc | apply Kd.R_drewN | apply Kd.R_drew)); exact HO_329000.out) hb); have n3_ := Aside0.mk (blk_below (g := gb301) (o := .cells #[.slice Ao12 t297.length co12] 25 (0, 0)) (by (with_reducible repeat (first | refine blk_drewN ?_ _ | refine blk_drew ?_ | refine blk_alloc ?_ _)); exact BK301.out) hb); have n4_ := Aside0.mk (blk_below (g := gb309) (o := .cells #[.slice Ao20 t319.length co20] 25 (0, 0)) (by (with_reducible repeat (first | refine blk_drewN ?_ _ | refine blk_drew ?_ | refine blk_alloc ?_ _)); exact BK309.out) hb); have n5_ := Aside0.mk (blk_below (g := gb328) (o := .cells #[.slice Ao119 t324.length co119] 25 (0, 0)) (by (with_reducible repeat (first | refine blk_drewN ?_ _ | refine blk_drew ?_ | refine blk_alloc ?_ _)); exact BK328.out) hb); have n6_ := Aside0.mk (below_step (by repeat (first | (with_reducible first | exact HB.out | apply below_alloc | apply pw_below_drewN | apply below_drew1 | refine below_set ?_ GE301.out | refine below_set ?_ GE309.out | refine below_set ?_ GE328.out) | exact HB.out)) hb); clear HO_302000; clear HO_310000; clear HO_329000; clear BK301; clear BK309; clear BK328; clear HB; have HO_302000 := n0_; have HO_310000 := n1_; have HO_329000 := n2_; have BK301 := n3_; have BK309 := n4_; have BK328 := n5_; have HB := n6_; clear n0_ n1_ n2_ n3_ n4_ n5_ n6_; (try clear hb); (try clear hb2); (try clear hk); (try clear hi)))
                                go_ret
                                exact ⟨by first | rfl | (simp [errW_none, errW_some] <;> rfl) | (simp [*, errW_none, errW_some] <;> rfl), by repeat (first | (with_reducible first | exact HB.out | apply below_alloc | apply pw_below_drewN | apply below_drew1 | refine below_set ?_ GE301.out | refine below_set ?_ GE309.out | refine below_set ?_ GE328.out) | exact HB.out)⟩
                              · rw [if_neg c167] at H
                                have c167b0 : (t330 == t318) = false := beq_eq_false_iff_ne.mpr c167
                                have c167b1 : (t330 != t318) = true := bne_iff_ne.mpr c167
                                obtain rfl := Option.some.inj H
                                have hnb175 := NB309_301.out
                                have hnc175 := NB301_309.out
                                have hnb176 := NB309_328.out
                                have hnc176 := NB328_309.out
                                (try (have hnw178 := Kd.R_ne HO_302000.out BK309.out (by decide); change some gb309 ≠ some _ at hnw178; have how178 := fun (e_ : gb309 = _) => hnw178 (congrArg some e_); have hpw178 := fun e_ => how178 (Eq.symm e_); clear hnw178; replace how178 := eq_false how178; replace hpw178 := eq_false hpw178))
                                (try (have hnw179 := Kd.R_ne HO_310000.out BK309.out (by decide); change some gb309 ≠ some _ at hnw179; have how179 := fun (e_ : gb309 = _) => hnw179 (congrArg some e_); have hpw179 := fun e_ => how179 (Eq.symm e_); clear hnw179; replace how179 := eq_false how179; replace hpw179 := eq_false hpw179))
                                (try (have hnw180 := Kd.R_ne HO_329000.out BK309.out (by decide); change some gb309 ≠ some _ at hnw180; have how180 := fun (e_ : gb309 = _) => hnw180 (congrArg some e_); have hpw180 := fun e_ => how180 (Eq.symm e_); clear hnw180; replace how180 := eq_false how180; replace hpw180 := eq_false hpw180))
                                have hcz177_0 : wc.cell? ⟨gb309, 0, none⟩ = some (.slice Ao20 t319.length co20) := (blk_cell BK309.out 0).trans rfl
                                have hfz177_0 := blk_frozen BK309.out 0
                                go_wp2_with (first | ((with_reducible refine gate_callee (f := 13) rfl ?_); refine goesL_ (some 87) rfl rfl Tryz.func13 (by kernel_rfl) rfl #[.agg #[.slice Ao20 t319.length co20], .int .i64 1] rfl (by (try simp only [List.map_toArray, List.map_cons, List.map_nil]); first | done | rfl | (simp only [List.length_drop, List.length_take]; rfl)) ?_; (with_reducible refine (laws_heldTable.calls kj104 _ _ t319 1 t330 _ ?side1 ?side2 A158.out).mono ?_); (case side1 => repeat (first | exact (Kd.R_reads' HO_310000.out).2.2 | (with_reducible refine Kd.C_alloc ?_ _) | (with_reducible refine Kd.C_drewN ?_ _) | (with_reducible refine Kd.C_drew ?_))); (case side2 => exact (Kd.R_reads' HO_310000.out).2.1); rintro e w181 ⟨rfl, hb⟩; refine ⟨_, rfl, ?_⟩; have n0_ := Aside0.mk (Kd.R_below (by (with_reducible repeat (first | apply Kd.R_alloc | apply Kd.R_drewN | apply Kd.R_drew)); exact HO_302000.out) hb); have n1_ := Aside0.mk (Kd.R_below (by (with_reducible repeat (first | apply Kd.R_alloc | apply Kd.R_drewN | apply Kd.R_drew)); exact HO_310000.out) hb); have n2_ := Aside0.mk (Kd.R_below (by (with_reducible repeat (first | apply Kd.R_alloc | apply Kd.R_drewN | apply Kd.R_drew)); exact HO_329000.out) hb); have n3_ := Aside0.mk (blk_below (g := gb301) (o := .cells #[.slice Ao12 t297.length co12] 25 (0, 0)) (by (with_reducible repeat (first | refine blk_drewN ?_ _ | refine blk_drew ?_ | refine blk_alloc ?_ _)); exact BK301.out) hb); have n4_ := Aside0.mk (blk_below (g := gb309) (o := .cells #[.slice Ao20 t319.length co20] 25 (0, 0)) (by (with_reducible repeat (first | refine blk_drewN ?_ _ | refine blk_drew ?_ | refine blk_alloc ?_ _)); exact BK309.out) hb); have n5_ := Aside0.mk (blk_below (g := gb328) (o := .cells #[.slice Ao119 t324.length co119] 25 (0, 0)) (by (with_reducible repeat (first | refine blk_drewN ?_ _ | refine blk_drew ?_ | refine blk_alloc ?_ _)); exact BK328.out) hb); have n6_ := Aside0.mk (below_step (by repeat (first | (with_reducible first | exact HB.out | apply below_alloc | apply pw_below_drewN | apply below_drew1 | refine below_set ?_ GE301.out | refine below_set ?_ GE309.out | refine below_set ?_ GE328.out) | exact HB.out)) hb); clear HO_302000; clear HO_310000; clear HO_329000; clear BK301; clear BK309; clear BK328; clear HB; have HO_302000 := n0_; have HO_310000 := n1_; have HO_329000 := n2_; have BK301 := n3_; have BK309 := n4_; have BK328 := n5_; have HB := n6_; clear n0_ n1_ n2_ n3_ n4_ n5_ n6_; (try clear hb); (try clear hb2); (try clear hk); (try clear hi)))
                                go_ret
                                exact ⟨by first | rfl | (simp [errW_none, errW_some] <;> rfl) | (simp [*, errW_none, errW_some] <;> rfl), by repeat (first | (with_reducible first | exact HB.out | apply below_alloc | apply pw_below_drewN | apply below_drew1 | refine below_set ?_ GE301.out | refine below_set ?_ GE309.out | refine below_set ?_ GE328.out) | exact HB.out)⟩
                    · rw [if_neg c102] at H
                      have c102b0 : (t320 == t318) = false := beq_eq_false_iff_ne.mpr c102
                      have c102b1 : (t320 != t318) = true := bne_iff_ne.mpr c102
                      obtain rfl := Option.some.inj H
                      have hnb182 := NB309_301.out
                      have hnc182 := NB301_309.out
                      (try (have hnw184 := Kd.R_ne HO_302000.out BK309.out (by decide); change some gb309 ≠ some _ at hnw184; have how184 := fun (e_ : gb309 = _) => hnw184 (congrArg some e_); have hpw184 := fun e_ => how184 (Eq.symm e_); clear hnw184; replace how184 := eq_false how184; replace hpw184 := eq_false hpw184))
                      (try (have hnw185 := Kd.R_ne HO_310000.out BK309.out (by decide); change some gb309 ≠ some _ at hnw185; have how185 := fun (e_ : gb309 = _) => hnw185 (congrArg some e_); have hpw185 := fun e_ => how185 (Eq.symm e_); clear hnw185; replace how185 := eq_false how185; replace hpw185 := eq_false hpw185))
                      have hcz183_0 : wc.cell? ⟨gb309, 0, none⟩ = some (.slice Ao20 t305.length co20) := (blk_cell BK309.out 0).trans rfl
                      have hfz183_0 := blk_frozen BK309.out 0
                      go_wp2_with (first | ((with_reducible refine gate_callee (f := 12) rfl ?_); refine goesL_ (some 61) rfl rfl Tryz.func12 (by kernel_rfl) rfl #[.agg #[.slice Ao20 t305.length co20], .int .i64 1] rfl (by (try simp only [List.map_toArray, List.map_cons, List.map_nil]); first | done | rfl | (simp only [List.length_drop, List.length_take]; rfl)) ?_; (with_reducible refine (laws_markTable.calls kj57 (fun k_ => some k_ = (.slice Ao20 t305.length co20 : Value).ownBlock) (.slice Ao20 t305.length co20) t305 1 t318 t319 w _ ?side1 ?side2 A90.out).mono ?_); (case side1 => repeat (first | (with_reducible first | exact HB.out | apply below_alloc | apply pw_below_drewN | apply below_drew1 | refine below_set ?_ GE301.out | refine below_set ?_ GE309.out) | exact HB.out)); (case side2 => exact Kd.R_tight rfl HO_310000.out); rintro e w186 ⟨rfl, hy0, hb, hkp⟩; refine ⟨_, rfl, ?_⟩; have n0_ := Aside0.mk (Kd.R_mono (ok' := fun k_ => some k_ ≠ (.slice Ao20 t305.length co20 : Value).ownBlock) (Kd.R_keptB (HO_302000.out) hkp (fun k_ hk_ hs_ => (hk_) hs_)) (fun k_ hk_ => hk_.1)); have n1_ := Aside0.mk (Kd.R_reok rfl hy0 (fun k_ e_ => HO_310000.out.1 k_ e_)); have n2_ := Aside0.mk (blk_kept (by (with_reducible repeat (first | refine blk_drewN ?_ _ | refine blk_drew ?_ | refine blk_alloc ?_ _)); exact BK301.out) hkp (fun hs_ => (fun e_ => (Kd.R_ne HO_310000.out BK301.out (by decide)) e_) hs_)); have n3_ := Aside0.mk (blk_kept (by (with_reducible repeat (first | refine blk_drewN ?_ _ | refine blk_drew ?_ | refine blk_alloc ?_ _)); exact BK309.out) hkp (fun hs_ => (fun e_ => (Kd.R_ne HO_310000.out BK309.out (by decide)) e_) hs_)); have n4_ := Aside0.mk (hb); clear HO_302000; clear HO_310000; clear BK301; clear BK309; clear HB; have HO_302000 := n0_; have HO_310000 := n1_; have BK301 := n2_; have BK309 := n3_; have HB := n4_; clear n0_ n1_ n2_ n3_ n4_; (try clear hb); (try clear hkp); (try clear hy0); (try (have hnw188 := Kd.R_ne HO_302000.out BK309.out (by decide); change some gb309 ≠ some _ at hnw188; have how188 := fun (e_ : gb309 = _) => hnw188 (congrArg some e_); have hpw188 := fun e_ => how188 (Eq.symm e_); clear hnw188; replace how188 := eq_false how188; replace hpw188 := eq_false hpw188)); (try (have hnw189 := Kd.R_ne HO_310000.out BK309.out (by decide); change some gb309 ≠ some _ at hnw189; have how189 := fun (e_ : gb309 = _) => hnw189 (congrArg some e_); have hpw189 := fun e_ => how189 (Eq.symm e_); clear hnw189; replace how189 := eq_false how189; replace hpw189 := eq_false hpw189)); have hcz187_0 : w186.cell? ⟨gb309, 0, none⟩ = some (.slice Ao20 t305.length co20) := (blk_cell BK309.out 0).trans rfl; have hfz187_0 := blk_frozen BK309.out 0) | ((with_reducible refine gate_callee (f := 13) rfl ?_); refine goesL_ (some 64) rfl rfl Tryz.func13 (by kernel_rfl) rfl #[.agg #[.slice Ao20 t319.length co20], .int .i64 1] rfl (by (try simp only [List.map_toArray, List.map_cons, List.map_nil]); first | done | (rw [show t319.length = t305.length from (Kd.R_reads' HO_310000.out).1.symm] <;> rfl) | rfl | (simp only [List.length_drop, List.length_take]; rfl)) ?_; (with_reducible refine (laws_heldTable.calls kj57 _ _ t319 1 t320 _ ?side1 ?side2 A91.out).mono ?_); (case side1 => repeat (first | exact (Kd.R_reads' HO_310000.out).2.2 | (with_reducible refine Kd.C_alloc ?_ _) | (with_reducible refine Kd.C_drewN ?_ _) | (with_reducible refine Kd.C_drew ?_))); (case side2 => rw [show t319.length = t305.length from (Kd.R_reads' HO_310000.out).1.symm]; exact (Kd.R_reads' HO_310000.out).2.1); rintro e w190 ⟨rfl, hb⟩; refine ⟨_, rfl, ?_⟩; have n0_ := Aside0.mk (Kd.R_below (by (with_reducible repeat (first | apply Kd.R_alloc | apply Kd.R_drewN | apply Kd.R_drew)); exact HO_302000.out) hb); have n1_ := Aside0.mk (Kd.R_below (by (with_reducible repeat (first | apply Kd.R_alloc | apply Kd.R_drewN | apply Kd.R_drew)); exact HO_310000.out) hb); have n2_ := Aside0.mk (blk_below (g := gb301) (o := .cells #[.slice Ao12 t297.length co12] 25 (0, 0)) (by (with_reducible repeat (first | refine blk_drewN ?_ _ | refine blk_drew ?_ | refine blk_alloc ?_ _)); exact BK301.out) hb); have n3_ := Aside0.mk (blk_below (g := gb309) (o := .cells #[.slice Ao20 t305.length co20] 25 (0, 0)) (by (with_reducible repeat (first | refine blk_drewN ?_ _ | refine blk_drew ?_ | refine blk_alloc ?_ _)); exact BK309.out) hb); have n4_ := Aside0.mk (below_step (by repeat (first | (with_reducible first | exact HB.out | apply below_alloc | apply pw_below_drewN | apply below_drew1 | refine below_set ?_ GE301.out | refine below_set ?_ GE309.out) | exact HB.out)) hb); clear HO_302000; clear HO_310000; clear BK301; clear BK309; clear HB; have HO_302000 := n0_; have HO_310000 := n1_; have BK301 := n2_; have BK309 := n3_; have HB := n4_; clear n0_ n1_ n2_ n3_ n4_; (try clear hb); (try clear hb2); (try clear hk); (try clear hi)))
                      go_ret
                      exact ⟨by first | rfl | (simp [errW_none, errW_some] <;> rfl) | (simp [*, errW_none, errW_some] <;> rfl), by repeat (first | (with_reducible first | exact HB.out | apply below_alloc | apply pw_below_drewN | apply below_drew1 | refine below_set ?_ GE301.out | refine below_set ?_ GE309.out) | exact HB.out)⟩
          · replace c56 := Bool.eq_false_iff.mpr c56
            subst c56
            have H1 : (some false) = some r := by rw [if_neg (show ¬ (false = true) by decide)] at H; first | exact H | (simp only [if_true, eq_self] at H ⊢; exact H)
            clear H
            have H := H1
            clear H1
            obtain rfl := Option.some.inj H
            go_wp2_with (first | ((with_reducible refine gate_callee (f := 7) rfl ?_); refine goesL_ (some 40) rfl rfl Tryz.func7 (by kernel_rfl) rfl #[.slice A0 l0.length c0] rfl (by (try simp only [List.map_toArray, List.map_cons, List.map_nil]); first | done | rfl | (simp only [List.length_drop, List.length_take]; rfl)) ?_; (with_reducible refine (laws_toIntS.calls kj6 _ _ l0 t311 _ ?side1 ?side2 A54.out).mono ?_); (case side1 => repeat (first | exact (Kd.C_below HR0.out HB.out) | (with_reducible refine Kd.C_alloc ?_ _) | (with_reducible refine Kd.C_drewN ?_ _) | (with_reducible refine Kd.C_drew ?_))); (case side2 => exact HC0.out); rintro e w191 ⟨v312, rfl, ho0, hb⟩; refine ⟨_, rfl, ?_⟩; have n0_ := Aside0.mk (Kd.R_elder' (by (with_reducible repeat (first | apply Kd.R_alloc | apply Kd.R_drewN | apply Kd.R_drew)); exact HO_5.out) (Kd.R_base ho0) hb); have n1_ := Aside0.mk (Kd.R_below (by (with_reducible repeat (first | apply Kd.R_alloc | apply Kd.R_drewN | apply Kd.R_drew)); exact HO_302000.out) hb); have n2_ := Aside0.mk (Kd.R_below (by (with_reducible repeat (first | apply Kd.R_alloc | apply Kd.R_drewN | apply Kd.R_drew)); exact HO_310000.out) hb); have n3_ := Aside0.mk (Kd.R_lower (Kd.R_new' ho0 (Kd.R_lt (by (with_reducible repeat (first | apply Kd.R_alloc | apply Kd.R_drewN | apply Kd.R_drew)); exact HO_5.out))) (below_size (by repeat (first | (with_reducible first | exact HB.out | apply below_alloc | apply pw_below_drewN | apply below_drew1 | refine below_set ?_ GE301.out | refine below_set ?_ GE309.out) | exact HB.out)))); have n4_ := Aside0.mk (blk_below (g := gb301) (o := .cells #[.slice Ao12 t297.length co12] 25 (0, 0)) (by (with_reducible repeat (first | refine blk_drewN ?_ _ | refine blk_drew ?_ | refine blk_alloc ?_ _)); exact BK301.out) hb); have n5_ := Aside0.mk (blk_below (g := gb309) (o := .cells #[.slice Ao20 t305.length co20] 25 (0, 0)) (by (with_reducible repeat (first | refine blk_drewN ?_ _ | refine blk_drew ?_ | refine blk_alloc ?_ _)); exact BK309.out) hb); have n6_ := Aside0.mk (below_step (by repeat (first | (with_reducible first | exact HB.out | apply below_alloc | apply pw_below_drewN | apply below_drew1 | refine below_set ?_ GE301.out | refine below_set ?_ GE309.out) | exact HB.out)) hb); clear HO_5; clear HO_302000; clear HO_310000; clear BK301; clear BK309; clear HB; have HO_5 := n0_; have HO_302000 := n1_; have HO_310000 := n2_; have HO313 := n3_; have BK301 := n4_; have BK309 := n5_; have HB := n6_; clear n0_ n1_ n2_ n3_ n4_ n5_ n6_; (try clear hb); (try clear hb2); (try clear hk); (try clear hi); (try clear ho0); obtain ⟨Ao192, co192, eo192⟩ := Kd.R_slice HO313.out; subst eo192) | ((with_reducible refine gate_callee (f := 10) rfl ?_); refine goesL_ (some 41) rfl rfl Tryz.func10 (by kernel_rfl) rfl #[.slice Ao17 t302.length co17, .slice Ao192 t311.length co192] rfl (by (try simp only [List.map_toArray, List.map_cons, List.map_nil]); first | done | rfl | (simp only [List.length_drop, List.length_take]; rfl)) ?_; (with_reducible refine (laws_eqIntS.calls kj6 _ _ t302 _ _ t311 false _ ?side1 ?side2 ?side3 ?side4 A55.out).mono ?_); (case side1 => repeat (first | exact (Kd.R_reads' HO_5.out).2.2 | (with_reducible refine Kd.C_alloc ?_ _) | (with_reducible refine Kd.C_drewN ?_ _) | (with_reducible refine Kd.C_drew ?_))); (case side2 => exact (Kd.R_reads' HO_5.out).2.1); (case side3 => repeat (first | exact (Kd.R_reads' HO313.out).2.2 | (with_reducible refine Kd.C_alloc ?_ _) | (with_reducible refine Kd.C_drewN ?_ _) | (with_reducible refine Kd.C_drew ?_))); (case side4 => exact (Kd.R_reads' HO313.out).2.1); rintro e w' ⟨rfl, ⟨nd, rfl⟩⟩; refine ⟨_, rfl, ?_⟩))
            go_ret
            exact ⟨by first | rfl | (simp [errW_none, errW_some] <;> rfl) | (simp [*, errW_none, errW_some] <;> rfl), by repeat (first | (with_reducible first | exact HB.out | apply below_alloc | apply pw_below_drewN | apply below_drew1 | refine below_set ?_ GE301.out | refine below_set ?_ GE309.out) | exact HB.out)⟩

/-- THE ONE PURE STATEMENT of laws_FnExactBestTable: yours. -/
def laws_FnExactBestTable.Pure : Prop := ∀ (l0 : List Int), (l0.length ≤ 9223372036854775807) → (∀ y_ ∈ l0, ((Lit.int .i64 y_).wf = true)) → ∃ k, laws_FnExactBestTable.f k l0 = some true

end Go.Proofs.YtgaadjlcmgmfaaaGreat.PFnExactBestTable
