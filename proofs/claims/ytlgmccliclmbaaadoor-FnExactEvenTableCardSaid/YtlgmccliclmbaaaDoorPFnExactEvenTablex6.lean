-- Written by a program of this session (the kit's print with this session's additions, wip/tools): Lean checks it.
import Derived.Test.YtlgmccliclmbaaaDoorPFnExactEvenTablex0
import Derived.Test.YtlgmccliclmbaaaDoorPFnExactEvenTablex1
import Derived.Test.YtlgmccliclmbaaaDoorPFnExactEvenTablex3
import Derived.Test.YtlgmccliclmbaaaDoorPFnExactEvenTablex4
import Derived.Test.YtlgmccliclmbaaaDoorPFnExactEvenTablex5
namespace Go.Proofs.YtlgmccliclmbaaaDoor.PFnExactEvenTable
open Go.RowKit Go.Proofs.YtlgmccliclmbaaaDoorW.PrintWords Go.Proofs.YtlgmccliclmbaaaDoorW.PrintLast Go.Proofs.YtlgmccliclmbaaaDoorW.PrintMore
attribute [local go_sem] max2_int min2_int max_two min_two max_three min_three max_four min_four   -- for this text's walks alone
set_option linter.unusedVariables false
set_option linter.unusedSimpArgs false

/-! ### laws_FnExactEvenTable: function 6 -/
mutual
def laws_FnExactEvenTable.j0 : Nat → Bool → Bool → Bool → List ByteArray → List ByteArray → List ByteArray → List ByteArray → Option (Bool)
  | 0, _, _, _, _, _, _, _ => none
  | k + 1, x5, x8, x40, x192000, x201000, x205000, x210000 => if x40 = true then (some false) else ((laws_toTable.f k x192000).bind fun t211 => ((laws_eqTable.f k x205000 t211).bind fun t214 => (if t214 = true then ((laws_markTable.f k x205000 1).bind fun bt215 => (if bt215.1 < 0 then (laws_FnExactEvenTable.j1 k x5 true x192000 x201000 x210000) else ((laws_eqTable.f k x210000 x201000).bind fun t217 => (if t217 = true then (laws_FnExactEvenTable.j1 k x5 (x8 != x5) x192000 x201000 x210000) else (laws_FnExactEvenTable.j1 k x5 true x192000 x201000 x210000))))) else (some false))))
def laws_FnExactEvenTable.j1 : Nat → Bool → Bool → List ByteArray → List ByteArray → List ByteArray → Option (Bool)
  | 0, _, _, _, _, _ => none
  | k + 1, x5, x61, x192000, x201000, x210000 => if x61 = true then (some false) else ((laws_markTable.f k x210000 1).bind fun bt218 => ((laws_heldTable.f k bt218.2 1).bind fun t220 => (if t220 < 0 then (some false) else (if t220 = bt218.1 then ((laws_toTable.f k x192000).bind fun t221 => ((impl_EvenTable.f k t221).bind fun bt224 => ((laws_eqTable.f k bt224.1 x201000).bind fun t229 => (if t229 = true then (laws_FnExactEvenTable.j2 k bt218.1 (bt224.2 != x5) bt218.2) else (laws_FnExactEvenTable.j2 k bt218.1 true bt218.2))))) else (some false)))))
def laws_FnExactEvenTable.j2 : Nat → Int → Bool → List ByteArray → Option (Bool)
  | 0, _, _, _ => none
  | k + 1, x10, x87, x210000 => if x87 = true then (some false) else ((laws_heldTable.f k x210000 1).bind fun t230 => (if t230 < 0 then (some false) else (if t230 = x10 then (some true) else (some false))))
end
def laws_FnExactEvenTable.f (k : Nat) (l0_0 : List ByteArray) : Option (Bool) := (laws_szTable.f k l0_0 1048576).bind fun t192 => (if t192 < 0 then (some true) else ((laws_toTable.f k l0_0).bind fun t193 => ((spec_EvenTable.f k t193).bind fun bt196 => ((laws_toTable.f k l0_0).bind fun t201 => ((impl_EvenTable.f k t201).bind fun bt205 => ((laws_eqTable.f k bt205.1 bt196.1).bind fun t210 => (if t210 = true then (laws_FnExactEvenTable.j0 k bt196.2 bt205.2 (bt205.2 != bt196.2) l0_0 bt196.1 t201 bt205.1) else (laws_FnExactEvenTable.j0 k bt196.2 bt205.2 true l0_0 bt196.1 t201 bt205.1))))))))
theorem laws_FnExactEvenTable.mono_l : ∀ k, (∀ y0 y1 y2 y3 y4 y5 y6, LeO (laws_FnExactEvenTable.j0 k y0 y1 y2 y3 y4 y5 y6) (laws_FnExactEvenTable.j0 (k + 1) y0 y1 y2 y3 y4 y5 y6)) ∧ (∀ y0 y1 y2 y3 y4, LeO (laws_FnExactEvenTable.j1 k y0 y1 y2 y3 y4) (laws_FnExactEvenTable.j1 (k + 1) y0 y1 y2 y3 y4)) ∧ (∀ y0 y1 y2, LeO (laws_FnExactEvenTable.j2 k y0 y1 y2) (laws_FnExactEvenTable.j2 (k + 1) y0 y1 y2))
  | 0 => ⟨fun _ _ _ _ _ _ _ r h => by simp [laws_FnExactEvenTable.j0] at h, fun _ _ _ _ _ r h => by simp [laws_FnExactEvenTable.j1] at h, fun _ _ _ r h => by simp [laws_FnExactEvenTable.j2] at h⟩
  | k + 1 => by
    obtain ⟨ih0, ih1, ih2⟩ := laws_FnExactEvenTable.mono_l k
    refine ⟨?_, ?_, ?_⟩
    · intro y0 y1 y2 y3 y4 y5 y6
      unfold laws_FnExactEvenTable.j0
      repeat' first
      | (with_reducible exact ih0 _ _ _ _ _ _ _)
      | (with_reducible exact ih1 _ _ _ _ _)
      | (with_reducible exact ih2 _ _ _)
      | (with_reducible exact impl_EvenTable.mono _ _)
      | (with_reducible exact laws_eqTable.mono _ _ _)
      | (with_reducible exact laws_heldTable.mono _ _ _)
      | (with_reducible exact laws_markTable.mono _ _ _)
      | (with_reducible exact laws_szTable.mono _ _ _)
      | (with_reducible exact laws_toTable.mono _ _)
      | (with_reducible exact spec_EvenTable.mono _ _)
      | (with_reducible exact LeO.refl _)
      | (with_reducible exact LeO.none _)
      | (with_reducible refine LeO.ite ?_ ?_)
      | (with_reducible refine LeO.bind ?_ (fun _ => ?_))
      | exact ih0 _ _ _ _ _ _ _
      | exact ih1 _ _ _ _ _
      | exact ih2 _ _ _
      | exact impl_EvenTable.mono _ _
      | exact laws_eqTable.mono _ _ _
      | exact laws_heldTable.mono _ _ _
      | exact laws_markTable.mono _ _ _
      | exact laws_szTable.mono _ _ _
      | exact laws_toTable.mono _ _
      | exact spec_EvenTable.mono _ _
      | exact LeO.none _
      | refine LeO.ite ?_ ?_
      | refine LeO.bind ?_ (fun _ => ?_)
    · intro y0 y1 y2 y3 y4
      unfold laws_FnExactEvenTable.j1
      repeat' first
      | (with_reducible exact ih0 _ _ _ _ _ _ _)
      | (with_reducible exact ih1 _ _ _ _ _)
      | (with_reducible exact ih2 _ _ _)
      | (with_reducible exact impl_EvenTable.mono _ _)
      | (with_reducible exact laws_eqTable.mono _ _ _)
      | (with_reducible exact laws_heldTable.mono _ _ _)
      | (with_reducible exact laws_markTable.mono _ _ _)
      | (with_reducible exact laws_szTable.mono _ _ _)
      | (with_reducible exact laws_toTable.mono _ _)
      | (with_reducible exact spec_EvenTable.mono _ _)
      | (with_reducible exact LeO.refl _)
      | (with_reducible exact LeO.none _)
      | (with_reducible refine LeO.ite ?_ ?_)
      | (with_reducible refine LeO.bind ?_ (fun _ => ?_))
      | exact ih0 _ _ _ _ _ _ _
      | exact ih1 _ _ _ _ _
      | exact ih2 _ _ _
      | exact impl_EvenTable.mono _ _
      | exact laws_eqTable.mono _ _ _
      | exact laws_heldTable.mono _ _ _
      | exact laws_markTable.mono _ _ _
      | exact laws_szTable.mono _ _ _
      | exact laws_toTable.mono _ _
      | exact spec_EvenTable.mono _ _
      | exact LeO.none _
      | refine LeO.ite ?_ ?_
      | refine LeO.bind ?_ (fun _ => ?_)
    · intro y0 y1 y2
      unfold laws_FnExactEvenTable.j2
      repeat' first
      | (with_reducible exact ih0 _ _ _ _ _ _ _)
      | (with_reducible exact ih1 _ _ _ _ _)
      | (with_reducible exact ih2 _ _ _)
      | (with_reducible exact impl_EvenTable.mono _ _)
      | (with_reducible exact laws_eqTable.mono _ _ _)
      | (with_reducible exact laws_heldTable.mono _ _ _)
      | (with_reducible exact laws_markTable.mono _ _ _)
      | (with_reducible exact laws_szTable.mono _ _ _)
      | (with_reducible exact laws_toTable.mono _ _)
      | (with_reducible exact spec_EvenTable.mono _ _)
      | (with_reducible exact LeO.refl _)
      | (with_reducible exact LeO.none _)
      | (with_reducible refine LeO.ite ?_ ?_)
      | (with_reducible refine LeO.bind ?_ (fun _ => ?_))
      | exact ih0 _ _ _ _ _ _ _
      | exact ih1 _ _ _ _ _
      | exact ih2 _ _ _
      | exact impl_EvenTable.mono _ _
      | exact laws_eqTable.mono _ _ _
      | exact laws_heldTable.mono _ _ _
      | exact laws_markTable.mono _ _ _
      | exact laws_szTable.mono _ _ _
      | exact laws_toTable.mono _ _
      | exact spec_EvenTable.mono _ _
      | exact LeO.none _
      | refine LeO.ite ?_ ?_
      | refine LeO.bind ?_ (fun _ => ?_)
theorem laws_FnExactEvenTable.mono : ∀ a0 k, LeO (laws_FnExactEvenTable.f k a0) (laws_FnExactEvenTable.f (k + 1) a0) := by
  intro a0 k
  obtain ⟨ih0, ih1, ih2⟩ := laws_FnExactEvenTable.mono_l k
  unfold laws_FnExactEvenTable.f
  repeat' first
      | (with_reducible exact ih0 _ _ _ _ _ _ _)
      | (with_reducible exact ih1 _ _ _ _ _)
      | (with_reducible exact ih2 _ _ _)
      | (with_reducible exact impl_EvenTable.mono _ _)
      | (with_reducible exact laws_eqTable.mono _ _ _)
      | (with_reducible exact laws_heldTable.mono _ _ _)
      | (with_reducible exact laws_markTable.mono _ _ _)
      | (with_reducible exact laws_szTable.mono _ _ _)
      | (with_reducible exact laws_toTable.mono _ _)
      | (with_reducible exact spec_EvenTable.mono _ _)
      | (with_reducible exact LeO.refl _)
      | (with_reducible exact LeO.none _)
      | (with_reducible refine LeO.ite ?_ ?_)
      | (with_reducible refine LeO.bind ?_ (fun _ => ?_))
      | exact ih0 _ _ _ _ _ _ _
      | exact ih1 _ _ _ _ _
      | exact ih2 _ _ _
      | exact impl_EvenTable.mono _ _
      | exact laws_eqTable.mono _ _ _
      | exact laws_heldTable.mono _ _ _
      | exact laws_markTable.mono _ _ _
      | exact laws_szTable.mono _ _ _
      | exact laws_toTable.mono _ _
      | exact spec_EvenTable.mono _ _
      | exact LeO.none _
      | refine LeO.ite ?_ ?_
      | refine LeO.bind ?_ (fun _ => ?_)
set_option maxHeartbeats 8000000 in
set_option maxRecDepth 100000 in
theorem laws_FnExactEvenTable.calls (k : Nat) (A0_0 : Option Addr) (c0_0 : Nat) (l0_0 : List ByteArray) (r : Bool) (w : World) (hr0_0 : Kd.C Kd.string w A0_0 l0_0.length l0_0) (hc0_0 : l0_0.length ≤ c0_0) (h : laws_FnExactEvenTable.f k l0_0 = some r) :
    Calls Tryd.prog 6 #[.agg #[.slice A0_0 l0_0.length c0_0]] w fun e w' => e = .returned (.bool r) ∧ Below w.heap.size w w' := by
  have hu24 := Tryd.underlying24
  have hu28 := Tryd.underlying28
  have HR0_0 := Aside0.mk hr0_0
  have HC0_0 := Aside0.mk hc0_0
  clear hr0_0 hc0_0
  have HB := Aside0.mk (Below.refl w.heap.size w)
  have H : ((laws_szTable.f k l0_0 1048576).bind fun t192 => (if t192 < 0 then (some true) else ((laws_toTable.f k l0_0).bind fun t193 => ((spec_EvenTable.f k t193).bind fun bt196 => ((laws_toTable.f k l0_0).bind fun t201 => ((impl_EvenTable.f k t201).bind fun bt205 => ((laws_eqTable.f k bt205.1 bt196.1).bind fun t210 => (if t210 = true then (laws_FnExactEvenTable.j0 k bt196.2 bt205.2 (bt205.2 != bt196.2) l0_0 bt196.1 t201 bt205.1) else (laws_FnExactEvenTable.j0 k bt196.2 bt205.2 true l0_0 bt196.1 t201 bt205.1))))))))) = some r := h
  clear h
  replace H := Option.bind_eq_some_iff.mp H
  obtain ⟨t192, A20, H⟩ := H
  replace H : (if t192 < 0 then (some true) else ((laws_toTable.f k l0_0).bind fun t193 => ((spec_EvenTable.f k t193).bind fun bt196 => ((laws_toTable.f k l0_0).bind fun t201 => ((impl_EvenTable.f k t201).bind fun bt205 => ((laws_eqTable.f k bt205.1 bt196.1).bind fun t210 => (if t210 = true then (laws_FnExactEvenTable.j0 k bt196.2 bt205.2 (bt205.2 != bt196.2) l0_0 bt196.1 t201 bt205.1) else (laws_FnExactEvenTable.j0 k bt196.2 bt205.2 true l0_0 bt196.1 t201 bt205.1)))))))) = some r := H
  have A2 := Aside0.mk A20
  clear A20
  by_cases c3 : t192 < 0
  · rw [if_pos c3] at H
    have c3b0 : decide (t192 < 0) = true := decide_eq_true c3
    clear c3
    obtain rfl := Option.some.inj H
    go_enter Tryd.func6, Tryd.ntmps6
    go_wp2_with (first | ((with_reducible refine gate_dst (N := 1) rfl ?_); refine box_event ?hg (N := 1) ?hd (cs := #[.slice A0_0 l0_0.length c0_0]) (t := 24) ?hr ?_; (case hd => rfl); (case hg => rfl); (case hr => first | (go_simp; done) | (go_simp; rfl)); intro gb191 hg w4 hbox hb; have n0_ := Aside0.mk (below_step (by repeat (first | (with_reducible first | exact HB.out | apply below_alloc | apply pw_below_drewN | apply below_drew1) | exact HB.out)) hb); have n1_ := Aside0.mk (hbox); have n2_ := Aside0.mk ((by rw [hg]; exact (below_size (by repeat (first | (with_reducible first | exact HB.out | apply below_alloc | apply pw_below_drewN | apply below_drew1) | exact HB.out))) : w.heap.size ≤ gb191)); have n3_ := Aside0.mk ((by rw [hg]; exact (below_size (by repeat (first | (with_reducible first | exact HB.out | apply below_alloc | apply pw_below_drewN | apply below_drew1) | exact HB.out))) : w.heap.size ≤ gb191)); clear HB; have HB := n0_; have BK191 := n1_; have GW191 := n2_; have GE191 := n3_; clear n0_ n1_ n2_ n3_; clear hb hbox hg; have hcz5_0 : w4.cell? ⟨gb191, 0, none⟩ = some (.slice A0_0 l0_0.length c0_0) := (blk_cell BK191.out 0).trans rfl; have hfz5_0 := blk_frozen BK191.out 0) | ((with_reducible refine gate_callee (f := 11) rfl ?_); refine goesL_ (some 16) rfl rfl Tryd.func11 (by kernel_rfl) rfl #[.agg #[.slice A0_0 l0_0.length c0_0], .int .i64 1048576] rfl (by (try simp only [List.map_toArray, List.map_cons, List.map_nil]); first | done | rfl | (simp only [List.length_drop, List.length_take]; rfl)) ?_; (with_reducible refine (laws_szTable.calls k _ _ l0_0 1048576 t192 _ ?side1 ?side2 A2.out).mono ?_); (case side1 => repeat (first | exact (Kd.C_below HR0_0.out HB.out) | (with_reducible refine Kd.C_alloc ?_ _) | (with_reducible refine Kd.C_drewN ?_ _) | (with_reducible refine Kd.C_drew ?_))); (case side2 => exact HC0_0.out); rintro e w6 ⟨rfl, hb⟩; refine ⟨_, rfl, ?_⟩; have n0_ := Aside0.mk (blk_below (g := gb191) (o := .cells #[.slice A0_0 l0_0.length c0_0] 24 (0, 0)) (by (with_reducible repeat (first | refine blk_drewN ?_ _ | refine blk_drew ?_ | refine blk_alloc ?_ _)); exact BK191.out) hb); have n1_ := Aside0.mk (below_step (by repeat (first | (with_reducible first | exact HB.out | apply below_alloc | apply pw_below_drewN | apply below_drew1 | refine below_set ?_ GE191.out) | exact HB.out)) hb); clear BK191; clear HB; have BK191 := n0_; have HB := n1_; clear n0_ n1_; (try clear hb); (try clear hb2); (try clear hk); (try clear hi)))
    go_ret
    exact ⟨by first | rfl | (simp [errW_none, errW_some] <;> rfl) | (simp [*, errW_none, errW_some] <;> rfl), by repeat (first | (with_reducible first | exact HB.out | apply below_alloc | apply pw_below_drewN | apply below_drew1 | refine below_set ?_ GE191.out) | exact HB.out)⟩
  · rw [if_neg c3] at H
    have c3b0 : decide (t192 < 0) = false := decide_eq_false c3
    clear c3
    replace H := Option.bind_eq_some_iff.mp H
    obtain ⟨t193, A70, H⟩ := H
    replace H : ((spec_EvenTable.f k t193).bind fun bt196 => ((laws_toTable.f k l0_0).bind fun t201 => ((impl_EvenTable.f k t201).bind fun bt205 => ((laws_eqTable.f k bt205.1 bt196.1).bind fun t210 => (if t210 = true then (laws_FnExactEvenTable.j0 k bt196.2 bt205.2 (bt205.2 != bt196.2) l0_0 bt196.1 t201 bt205.1) else (laws_FnExactEvenTable.j0 k bt196.2 bt205.2 true l0_0 bt196.1 t201 bt205.1)))))) = some r := H
    have A7 := Aside0.mk A70
    clear A70
    replace H := Option.bind_eq_some_iff.mp H
    obtain ⟨⟨t196, t199⟩, A80, H⟩ := H
    replace H : ((laws_toTable.f k l0_0).bind fun t201 => ((impl_EvenTable.f k t201).bind fun bt205 => ((laws_eqTable.f k bt205.1 t196).bind fun t210 => (if t210 = true then (laws_FnExactEvenTable.j0 k t199 bt205.2 (bt205.2 != t199) l0_0 t196 t201 bt205.1) else (laws_FnExactEvenTable.j0 k t199 bt205.2 true l0_0 t196 t201 bt205.1))))) = some r := H
    have A8 := Aside0.mk A80
    clear A80
    replace H := Option.bind_eq_some_iff.mp H
    obtain ⟨t201, A90, H⟩ := H
    replace H : ((impl_EvenTable.f k t201).bind fun bt205 => ((laws_eqTable.f k bt205.1 t196).bind fun t210 => (if t210 = true then (laws_FnExactEvenTable.j0 k t199 bt205.2 (bt205.2 != t199) l0_0 t196 t201 bt205.1) else (laws_FnExactEvenTable.j0 k t199 bt205.2 true l0_0 t196 t201 bt205.1)))) = some r := H
    have A9 := Aside0.mk A90
    clear A90
    replace H := Option.bind_eq_some_iff.mp H
    obtain ⟨⟨t205, t208⟩, A100, H⟩ := H
    replace H : ((laws_eqTable.f k t205 t196).bind fun t210 => (if t210 = true then (laws_FnExactEvenTable.j0 k t199 t208 (t208 != t199) l0_0 t196 t201 t205) else (laws_FnExactEvenTable.j0 k t199 t208 true l0_0 t196 t201 t205))) = some r := H
    have A10 := Aside0.mk A100
    clear A100
    have HC11 := Aside0.mk H
    clear H
    go_enter Tryd.func6, Tryd.ntmps6
    go_upto_region 8 with (first | ((with_reducible refine gate_dst (N := 1) rfl ?_); refine box_event ?hg (N := 1) ?hd (cs := #[.slice A0_0 l0_0.length c0_0]) (t := 24) ?hr ?_; (case hd => rfl); (case hg => rfl); (case hr => first | (go_simp; done) | (go_simp; rfl)); intro gb191 hg w12 hbox hb; have n0_ := Aside0.mk (below_step (by repeat (first | (with_reducible first | exact HB.out | apply below_alloc | apply pw_below_drewN | apply below_drew1) | exact HB.out)) hb); have n1_ := Aside0.mk (hbox); have n2_ := Aside0.mk ((by rw [hg]; exact (below_size (by repeat (first | (with_reducible first | exact HB.out | apply below_alloc | apply pw_below_drewN | apply below_drew1) | exact HB.out))) : w.heap.size ≤ gb191)); have n3_ := Aside0.mk ((by rw [hg]; exact (below_size (by repeat (first | (with_reducible first | exact HB.out | apply below_alloc | apply pw_below_drewN | apply below_drew1) | exact HB.out))) : w.heap.size ≤ gb191)); clear HB; have HB := n0_; have BK191 := n1_; have GW191 := n2_; have GE191 := n3_; clear n0_ n1_ n2_ n3_; clear hb hbox hg; have hcz13_0 : w12.cell? ⟨gb191, 0, none⟩ = some (.slice A0_0 l0_0.length c0_0) := (blk_cell BK191.out 0).trans rfl; have hfz13_0 := blk_frozen BK191.out 0) | ((with_reducible refine gate_callee (f := 11) rfl ?_); refine goesL_ (some 16) rfl rfl Tryd.func11 (by kernel_rfl) rfl #[.agg #[.slice A0_0 l0_0.length c0_0], .int .i64 1048576] rfl (by (try simp only [List.map_toArray, List.map_cons, List.map_nil]); first | done | rfl | (simp only [List.length_drop, List.length_take]; rfl)) ?_; (with_reducible refine (laws_szTable.calls k _ _ l0_0 1048576 t192 _ ?side1 ?side2 A2.out).mono ?_); (case side1 => repeat (first | exact (Kd.C_below HR0_0.out HB.out) | (with_reducible refine Kd.C_alloc ?_ _) | (with_reducible refine Kd.C_drewN ?_ _) | (with_reducible refine Kd.C_drew ?_))); (case side2 => exact HC0_0.out); rintro e w14 ⟨rfl, hb⟩; refine ⟨_, rfl, ?_⟩; have n0_ := Aside0.mk (blk_below (g := gb191) (o := .cells #[.slice A0_0 l0_0.length c0_0] 24 (0, 0)) (by (with_reducible repeat (first | refine blk_drewN ?_ _ | refine blk_drew ?_ | refine blk_alloc ?_ _)); exact BK191.out) hb); have n1_ := Aside0.mk (below_step (by repeat (first | (with_reducible first | exact HB.out | apply below_alloc | apply pw_below_drewN | apply below_drew1 | refine below_set ?_ GE191.out) | exact HB.out)) hb); clear BK191; clear HB; have BK191 := n0_; have HB := n1_; clear n0_ n1_; (try clear hb); (try clear hb2); (try clear hk); (try clear hi); have hcz15_0 : w14.cell? ⟨gb191, 0, none⟩ = some (.slice A0_0 l0_0.length c0_0) := (blk_cell BK191.out 0).trans rfl; have hfz15_0 := blk_frozen BK191.out 0) | ((with_reducible refine gate_callee (f := 13) rfl ?_); refine goesL_ (some 21) rfl rfl Tryd.func13 (by kernel_rfl) rfl #[.agg #[.slice A0_0 l0_0.length c0_0]] rfl (by (try simp only [List.map_toArray, List.map_cons, List.map_nil]); first | done | rfl | (simp only [List.length_drop, List.length_take]; rfl)) ?_; (with_reducible refine (laws_toTable.calls k _ _ l0_0 t193 _ ?side1 ?side2 A7.out).mono ?_); (case side1 => repeat (first | exact (Kd.C_below HR0_0.out HB.out) | (with_reducible refine Kd.C_alloc ?_ _) | (with_reducible refine Kd.C_drewN ?_ _) | (with_reducible refine Kd.C_drew ?_))); (case side2 => exact HC0_0.out); rintro e w16 ⟨v194, rfl, ho0, hb⟩; refine ⟨_, rfl, ?_⟩; have n0_ := Aside0.mk (Kd.R_lower ho0 (below_size (by repeat (first | (with_reducible first | exact HB.out | apply below_alloc | apply pw_below_drewN | apply below_drew1 | refine below_set ?_ GE191.out) | exact HB.out)))); have n1_ := Aside0.mk (blk_below (g := gb191) (o := .cells #[.slice A0_0 l0_0.length c0_0] 24 (0, 0)) (by (with_reducible repeat (first | refine blk_drewN ?_ _ | refine blk_drew ?_ | refine blk_alloc ?_ _)); exact BK191.out) hb); have n2_ := Aside0.mk (below_step (by repeat (first | (with_reducible first | exact HB.out | apply below_alloc | apply pw_below_drewN | apply below_drew1 | refine below_set ?_ GE191.out) | exact HB.out)) hb); clear BK191; clear HB; have HO195 := n0_; have BK191 := n1_; have HB := n2_; clear n0_ n1_ n2_; (try clear hb); (try clear hb2); (try clear hk); (try clear hi); (try clear ho0); obtain ⟨Ao17, co17, eo17⟩ := Kd.R_slice HO195.out; subst eo17) | ((with_reducible refine gate_callee (f := 25) rfl ?_); refine goesL_ (some 22) rfl rfl Tryd.func25 (by kernel_rfl) rfl #[.agg #[.slice Ao17 t193.length co17]] rfl (by (try simp only [List.map_toArray, List.map_cons, List.map_nil]); first | done | rfl | (simp only [List.length_drop, List.length_take]; rfl)) ?_; (with_reducible refine (spec_EvenTable.calls k _ _ t193 t196 t199 _ ?side1 ?side2 A8.out).mono ?_); (case side1 => repeat (first | exact (Kd.R_reads' HO195.out).2.2 | (with_reducible refine Kd.C_alloc ?_ _) | (with_reducible refine Kd.C_drewN ?_ _) | (with_reducible refine Kd.C_drew ?_))); (case side2 => exact (Kd.R_reads' HO195.out).2.1); rintro e w18 ⟨v197, rfl, ho0, hb⟩; refine ⟨_, rfl, ?_⟩; have n0_ := Aside0.mk (Kd.R_elder' (by (with_reducible repeat (first | apply Kd.R_alloc | apply Kd.R_drewN | apply Kd.R_drew)); exact HO195.out) (Kd.R_base ho0) hb); have n1_ := Aside0.mk (Kd.R_lower (Kd.R_new' ho0 (Kd.R_lt (by (with_reducible repeat (first | apply Kd.R_alloc | apply Kd.R_drewN | apply Kd.R_drew)); exact HO195.out))) (below_size (by repeat (first | (with_reducible first | exact HB.out | apply below_alloc | apply pw_below_drewN | apply below_drew1 | refine below_set ?_ GE191.out) | exact HB.out)))); have n2_ := Aside0.mk (blk_below (g := gb191) (o := .cells #[.slice A0_0 l0_0.length c0_0] 24 (0, 0)) (by (with_reducible repeat (first | refine blk_drewN ?_ _ | refine blk_drew ?_ | refine blk_alloc ?_ _)); exact BK191.out) hb); have n3_ := Aside0.mk (below_step (by repeat (first | (with_reducible first | exact HB.out | apply below_alloc | apply pw_below_drewN | apply below_drew1 | refine below_set ?_ GE191.out) | exact HB.out)) hb); clear HO195; clear BK191; clear HB; have HO195 := n0_; have HO198 := n1_; have BK191 := n2_; have HB := n3_; clear n0_ n1_ n2_ n3_; (try clear hb); (try clear hb2); (try clear hk); (try clear hi); (try clear ho0)) | ((with_reducible refine gate_dst (N := 4) rfl ?_); refine box_event ?hg (N := 4) ?hd (cs := #[.slice none 0 0]) (t := 28) ?hr ?_; (case hd => rfl); (case hg => rfl); (case hr => first | (go_simp; done) | (go_simp; rfl)); intro gb200 hg w19 hbox hb; have n0_ := Aside0.mk (Kd.R_below (by (with_reducible repeat (first | apply Kd.R_alloc | apply Kd.R_drewN | apply Kd.R_drew)); exact HO195.out) hb); have n1_ := Aside0.mk (Kd.R_below (by (with_reducible repeat (first | apply Kd.R_alloc | apply Kd.R_drewN | apply Kd.R_drew)); exact HO198.out) hb); have n2_ := Aside0.mk (blk_below (g := gb191) (o := .cells #[.slice A0_0 l0_0.length c0_0] 24 (0, 0)) (by (with_reducible repeat (first | refine blk_drewN ?_ _ | refine blk_drew ?_ | refine blk_alloc ?_ _)); exact BK191.out) hb); have n3_ := Aside0.mk (below_step (by repeat (first | (with_reducible first | exact HB.out | apply below_alloc | apply pw_below_drewN | apply below_drew1 | refine below_set ?_ GE191.out) | exact HB.out)) hb); have n4_ := Aside0.mk (hbox); have n5_ := Aside0.mk ((by rw [hg]; exact (below_size (by repeat (first | (with_reducible first | exact HB.out | apply below_alloc | apply pw_below_drewN | apply below_drew1 | refine below_set ?_ GE191.out) | exact HB.out))) : w.heap.size ≤ gb200)); have n6_ := Aside0.mk ((by rw [hg]; exact (below_size (by repeat (first | (with_reducible first | exact HB.out | apply below_alloc | apply pw_below_drewN | apply below_drew1 | refine below_set ?_ GE191.out) | exact HB.out))) : w.heap.size ≤ gb200)); have n7_ := Aside0.mk ((by rw [hg]; exact Nat.ne_of_lt (blk_lt (g := gb191) (o := .cells #[.slice A0_0 l0_0.length c0_0] 24 (0, 0)) (by (with_reducible repeat (first | refine blk_drewN ?_ _ | refine blk_drew ?_ | refine blk_alloc ?_ _)); exact BK191.out)) : gb191 ≠ gb200)); have n8_ := Aside0.mk ((by rw [hg]; exact Nat.ne_of_gt (blk_lt (g := gb191) (o := .cells #[.slice A0_0 l0_0.length c0_0] 24 (0, 0)) (by (with_reducible repeat (first | refine blk_drewN ?_ _ | refine blk_drew ?_ | refine blk_alloc ?_ _)); exact BK191.out)) : gb200 ≠ gb191)); clear HO195; clear HO198; clear BK191; clear HB; have HO195 := n0_; have HO198 := n1_; have BK191 := n2_; have HB := n3_; have BK200 := n4_; have GW200 := n5_; have GE200 := n6_; have NB191_200 := n7_; have NB200_191 := n8_; clear n0_ n1_ n2_ n3_ n4_ n5_ n6_ n7_ n8_; clear hb hbox hg; obtain ⟨Ao20, co20, eo20⟩ := Kd.R_slice HO198.out; subst eo20; have hnb21 := NB200_191.out; have hnc21 := NB191_200.out; (try (have hnw23 := Kd.R_ne HO195.out BK200.out (by decide); change some gb200 ≠ some _ at hnw23; have how23 := fun (e_ : gb200 = _) => hnw23 (congrArg some e_); have hpw23 := fun e_ => how23 (Eq.symm e_); clear hnw23; replace how23 := eq_false how23; replace hpw23 := eq_false hpw23)); (try (have hnw24 := Kd.R_ne HO198.out BK200.out (by decide); change some gb200 ≠ some _ at hnw24; have how24 := fun (e_ : gb200 = _) => hnw24 (congrArg some e_); have hpw24 := fun e_ => how24 (Eq.symm e_); clear hnw24; replace how24 := eq_false how24; replace hpw24 := eq_false hpw24)); have hcz22_0 : w19.cell? ⟨gb200, 0, none⟩ = some (.slice none 0 0) := (blk_cell BK200.out 0).trans rfl; have hfz22_0 := blk_frozen BK200.out 0; (try (have hnw26 := Kd.R_ne HO195.out BK191.out (by decide); change some gb191 ≠ some _ at hnw26; have how26 := fun (e_ : gb191 = _) => hnw26 (congrArg some e_); have hpw26 := fun e_ => how26 (Eq.symm e_); clear hnw26; replace how26 := eq_false how26; replace hpw26 := eq_false hpw26)); (try (have hnw27 := Kd.R_ne HO198.out BK191.out (by decide); change some gb191 ≠ some _ at hnw27; have how27 := fun (e_ : gb191 = _) => hnw27 (congrArg some e_); have hpw27 := fun e_ => how27 (Eq.symm e_); clear hnw27; replace how27 := eq_false how27; replace hpw27 := eq_false hpw27)); have hcz25_0 : w19.cell? ⟨gb191, 0, none⟩ = some (.slice A0_0 l0_0.length c0_0) := (blk_cell BK191.out 0).trans rfl; have hfz25_0 := blk_frozen BK191.out 0) | ((with_reducible refine gate_callee (f := 13) rfl ?_); refine goesL_ (some 26) rfl rfl Tryd.func13 (by kernel_rfl) rfl #[.agg #[.slice A0_0 l0_0.length c0_0]] rfl (by (try simp only [List.map_toArray, List.map_cons, List.map_nil]); first | done | rfl | (simp only [List.length_drop, List.length_take]; rfl)) ?_; (with_reducible refine (laws_toTable.calls k _ _ l0_0 t201 _ ?side1 ?side2 A9.out).mono ?_); (case side1 => exact Kd.C_below HR0_0.out (by repeat (first | (with_reducible first | exact HB.out | apply below_alloc | apply pw_below_drewN | apply below_drew1 | refine below_set ?_ GE191.out | refine below_set ?_ GE200.out) | exact HB.out))); (case side2 => exact HC0_0.out); rintro e w28 ⟨v202, rfl, ho0, hb⟩; refine ⟨_, rfl, ?_⟩; have n0_ := Aside0.mk (Kd.R_elder' (by (with_reducible repeat (first | apply Kd.R_alloc | apply Kd.R_drewN | apply Kd.R_drew)); exact (Kd.R_mono (Kd.R_far (p := ⟨gb200, 0, none⟩) (Kd.R_types HO195.out BK200.out (by decide)) (fun _ hk => hk.2) (.slice Ao20 t196.length co20)) (fun _ h_ => h_.1))) (Kd.R_base ho0) hb); have n1_ := Aside0.mk (Kd.R_elder' (by (with_reducible repeat (first | apply Kd.R_alloc | apply Kd.R_drewN | apply Kd.R_drew)); exact (Kd.R_mono (Kd.R_far (p := ⟨gb200, 0, none⟩) (Kd.R_types HO198.out BK200.out (by decide)) (fun _ hk => hk.2) (.slice Ao20 t196.length co20)) (fun _ h_ => h_.1))) (Kd.R_base ho0) hb); have n2_ := Aside0.mk (Kd.R_lower (Kd.R_new' (Kd.R_new' ho0 (Kd.R_lt (by (with_reducible repeat (first | apply Kd.R_alloc | apply Kd.R_drewN | apply Kd.R_drew)); exact (Kd.R_mono (Kd.R_far (p := ⟨gb200, 0, none⟩) (Kd.R_types HO195.out BK200.out (by decide)) (fun _ hk => hk.2) (.slice Ao20 t196.length co20)) (fun _ h_ => h_.1))))) (Kd.R_lt (by (with_reducible repeat (first | apply Kd.R_alloc | apply Kd.R_drewN | apply Kd.R_drew)); exact (Kd.R_mono (Kd.R_far (p := ⟨gb200, 0, none⟩) (Kd.R_types HO198.out BK200.out (by decide)) (fun _ hk => hk.2) (.slice Ao20 t196.length co20)) (fun _ h_ => h_.1))))) (below_size (by repeat (first | (with_reducible first | exact HB.out | apply below_alloc | apply pw_below_drewN | apply below_drew1 | refine below_set ?_ GE191.out | refine below_set ?_ GE200.out) | exact HB.out)))); have n3_ := Aside0.mk (blk_below (g := gb191) (o := .cells #[.slice A0_0 l0_0.length c0_0] 24 (0, 0)) (by (with_reducible repeat (first | refine blk_drewN ?_ _ | refine blk_drew ?_ | refine blk_alloc ?_ _)); refine blk_far ?_ NB191_200.out _; (with_reducible repeat (first | refine blk_drewN ?_ _ | refine blk_drew ?_ | refine blk_alloc ?_ _)); exact BK191.out) hb); have n4_ := Aside0.mk (blk_below (g := gb200) (o := .cells #[.slice Ao20 t196.length co20] 28 (0, 0)) (by (with_reducible repeat (first | refine blk_drewN ?_ _ | refine blk_drew ?_ | refine blk_alloc ?_ _)); refine blk_put (cs := #[.slice none 0 0]) ?_ 0 _ rfl; (with_reducible repeat (first | refine blk_drewN ?_ _ | refine blk_drew ?_ | refine blk_alloc ?_ _)); exact BK200.out) hb); have n5_ := Aside0.mk (below_step (by repeat (first | (with_reducible first | exact HB.out | apply below_alloc | apply pw_below_drewN | apply below_drew1 | refine below_set ?_ GE191.out | refine below_set ?_ GE200.out) | exact HB.out)) hb); clear HO195; clear HO198; clear BK191; clear BK200; clear HB; have HO195 := n0_; have HO198 := n1_; have HO203 := n2_; have BK191 := n3_; have BK200 := n4_; have HB := n5_; clear n0_ n1_ n2_ n3_ n4_ n5_; (try clear hb); (try clear hb2); (try clear hk); (try clear hi); (try clear ho0)) | ((with_reducible refine gate_dst (N := 6) rfl ?_); refine box_event ?hg (N := 6) ?hd (cs := #[.slice none 0 0]) (t := 28) ?hr ?_; (case hd => rfl); (case hg => rfl); (case hr => first | (go_simp; done) | (go_simp; rfl)); intro gb204 hg w29 hbox hb; have n0_ := Aside0.mk (Kd.R_below (by (with_reducible repeat (first | apply Kd.R_alloc | apply Kd.R_drewN | apply Kd.R_drew)); exact HO195.out) hb); have n1_ := Aside0.mk (Kd.R_below (by (with_reducible repeat (first | apply Kd.R_alloc | apply Kd.R_drewN | apply Kd.R_drew)); exact HO198.out) hb); have n2_ := Aside0.mk (Kd.R_below (by (with_reducible repeat (first | apply Kd.R_alloc | apply Kd.R_drewN | apply Kd.R_drew)); exact HO203.out) hb); have n3_ := Aside0.mk (blk_below (g := gb191) (o := .cells #[.slice A0_0 l0_0.length c0_0] 24 (0, 0)) (by (with_reducible repeat (first | refine blk_drewN ?_ _ | refine blk_drew ?_ | refine blk_alloc ?_ _)); exact BK191.out) hb); have n4_ := Aside0.mk (blk_below (g := gb200) (o := .cells #[.slice Ao20 t196.length co20] 28 (0, 0)) (by (with_reducible repeat (first | refine blk_drewN ?_ _ | refine blk_drew ?_ | refine blk_alloc ?_ _)); exact BK200.out) hb); have n5_ := Aside0.mk (below_step (by repeat (first | (with_reducible first | exact HB.out | apply below_alloc | apply pw_below_drewN | apply below_drew1 | refine below_set ?_ GE191.out | refine below_set ?_ GE200.out) | exact HB.out)) hb); have n6_ := Aside0.mk (hbox); have n7_ := Aside0.mk ((by rw [hg]; exact (below_size (by repeat (first | (with_reducible first | exact HB.out | apply below_alloc | apply pw_below_drewN | apply below_drew1 | refine below_set ?_ GE191.out | refine below_set ?_ GE200.out) | exact HB.out))) : w.heap.size ≤ gb204)); have n8_ := Aside0.mk ((by rw [hg]; exact (below_size (by repeat (first | (with_reducible first | exact HB.out | apply below_alloc | apply pw_below_drewN | apply below_drew1 | refine below_set ?_ GE191.out | refine below_set ?_ GE200.out) | exact HB.out))) : w.heap.size ≤ gb204)); have n9_ := Aside0.mk ((by rw [hg]; exact Nat.ne_of_lt (blk_lt (g := gb191) (o := .cells #[.slice A0_0 l0_0.length c0_0] 24 (0, 0)) (by (with_reducible repeat (first | refine blk_drewN ?_ _ | refine blk_drew ?_ | refine blk_alloc ?_ _)); exact BK191.out)) : gb191 ≠ gb204)); have n10_ := Aside0.mk ((by rw [hg]; exact Nat.ne_of_gt (blk_lt (g := gb191) (o := .cells #[.slice A0_0 l0_0.length c0_0] 24 (0, 0)) (by (with_reducible repeat (first | refine blk_drewN ?_ _ | refine blk_drew ?_ | refine blk_alloc ?_ _)); exact BK191.out)) : gb204 ≠ gb191)); have n11_ := Aside0.mk ((by rw [hg]; exact Nat.ne_of_lt (blk_lt (g := gb200) (o := .cells #[.slice Ao20 t196.length co20] 28 (0, 0)) (by (with_reducible repeat (first | refine blk_drewN ?_ _ | refine blk_drew ?_ | refine blk_alloc ?_ _)); exact BK200.out)) : gb200 ≠ gb204)); have n12_ := Aside0.mk ((by rw [hg]; exact Nat.ne_of_gt (blk_lt (g := gb200) (o := .cells #[.slice Ao20 t196.length co20] 28 (0, 0)) (by (with_reducible repeat (first | refine blk_drewN ?_ _ | refine blk_drew ?_ | refine blk_alloc ?_ _)); exact BK200.out)) : gb204 ≠ gb200)); clear HO195; clear HO198; clear HO203; clear BK191; clear BK200; clear HB; have HO195 := n0_; have HO198 := n1_; have HO203 := n2_; have BK191 := n3_; have BK200 := n4_; have HB := n5_; have BK204 := n6_; have GW204 := n7_; have GE204 := n8_; have NB191_204 := n9_; have NB204_191 := n10_; have NB200_204 := n11_; have NB204_200 := n12_; clear n0_ n1_ n2_ n3_ n4_ n5_ n6_ n7_ n8_ n9_ n10_ n11_ n12_; clear hb hbox hg; obtain ⟨Ao30, co30, eo30⟩ := Kd.R_slice HO203.out; subst eo30; have hnb31 := NB204_191.out; have hnc31 := NB191_204.out; have hnb32 := NB204_200.out; have hnc32 := NB200_204.out; (try (have hnw34 := Kd.R_ne HO195.out BK204.out (by decide); change some gb204 ≠ some _ at hnw34; have how34 := fun (e_ : gb204 = _) => hnw34 (congrArg some e_); have hpw34 := fun e_ => how34 (Eq.symm e_); clear hnw34; replace how34 := eq_false how34; replace hpw34 := eq_false hpw34)); (try (have hnw35 := Kd.R_ne HO198.out BK204.out (by decide); change some gb204 ≠ some _ at hnw35; have how35 := fun (e_ : gb204 = _) => hnw35 (congrArg some e_); have hpw35 := fun e_ => how35 (Eq.symm e_); clear hnw35; replace how35 := eq_false how35; replace hpw35 := eq_false hpw35)); (try (have hnw36 := Kd.R_ne HO203.out BK204.out (by decide); change some gb204 ≠ some _ at hnw36; have how36 := fun (e_ : gb204 = _) => hnw36 (congrArg some e_); have hpw36 := fun e_ => how36 (Eq.symm e_); clear hnw36; replace how36 := eq_false how36; replace hpw36 := eq_false hpw36)); have hcz33_0 : w29.cell? ⟨gb204, 0, none⟩ = some (.slice none 0 0) := (blk_cell BK204.out 0).trans rfl; have hfz33_0 := blk_frozen BK204.out 0) | ((with_reducible refine gate_callee (f := 26) rfl ?_); refine goesL_ (some 29) rfl rfl Tryd.func26 (by kernel_rfl) rfl #[.agg #[.slice Ao30 t201.length co30]] rfl (by (try simp only [List.map_toArray, List.map_cons, List.map_nil]); first | done | rfl | (simp only [List.length_drop, List.length_take]; rfl)) ?_; (with_reducible refine (impl_EvenTable.calls k _ _ t201 t205 t208 _ ?side1 ?side2 A10.out).mono ?_); (case side1 => refine (Kd.R_reads' (e := 9) (base := w.heap.size) (ok := fun k_ => ((True ∧ some k_ ≠ (.slice Ao17 t193.length co17 : Value).ownBlock) ∧ some k_ ≠ (.slice Ao20 t196.length co20 : Value).ownBlock)) (n := t201.length) (c := co30) ?_).2.2; exact (by (with_reducible repeat (first | apply Kd.R_alloc | apply Kd.R_drewN | apply Kd.R_drew)); exact (Kd.R_mono (Kd.R_far (p := ⟨gb204, 0, none⟩) (Kd.R_types HO203.out BK204.out (by decide)) (fun _ hk => hk.2) (.slice Ao30 t201.length co30)) (fun _ h_ => h_.1)))); (case side2 => exact (Kd.R_reads' HO203.out).2.1); rintro e w37 ⟨v206, rfl, ho0, hb⟩; refine ⟨_, rfl, ?_⟩; have n0_ := Aside0.mk (Kd.R_elder' (by (with_reducible repeat (first | apply Kd.R_alloc | apply Kd.R_drewN | apply Kd.R_drew)); exact (Kd.R_mono (Kd.R_far (p := ⟨gb204, 0, none⟩) (Kd.R_types HO195.out BK204.out (by decide)) (fun _ hk => hk.2) (.slice Ao30 t201.length co30)) (fun _ h_ => h_.1))) (Kd.R_base ho0) hb); have n1_ := Aside0.mk (Kd.R_elder' (by (with_reducible repeat (first | apply Kd.R_alloc | apply Kd.R_drewN | apply Kd.R_drew)); exact (Kd.R_mono (Kd.R_far (p := ⟨gb204, 0, none⟩) (Kd.R_types HO198.out BK204.out (by decide)) (fun _ hk => hk.2) (.slice Ao30 t201.length co30)) (fun _ h_ => h_.1))) (Kd.R_base ho0) hb); have n2_ := Aside0.mk (Kd.R_elder' (by (with_reducible repeat (first | apply Kd.R_alloc | apply Kd.R_drewN | apply Kd.R_drew)); exact (Kd.R_mono (Kd.R_far (p := ⟨gb204, 0, none⟩) (Kd.R_types HO203.out BK204.out (by decide)) (fun _ hk => hk.2) (.slice Ao30 t201.length co30)) (fun _ h_ => h_.1))) (Kd.R_base ho0) hb); have n3_ := Aside0.mk (Kd.R_lower (Kd.R_new' (Kd.R_new' (Kd.R_new' ho0 (Kd.R_lt (by (with_reducible repeat (first | apply Kd.R_alloc | apply Kd.R_drewN | apply Kd.R_drew)); exact (Kd.R_mono (Kd.R_far (p := ⟨gb204, 0, none⟩) (Kd.R_types HO195.out BK204.out (by decide)) (fun _ hk => hk.2) (.slice Ao30 t201.length co30)) (fun _ h_ => h_.1))))) (Kd.R_lt (by (with_reducible repeat (first | apply Kd.R_alloc | apply Kd.R_drewN | apply Kd.R_drew)); exact (Kd.R_mono (Kd.R_far (p := ⟨gb204, 0, none⟩) (Kd.R_types HO198.out BK204.out (by decide)) (fun _ hk => hk.2) (.slice Ao30 t201.length co30)) (fun _ h_ => h_.1))))) (Kd.R_lt (by (with_reducible repeat (first | apply Kd.R_alloc | apply Kd.R_drewN | apply Kd.R_drew)); exact (Kd.R_mono (Kd.R_far (p := ⟨gb204, 0, none⟩) (Kd.R_types HO203.out BK204.out (by decide)) (fun _ hk => hk.2) (.slice Ao30 t201.length co30)) (fun _ h_ => h_.1))))) (below_size (by repeat (first | (with_reducible first | exact HB.out | apply below_alloc | apply pw_below_drewN | apply below_drew1 | refine below_set ?_ GE191.out | refine below_set ?_ GE200.out | refine below_set ?_ GE204.out) | exact HB.out)))); have n4_ := Aside0.mk (blk_below (g := gb191) (o := .cells #[.slice A0_0 l0_0.length c0_0] 24 (0, 0)) (by (with_reducible repeat (first | refine blk_drewN ?_ _ | refine blk_drew ?_ | refine blk_alloc ?_ _)); refine blk_far ?_ NB191_204.out _; (with_reducible repeat (first | refine blk_drewN ?_ _ | refine blk_drew ?_ | refine blk_alloc ?_ _)); exact BK191.out) hb); have n5_ := Aside0.mk (blk_below (g := gb200) (o := .cells #[.slice Ao20 t196.length co20] 28 (0, 0)) (by (with_reducible repeat (first | refine blk_drewN ?_ _ | refine blk_drew ?_ | refine blk_alloc ?_ _)); refine blk_far ?_ NB200_204.out _; (with_reducible repeat (first | refine blk_drewN ?_ _ | refine blk_drew ?_ | refine blk_alloc ?_ _)); exact BK200.out) hb); have n6_ := Aside0.mk (blk_below (g := gb204) (o := .cells #[.slice Ao30 t201.length co30] 28 (0, 0)) (by (with_reducible repeat (first | refine blk_drewN ?_ _ | refine blk_drew ?_ | refine blk_alloc ?_ _)); refine blk_put (cs := #[.slice none 0 0]) ?_ 0 _ rfl; (with_reducible repeat (first | refine blk_drewN ?_ _ | refine blk_drew ?_ | refine blk_alloc ?_ _)); exact BK204.out) hb); have n7_ := Aside0.mk (below_step (by repeat (first | (with_reducible first | exact HB.out | apply below_alloc | apply pw_below_drewN | apply below_drew1 | refine below_set ?_ GE191.out | refine below_set ?_ GE200.out | refine below_set ?_ GE204.out) | exact HB.out)) hb); clear HO195; clear HO198; clear HO203; clear BK191; clear BK200; clear BK204; clear HB; have HO195 := n0_; have HO198 := n1_; have HO203 := n2_; have HO207 := n3_; have BK191 := n4_; have BK200 := n5_; have BK204 := n6_; have HB := n7_; clear n0_ n1_ n2_ n3_ n4_ n5_ n6_ n7_; (try clear hb); (try clear hb2); (try clear hk); (try clear hi); (try clear ho0)) | ((with_reducible refine gate_dst (N := 7) rfl ?_); refine box_event ?hg (N := 7) ?hd (cs := #[.slice none 0 0]) (t := 28) ?hr ?_; (case hd => rfl); (case hg => rfl); (case hr => first | (go_simp; done) | (go_simp; rfl)); intro gb209 hg w38 hbox hb; have n0_ := Aside0.mk (Kd.R_below (by (with_reducible repeat (first | apply Kd.R_alloc | apply Kd.R_drewN | apply Kd.R_drew)); exact HO195.out) hb); have n1_ := Aside0.mk (Kd.R_below (by (with_reducible repeat (first | apply Kd.R_alloc | apply Kd.R_drewN | apply Kd.R_drew)); exact HO198.out) hb); have n2_ := Aside0.mk (Kd.R_below (by (with_reducible repeat (first | apply Kd.R_alloc | apply Kd.R_drewN | apply Kd.R_drew)); exact HO203.out) hb); have n3_ := Aside0.mk (Kd.R_below (by (with_reducible repeat (first | apply Kd.R_alloc | apply Kd.R_drewN | apply Kd.R_drew)); exact HO207.out) hb); have n4_ := Aside0.mk (blk_below (g := gb191) (o := .cells #[.slice A0_0 l0_0.length c0_0] 24 (0, 0)) (by (with_reducible repeat (first | refine blk_drewN ?_ _ | refine blk_drew ?_ | refine blk_alloc ?_ _)); exact BK191.out) hb); have n5_ := Aside0.mk (blk_below (g := gb200) (o := .cells #[.slice Ao20 t196.length co20] 28 (0, 0)) (by (with_reducible repeat (first | refine blk_drewN ?_ _ | refine blk_drew ?_ | refine blk_alloc ?_ _)); exact BK200.out) hb); have n6_ := Aside0.mk (blk_below (g := gb204) (o := .cells #[.slice Ao30 t201.length co30] 28 (0, 0)) (by (with_reducible repeat (first | refine blk_drewN ?_ _ | refine blk_drew ?_ | refine blk_alloc ?_ _)); exact BK204.out) hb); have n7_ := Aside0.mk (below_step (by repeat (first | (with_reducible first | exact HB.out | apply below_alloc | apply pw_below_drewN | apply below_drew1 | refine below_set ?_ GE191.out | refine below_set ?_ GE200.out | refine below_set ?_ GE204.out) | exact HB.out)) hb); have n8_ := Aside0.mk (hbox); have n9_ := Aside0.mk ((by rw [hg]; exact (below_size (by repeat (first | (with_reducible first | exact HB.out | apply below_alloc | apply pw_below_drewN | apply below_drew1 | refine below_set ?_ GE191.out | refine below_set ?_ GE200.out | refine below_set ?_ GE204.out) | exact HB.out))) : w.heap.size ≤ gb209)); have n10_ := Aside0.mk ((by rw [hg]; exact (below_size (by repeat (first | (with_reducible first | exact HB.out | apply below_alloc | apply pw_below_drewN | apply below_drew1 | refine below_set ?_ GE191.out | refine below_set ?_ GE200.out | refine below_set ?_ GE204.out) | exact HB.out))) : w.heap.size ≤ gb209)); have n11_ := Aside0.mk ((by rw [hg]; exact Nat.ne_of_lt (blk_lt (g := gb191) (o := .cells #[.slice A0_0 l0_0.length c0_0] 24 (0, 0)) (by (with_reducible repeat (first | refine blk_drewN ?_ _ | refine blk_drew ?_ | refine blk_alloc ?_ _)); exact BK191.out)) : gb191 ≠ gb209)); have n12_ := Aside0.mk ((by rw [hg]; exact Nat.ne_of_gt (blk_lt (g := gb191) (o := .cells #[.slice A0_0 l0_0.length c0_0] 24 (0, 0)) (by (with_reducible repeat (first | refine blk_drewN ?_ _ | refine blk_drew ?_ | refine blk_alloc ?_ _)); exact BK191.out)) : gb209 ≠ gb191)); have n13_ := Aside0.mk ((by rw [hg]; exact Nat.ne_of_lt (blk_lt (g := gb200) (o := .cells #[.slice Ao20 t196.length co20] 28 (0, 0)) (by (with_reducible repeat (first | refine blk_drewN ?_ _ | refine blk_drew ?_ | refine blk_alloc ?_ _)); exact BK200.out)) : gb200 ≠ gb209)); have n14_ := Aside0.mk ((by rw [hg]; exact Nat.ne_of_gt (blk_lt (g := gb200) (o := .cells #[.slice Ao20 t196.length co20] 28 (0, 0)) (by (with_reducible repeat (first | refine blk_drewN ?_ _ | refine blk_drew ?_ | refine blk_alloc ?_ _)); exact BK200.out)) : gb209 ≠ gb200)); have n15_ := Aside0.mk ((by rw [hg]; exact Nat.ne_of_lt (blk_lt (g := gb204) (o := .cells #[.slice Ao30 t201.length co30] 28 (0, 0)) (by (with_reducible repeat (first | refine blk_drewN ?_ _ | refine blk_drew ?_ | refine blk_alloc ?_ _)); exact BK204.out)) : gb204 ≠ gb209)); have n16_ := Aside0.mk ((by rw [hg]; exact Nat.ne_of_gt (blk_lt (g := gb204) (o := .cells #[.slice Ao30 t201.length co30] 28 (0, 0)) (by (with_reducible repeat (first | refine blk_drewN ?_ _ | refine blk_drew ?_ | refine blk_alloc ?_ _)); exact BK204.out)) : gb209 ≠ gb204)); clear HO195; clear HO198; clear HO203; clear HO207; clear BK191; clear BK200; clear BK204; clear HB; have HO195 := n0_; have HO198 := n1_; have HO203 := n2_; have HO207 := n3_; have BK191 := n4_; have BK200 := n5_; have BK204 := n6_; have HB := n7_; have BK209 := n8_; have GW209 := n9_; have GE209 := n10_; have NB191_209 := n11_; have NB209_191 := n12_; have NB200_209 := n13_; have NB209_200 := n14_; have NB204_209 := n15_; have NB209_204 := n16_; clear n0_ n1_ n2_ n3_ n4_ n5_ n6_ n7_ n8_ n9_ n10_ n11_ n12_ n13_ n14_ n15_ n16_; clear hb hbox hg; obtain ⟨Ao39, co39, eo39⟩ := Kd.R_slice HO207.out; subst eo39; have hnb40 := NB209_191.out; have hnc40 := NB191_209.out; have hnb41 := NB209_200.out; have hnc41 := NB200_209.out; have hnb42 := NB209_204.out; have hnc42 := NB204_209.out; (try (have hnw44 := Kd.R_ne HO195.out BK209.out (by decide); change some gb209 ≠ some _ at hnw44; have how44 := fun (e_ : gb209 = _) => hnw44 (congrArg some e_); have hpw44 := fun e_ => how44 (Eq.symm e_); clear hnw44; replace how44 := eq_false how44; replace hpw44 := eq_false hpw44)); (try (have hnw45 := Kd.R_ne HO198.out BK209.out (by decide); change some gb209 ≠ some _ at hnw45; have how45 := fun (e_ : gb209 = _) => hnw45 (congrArg some e_); have hpw45 := fun e_ => how45 (Eq.symm e_); clear hnw45; replace how45 := eq_false how45; replace hpw45 := eq_false hpw45)); (try (have hnw46 := Kd.R_ne HO203.out BK209.out (by decide); change some gb209 ≠ some _ at hnw46; have how46 := fun (e_ : gb209 = _) => hnw46 (congrArg some e_); have hpw46 := fun e_ => how46 (Eq.symm e_); clear hnw46; replace how46 := eq_false how46; replace hpw46 := eq_false hpw46)); (try (have hnw47 := Kd.R_ne HO207.out BK209.out (by decide); change some gb209 ≠ some _ at hnw47; have how47 := fun (e_ : gb209 = _) => hnw47 (congrArg some e_); have hpw47 := fun e_ => how47 (Eq.symm e_); clear hnw47; replace how47 := eq_false how47; replace hpw47 := eq_false hpw47)); have hcz43_0 : w38.cell? ⟨gb209, 0, none⟩ = some (.slice none 0 0) := (blk_cell BK209.out 0).trans rfl; have hfz43_0 := blk_frozen BK209.out 0))
    (try simp only [Act.put, List.setIfInBounds_toArray, List.set_cons_zero, List.set_cons_succ])
    go_cut [40] (fun v40 wc => ∃ (kq : Nat) (x40_10 : Bool), v40 = .bool x40_10 ∧ Aside0 (laws_FnExactEvenTable.j0 kq t199 t208 x40_10 l0_0 t196 t201 t205 = some r) ∧ Aside0 (kq ≤ k) ∧ Aside0 (Kd.R Kd.string 9 wc w.heap.size (fun k_ => some k_ ≠ ((.slice Ao30 t201.length co30) : Value).ownBlock ∧ some k_ ≠ ((.slice Ao39 t205.length co39) : Value).ownBlock) (.slice Ao20 t196.length co20) t196) ∧ Aside0 (Kd.R Kd.string 9 wc w.heap.size (fun k_ => some k_ ≠ ((.slice Ao20 t196.length co20) : Value).ownBlock ∧ some k_ ≠ ((.slice Ao39 t205.length co39) : Value).ownBlock) (.slice Ao30 t201.length co30) t201) ∧ Aside0 (Kd.R Kd.string 9 wc w.heap.size (fun k_ => some k_ ≠ ((.slice Ao20 t196.length co20) : Value).ownBlock ∧ some k_ ≠ ((.slice Ao30 t201.length co30) : Value).ownBlock) (.slice Ao39 t205.length co39) t205) ∧ Aside0 (wc.heap[gb191]? = some (.cells #[(.slice A0_0 l0_0.length c0_0)] 24 (0, 0))) ∧ Aside0 (wc.heap[gb200]? = some (.cells #[(.slice Ao20 t196.length co20)] 28 (0, 0))) ∧ Aside0 (wc.heap[gb204]? = some (.cells #[(.slice Ao30 t201.length co30)] 28 (0, 0))) ∧ Aside0 (wc.heap[gb209]? = some (.cells #[(.slice Ao39 t205.length co39)] 28 (0, 0))) ∧ Aside0 (Below w.heap.size w wc))
    case first =>
      have H := HC11.out
      clear HC11
      replace H := Option.bind_eq_some_iff.mp H
      obtain ⟨t210, A480, H⟩ := H
      replace H : (if t210 = true then (laws_FnExactEvenTable.j0 k t199 t208 (t208 != t199) l0_0 t196 t201 t205) else (laws_FnExactEvenTable.j0 k t199 t208 true l0_0 t196 t201 t205)) = some r := H
      have A48 := Aside0.mk A480
      clear A480
      by_cases c49 : t210 = true
      · subst c49
        have H1 : (laws_FnExactEvenTable.j0 k t199 t208 (t208 != t199) l0_0 t196 t201 t205) = some r := by rw [if_pos rfl] at H; first | exact H | (simp only [if_true, eq_self] at H ⊢; exact H)
        clear H
        have H := H1
        clear H1
        have H' := Aside0.mk H
        clear H
        have hnb50 := NB209_191.out
        have hnc50 := NB191_209.out
        have hnb51 := NB209_200.out
        have hnc51 := NB200_209.out
        have hnb52 := NB209_204.out
        have hnc52 := NB204_209.out
        (try (have hnw54 := Kd.R_ne HO195.out BK209.out (by decide); change some gb209 ≠ some _ at hnw54; have how54 := fun (e_ : gb209 = _) => hnw54 (congrArg some e_); have hpw54 := fun e_ => how54 (Eq.symm e_); clear hnw54; replace how54 := eq_false how54; replace hpw54 := eq_false hpw54))
        (try (have hnw55 := Kd.R_ne HO198.out BK209.out (by decide); change some gb209 ≠ some _ at hnw55; have how55 := fun (e_ : gb209 = _) => hnw55 (congrArg some e_); have hpw55 := fun e_ => how55 (Eq.symm e_); clear hnw55; replace how55 := eq_false how55; replace hpw55 := eq_false hpw55))
        (try (have hnw56 := Kd.R_ne HO203.out BK209.out (by decide); change some gb209 ≠ some _ at hnw56; have how56 := fun (e_ : gb209 = _) => hnw56 (congrArg some e_); have hpw56 := fun e_ => how56 (Eq.symm e_); clear hnw56; replace how56 := eq_false how56; replace hpw56 := eq_false hpw56))
        (try (have hnw57 := Kd.R_ne HO207.out BK209.out (by decide); change some gb209 ≠ some _ at hnw57; have how57 := fun (e_ : gb209 = _) => hnw57 (congrArg some e_); have hpw57 := fun e_ => how57 (Eq.symm e_); clear hnw57; replace how57 := eq_false how57; replace hpw57 := eq_false hpw57))
        have hcz53_0 : w38.cell? ⟨gb209, 0, none⟩ = some (.slice none 0 0) := (blk_cell BK209.out 0).trans rfl
        have hfz53_0 := blk_frozen BK209.out 0
        have hnb58 := NB200_191.out
        have hnc58 := NB191_200.out
        have hnb59 := NB200_204.out
        have hnc59 := NB204_200.out
        (try (have hnw61 := Kd.R_ne HO195.out BK200.out (by decide); change some gb200 ≠ some _ at hnw61; have how61 := fun (e_ : gb200 = _) => hnw61 (congrArg some e_); have hpw61 := fun e_ => how61 (Eq.symm e_); clear hnw61; replace how61 := eq_false how61; replace hpw61 := eq_false hpw61))
        (try (have hnw62 := Kd.R_ne HO198.out BK200.out (by decide); change some gb200 ≠ some _ at hnw62; have how62 := fun (e_ : gb200 = _) => hnw62 (congrArg some e_); have hpw62 := fun e_ => how62 (Eq.symm e_); clear hnw62; replace how62 := eq_false how62; replace hpw62 := eq_false hpw62))
        (try (have hnw63 := Kd.R_ne HO203.out BK200.out (by decide); change some gb200 ≠ some _ at hnw63; have how63 := fun (e_ : gb200 = _) => hnw63 (congrArg some e_); have hpw63 := fun e_ => how63 (Eq.symm e_); clear hnw63; replace how63 := eq_false how63; replace hpw63 := eq_false hpw63))
        (try (have hnw64 := Kd.R_ne HO207.out BK200.out (by decide); change some gb200 ≠ some _ at hnw64; have how64 := fun (e_ : gb200 = _) => hnw64 (congrArg some e_); have hpw64 := fun e_ => how64 (Eq.symm e_); clear hnw64; replace how64 := eq_false how64; replace hpw64 := eq_false hpw64))
        have hcz60_0 : w38.cell? ⟨gb200, 0, none⟩ = some (.slice Ao20 t196.length co20) := (blk_cell BK200.out 0).trans rfl
        have hfz60_0 := blk_frozen BK200.out 0
        go_wp2_with (first | ((with_reducible refine gate_callee (f := 15) rfl ?_); refine goesL_ (some 34) rfl rfl Tryd.func15 (by kernel_rfl) rfl #[.agg #[.slice Ao39 t205.length co39], .agg #[.slice Ao20 t196.length co20]] rfl (by (try simp only [List.map_toArray, List.map_cons, List.map_nil]); first | done | rfl | (simp only [List.length_drop, List.length_take]; rfl)) ?_; (with_reducible refine (laws_eqTable.calls k _ _ t205 _ _ t196 true _ ?side1 ?side2 ?side3 ?side4 A48.out).mono ?_); (case side1 => refine (Kd.R_reads' (e := 9) (base := w.heap.size) (ok := fun k_ => (((True ∧ some k_ ≠ (.slice Ao17 t193.length co17 : Value).ownBlock) ∧ some k_ ≠ (.slice Ao20 t196.length co20 : Value).ownBlock) ∧ some k_ ≠ (.slice Ao30 t201.length co30 : Value).ownBlock)) (n := t205.length) (c := co39) ?_).2.2; exact (by (with_reducible repeat (first | apply Kd.R_alloc | apply Kd.R_drewN | apply Kd.R_drew)); exact (Kd.R_mono (Kd.R_far (p := ⟨gb209, 0, none⟩) (Kd.R_types HO207.out BK209.out (by decide)) (fun _ hk => hk.2) (.slice Ao39 t205.length co39)) (fun _ h_ => h_.1)))); (case side2 => exact (Kd.R_reads' HO207.out).2.1); (case side3 => refine (Kd.R_reads' (e := 9) (base := w.heap.size) (ok := fun k_ => (((True ∧ some k_ ≠ (.slice Ao17 t193.length co17 : Value).ownBlock) ∧ some k_ ≠ (.slice Ao30 t201.length co30 : Value).ownBlock) ∧ some k_ ≠ (.slice Ao39 t205.length co39 : Value).ownBlock)) (n := t196.length) (c := co20) ?_).2.2; exact (by (with_reducible repeat (first | apply Kd.R_alloc | apply Kd.R_drewN | apply Kd.R_drew)); exact (Kd.R_mono (Kd.R_far (p := ⟨gb209, 0, none⟩) (Kd.R_types HO198.out BK209.out (by decide)) (fun _ hk => hk.2) (.slice Ao39 t205.length co39)) (fun _ h_ => h_.1)))); (case side4 => exact (Kd.R_reads' HO198.out).2.1); rintro e w65 ⟨rfl, hb⟩; refine ⟨_, rfl, ?_⟩; have n0_ := Aside0.mk (Kd.R_below (by (with_reducible repeat (first | apply Kd.R_alloc | apply Kd.R_drewN | apply Kd.R_drew)); exact (Kd.R_mono (Kd.R_far (p := ⟨gb209, 0, none⟩) (Kd.R_types HO195.out BK209.out (by decide)) (fun _ hk => hk.2) (.slice Ao39 t205.length co39)) (fun _ h_ => h_.1))) hb); have n1_ := Aside0.mk (Kd.R_below (by (with_reducible repeat (first | apply Kd.R_alloc | apply Kd.R_drewN | apply Kd.R_drew)); exact (Kd.R_mono (Kd.R_far (p := ⟨gb209, 0, none⟩) (Kd.R_types HO198.out BK209.out (by decide)) (fun _ hk => hk.2) (.slice Ao39 t205.length co39)) (fun _ h_ => h_.1))) hb); have n2_ := Aside0.mk (Kd.R_below (by (with_reducible repeat (first | apply Kd.R_alloc | apply Kd.R_drewN | apply Kd.R_drew)); exact (Kd.R_mono (Kd.R_far (p := ⟨gb209, 0, none⟩) (Kd.R_types HO203.out BK209.out (by decide)) (fun _ hk => hk.2) (.slice Ao39 t205.length co39)) (fun _ h_ => h_.1))) hb); have n3_ := Aside0.mk (Kd.R_below (by (with_reducible repeat (first | apply Kd.R_alloc | apply Kd.R_drewN | apply Kd.R_drew)); exact (Kd.R_mono (Kd.R_far (p := ⟨gb209, 0, none⟩) (Kd.R_types HO207.out BK209.out (by decide)) (fun _ hk => hk.2) (.slice Ao39 t205.length co39)) (fun _ h_ => h_.1))) hb); have n4_ := Aside0.mk (blk_below (g := gb191) (o := .cells #[.slice A0_0 l0_0.length c0_0] 24 (0, 0)) (by (with_reducible repeat (first | refine blk_drewN ?_ _ | refine blk_drew ?_ | refine blk_alloc ?_ _)); refine blk_far ?_ NB191_209.out _; (with_reducible repeat (first | refine blk_drewN ?_ _ | refine blk_drew ?_ | refine blk_alloc ?_ _)); exact BK191.out) hb); have n5_ := Aside0.mk (blk_below (g := gb200) (o := .cells #[.slice Ao20 t196.length co20] 28 (0, 0)) (by (with_reducible repeat (first | refine blk_drewN ?_ _ | refine blk_drew ?_ | refine blk_alloc ?_ _)); refine blk_far ?_ NB200_209.out _; (with_reducible repeat (first | refine blk_drewN ?_ _ | refine blk_drew ?_ | refine blk_alloc ?_ _)); exact BK200.out) hb); have n6_ := Aside0.mk (blk_below (g := gb204) (o := .cells #[.slice Ao30 t201.length co30] 28 (0, 0)) (by (with_reducible repeat (first | refine blk_drewN ?_ _ | refine blk_drew ?_ | refine blk_alloc ?_ _)); refine blk_far ?_ NB204_209.out _; (with_reducible repeat (first | refine blk_drewN ?_ _ | refine blk_drew ?_ | refine blk_alloc ?_ _)); exact BK204.out) hb); have n7_ := Aside0.mk (blk_below (g := gb209) (o := .cells #[.slice Ao39 t205.length co39] 28 (0, 0)) (by (with_reducible repeat (first | refine blk_drewN ?_ _ | refine blk_drew ?_ | refine blk_alloc ?_ _)); refine blk_put (cs := #[.slice none 0 0]) ?_ 0 _ rfl; (with_reducible repeat (first | refine blk_drewN ?_ _ | refine blk_drew ?_ | refine blk_alloc ?_ _)); exact BK209.out) hb); have n8_ := Aside0.mk (below_step (by repeat (first | (with_reducible first | exact HB.out | apply below_alloc | apply pw_below_drewN | apply below_drew1 | refine below_set ?_ GE191.out | refine below_set ?_ GE200.out | refine below_set ?_ GE204.out | refine below_set ?_ GE209.out) | exact HB.out)) hb); clear HO195; clear HO198; clear HO203; clear HO207; clear BK191; clear BK200; clear BK204; clear BK209; clear HB; have HO195 := n0_; have HO198 := n1_; have HO203 := n2_; have HO207 := n3_; have BK191 := n4_; have BK200 := n5_; have BK204 := n6_; have BK209 := n7_; have HB := n8_; clear n0_ n1_ n2_ n3_ n4_ n5_ n6_ n7_ n8_; (try clear hb); (try clear hb2); (try clear hk); (try clear hi)))
        go_meet
        case rel => exact ⟨_, ((t208 != t199)), (by first | rfl | (simp; done) | (simp [*]; done)), H', ⟨by first | omega | exact Nat.le_refl _⟩, ⟨by (with_reducible repeat (first | apply Kd.R_alloc | apply Kd.R_drewN | apply Kd.R_drew)); exact Kd.R_mono HO198.out (fun _ hk => ⟨hk.1.2, hk.2⟩)⟩, ⟨by (with_reducible repeat (first | apply Kd.R_alloc | apply Kd.R_drewN | apply Kd.R_drew)); exact Kd.R_mono HO203.out (fun _ hk => ⟨hk.1.2, hk.2⟩)⟩, ⟨by (with_reducible repeat (first | apply Kd.R_alloc | apply Kd.R_drewN | apply Kd.R_drew)); exact Kd.R_mono HO207.out (fun _ hk => ⟨hk.1.2, hk.2⟩)⟩, ⟨by (with_reducible repeat (first | refine blk_drewN ?_ _ | refine blk_drew ?_ | refine blk_alloc ?_ _)); exact BK191.out⟩, ⟨by (with_reducible repeat (first | refine blk_drewN ?_ _ | refine blk_drew ?_ | refine blk_alloc ?_ _)); exact BK200.out⟩, ⟨by (with_reducible repeat (first | refine blk_drewN ?_ _ | refine blk_drew ?_ | refine blk_alloc ?_ _)); exact BK204.out⟩, ⟨by (with_reducible repeat (first | refine blk_drewN ?_ _ | refine blk_drew ?_ | refine blk_alloc ?_ _)); exact BK209.out⟩, ⟨by repeat (first | (with_reducible first | exact HB.out | apply below_alloc | apply pw_below_drewN | apply below_drew1 | refine below_set ?_ GE191.out | refine below_set ?_ GE200.out | refine below_set ?_ GE204.out | refine below_set ?_ GE209.out) | exact HB.out)⟩⟩
      · replace c49 := Bool.eq_false_iff.mpr c49
        subst c49
        have H1 : (laws_FnExactEvenTable.j0 k t199 t208 true l0_0 t196 t201 t205) = some r := by rw [if_neg (show ¬ (false = true) by decide)] at H; first | exact H | (simp only [if_true, eq_self] at H ⊢; exact H)
        clear H
        have H := H1
        clear H1
        have H' := Aside0.mk H
        clear H
        have hnb66 := NB209_191.out
        have hnc66 := NB191_209.out
        have hnb67 := NB209_200.out
        have hnc67 := NB200_209.out
        have hnb68 := NB209_204.out
        have hnc68 := NB204_209.out
        (try (have hnw70 := Kd.R_ne HO195.out BK209.out (by decide); change some gb209 ≠ some _ at hnw70; have how70 := fun (e_ : gb209 = _) => hnw70 (congrArg some e_); have hpw70 := fun e_ => how70 (Eq.symm e_); clear hnw70; replace how70 := eq_false how70; replace hpw70 := eq_false hpw70))
        (try (have hnw71 := Kd.R_ne HO198.out BK209.out (by decide); change some gb209 ≠ some _ at hnw71; have how71 := fun (e_ : gb209 = _) => hnw71 (congrArg some e_); have hpw71 := fun e_ => how71 (Eq.symm e_); clear hnw71; replace how71 := eq_false how71; replace hpw71 := eq_false hpw71))
        (try (have hnw72 := Kd.R_ne HO203.out BK209.out (by decide); change some gb209 ≠ some _ at hnw72; have how72 := fun (e_ : gb209 = _) => hnw72 (congrArg some e_); have hpw72 := fun e_ => how72 (Eq.symm e_); clear hnw72; replace how72 := eq_false how72; replace hpw72 := eq_false hpw72))
        (try (have hnw73 := Kd.R_ne HO207.out BK209.out (by decide); change some gb209 ≠ some _ at hnw73; have how73 := fun (e_ : gb209 = _) => hnw73 (congrArg some e_); have hpw73 := fun e_ => how73 (Eq.symm e_); clear hnw73; replace how73 := eq_false how73; replace hpw73 := eq_false hpw73))
        have hcz69_0 : w38.cell? ⟨gb209, 0, none⟩ = some (.slice none 0 0) := (blk_cell BK209.out 0).trans rfl
        have hfz69_0 := blk_frozen BK209.out 0
        have hnb74 := NB200_191.out
        have hnc74 := NB191_200.out
        have hnb75 := NB200_204.out
        have hnc75 := NB204_200.out
        (try (have hnw77 := Kd.R_ne HO195.out BK200.out (by decide); change some gb200 ≠ some _ at hnw77; have how77 := fun (e_ : gb200 = _) => hnw77 (congrArg some e_); have hpw77 := fun e_ => how77 (Eq.symm e_); clear hnw77; replace how77 := eq_false how77; replace hpw77 := eq_false hpw77))
        (try (have hnw78 := Kd.R_ne HO198.out BK200.out (by decide); change some gb200 ≠ some _ at hnw78; have how78 := fun (e_ : gb200 = _) => hnw78 (congrArg some e_); have hpw78 := fun e_ => how78 (Eq.symm e_); clear hnw78; replace how78 := eq_false how78; replace hpw78 := eq_false hpw78))
        (try (have hnw79 := Kd.R_ne HO203.out BK200.out (by decide); change some gb200 ≠ some _ at hnw79; have how79 := fun (e_ : gb200 = _) => hnw79 (congrArg some e_); have hpw79 := fun e_ => how79 (Eq.symm e_); clear hnw79; replace how79 := eq_false how79; replace hpw79 := eq_false hpw79))
        (try (have hnw80 := Kd.R_ne HO207.out BK200.out (by decide); change some gb200 ≠ some _ at hnw80; have how80 := fun (e_ : gb200 = _) => hnw80 (congrArg some e_); have hpw80 := fun e_ => how80 (Eq.symm e_); clear hnw80; replace how80 := eq_false how80; replace hpw80 := eq_false hpw80))
        have hcz76_0 : w38.cell? ⟨gb200, 0, none⟩ = some (.slice Ao20 t196.length co20) := (blk_cell BK200.out 0).trans rfl
        have hfz76_0 := blk_frozen BK200.out 0
        go_wp2_with (first | ((with_reducible refine gate_callee (f := 15) rfl ?_); refine goesL_ (some 34) rfl rfl Tryd.func15 (by kernel_rfl) rfl #[.agg #[.slice Ao39 t205.length co39], .agg #[.slice Ao20 t196.length co20]] rfl (by (try simp only [List.map_toArray, List.map_cons, List.map_nil]); first | done | rfl | (simp only [List.length_drop, List.length_take]; rfl)) ?_; (with_reducible refine (laws_eqTable.calls k _ _ t205 _ _ t196 false _ ?side1 ?side2 ?side3 ?side4 A48.out).mono ?_); (case side1 => refine (Kd.R_reads' (e := 9) (base := w.heap.size) (ok := fun k_ => (((True ∧ some k_ ≠ (.slice Ao17 t193.length co17 : Value).ownBlock) ∧ some k_ ≠ (.slice Ao20 t196.length co20 : Value).ownBlock) ∧ some k_ ≠ (.slice Ao30 t201.length co30 : Value).ownBlock)) (n := t205.length) (c := co39) ?_).2.2; exact (by (with_reducible repeat (first | apply Kd.R_alloc | apply Kd.R_drewN | apply Kd.R_drew)); exact (Kd.R_mono (Kd.R_far (p := ⟨gb209, 0, none⟩) (Kd.R_types HO207.out BK209.out (by decide)) (fun _ hk => hk.2) (.slice Ao39 t205.length co39)) (fun _ h_ => h_.1)))); (case side2 => exact (Kd.R_reads' HO207.out).2.1); (case side3 => refine (Kd.R_reads' (e := 9) (base := w.heap.size) (ok := fun k_ => (((True ∧ some k_ ≠ (.slice Ao17 t193.length co17 : Value).ownBlock) ∧ some k_ ≠ (.slice Ao30 t201.length co30 : Value).ownBlock) ∧ some k_ ≠ (.slice Ao39 t205.length co39 : Value).ownBlock)) (n := t196.length) (c := co20) ?_).2.2; exact (by (with_reducible repeat (first | apply Kd.R_alloc | apply Kd.R_drewN | apply Kd.R_drew)); exact (Kd.R_mono (Kd.R_far (p := ⟨gb209, 0, none⟩) (Kd.R_types HO198.out BK209.out (by decide)) (fun _ hk => hk.2) (.slice Ao39 t205.length co39)) (fun _ h_ => h_.1)))); (case side4 => exact (Kd.R_reads' HO198.out).2.1); rintro e w81 ⟨rfl, hb⟩; refine ⟨_, rfl, ?_⟩; have n0_ := Aside0.mk (Kd.R_below (by (with_reducible repeat (first | apply Kd.R_alloc | apply Kd.R_drewN | apply Kd.R_drew)); exact (Kd.R_mono (Kd.R_far (p := ⟨gb209, 0, none⟩) (Kd.R_types HO195.out BK209.out (by decide)) (fun _ hk => hk.2) (.slice Ao39 t205.length co39)) (fun _ h_ => h_.1))) hb); have n1_ := Aside0.mk (Kd.R_below (by (with_reducible repeat (first | apply Kd.R_alloc | apply Kd.R_drewN | apply Kd.R_drew)); exact (Kd.R_mono (Kd.R_far (p := ⟨gb209, 0, none⟩) (Kd.R_types HO198.out BK209.out (by decide)) (fun _ hk => hk.2) (.slice Ao39 t205.length co39)) (fun _ h_ => h_.1))) hb); have n2_ := Aside0.mk (Kd.R_below (by (with_reducible repeat (first | apply Kd.R_alloc | apply Kd.R_drewN | apply Kd.R_drew)); exact (Kd.R_mono (Kd.R_far (p := ⟨gb209, 0, none⟩) (Kd.R_types HO203.out BK209.out (by decide)) (fun _ hk => hk.2) (.slice Ao39 t205.length co39)) (fun _ h_ => h_.1))) hb); have n3_ := Aside0.mk (Kd.R_below (by (with_reducible repeat (first | apply Kd.R_alloc | apply Kd.R_drewN | apply Kd.R_drew)); exact (Kd.R_mono (Kd.R_far (p := ⟨gb209, 0, none⟩) (Kd.R_types HO207.out BK209.out (by decide)) (fun _ hk => hk.2) (.slice Ao39 t205.length co39)) (fun _ h_ => h_.1))) hb); have n4_ := Aside0.mk (blk_below (g := gb191) (o := .cells #[.slice A0_0 l0_0.length c0_0] 24 (0, 0)) (by (with_reducible repeat (first | refine blk_drewN ?_ _ | refine blk_drew ?_ | refine blk_alloc ?_ _)); refine blk_far ?_ NB191_209.out _; (with_reducible repeat (first | refine blk_drewN ?_ _ | refine blk_drew ?_ | refine blk_alloc ?_ _)); exact BK191.out) hb); have n5_ := Aside0.mk (blk_below (g := gb200) (o := .cells #[.slice Ao20 t196.length co20] 28 (0, 0)) (by (with_reducible repeat (first | refine blk_drewN ?_ _ | refine blk_drew ?_ | refine blk_alloc ?_ _)); refine blk_far ?_ NB200_209.out _; (with_reducible repeat (first | refine blk_drewN ?_ _ | refine blk_drew ?_ | refine blk_alloc ?_ _)); exact BK200.out) hb); have n6_ := Aside0.mk (blk_below (g := gb204) (o := .cells #[.slice Ao30 t201.length co30] 28 (0, 0)) (by (with_reducible repeat (first | refine blk_drewN ?_ _ | refine blk_drew ?_ | refine blk_alloc ?_ _)); refine blk_far ?_ NB204_209.out _; (with_reducible repeat (first | refine blk_drewN ?_ _ | refine blk_drew ?_ | refine blk_alloc ?_ _)); exact BK204.out) hb); have n7_ := Aside0.mk (blk_below (g := gb209) (o := .cells #[.slice Ao39 t205.length co39] 28 (0, 0)) (by (with_reducible repeat (first | refine blk_drewN ?_ _ | refine blk_drew ?_ | refine blk_alloc ?_ _)); refine blk_put (cs := #[.slice none 0 0]) ?_ 0 _ rfl; (with_reducible repeat (first | refine blk_drewN ?_ _ | refine blk_drew ?_ | refine blk_alloc ?_ _)); exact BK209.out) hb); have n8_ := Aside0.mk (below_step (by repeat (first | (with_reducible first | exact HB.out | apply below_alloc | apply pw_below_drewN | apply below_drew1 | refine below_set ?_ GE191.out | refine below_set ?_ GE200.out | refine below_set ?_ GE204.out | refine below_set ?_ GE209.out) | exact HB.out)) hb); clear HO195; clear HO198; clear HO203; clear HO207; clear BK191; clear BK200; clear BK204; clear BK209; clear HB; have HO195 := n0_; have HO198 := n1_; have HO203 := n2_; have HO207 := n3_; have BK191 := n4_; have BK200 := n5_; have BK204 := n6_; have BK209 := n7_; have HB := n8_; clear n0_ n1_ n2_ n3_ n4_ n5_ n6_ n7_ n8_; (try clear hb); (try clear hb2); (try clear hk); (try clear hi)))
        go_meet
        case rel => exact ⟨_, (true), (by first | rfl | (simp; done) | (simp [*]; done)), H', ⟨by first | omega | exact Nat.le_refl _⟩, ⟨by (with_reducible repeat (first | apply Kd.R_alloc | apply Kd.R_drewN | apply Kd.R_drew)); exact Kd.R_mono HO198.out (fun _ hk => ⟨hk.1.2, hk.2⟩)⟩, ⟨by (with_reducible repeat (first | apply Kd.R_alloc | apply Kd.R_drewN | apply Kd.R_drew)); exact Kd.R_mono HO203.out (fun _ hk => ⟨hk.1.2, hk.2⟩)⟩, ⟨by (with_reducible repeat (first | apply Kd.R_alloc | apply Kd.R_drewN | apply Kd.R_drew)); exact Kd.R_mono HO207.out (fun _ hk => ⟨hk.1.2, hk.2⟩)⟩, ⟨by (with_reducible repeat (first | refine blk_drewN ?_ _ | refine blk_drew ?_ | refine blk_alloc ?_ _)); exact BK191.out⟩, ⟨by (with_reducible repeat (first | refine blk_drewN ?_ _ | refine blk_drew ?_ | refine blk_alloc ?_ _)); exact BK200.out⟩, ⟨by (with_reducible repeat (first | refine blk_drewN ?_ _ | refine blk_drew ?_ | refine blk_alloc ?_ _)); exact BK204.out⟩, ⟨by (with_reducible repeat (first | refine blk_drewN ?_ _ | refine blk_drew ?_ | refine blk_alloc ?_ _)); exact BK209.out⟩, ⟨by repeat (first | (with_reducible first | exact HB.out | apply below_alloc | apply pw_below_drewN | apply below_drew1 | refine below_set ?_ GE191.out | refine below_set ?_ GE200.out | refine below_set ?_ GE204.out | refine below_set ?_ GE209.out) | exact HB.out)⟩⟩
    case rest =>
      clear HC11
      try clear c1
      try clear c2
      try clear p2
      try clear c3
      try clear c3b0
      try clear c4
      try clear c5
      try clear c6
      try clear c7
      try clear c11
      try clear c13
      try clear c15
      try clear c21
      try clear c25
      try clear c26
      try clear c31
      try clear c32
      try clear c40
      try clear c41
      try clear c42
      try clear c49
      try clear c50
      try clear c51
      try clear c52
      try clear c58
      try clear c59
      try clear c66
      try clear c67
      try clear c68
      try clear c74
      try clear c75
      try clear hcz13_0
      try clear hcz15_0
      try clear hcz22_0
      try clear hcz25_0
      try clear hcz33_0
      try clear hcz43_0
      try clear hcz53_0
      try clear hcz5_0
      try clear hcz60_0
      try clear hcz69_0
      try clear hcz76_0
      try clear hfz13_0
      try clear hfz15_0
      try clear hfz22_0
      try clear hfz25_0
      try clear hfz33_0
      try clear hfz43_0
      try clear hfz53_0
      try clear hfz5_0
      try clear hfz60_0
      try clear hfz69_0
      try clear hfz76_0
      obtain ⟨kq, x40_10, rfl, HA, HJ10, HO_201000, HO_205000, HO_210000, BK191, BK200, BK204, BK209, HB⟩ := hcut
      cases kq with
      | zero => exact absurd HA.out (by simp [laws_FnExactEvenTable.j0])
      | succ kj10 =>
        have H := HA.out
        clear HA
        simp only [laws_FnExactEvenTable.j0] at H
        by_cases c82 : x40_10 = true
        · subst c82
          have H1 : (some false) = some r := by rw [if_pos rfl] at H; first | exact H | (simp only [if_true, eq_self] at H ⊢; exact H)
          clear H
          have H := H1
          clear H1
          obtain rfl := Option.some.inj H
          go_wp2
          go_ret
          exact ⟨by first | rfl | (simp [errW_none, errW_some] <;> rfl) | (simp [*, errW_none, errW_some] <;> rfl), by repeat (first | (with_reducible first | exact HB.out | apply below_alloc | apply pw_below_drewN | apply below_drew1 | refine below_set ?_ GE191.out | refine below_set ?_ GE200.out | refine below_set ?_ GE204.out | refine below_set ?_ GE209.out) | exact HB.out)⟩
        · replace c82 := Bool.eq_false_iff.mpr c82
          subst c82
          have H1 : ((laws_toTable.f kj10 l0_0).bind fun t211 => ((laws_eqTable.f kj10 t201 t211).bind fun t214 => (if t214 = true then ((laws_markTable.f kj10 t201 1).bind fun bt215 => (if bt215.1 < 0 then (laws_FnExactEvenTable.j1 kj10 t199 true l0_0 t196 t205) else ((laws_eqTable.f kj10 t205 t196).bind fun t217 => (if t217 = true then (laws_FnExactEvenTable.j1 kj10 t199 (t208 != t199) l0_0 t196 t205) else (laws_FnExactEvenTable.j1 kj10 t199 true l0_0 t196 t205))))) else (some false)))) = some r := by rw [if_neg (show ¬ (false = true) by decide)] at H; first | exact H | (simp only [if_true, eq_self] at H ⊢; exact H)
          clear H
          have H := H1
          clear H1
          replace H := Option.bind_eq_some_iff.mp H
          obtain ⟨t211, A830, H⟩ := H
          replace H : ((laws_eqTable.f kj10 t201 t211).bind fun t214 => (if t214 = true then ((laws_markTable.f kj10 t201 1).bind fun bt215 => (if bt215.1 < 0 then (laws_FnExactEvenTable.j1 kj10 t199 true l0_0 t196 t205) else ((laws_eqTable.f kj10 t205 t196).bind fun t217 => (if t217 = true then (laws_FnExactEvenTable.j1 kj10 t199 (t208 != t199) l0_0 t196 t205) else (laws_FnExactEvenTable.j1 kj10 t199 true l0_0 t196 t205))))) else (some false))) = some r := H
          have A83 := Aside0.mk A830
          clear A830
          replace H := Option.bind_eq_some_iff.mp H
          obtain ⟨t214, A840, H⟩ := H
          replace H : (if t214 = true then ((laws_markTable.f kj10 t201 1).bind fun bt215 => (if bt215.1 < 0 then (laws_FnExactEvenTable.j1 kj10 t199 true l0_0 t196 t205) else ((laws_eqTable.f kj10 t205 t196).bind fun t217 => (if t217 = true then (laws_FnExactEvenTable.j1 kj10 t199 (t208 != t199) l0_0 t196 t205) else (laws_FnExactEvenTable.j1 kj10 t199 true l0_0 t196 t205))))) else (some false)) = some r := H
          have A84 := Aside0.mk A840
          clear A840
          by_cases c85 : t214 = true
          · subst c85
            have H1 : ((laws_markTable.f kj10 t201 1).bind fun bt215 => (if bt215.1 < 0 then (laws_FnExactEvenTable.j1 kj10 t199 true l0_0 t196 t205) else ((laws_eqTable.f kj10 t205 t196).bind fun t217 => (if t217 = true then (laws_FnExactEvenTable.j1 kj10 t199 (t208 != t199) l0_0 t196 t205) else (laws_FnExactEvenTable.j1 kj10 t199 true l0_0 t196 t205))))) = some r := by rw [if_pos rfl] at H; first | exact H | (simp only [if_true, eq_self] at H ⊢; exact H)
            clear H
            have H := H1
            clear H1
            replace H := Option.bind_eq_some_iff.mp H
            obtain ⟨⟨t215, t216⟩, A860, H⟩ := H
            replace H : (if t215 < 0 then (laws_FnExactEvenTable.j1 kj10 t199 true l0_0 t196 t205) else ((laws_eqTable.f kj10 t205 t196).bind fun t217 => (if t217 = true then (laws_FnExactEvenTable.j1 kj10 t199 (t208 != t199) l0_0 t196 t205) else (laws_FnExactEvenTable.j1 kj10 t199 true l0_0 t196 t205)))) = some r := H
            have A86 := Aside0.mk A860
            clear A860
            have HC87 := Aside0.mk H
            clear H
            try go_wp2
            have n0_ := Aside0.mk (Kd.R_drew HO_201000.out)
            have n1_ := Aside0.mk (Kd.R_drew HO_205000.out)
            have n2_ := Aside0.mk (Kd.R_drew HO_210000.out)
            have n3_ := Aside0.mk (blk_drew BK191.out)
            have n4_ := Aside0.mk (blk_drew BK200.out)
            have n5_ := Aside0.mk (blk_drew BK204.out)
            have n6_ := Aside0.mk (blk_drew BK209.out)
            have n7_ := Aside0.mk (below_drew1 HB.out)
            clear HO_201000
            clear HO_205000
            clear HO_210000
            clear BK191
            clear BK200
            clear BK204
            clear BK209
            clear HB
            have HO_201000 := n0_
            have HO_205000 := n1_
            have HO_210000 := n2_
            have BK191 := n3_
            have BK200 := n4_
            have BK204 := n5_
            have BK209 := n6_
            have HB := n7_
            clear n0_ n1_ n2_ n3_ n4_ n5_ n6_ n7_
            refine start_ (n := 5) (S := fun w' => w'.cell? ⟨gb204, 0, none⟩ = some (.slice Ao30 t201.length co30) ∧ w'.cell? ⟨gb191, 0, none⟩ = some (.slice A0_0 l0_0.length c0_0)) (ds := []) #[false, false, false, false, false] (by kernel_rfl) rfl rfl ⟨(blk_cell BK204.out 0).trans rfl, (blk_cell BK191.out 0).trans rfl⟩ (fun hHeld => ?_)
            generalize wc.drew = w88 at HO_201000 HO_205000 HO_210000 BK191 BK200 BK204 BK209 HB hHeld ⊢
            refine take_ (i := 0) (N := some 41) (v := ?_) (a' := ?_) #[true, false, false, false, false] rfl rfl (by kernel_rfl) (fun _ _ _ h => h) (Or.inl ⟨by rfl, ?_⟩) hHeld ?_ ?_
            rotate_left
            · rintro w' ⟨s0, s1⟩
              go_simp
              with_reducible rfl
            rotate_left
            · simp only [Act.put, List.setIfInBounds_toArray, List.set_cons_zero, List.set_cons_succ, i64_w, i32_w]
              rfl
            refine take_ (i := 1) (N := some 42) (v := ?_) (a' := ?_) #[true, true, false, false, false] rfl rfl (by kernel_rfl) (fun _ _ _ h => h) (Or.inl ⟨by rfl, ?_⟩) hHeld ?_ ?_
            rotate_left
            · rintro w' ⟨s0, s1⟩
              go_simp
              with_reducible rfl
            rotate_left
            · simp only [Act.put, List.setIfInBounds_toArray, List.set_cons_zero, List.set_cons_succ, i64_w, i32_w]
              rfl
            refine one_ (i := 2) (N := some 43) #[true, true, true, false, false] rfl rfl (by kernel_rfl) (by decide) (fun K hK => ?_)
            refine goes_ Tryd.func13 (by kernel_rfl) rfl #[.agg #[.slice A0_0 l0_0.length c0_0]] (by rfl) rfl rfl (by (try simp only [List.map_toArray, List.map_cons, List.map_nil]); first | done | rfl | (simp only [List.length_drop, List.length_take]; rfl)) ?_
            with_reducible refine (laws_toTable.calls kj10 _ _ l0_0 t211 _ ?side1 ?side2 A83.out).mono ?_
            (case side1 => repeat (first | exact (Kd.C_below HR0_0.out HB.out) | (with_reducible refine Kd.C_alloc ?_ _) | (with_reducible refine Kd.C_drewN ?_ _) | (with_reducible refine Kd.C_drew ?_)))
            (case side2 => exact HC0_0.out)
            rintro e w89 ⟨v212, rfl, ho0, hb⟩
            refine ⟨_, rfl, ?_⟩
            have n0_ := Aside0.mk (Kd.R_elder' (by (with_reducible repeat (first | apply Kd.R_alloc | apply Kd.R_drewN | apply Kd.R_drew)); exact HO_201000.out) (Kd.R_base ho0) hb)
            have n1_ := Aside0.mk (Kd.R_elder' (by (with_reducible repeat (first | apply Kd.R_alloc | apply Kd.R_drewN | apply Kd.R_drew)); exact HO_205000.out) (Kd.R_base ho0) hb)
            have n2_ := Aside0.mk (Kd.R_elder' (by (with_reducible repeat (first | apply Kd.R_alloc | apply Kd.R_drewN | apply Kd.R_drew)); exact HO_210000.out) (Kd.R_base ho0) hb)
            have n3_ := Aside0.mk (Kd.R_lower (Kd.R_new' (Kd.R_new' (Kd.R_new' ho0 (Kd.R_lt (by (with_reducible repeat (first | apply Kd.R_alloc | apply Kd.R_drewN | apply Kd.R_drew)); exact HO_201000.out))) (Kd.R_lt (by (with_reducible repeat (first | apply Kd.R_alloc | apply Kd.R_drewN | apply Kd.R_drew)); exact HO_205000.out))) (Kd.R_lt (by (with_reducible repeat (first | apply Kd.R_alloc | apply Kd.R_drewN | apply Kd.R_drew)); exact HO_210000.out))) (below_size (by repeat (first | (with_reducible first | exact HB.out | apply below_alloc | apply pw_below_drewN | apply below_drew1 | refine below_set ?_ GE191.out | refine below_set ?_ GE200.out | refine below_set ?_ GE204.out | refine below_set ?_ GE209.out) | exact HB.out))))
            have n4_ := Aside0.mk (blk_below (g := gb191) (o := .cells #[.slice A0_0 l0_0.length c0_0] 24 (0, 0)) (by (with_reducible repeat (first | refine blk_drewN ?_ _ | refine blk_drew ?_ | refine blk_alloc ?_ _)); exact BK191.out) hb)
            have n5_ := Aside0.mk (blk_below (g := gb200) (o := .cells #[.slice Ao20 t196.length co20] 28 (0, 0)) (by (with_reducible repeat (first | refine blk_drewN ?_ _ | refine blk_drew ?_ | refine blk_alloc ?_ _)); exact BK200.out) hb)
            have n6_ := Aside0.mk (blk_below (g := gb204) (o := .cells #[.slice Ao30 t201.length co30] 28 (0, 0)) (by (with_reducible repeat (first | refine blk_drewN ?_ _ | refine blk_drew ?_ | refine blk_alloc ?_ _)); exact BK204.out) hb)
            have n7_ := Aside0.mk (blk_below (g := gb209) (o := .cells #[.slice Ao39 t205.length co39] 28 (0, 0)) (by (with_reducible repeat (first | refine blk_drewN ?_ _ | refine blk_drew ?_ | refine blk_alloc ?_ _)); exact BK209.out) hb)
            have n8_ := Aside0.mk (below_step (by repeat (first | (with_reducible first | exact HB.out | apply below_alloc | apply pw_below_drewN | apply below_drew1 | refine below_set ?_ GE191.out | refine below_set ?_ GE200.out | refine below_set ?_ GE204.out | refine below_set ?_ GE209.out) | exact HB.out)) hb)
            clear HO_201000
            clear HO_205000
            clear HO_210000
            clear BK191
            clear BK200
            clear BK204
            clear BK209
            clear HB
            have HO_201000 := n0_
            have HO_205000 := n1_
            have HO_210000 := n2_
            have HO213 := n3_
            have BK191 := n4_
            have BK200 := n5_
            have BK204 := n6_
            have BK209 := n7_
            have HB := n8_
            clear n0_ n1_ n2_ n3_ n4_ n5_ n6_ n7_ n8_
            (try clear hb)
            (try clear hb2)
            (try clear hk)
            (try clear hi)
            (try clear ho0)
            obtain ⟨Ao90, co90, eo90⟩ := Kd.R_slice HO213.out
            (first | subst eo90 | (injection eo90 with f1_ f2_ f3_; have f4_ := f1_.symm; have f5_ := f3_.symm; clear f1_ f2_ f3_; subst f4_; subst f5_))
            refine hK.out _ _ ⟨(blk_cell BK204.out 0).trans rfl, (blk_cell BK191.out 0).trans rfl⟩ (fun hHeld => ?_)
            clear hK K
            refine norm_ (a' := ?_) ?_ ?_
            rotate_left
            · show Act.put _ (some 43) _ = _
              simp only [Act.put, List.setIfInBounds_toArray, List.set_cons_zero, List.set_cons_succ, i64_w, i32_w]
              rfl
            refine one_ (i := 3) (N := some 44) #[true, true, true, true, false] rfl rfl (by kernel_rfl) (by decide) (fun K hK => ?_)
            refine goes_ Tryd.func15 (by kernel_rfl) rfl #[.agg #[.slice Ao30 t201.length co30], .agg #[.slice Ao90 t211.length co90]] (by rfl) rfl rfl (by (try simp only [List.map_toArray, List.map_cons, List.map_nil]); first | done | rfl | (simp only [List.length_drop, List.length_take]; rfl)) ?_
            with_reducible refine (laws_eqTable.calls kj10 _ _ t201 _ _ t211 true _ ?side1 ?side2 ?side3 ?side4 A84.out).mono ?_
            (case side1 => repeat (first | exact (Kd.R_reads' HO_205000.out).2.2 | (with_reducible refine Kd.C_alloc ?_ _) | (with_reducible refine Kd.C_drewN ?_ _) | (with_reducible refine Kd.C_drew ?_)))
            (case side2 => exact (Kd.R_reads' HO_205000.out).2.1)
            (case side3 => repeat (first | exact (Kd.R_reads' HO213.out).2.2 | (with_reducible refine Kd.C_alloc ?_ _) | (with_reducible refine Kd.C_drewN ?_ _) | (with_reducible refine Kd.C_drew ?_)))
            (case side4 => exact (Kd.R_reads' HO213.out).2.1)
            rintro e w91 ⟨rfl, hb⟩
            refine ⟨_, rfl, ?_⟩
            have n0_ := Aside0.mk (Kd.R_below (by (with_reducible repeat (first | apply Kd.R_alloc | apply Kd.R_drewN | apply Kd.R_drew)); exact HO_201000.out) hb)
            have n1_ := Aside0.mk (Kd.R_below (by (with_reducible repeat (first | apply Kd.R_alloc | apply Kd.R_drewN | apply Kd.R_drew)); exact HO_205000.out) hb)
            have n2_ := Aside0.mk (Kd.R_below (by (with_reducible repeat (first | apply Kd.R_alloc | apply Kd.R_drewN | apply Kd.R_drew)); exact HO_210000.out) hb)
            have n3_ := Aside0.mk (Kd.R_below (by (with_reducible repeat (first | apply Kd.R_alloc | apply Kd.R_drewN | apply Kd.R_drew)); exact HO213.out) hb)
            have n4_ := Aside0.mk (blk_below (g := gb191) (o := .cells #[.slice A0_0 l0_0.length c0_0] 24 (0, 0)) (by (with_reducible repeat (first | refine blk_drewN ?_ _ | refine blk_drew ?_ | refine blk_alloc ?_ _)); exact BK191.out) hb)
            have n5_ := Aside0.mk (blk_below (g := gb200) (o := .cells #[.slice Ao20 t196.length co20] 28 (0, 0)) (by (with_reducible repeat (first | refine blk_drewN ?_ _ | refine blk_drew ?_ | refine blk_alloc ?_ _)); exact BK200.out) hb)
            have n6_ := Aside0.mk (blk_below (g := gb204) (o := .cells #[.slice Ao30 t201.length co30] 28 (0, 0)) (by (with_reducible repeat (first | refine blk_drewN ?_ _ | refine blk_drew ?_ | refine blk_alloc ?_ _)); exact BK204.out) hb)
            have n7_ := Aside0.mk (blk_below (g := gb209) (o := .cells #[.slice Ao39 t205.length co39] 28 (0, 0)) (by (with_reducible repeat (first | refine blk_drewN ?_ _ | refine blk_drew ?_ | refine blk_alloc ?_ _)); exact BK209.out) hb)
            have n8_ := Aside0.mk (below_step (by repeat (first | (with_reducible first | exact HB.out | apply below_alloc | apply pw_below_drewN | apply below_drew1 | refine below_set ?_ GE191.out | refine below_set ?_ GE200.out | refine below_set ?_ GE204.out | refine below_set ?_ GE209.out) | exact HB.out)) hb)
            clear HO_201000
            clear HO_205000
            clear HO_210000
            clear HO213
            clear BK191
            clear BK200
            clear BK204
            clear BK209
            clear HB
            have HO_201000 := n0_
            have HO_205000 := n1_
            have HO_210000 := n2_
            have HO213 := n3_
            have BK191 := n4_
            have BK200 := n5_
            have BK204 := n6_
            have BK209 := n7_
            have HB := n8_
            clear n0_ n1_ n2_ n3_ n4_ n5_ n6_ n7_ n8_
            (try clear hb)
            (try clear hb2)
            (try clear hk)
            (try clear hi)
            refine hK.out _ _ ⟨(blk_cell BK204.out 0).trans rfl, (blk_cell BK191.out 0).trans rfl⟩ (fun hHeld => ?_)
            clear hK K
            refine norm_ (a' := ?_) ?_ ?_
            rotate_left
            · show Act.put _ (some 44) _ = _
              simp only [Act.put, List.setIfInBounds_toArray, List.set_cons_zero, List.set_cons_succ, i64_w, i32_w]
              rfl
            refine pure_ (i := 4) (N := some 45) (v := ?_) (a' := ?_) #[true, true, true, true, true] rfl rfl (by kernel_rfl) (fun _ _ _ h => h) (Or.inl ⟨by rfl, ?_⟩) ?_ ?_
            rotate_left
            · intro w'
              go_simp
              with_reducible rfl
            rotate_left
            · simp only [Act.put, List.setIfInBounds_toArray, List.set_cons_zero, List.set_cons_succ, i64_w, i32_w]
              rfl
            refine done_ (by kernel_rfl) ?_
            have hnb92 := NB204_191.out
            have hnc92 := NB191_204.out
            have hnb93 := NB204_200.out
            have hnc93 := NB200_204.out
            have hnb94 := NB204_209.out
            have hnc94 := NB209_204.out
            (try (have hnw96 := Kd.R_ne HO_201000.out BK204.out (by decide); change some gb204 ≠ some _ at hnw96; have how96 := fun (e_ : gb204 = _) => hnw96 (congrArg some e_); have hpw96 := fun e_ => how96 (Eq.symm e_); clear hnw96; replace how96 := eq_false how96; replace hpw96 := eq_false hpw96))
            (try (have hnw97 := Kd.R_ne HO_205000.out BK204.out (by decide); change some gb204 ≠ some _ at hnw97; have how97 := fun (e_ : gb204 = _) => hnw97 (congrArg some e_); have hpw97 := fun e_ => how97 (Eq.symm e_); clear hnw97; replace how97 := eq_false how97; replace hpw97 := eq_false hpw97))
            (try (have hnw98 := Kd.R_ne HO_210000.out BK204.out (by decide); change some gb204 ≠ some _ at hnw98; have how98 := fun (e_ : gb204 = _) => hnw98 (congrArg some e_); have hpw98 := fun e_ => how98 (Eq.symm e_); clear hnw98; replace how98 := eq_false how98; replace hpw98 := eq_false hpw98))
            (try (have hnw99 := Kd.R_ne HO213.out BK204.out (by decide); change some gb204 ≠ some _ at hnw99; have how99 := fun (e_ : gb204 = _) => hnw99 (congrArg some e_); have hpw99 := fun e_ => how99 (Eq.symm e_); clear hnw99; replace how99 := eq_false how99; replace hpw99 := eq_false hpw99))
            have hcz95_0 : w91.cell? ⟨gb204, 0, none⟩ = some (.slice Ao30 t201.length co30) := (blk_cell BK204.out 0).trans rfl
            have hfz95_0 := blk_frozen BK204.out 0
            go_upto_region 14 with (first | ((with_reducible refine gate_callee (f := 19) rfl ?_); refine goesL_ (some 48) rfl rfl Tryd.func19 (by kernel_rfl) rfl #[.agg #[.slice Ao30 t201.length co30], .int .i64 1] rfl (by (try simp only [List.map_toArray, List.map_cons, List.map_nil]); first | done | rfl | (simp only [List.length_drop, List.length_take]; rfl)) ?_; (with_reducible refine (laws_markTable.calls kj10 (fun k_ => some k_ = (.slice Ao30 t201.length co30 : Value).ownBlock) (.slice Ao30 t201.length co30) t201 1 t215 t216 w _ ?side1 ?side2 A86.out).mono ?_); (case side1 => repeat (first | (with_reducible first | exact HB.out | apply below_alloc | apply pw_below_drewN | apply below_drew1 | refine below_set ?_ GE191.out | refine below_set ?_ GE200.out | refine below_set ?_ GE204.out | refine below_set ?_ GE209.out) | exact HB.out)); (case side2 => exact Kd.R_tight rfl HO_205000.out); rintro e w100 ⟨rfl, hy0, hb, hkp⟩; refine ⟨_, rfl, ?_⟩; have n0_ := Aside0.mk (Kd.R_mono (ok' := fun k_ => some k_ ≠ (.slice Ao30 t201.length co30 : Value).ownBlock ∧ some k_ ≠ (.slice Ao39 t205.length co39 : Value).ownBlock ∧ some k_ ≠ (.slice Ao90 t211.length co90 : Value).ownBlock) (Kd.R_keptB (HO_201000.out) hkp (fun k_ hk_ hs_ => (hk_.1.1) hs_)) (fun k_ hk_ => ⟨hk_.1.1.1, hk_.1.1.2, hk_.1.2⟩)); have n1_ := Aside0.mk (Kd.R_reok rfl hy0 (fun k_ e_ => HO_205000.out.1 k_ e_)); have n2_ := Aside0.mk (Kd.R_mono (ok' := fun k_ => some k_ ≠ (.slice Ao20 t196.length co20 : Value).ownBlock ∧ some k_ ≠ (.slice Ao30 t201.length co30 : Value).ownBlock ∧ some k_ ≠ (.slice Ao90 t211.length co90 : Value).ownBlock) (Kd.R_keptB (HO_210000.out) hkp (fun k_ hk_ hs_ => (hk_.1.2) hs_)) (fun k_ hk_ => ⟨hk_.1.1.1, hk_.1.1.2, hk_.1.2⟩)); have n3_ := Aside0.mk (blk_kept (by (with_reducible repeat (first | refine blk_drewN ?_ _ | refine blk_drew ?_ | refine blk_alloc ?_ _)); exact BK191.out) hkp (fun hs_ => (fun e_ => (Kd.R_ne HO_205000.out BK191.out (by decide)) e_) hs_)); have n4_ := Aside0.mk (blk_kept (by (with_reducible repeat (first | refine blk_drewN ?_ _ | refine blk_drew ?_ | refine blk_alloc ?_ _)); exact BK200.out) hkp (fun hs_ => (fun e_ => (Kd.R_ne HO_205000.out BK200.out (by decide)) e_) hs_)); have n5_ := Aside0.mk (blk_kept (by (with_reducible repeat (first | refine blk_drewN ?_ _ | refine blk_drew ?_ | refine blk_alloc ?_ _)); exact BK204.out) hkp (fun hs_ => (fun e_ => (Kd.R_ne HO_205000.out BK204.out (by decide)) e_) hs_)); have n6_ := Aside0.mk (blk_kept (by (with_reducible repeat (first | refine blk_drewN ?_ _ | refine blk_drew ?_ | refine blk_alloc ?_ _)); exact BK209.out) hkp (fun hs_ => (fun e_ => (Kd.R_ne HO_205000.out BK209.out (by decide)) e_) hs_)); have n7_ := Aside0.mk (Kd.R_mono (ok' := fun k_ => some k_ ≠ (.slice Ao20 t196.length co20 : Value).ownBlock ∧ some k_ ≠ (.slice Ao30 t201.length co30 : Value).ownBlock ∧ some k_ ≠ (.slice Ao39 t205.length co39 : Value).ownBlock) (Kd.R_keptB (HO213.out) hkp (fun k_ hk_ hs_ => (hk_.1.2) hs_)) (fun k_ hk_ => ⟨hk_.1.1.1.2, hk_.1.1.2, hk_.1.2⟩)); have n8_ := Aside0.mk (hb); clear HO_201000; clear HO_205000; clear HO_210000; clear BK191; clear BK200; clear BK204; clear BK209; clear HO213; clear HB; have HO_201000 := n0_; have HO_205000 := n1_; have HO_210000 := n2_; have BK191 := n3_; have BK200 := n4_; have BK204 := n5_; have BK209 := n6_; have HO213 := n7_; have HB := n8_; clear n0_ n1_ n2_ n3_ n4_ n5_ n6_ n7_ n8_; (try clear hb); (try clear hkp); (try clear hy0)))
            (try simp only [Act.put, List.setIfInBounds_toArray, List.set_cons_zero, List.set_cons_succ])
            go_cut [61] (fun v61 wc => ∃ (kq : Nat) (x61_86 : Bool), v61 = .bool x61_86 ∧ Aside0 (laws_FnExactEvenTable.j1 kq t199 x61_86 l0_0 t196 t205 = some r) ∧ Aside0 (kq ≤ kj10) ∧ Aside0 (Kd.R Kd.string 9 wc w.heap.size (fun k_ => some k_ ≠ ((.slice Ao30 t201.length co30) : Value).ownBlock ∧ some k_ ≠ ((.slice Ao39 t205.length co39) : Value).ownBlock) (.slice Ao20 t196.length co20) t196) ∧ Aside0 (Kd.R Kd.string 9 wc w.heap.size (fun k_ => some k_ ≠ ((.slice Ao20 t196.length co20) : Value).ownBlock ∧ some k_ ≠ ((.slice Ao39 t205.length co39) : Value).ownBlock) (.slice Ao30 t201.length co30) t216) ∧ Aside0 (Kd.R Kd.string 9 wc w.heap.size (fun k_ => some k_ ≠ ((.slice Ao20 t196.length co20) : Value).ownBlock ∧ some k_ ≠ ((.slice Ao30 t201.length co30) : Value).ownBlock) (.slice Ao39 t205.length co39) t205) ∧ Aside0 (wc.heap[gb191]? = some (.cells #[(.slice A0_0 l0_0.length c0_0)] 24 (0, 0))) ∧ Aside0 (wc.heap[gb200]? = some (.cells #[(.slice Ao20 t196.length co20)] 28 (0, 0))) ∧ Aside0 (wc.heap[gb204]? = some (.cells #[(.slice Ao30 t201.length co30)] 28 (0, 0))) ∧ Aside0 (wc.heap[gb209]? = some (.cells #[(.slice Ao39 t205.length co39)] 28 (0, 0))) ∧ Aside0 (Below w.heap.size w wc))
            case first =>
              have H := HC87.out
              clear HC87
              by_cases c101 : t215 < 0
              · rw [if_pos c101] at H
                have c101b0 : decide (t215 < 0) = true := decide_eq_true c101
                clear c101
                (first | rw [c101b0] | (simp only [i64_w, i32_w]; rw [c101b0]) | skip)
                have H' := Aside0.mk H
                clear H
                go_wp2
                go_meet
                case rel => exact ⟨_, (true), (by first | rfl | (simp; done) | (simp [*]; done)), H', ⟨by have := HJ10.out; first | omega | exact Nat.le_refl _⟩, ⟨by (with_reducible repeat (first | apply Kd.R_alloc | apply Kd.R_drewN | apply Kd.R_drew)); exact Kd.R_mono HO_201000.out (fun _ hk => ⟨hk.1, hk.2.1⟩)⟩, ⟨by (with_reducible repeat (first | apply Kd.R_alloc | apply Kd.R_drewN | apply Kd.R_drew)); exact Kd.R_mono HO_205000.out (fun _ hk => ⟨hk.1.1, hk.1.2⟩)⟩, ⟨by (with_reducible repeat (first | apply Kd.R_alloc | apply Kd.R_drewN | apply Kd.R_drew)); exact Kd.R_mono HO_210000.out (fun _ hk => ⟨hk.1, hk.2.1⟩)⟩, ⟨by (with_reducible repeat (first | refine blk_drewN ?_ _ | refine blk_drew ?_ | refine blk_alloc ?_ _)); exact BK191.out⟩, ⟨by (with_reducible repeat (first | refine blk_drewN ?_ _ | refine blk_drew ?_ | refine blk_alloc ?_ _)); exact BK200.out⟩, ⟨by (with_reducible repeat (first | refine blk_drewN ?_ _ | refine blk_drew ?_ | refine blk_alloc ?_ _)); exact BK204.out⟩, ⟨by (with_reducible repeat (first | refine blk_drewN ?_ _ | refine blk_drew ?_ | refine blk_alloc ?_ _)); exact BK209.out⟩, ⟨by repeat (first | (with_reducible first | exact HB.out | apply below_alloc | apply pw_below_drewN | apply below_drew1 | refine below_set ?_ GE191.out | refine below_set ?_ GE200.out | refine below_set ?_ GE204.out | refine below_set ?_ GE209.out) | exact HB.out)⟩⟩
              · rw [if_neg c101] at H
                have c101b0 : decide (t215 < 0) = false := decide_eq_false c101
                clear c101
                (first | rw [c101b0] | (simp only [i64_w, i32_w]; rw [c101b0]) | skip)
                replace H := Option.bind_eq_some_iff.mp H
                obtain ⟨t217, A1020, H⟩ := H
                replace H : (if t217 = true then (laws_FnExactEvenTable.j1 kj10 t199 (t208 != t199) l0_0 t196 t205) else (laws_FnExactEvenTable.j1 kj10 t199 true l0_0 t196 t205)) = some r := H
                have A102 := Aside0.mk A1020
                clear A1020
                by_cases c103 : t217 = true
                · subst c103
                  have H1 : (laws_FnExactEvenTable.j1 kj10 t199 (t208 != t199) l0_0 t196 t205) = some r := by rw [if_pos rfl] at H; first | exact H | (simp only [if_true, eq_self] at H ⊢; exact H)
                  clear H
                  have H := H1
                  clear H1
                  have H' := Aside0.mk H
                  clear H
                  have hnb104 := NB209_191.out
                  have hnc104 := NB191_209.out
                  have hnb105 := NB209_200.out
                  have hnc105 := NB200_209.out
                  have hnb106 := NB209_204.out
                  have hnc106 := NB204_209.out
                  (try (have hnw108 := Kd.R_ne HO_201000.out BK209.out (by decide); change some gb209 ≠ some _ at hnw108; have how108 := fun (e_ : gb209 = _) => hnw108 (congrArg some e_); have hpw108 := fun e_ => how108 (Eq.symm e_); clear hnw108; replace how108 := eq_false how108; replace hpw108 := eq_false hpw108))
                  (try (have hnw109 := Kd.R_ne HO_205000.out BK209.out (by decide); change some gb209 ≠ some _ at hnw109; have how109 := fun (e_ : gb209 = _) => hnw109 (congrArg some e_); have hpw109 := fun e_ => how109 (Eq.symm e_); clear hnw109; replace how109 := eq_false how109; replace hpw109 := eq_false hpw109))
                  (try (have hnw110 := Kd.R_ne HO_210000.out BK209.out (by decide); change some gb209 ≠ some _ at hnw110; have how110 := fun (e_ : gb209 = _) => hnw110 (congrArg some e_); have hpw110 := fun e_ => how110 (Eq.symm e_); clear hnw110; replace how110 := eq_false how110; replace hpw110 := eq_false hpw110))
                  (try (have hnw111 := Kd.R_ne HO213.out BK209.out (by decide); change some gb209 ≠ some _ at hnw111; have how111 := fun (e_ : gb209 = _) => hnw111 (congrArg some e_); have hpw111 := fun e_ => how111 (Eq.symm e_); clear hnw111; replace how111 := eq_false how111; replace hpw111 := eq_false hpw111))
                  have hcz107_0 : w100.cell? ⟨gb209, 0, none⟩ = some (.slice Ao39 t205.length co39) := (blk_cell BK209.out 0).trans rfl
                  have hfz107_0 := blk_frozen BK209.out 0
                  have hnb112 := NB200_191.out
                  have hnc112 := NB191_200.out
                  have hnb113 := NB200_204.out
                  have hnc113 := NB204_200.out
                  (try (have hnw115 := Kd.R_ne HO_201000.out BK200.out (by decide); change some gb200 ≠ some _ at hnw115; have how115 := fun (e_ : gb200 = _) => hnw115 (congrArg some e_); have hpw115 := fun e_ => how115 (Eq.symm e_); clear hnw115; replace how115 := eq_false how115; replace hpw115 := eq_false hpw115))
                  (try (have hnw116 := Kd.R_ne HO_205000.out BK200.out (by decide); change some gb200 ≠ some _ at hnw116; have how116 := fun (e_ : gb200 = _) => hnw116 (congrArg some e_); have hpw116 := fun e_ => how116 (Eq.symm e_); clear hnw116; replace how116 := eq_false how116; replace hpw116 := eq_false hpw116))
                  (try (have hnw117 := Kd.R_ne HO_210000.out BK200.out (by decide); change some gb200 ≠ some _ at hnw117; have how117 := fun (e_ : gb200 = _) => hnw117 (congrArg some e_); have hpw117 := fun e_ => how117 (Eq.symm e_); clear hnw117; replace how117 := eq_false how117; replace hpw117 := eq_false hpw117))
                  (try (have hnw118 := Kd.R_ne HO213.out BK200.out (by decide); change some gb200 ≠ some _ at hnw118; have how118 := fun (e_ : gb200 = _) => hnw118 (congrArg some e_); have hpw118 := fun e_ => how118 (Eq.symm e_); clear hnw118; replace how118 := eq_false how118; replace hpw118 := eq_false hpw118))
                  have hcz114_0 : w100.cell? ⟨gb200, 0, none⟩ = some (.slice Ao20 t196.length co20) := (blk_cell BK200.out 0).trans rfl
                  have hfz114_0 := blk_frozen BK200.out 0
                  go_wp2_with (first | (go_at_call 15; (with_reducible refine (laws_eqTable.calls kj10 _ _ t205 _ _ t196 true _ ?side1 ?side2 ?side3 ?side4 A102.out).mono ?_); (case side1 => repeat (first | exact (Kd.R_reads' HO_210000.out).2.2 | (with_reducible refine Kd.C_alloc ?_ _) | (with_reducible refine Kd.C_drewN ?_ _) | (with_reducible refine Kd.C_drew ?_))); (case side2 => exact (Kd.R_reads' HO_210000.out).2.1); (case side3 => repeat (first | exact (Kd.R_reads' HO_201000.out).2.2 | (with_reducible refine Kd.C_alloc ?_ _) | (with_reducible refine Kd.C_drewN ?_ _) | (with_reducible refine Kd.C_drew ?_))); (case side4 => exact (Kd.R_reads' HO_201000.out).2.1); rintro e w119 ⟨rfl, hb⟩; have n0_ := Aside0.mk (Kd.R_below (by (with_reducible repeat (first | apply Kd.R_alloc | apply Kd.R_drewN | apply Kd.R_drew)); exact HO_201000.out) hb); have n1_ := Aside0.mk (Kd.R_below (by (with_reducible repeat (first | apply Kd.R_alloc | apply Kd.R_drewN | apply Kd.R_drew)); exact HO_205000.out) hb); have n2_ := Aside0.mk (Kd.R_below (by (with_reducible repeat (first | apply Kd.R_alloc | apply Kd.R_drewN | apply Kd.R_drew)); exact HO_210000.out) hb); have n3_ := Aside0.mk (Kd.R_below (by (with_reducible repeat (first | apply Kd.R_alloc | apply Kd.R_drewN | apply Kd.R_drew)); exact HO213.out) hb); have n4_ := Aside0.mk (blk_below (g := gb191) (o := .cells #[.slice A0_0 l0_0.length c0_0] 24 (0, 0)) (by (with_reducible repeat (first | refine blk_drewN ?_ _ | refine blk_drew ?_ | refine blk_alloc ?_ _)); exact BK191.out) hb); have n5_ := Aside0.mk (blk_below (g := gb200) (o := .cells #[.slice Ao20 t196.length co20] 28 (0, 0)) (by (with_reducible repeat (first | refine blk_drewN ?_ _ | refine blk_drew ?_ | refine blk_alloc ?_ _)); exact BK200.out) hb); have n6_ := Aside0.mk (blk_below (g := gb204) (o := .cells #[.slice Ao30 t201.length co30] 28 (0, 0)) (by (with_reducible repeat (first | refine blk_drewN ?_ _ | refine blk_drew ?_ | refine blk_alloc ?_ _)); exact BK204.out) hb); have n7_ := Aside0.mk (blk_below (g := gb209) (o := .cells #[.slice Ao39 t205.length co39] 28 (0, 0)) (by (with_reducible repeat (first | refine blk_drewN ?_ _ | refine blk_drew ?_ | refine blk_alloc ?_ _)); exact BK209.out) hb); have n8_ := Aside0.mk (below_step (by repeat (first | (with_reducible first | exact HB.out | apply below_alloc | apply pw_below_drewN | apply below_drew1 | refine below_set ?_ GE191.out | refine below_set ?_ GE200.out | refine below_set ?_ GE204.out | refine below_set ?_ GE209.out) | exact HB.out)) hb); clear HO_201000; clear HO_205000; clear HO_210000; clear HO213; clear BK191; clear BK200; clear BK204; clear BK209; clear HB; have HO_201000 := n0_; have HO_205000 := n1_; have HO_210000 := n2_; have HO213 := n3_; have BK191 := n4_; have BK200 := n5_; have BK204 := n6_; have BK209 := n7_; have HB := n8_; clear n0_ n1_ n2_ n3_ n4_ n5_ n6_ n7_ n8_; (try clear hb); (try clear hb2); (try clear hk); (try clear hi)))
                  go_meet
                  case rel => exact ⟨_, ((t208 != t199)), (by first | rfl | (simp; done) | (simp [*]; done)), H', ⟨by have := HJ10.out; first | omega | exact Nat.le_refl _⟩, ⟨by (with_reducible repeat (first | apply Kd.R_alloc | apply Kd.R_drewN | apply Kd.R_drew)); exact Kd.R_mono HO_201000.out (fun _ hk => ⟨hk.1, hk.2.1⟩)⟩, ⟨by (with_reducible repeat (first | apply Kd.R_alloc | apply Kd.R_drewN | apply Kd.R_drew)); exact Kd.R_mono HO_205000.out (fun _ hk => ⟨hk.1.1, hk.1.2⟩)⟩, ⟨by (with_reducible repeat (first | apply Kd.R_alloc | apply Kd.R_drewN | apply Kd.R_drew)); exact Kd.R_mono HO_210000.out (fun _ hk => ⟨hk.1, hk.2.1⟩)⟩, ⟨by (with_reducible repeat (first | refine blk_drewN ?_ _ | refine blk_drew ?_ | refine blk_alloc ?_ _)); exact BK191.out⟩, ⟨by (with_reducible repeat (first | refine blk_drewN ?_ _ | refine blk_drew ?_ | refine blk_alloc ?_ _)); exact BK200.out⟩, ⟨by (with_reducible repeat (first | refine blk_drewN ?_ _ | refine blk_drew ?_ | refine blk_alloc ?_ _)); exact BK204.out⟩, ⟨by (with_reducible repeat (first | refine blk_drewN ?_ _ | refine blk_drew ?_ | refine blk_alloc ?_ _)); exact BK209.out⟩, ⟨by repeat (first | (with_reducible first | exact HB.out | apply below_alloc | apply pw_below_drewN | apply below_drew1 | refine below_set ?_ GE191.out | refine below_set ?_ GE200.out | refine below_set ?_ GE204.out | refine below_set ?_ GE209.out) | exact HB.out)⟩⟩
                · replace c103 := Bool.eq_false_iff.mpr c103
                  subst c103
                  have H1 : (laws_FnExactEvenTable.j1 kj10 t199 true l0_0 t196 t205) = some r := by rw [if_neg (show ¬ (false = true) by decide)] at H; first | exact H | (simp only [if_true, eq_self] at H ⊢; exact H)
                  clear H
                  have H := H1
                  clear H1
                  have H' := Aside0.mk H
                  clear H
                  have hnb120 := NB209_191.out
                  have hnc120 := NB191_209.out
                  have hnb121 := NB209_200.out
                  have hnc121 := NB200_209.out
                  have hnb122 := NB209_204.out
                  have hnc122 := NB204_209.out
                  (try (have hnw124 := Kd.R_ne HO_201000.out BK209.out (by decide); change some gb209 ≠ some _ at hnw124; have how124 := fun (e_ : gb209 = _) => hnw124 (congrArg some e_); have hpw124 := fun e_ => how124 (Eq.symm e_); clear hnw124; replace how124 := eq_false how124; replace hpw124 := eq_false hpw124))
                  (try (have hnw125 := Kd.R_ne HO_205000.out BK209.out (by decide); change some gb209 ≠ some _ at hnw125; have how125 := fun (e_ : gb209 = _) => hnw125 (congrArg some e_); have hpw125 := fun e_ => how125 (Eq.symm e_); clear hnw125; replace how125 := eq_false how125; replace hpw125 := eq_false hpw125))
                  (try (have hnw126 := Kd.R_ne HO_210000.out BK209.out (by decide); change some gb209 ≠ some _ at hnw126; have how126 := fun (e_ : gb209 = _) => hnw126 (congrArg some e_); have hpw126 := fun e_ => how126 (Eq.symm e_); clear hnw126; replace how126 := eq_false how126; replace hpw126 := eq_false hpw126))
                  (try (have hnw127 := Kd.R_ne HO213.out BK209.out (by decide); change some gb209 ≠ some _ at hnw127; have how127 := fun (e_ : gb209 = _) => hnw127 (congrArg some e_); have hpw127 := fun e_ => how127 (Eq.symm e_); clear hnw127; replace how127 := eq_false how127; replace hpw127 := eq_false hpw127))
                  have hcz123_0 : w100.cell? ⟨gb209, 0, none⟩ = some (.slice Ao39 t205.length co39) := (blk_cell BK209.out 0).trans rfl
                  have hfz123_0 := blk_frozen BK209.out 0
                  have hnb128 := NB200_191.out
                  have hnc128 := NB191_200.out
                  have hnb129 := NB200_204.out
                  have hnc129 := NB204_200.out
                  (try (have hnw131 := Kd.R_ne HO_201000.out BK200.out (by decide); change some gb200 ≠ some _ at hnw131; have how131 := fun (e_ : gb200 = _) => hnw131 (congrArg some e_); have hpw131 := fun e_ => how131 (Eq.symm e_); clear hnw131; replace how131 := eq_false how131; replace hpw131 := eq_false hpw131))
                  (try (have hnw132 := Kd.R_ne HO_205000.out BK200.out (by decide); change some gb200 ≠ some _ at hnw132; have how132 := fun (e_ : gb200 = _) => hnw132 (congrArg some e_); have hpw132 := fun e_ => how132 (Eq.symm e_); clear hnw132; replace how132 := eq_false how132; replace hpw132 := eq_false hpw132))
                  (try (have hnw133 := Kd.R_ne HO_210000.out BK200.out (by decide); change some gb200 ≠ some _ at hnw133; have how133 := fun (e_ : gb200 = _) => hnw133 (congrArg some e_); have hpw133 := fun e_ => how133 (Eq.symm e_); clear hnw133; replace how133 := eq_false how133; replace hpw133 := eq_false hpw133))
                  (try (have hnw134 := Kd.R_ne HO213.out BK200.out (by decide); change some gb200 ≠ some _ at hnw134; have how134 := fun (e_ : gb200 = _) => hnw134 (congrArg some e_); have hpw134 := fun e_ => how134 (Eq.symm e_); clear hnw134; replace how134 := eq_false how134; replace hpw134 := eq_false hpw134))
                  have hcz130_0 : w100.cell? ⟨gb200, 0, none⟩ = some (.slice Ao20 t196.length co20) := (blk_cell BK200.out 0).trans rfl
                  have hfz130_0 := blk_frozen BK200.out 0
                  go_wp2_with (first | (go_at_call 15; (with_reducible refine (laws_eqTable.calls kj10 _ _ t205 _ _ t196 false _ ?side1 ?side2 ?side3 ?side4 A102.out).mono ?_); (case side1 => repeat (first | exact (Kd.R_reads' HO_210000.out).2.2 | (with_reducible refine Kd.C_alloc ?_ _) | (with_reducible refine Kd.C_drewN ?_ _) | (with_reducible refine Kd.C_drew ?_))); (case side2 => exact (Kd.R_reads' HO_210000.out).2.1); (case side3 => repeat (first | exact (Kd.R_reads' HO_201000.out).2.2 | (with_reducible refine Kd.C_alloc ?_ _) | (with_reducible refine Kd.C_drewN ?_ _) | (with_reducible refine Kd.C_drew ?_))); (case side4 => exact (Kd.R_reads' HO_201000.out).2.1); rintro e w135 ⟨rfl, hb⟩; have n0_ := Aside0.mk (Kd.R_below (by (with_reducible repeat (first | apply Kd.R_alloc | apply Kd.R_drewN | apply Kd.R_drew)); exact HO_201000.out) hb); have n1_ := Aside0.mk (Kd.R_below (by (with_reducible repeat (first | apply Kd.R_alloc | apply Kd.R_drewN | apply Kd.R_drew)); exact HO_205000.out) hb); have n2_ := Aside0.mk (Kd.R_below (by (with_reducible repeat (first | apply Kd.R_alloc | apply Kd.R_drewN | apply Kd.R_drew)); exact HO_210000.out) hb); have n3_ := Aside0.mk (Kd.R_below (by (with_reducible repeat (first | apply Kd.R_alloc | apply Kd.R_drewN | apply Kd.R_drew)); exact HO213.out) hb); have n4_ := Aside0.mk (blk_below (g := gb191) (o := .cells #[.slice A0_0 l0_0.length c0_0] 24 (0, 0)) (by (with_reducible repeat (first | refine blk_drewN ?_ _ | refine blk_drew ?_ | refine blk_alloc ?_ _)); exact BK191.out) hb); have n5_ := Aside0.mk (blk_below (g := gb200) (o := .cells #[.slice Ao20 t196.length co20] 28 (0, 0)) (by (with_reducible repeat (first | refine blk_drewN ?_ _ | refine blk_drew ?_ | refine blk_alloc ?_ _)); exact BK200.out) hb); have n6_ := Aside0.mk (blk_below (g := gb204) (o := .cells #[.slice Ao30 t201.length co30] 28 (0, 0)) (by (with_reducible repeat (first | refine blk_drewN ?_ _ | refine blk_drew ?_ | refine blk_alloc ?_ _)); exact BK204.out) hb); have n7_ := Aside0.mk (blk_below (g := gb209) (o := .cells #[.slice Ao39 t205.length co39] 28 (0, 0)) (by (with_reducible repeat (first | refine blk_drewN ?_ _ | refine blk_drew ?_ | refine blk_alloc ?_ _)); exact BK209.out) hb); have n8_ := Aside0.mk (below_step (by repeat (first | (with_reducible first | exact HB.out | apply below_alloc | apply pw_below_drewN | apply below_drew1 | refine below_set ?_ GE191.out | refine below_set ?_ GE200.out | refine below_set ?_ GE204.out | refine below_set ?_ GE209.out) | exact HB.out)) hb); clear HO_201000; clear HO_205000; clear HO_210000; clear HO213; clear BK191; clear BK200; clear BK204; clear BK209; clear HB; have HO_201000 := n0_; have HO_205000 := n1_; have HO_210000 := n2_; have HO213 := n3_; have BK191 := n4_; have BK200 := n5_; have BK204 := n6_; have BK209 := n7_; have HB := n8_; clear n0_ n1_ n2_ n3_ n4_ n5_ n6_ n7_ n8_; (try clear hb); (try clear hb2); (try clear hk); (try clear hi)))
                  go_meet
                  case rel => exact ⟨_, (true), (by first | rfl | (simp; done) | (simp [*]; done)), H', ⟨by have := HJ10.out; first | omega | exact Nat.le_refl _⟩, ⟨by (with_reducible repeat (first | apply Kd.R_alloc | apply Kd.R_drewN | apply Kd.R_drew)); exact Kd.R_mono HO_201000.out (fun _ hk => ⟨hk.1, hk.2.1⟩)⟩, ⟨by (with_reducible repeat (first | apply Kd.R_alloc | apply Kd.R_drewN | apply Kd.R_drew)); exact Kd.R_mono HO_205000.out (fun _ hk => ⟨hk.1.1, hk.1.2⟩)⟩, ⟨by (with_reducible repeat (first | apply Kd.R_alloc | apply Kd.R_drewN | apply Kd.R_drew)); exact Kd.R_mono HO_210000.out (fun _ hk => ⟨hk.1, hk.2.1⟩)⟩, ⟨by (with_reducible repeat (first | refine blk_drewN ?_ _ | refine blk_drew ?_ | refine blk_alloc ?_ _)); exact BK191.out⟩, ⟨by (with_reducible repeat (first | refine blk_drewN ?_ _ | refine blk_drew ?_ | refine blk_alloc ?_ _)); exact BK200.out⟩, ⟨by (with_reducible repeat (first | refine blk_drewN ?_ _ | refine blk_drew ?_ | refine blk_alloc ?_ _)); exact BK204.out⟩, ⟨by (with_reducible repeat (first | refine blk_drewN ?_ _ | refine blk_drew ?_ | refine blk_alloc ?_ _)); exact BK209.out⟩, ⟨by repeat (first | (with_reducible first | exact HB.out | apply below_alloc | apply pw_below_drewN | apply below_drew1 | refine below_set ?_ GE191.out | refine below_set ?_ GE200.out | refine below_set ?_ GE204.out | refine below_set ?_ GE209.out) | exact HB.out)⟩⟩
            case rest =>
              clear HC87
              try clear c1
              try clear c2
              try clear p2
              try clear c3
              try clear c3b0
              try clear c4
              try clear c5
              try clear c6
              try clear c7
              try clear c8
              try clear c9
              try clear c10
              try clear c11
              try clear c12
              try clear c13
              try clear c15
              try clear c19
              try clear c21
              try clear c25
              try clear c26
              try clear c31
              try clear c32
              try clear c40
              try clear c41
              try clear c42
              try clear c49
              try clear c50
              try clear c51
              try clear c52
              try clear c58
              try clear c59
              try clear c66
              try clear c67
              try clear c68
              try clear c74
              try clear c75
              try clear c82
              try clear c85
              try clear c92
              try clear c93
              try clear c94
              try clear c101
              try clear c101b0
              try clear c103
              try clear c104
              try clear c105
              try clear c106
              try clear c112
              try clear c113
              try clear c120
              try clear c121
              try clear c122
              try clear c128
              try clear c129
              try clear hcz107_0
              try clear hcz114_0
              try clear hcz123_0
              try clear hcz130_0
              try clear hcz13_0
              try clear hcz15_0
              try clear hcz22_0
              try clear hcz25_0
              try clear hcz33_0
              try clear hcz43_0
              try clear hcz53_0
              try clear hcz5_0
              try clear hcz60_0
              try clear hcz69_0
              try clear hcz76_0
              try clear hcz95_0
              try clear hfz107_0
              try clear hfz114_0
              try clear hfz123_0
              try clear hfz130_0
              try clear hfz13_0
              try clear hfz15_0
              try clear hfz22_0
              try clear hfz25_0
              try clear hfz33_0
              try clear hfz43_0
              try clear hfz53_0
              try clear hfz5_0
              try clear hfz60_0
              try clear hfz69_0
              try clear hfz76_0
              try clear hfz95_0
              try clear p2
              obtain ⟨kq, x61_86, rfl, HA, HJ86, HO_201000, HO_205000, HO_210000, BK191, BK200, BK204, BK209, HB⟩ := hcut
              have hl205000_86 := (Kd.R_reads' HO_205000.out).1
              rw [hl205000_86] at HO_205000
              (try simp only [hl205000_86])
              (try simp only [hl205000_86] at BK191)
              (try simp only [hl205000_86] at BK200)
              (try simp only [hl205000_86] at BK204)
              (try simp only [hl205000_86] at BK209)
              (try simp only [hl205000_86] at HO_201000)
              (try simp only [hl205000_86] at HO_210000)
              cases kq with
              | zero => exact absurd HA.out (by simp [laws_FnExactEvenTable.j1])
              | succ kj86 =>
                have H := HA.out
                clear HA
                simp only [laws_FnExactEvenTable.j1] at H
                by_cases c136 : x61_86 = true
                · subst c136
                  have H1 : (some false) = some r := by rw [if_pos rfl] at H; first | exact H | (simp only [if_true, eq_self] at H ⊢; exact H)
                  clear H
                  have H := H1
                  clear H1
                  obtain rfl := Option.some.inj H
                  go_wp2
                  go_ret
                  exact ⟨by first | rfl | (simp [errW_none, errW_some] <;> rfl) | (simp [*, errW_none, errW_some] <;> rfl), by repeat (first | (with_reducible first | exact HB.out | apply below_alloc | apply pw_below_drewN | apply below_drew1 | refine below_set ?_ GE191.out | refine below_set ?_ GE200.out | refine below_set ?_ GE204.out | refine below_set ?_ GE209.out) | exact HB.out)⟩
                · replace c136 := Bool.eq_false_iff.mpr c136
                  subst c136
                  have H1 : ((laws_markTable.f kj86 t205 1).bind fun bt218 => ((laws_heldTable.f kj86 bt218.2 1).bind fun t220 => (if t220 < 0 then (some false) else (if t220 = bt218.1 then ((laws_toTable.f kj86 l0_0).bind fun t221 => ((impl_EvenTable.f kj86 t221).bind fun bt224 => ((laws_eqTable.f kj86 bt224.1 t196).bind fun t229 => (if t229 = true then (laws_FnExactEvenTable.j2 kj86 bt218.1 (bt224.2 != t199) bt218.2) else (laws_FnExactEvenTable.j2 kj86 bt218.1 true bt218.2))))) else (some false))))) = some r := by rw [if_neg (show ¬ (false = true) by decide)] at H; first | exact H | (simp only [if_true, eq_self] at H ⊢; exact H)
                  clear H
                  have H := H1
                  clear H1
                  replace H := Option.bind_eq_some_iff.mp H
                  obtain ⟨⟨t218, t219⟩, A1370, H⟩ := H
                  replace H : ((laws_heldTable.f kj86 t219 1).bind fun t220 => (if t220 < 0 then (some false) else (if t220 = t218 then ((laws_toTable.f kj86 l0_0).bind fun t221 => ((impl_EvenTable.f kj86 t221).bind fun bt224 => ((laws_eqTable.f kj86 bt224.1 t196).bind fun t229 => (if t229 = true then (laws_FnExactEvenTable.j2 kj86 t218 (bt224.2 != t199) t219) else (laws_FnExactEvenTable.j2 kj86 t218 true t219))))) else (some false)))) = some r := H
                  have A137 := Aside0.mk A1370
                  clear A1370
                  replace H := Option.bind_eq_some_iff.mp H
                  obtain ⟨t220, A1380, H⟩ := H
                  replace H : (if t220 < 0 then (some false) else (if t220 = t218 then ((laws_toTable.f kj86 l0_0).bind fun t221 => ((impl_EvenTable.f kj86 t221).bind fun bt224 => ((laws_eqTable.f kj86 bt224.1 t196).bind fun t229 => (if t229 = true then (laws_FnExactEvenTable.j2 kj86 t218 (bt224.2 != t199) t219) else (laws_FnExactEvenTable.j2 kj86 t218 true t219))))) else (some false))) = some r := H
                  have A138 := Aside0.mk A1380
                  clear A1380
                  by_cases c139 : t220 < 0
                  · rw [if_pos c139] at H
                    have c139b0 : decide (t220 < 0) = true := decide_eq_true c139
                    clear c139
                    obtain rfl := Option.some.inj H
                    have hnb140 := NB209_191.out
                    have hnc140 := NB191_209.out
                    have hnb141 := NB209_200.out
                    have hnc141 := NB200_209.out
                    have hnb142 := NB209_204.out
                    have hnc142 := NB204_209.out
                    (try (have hnw144 := Kd.R_ne HO_201000.out BK209.out (by decide); change some gb209 ≠ some _ at hnw144; have how144 := fun (e_ : gb209 = _) => hnw144 (congrArg some e_); have hpw144 := fun e_ => how144 (Eq.symm e_); clear hnw144; replace how144 := eq_false how144; replace hpw144 := eq_false hpw144))
                    (try (have hnw145 := Kd.R_ne HO_205000.out BK209.out (by decide); change some gb209 ≠ some _ at hnw145; have how145 := fun (e_ : gb209 = _) => hnw145 (congrArg some e_); have hpw145 := fun e_ => how145 (Eq.symm e_); clear hnw145; replace how145 := eq_false how145; replace hpw145 := eq_false hpw145))
                    (try (have hnw146 := Kd.R_ne HO_210000.out BK209.out (by decide); change some gb209 ≠ some _ at hnw146; have how146 := fun (e_ : gb209 = _) => hnw146 (congrArg some e_); have hpw146 := fun e_ => how146 (Eq.symm e_); clear hnw146; replace how146 := eq_false how146; replace hpw146 := eq_false hpw146))
                    have hcz143_0 : wc.cell? ⟨gb209, 0, none⟩ = some (.slice Ao39 t205.length co39) := (blk_cell BK209.out 0).trans rfl
                    have hfz143_0 := blk_frozen BK209.out 0
                    go_wp2_with (first | ((with_reducible refine gate_callee (f := 19) rfl ?_); refine goesL_ (some 64) rfl rfl Tryd.func19 (by kernel_rfl) rfl #[.agg #[.slice Ao39 t205.length co39], .int .i64 1] rfl (by (try simp only [List.map_toArray, List.map_cons, List.map_nil]); first | done | rfl | (simp only [List.length_drop, List.length_take]; rfl)) ?_; (with_reducible refine (laws_markTable.calls kj86 (fun k_ => some k_ = (.slice Ao39 t205.length co39 : Value).ownBlock) (.slice Ao39 t205.length co39) t205 1 t218 t219 w _ ?side1 ?side2 A137.out).mono ?_); (case side1 => repeat (first | (with_reducible first | exact HB.out | apply below_alloc | apply pw_below_drewN | apply below_drew1 | refine below_set ?_ GE191.out | refine below_set ?_ GE200.out | refine below_set ?_ GE204.out | refine below_set ?_ GE209.out) | exact HB.out)); (case side2 => exact Kd.R_tight rfl HO_210000.out); rintro e w147 ⟨rfl, hy0, hb, hkp⟩; refine ⟨_, rfl, ?_⟩; have n0_ := Aside0.mk (Kd.R_mono (ok' := fun k_ => some k_ ≠ (.slice Ao30 t216.length co30 : Value).ownBlock ∧ some k_ ≠ (.slice Ao39 t205.length co39 : Value).ownBlock) (Kd.R_keptB (HO_201000.out) hkp (fun k_ hk_ hs_ => (hk_.2) hs_)) (fun k_ hk_ => ⟨hk_.1.1, hk_.1.2⟩)); have n1_ := Aside0.mk (Kd.R_mono (ok' := fun k_ => some k_ ≠ (.slice Ao20 t196.length co20 : Value).ownBlock ∧ some k_ ≠ (.slice Ao39 t205.length co39 : Value).ownBlock) (Kd.R_keptB (HO_205000.out) hkp (fun k_ hk_ hs_ => (hk_.2) hs_)) (fun k_ hk_ => ⟨hk_.1.1, hk_.1.2⟩)); have n2_ := Aside0.mk (Kd.R_reok rfl hy0 (fun k_ e_ => HO_210000.out.1 k_ e_)); have n3_ := Aside0.mk (blk_kept (by (with_reducible repeat (first | refine blk_drewN ?_ _ | refine blk_drew ?_ | refine blk_alloc ?_ _)); exact BK191.out) hkp (fun hs_ => (fun e_ => (Kd.R_ne HO_210000.out BK191.out (by decide)) e_) hs_)); have n4_ := Aside0.mk (blk_kept (by (with_reducible repeat (first | refine blk_drewN ?_ _ | refine blk_drew ?_ | refine blk_alloc ?_ _)); exact BK200.out) hkp (fun hs_ => (fun e_ => (Kd.R_ne HO_210000.out BK200.out (by decide)) e_) hs_)); have n5_ := Aside0.mk (blk_kept (by (with_reducible repeat (first | refine blk_drewN ?_ _ | refine blk_drew ?_ | refine blk_alloc ?_ _)); exact BK204.out) hkp (fun hs_ => (fun e_ => (Kd.R_ne HO_210000.out BK204.out (by decide)) e_) hs_)); have n6_ := Aside0.mk (blk_kept (by (with_reducible repeat (first | refine blk_drewN ?_ _ | refine blk_drew ?_ | refine blk_alloc ?_ _)); exact BK209.out) hkp (fun hs_ => (fun e_ => (Kd.R_ne HO_210000.out BK209.out (by decide)) e_) hs_)); have n7_ := Aside0.mk (hb); clear HO_201000; clear HO_205000; clear HO_210000; clear BK191; clear BK200; clear BK204; clear BK209; clear HB; have HO_201000 := n0_; have HO_205000 := n1_; have HO_210000 := n2_; have BK191 := n3_; have BK200 := n4_; have BK204 := n5_; have BK209 := n6_; have HB := n7_; clear n0_ n1_ n2_ n3_ n4_ n5_ n6_ n7_; (try clear hb); (try clear hkp); (try clear hy0); (try (have hnw149 := Kd.R_ne HO_201000.out BK209.out (by decide); change some gb209 ≠ some _ at hnw149; have how149 := fun (e_ : gb209 = _) => hnw149 (congrArg some e_); have hpw149 := fun e_ => how149 (Eq.symm e_); clear hnw149; replace how149 := eq_false how149; replace hpw149 := eq_false hpw149)); (try (have hnw150 := Kd.R_ne HO_205000.out BK209.out (by decide); change some gb209 ≠ some _ at hnw150; have how150 := fun (e_ : gb209 = _) => hnw150 (congrArg some e_); have hpw150 := fun e_ => how150 (Eq.symm e_); clear hnw150; replace how150 := eq_false how150; replace hpw150 := eq_false hpw150)); (try (have hnw151 := Kd.R_ne HO_210000.out BK209.out (by decide); change some gb209 ≠ some _ at hnw151; have how151 := fun (e_ : gb209 = _) => hnw151 (congrArg some e_); have hpw151 := fun e_ => how151 (Eq.symm e_); clear hnw151; replace how151 := eq_false how151; replace hpw151 := eq_false hpw151)); have hcz148_0 : w147.cell? ⟨gb209, 0, none⟩ = some (.slice Ao39 t205.length co39) := (blk_cell BK209.out 0).trans rfl; have hfz148_0 := blk_frozen BK209.out 0) | ((with_reducible refine gate_callee (f := 27) rfl ?_); refine goesL_ (some 67) rfl rfl Tryd.func27 (by kernel_rfl) rfl #[.agg #[.slice Ao39 t219.length co39], .int .i64 1] rfl (by (try simp only [List.map_toArray, List.map_cons, List.map_nil]); first | done | (rw [show t219.length = t205.length from (Kd.R_reads' HO_210000.out).1.symm] <;> rfl) | rfl | (simp only [List.length_drop, List.length_take]; rfl)) ?_; (with_reducible refine (laws_heldTable.calls kj86 _ _ t219 1 t220 _ ?side1 ?side2 A138.out).mono ?_); (case side1 => repeat (first | exact (Kd.R_reads' HO_210000.out).2.2 | (with_reducible refine Kd.C_alloc ?_ _) | (with_reducible refine Kd.C_drewN ?_ _) | (with_reducible refine Kd.C_drew ?_))); (case side2 => rw [show t219.length = t205.length from (Kd.R_reads' HO_210000.out).1.symm]; exact (Kd.R_reads' HO_210000.out).2.1); rintro e w152 ⟨rfl, hb⟩; refine ⟨_, rfl, ?_⟩; have n0_ := Aside0.mk (Kd.R_below (by (with_reducible repeat (first | apply Kd.R_alloc | apply Kd.R_drewN | apply Kd.R_drew)); exact HO_201000.out) hb); have n1_ := Aside0.mk (Kd.R_below (by (with_reducible repeat (first | apply Kd.R_alloc | apply Kd.R_drewN | apply Kd.R_drew)); exact HO_205000.out) hb); have n2_ := Aside0.mk (Kd.R_below (by (with_reducible repeat (first | apply Kd.R_alloc | apply Kd.R_drewN | apply Kd.R_drew)); exact HO_210000.out) hb); have n3_ := Aside0.mk (blk_below (g := gb191) (o := .cells #[.slice A0_0 l0_0.length c0_0] 24 (0, 0)) (by (with_reducible repeat (first | refine blk_drewN ?_ _ | refine blk_drew ?_ | refine blk_alloc ?_ _)); exact BK191.out) hb); have n4_ := Aside0.mk (blk_below (g := gb200) (o := .cells #[.slice Ao20 t196.length co20] 28 (0, 0)) (by (with_reducible repeat (first | refine blk_drewN ?_ _ | refine blk_drew ?_ | refine blk_alloc ?_ _)); exact BK200.out) hb); have n5_ := Aside0.mk (blk_below (g := gb204) (o := .cells #[.slice Ao30 t216.length co30] 28 (0, 0)) (by (with_reducible repeat (first | refine blk_drewN ?_ _ | refine blk_drew ?_ | refine blk_alloc ?_ _)); exact BK204.out) hb); have n6_ := Aside0.mk (blk_below (g := gb209) (o := .cells #[.slice Ao39 t205.length co39] 28 (0, 0)) (by (with_reducible repeat (first | refine blk_drewN ?_ _ | refine blk_drew ?_ | refine blk_alloc ?_ _)); exact BK209.out) hb); have n7_ := Aside0.mk (below_step (by repeat (first | (with_reducible first | exact HB.out | apply below_alloc | apply pw_below_drewN | apply below_drew1 | refine below_set ?_ GE191.out | refine below_set ?_ GE200.out | refine below_set ?_ GE204.out | refine below_set ?_ GE209.out) | exact HB.out)) hb); clear HO_201000; clear HO_205000; clear HO_210000; clear BK191; clear BK200; clear BK204; clear BK209; clear HB; have HO_201000 := n0_; have HO_205000 := n1_; have HO_210000 := n2_; have BK191 := n3_; have BK200 := n4_; have BK204 := n5_; have BK209 := n6_; have HB := n7_; clear n0_ n1_ n2_ n3_ n4_ n5_ n6_ n7_; (try clear hb); (try clear hb2); (try clear hk); (try clear hi)))
                    go_ret
                    exact ⟨by first | rfl | (simp [errW_none, errW_some] <;> rfl) | (simp [*, errW_none, errW_some] <;> rfl), by repeat (first | (with_reducible first | exact HB.out | apply below_alloc | apply pw_below_drewN | apply below_drew1 | refine below_set ?_ GE191.out | refine below_set ?_ GE200.out | refine below_set ?_ GE204.out | refine below_set ?_ GE209.out) | exact HB.out)⟩
                  · rw [if_neg c139] at H
                    have c139b0 : decide (t220 < 0) = false := decide_eq_false c139
                    clear c139
                    by_cases c153 : t220 = t218
                    · rw [if_pos c153] at H
                      have c153b0 : (t220 == t218) = true := beq_iff_eq.mpr c153
                      have c153b1 : (t220 != t218) = false := bne_eq_false_iff_eq.mpr c153
                      clear c153
                      replace H := Option.bind_eq_some_iff.mp H
                      obtain ⟨t221, A1540, H⟩ := H
                      replace H : ((impl_EvenTable.f kj86 t221).bind fun bt224 => ((laws_eqTable.f kj86 bt224.1 t196).bind fun t229 => (if t229 = true then (laws_FnExactEvenTable.j2 kj86 t218 (bt224.2 != t199) t219) else (laws_FnExactEvenTable.j2 kj86 t218 true t219)))) = some r := H
                      have A154 := Aside0.mk A1540
                      clear A1540
                      replace H := Option.bind_eq_some_iff.mp H
                      obtain ⟨⟨t224, t227⟩, A1550, H⟩ := H
                      replace H : ((laws_eqTable.f kj86 t224 t196).bind fun t229 => (if t229 = true then (laws_FnExactEvenTable.j2 kj86 t218 (t227 != t199) t219) else (laws_FnExactEvenTable.j2 kj86 t218 true t219))) = some r := H
                      have A155 := Aside0.mk A1550
                      clear A1550
                      have HC156 := Aside0.mk H
                      clear H
                      have hnb157 := NB209_191.out
                      have hnc157 := NB191_209.out
                      have hnb158 := NB209_200.out
                      have hnc158 := NB200_209.out
                      have hnb159 := NB209_204.out
                      have hnc159 := NB204_209.out
                      (try (have hnw161 := Kd.R_ne HO_201000.out BK209.out (by decide); change some gb209 ≠ some _ at hnw161; have how161 := fun (e_ : gb209 = _) => hnw161 (congrArg some e_); have hpw161 := fun e_ => how161 (Eq.symm e_); clear hnw161; replace how161 := eq_false how161; replace hpw161 := eq_false hpw161))
                      (try (have hnw162 := Kd.R_ne HO_205000.out BK209.out (by decide); change some gb209 ≠ some _ at hnw162; have how162 := fun (e_ : gb209 = _) => hnw162 (congrArg some e_); have hpw162 := fun e_ => how162 (Eq.symm e_); clear hnw162; replace how162 := eq_false how162; replace hpw162 := eq_false hpw162))
                      (try (have hnw163 := Kd.R_ne HO_210000.out BK209.out (by decide); change some gb209 ≠ some _ at hnw163; have how163 := fun (e_ : gb209 = _) => hnw163 (congrArg some e_); have hpw163 := fun e_ => how163 (Eq.symm e_); clear hnw163; replace how163 := eq_false how163; replace hpw163 := eq_false hpw163))
                      have hcz160_0 : wc.cell? ⟨gb209, 0, none⟩ = some (.slice Ao39 t205.length co39) := (blk_cell BK209.out 0).trans rfl
                      have hfz160_0 := blk_frozen BK209.out 0
                      go_upto_region 25 with (first | ((with_reducible refine gate_callee (f := 19) rfl ?_); refine goesL_ (some 64) rfl rfl Tryd.func19 (by kernel_rfl) rfl #[.agg #[.slice Ao39 t205.length co39], .int .i64 1] rfl (by (try simp only [List.map_toArray, List.map_cons, List.map_nil]); first | done | rfl | (simp only [List.length_drop, List.length_take]; rfl)) ?_; (with_reducible refine (laws_markTable.calls kj86 (fun k_ => some k_ = (.slice Ao39 t205.length co39 : Value).ownBlock) (.slice Ao39 t205.length co39) t205 1 t218 t219 w _ ?side1 ?side2 A137.out).mono ?_); (case side1 => repeat (first | (with_reducible first | exact HB.out | apply below_alloc | apply pw_below_drewN | apply below_drew1 | refine below_set ?_ GE191.out | refine below_set ?_ GE200.out | refine below_set ?_ GE204.out | refine below_set ?_ GE209.out) | exact HB.out)); (case side2 => exact Kd.R_tight rfl HO_210000.out); rintro e w164 ⟨rfl, hy0, hb, hkp⟩; refine ⟨_, rfl, ?_⟩; have n0_ := Aside0.mk (Kd.R_mono (ok' := fun k_ => some k_ ≠ (.slice Ao30 t216.length co30 : Value).ownBlock ∧ some k_ ≠ (.slice Ao39 t205.length co39 : Value).ownBlock) (Kd.R_keptB (HO_201000.out) hkp (fun k_ hk_ hs_ => (hk_.2) hs_)) (fun k_ hk_ => ⟨hk_.1.1, hk_.1.2⟩)); have n1_ := Aside0.mk (Kd.R_mono (ok' := fun k_ => some k_ ≠ (.slice Ao20 t196.length co20 : Value).ownBlock ∧ some k_ ≠ (.slice Ao39 t205.length co39 : Value).ownBlock) (Kd.R_keptB (HO_205000.out) hkp (fun k_ hk_ hs_ => (hk_.2) hs_)) (fun k_ hk_ => ⟨hk_.1.1, hk_.1.2⟩)); have n2_ := Aside0.mk (Kd.R_reok rfl hy0 (fun k_ e_ => HO_210000.out.1 k_ e_)); have n3_ := Aside0.mk (blk_kept (by (with_reducible repeat (first | refine blk_drewN ?_ _ | refine blk_drew ?_ | refine blk_alloc ?_ _)); exact BK191.out) hkp (fun hs_ => (fun e_ => (Kd.R_ne HO_210000.out BK191.out (by decide)) e_) hs_)); have n4_ := Aside0.mk (blk_kept (by (with_reducible repeat (first | refine blk_drewN ?_ _ | refine blk_drew ?_ | refine blk_alloc ?_ _)); exact BK200.out) hkp (fun hs_ => (fun e_ => (Kd.R_ne HO_210000.out BK200.out (by decide)) e_) hs_)); have n5_ := Aside0.mk (blk_kept (by (with_reducible repeat (first | refine blk_drewN ?_ _ | refine blk_drew ?_ | refine blk_alloc ?_ _)); exact BK204.out) hkp (fun hs_ => (fun e_ => (Kd.R_ne HO_210000.out BK204.out (by decide)) e_) hs_)); have n6_ := Aside0.mk (blk_kept (by (with_reducible repeat (first | refine blk_drewN ?_ _ | refine blk_drew ?_ | refine blk_alloc ?_ _)); exact BK209.out) hkp (fun hs_ => (fun e_ => (Kd.R_ne HO_210000.out BK209.out (by decide)) e_) hs_)); have n7_ := Aside0.mk (hb); clear HO_201000; clear HO_205000; clear HO_210000; clear BK191; clear BK200; clear BK204; clear BK209; clear HB; have HO_201000 := n0_; have HO_205000 := n1_; have HO_210000 := n2_; have BK191 := n3_; have BK200 := n4_; have BK204 := n5_; have BK209 := n6_; have HB := n7_; clear n0_ n1_ n2_ n3_ n4_ n5_ n6_ n7_; (try clear hb); (try clear hkp); (try clear hy0); (try (have hnw166 := Kd.R_ne HO_201000.out BK209.out (by decide); change some gb209 ≠ some _ at hnw166; have how166 := fun (e_ : gb209 = _) => hnw166 (congrArg some e_); have hpw166 := fun e_ => how166 (Eq.symm e_); clear hnw166; replace how166 := eq_false how166; replace hpw166 := eq_false hpw166)); (try (have hnw167 := Kd.R_ne HO_205000.out BK209.out (by decide); change some gb209 ≠ some _ at hnw167; have how167 := fun (e_ : gb209 = _) => hnw167 (congrArg some e_); have hpw167 := fun e_ => how167 (Eq.symm e_); clear hnw167; replace how167 := eq_false how167; replace hpw167 := eq_false hpw167)); (try (have hnw168 := Kd.R_ne HO_210000.out BK209.out (by decide); change some gb209 ≠ some _ at hnw168; have how168 := fun (e_ : gb209 = _) => hnw168 (congrArg some e_); have hpw168 := fun e_ => how168 (Eq.symm e_); clear hnw168; replace how168 := eq_false how168; replace hpw168 := eq_false hpw168)); have hcz165_0 : w164.cell? ⟨gb209, 0, none⟩ = some (.slice Ao39 t205.length co39) := (blk_cell BK209.out 0).trans rfl; have hfz165_0 := blk_frozen BK209.out 0) | ((with_reducible refine gate_callee (f := 27) rfl ?_); refine goesL_ (some 67) rfl rfl Tryd.func27 (by kernel_rfl) rfl #[.agg #[.slice Ao39 t219.length co39], .int .i64 1] rfl (by (try simp only [List.map_toArray, List.map_cons, List.map_nil]); first | done | (rw [show t219.length = t205.length from (Kd.R_reads' HO_210000.out).1.symm] <;> rfl) | rfl | (simp only [List.length_drop, List.length_take]; rfl)) ?_; (with_reducible refine (laws_heldTable.calls kj86 _ _ t219 1 t220 _ ?side1 ?side2 A138.out).mono ?_); (case side1 => repeat (first | exact (Kd.R_reads' HO_210000.out).2.2 | (with_reducible refine Kd.C_alloc ?_ _) | (with_reducible refine Kd.C_drewN ?_ _) | (with_reducible refine Kd.C_drew ?_))); (case side2 => rw [show t219.length = t205.length from (Kd.R_reads' HO_210000.out).1.symm]; exact (Kd.R_reads' HO_210000.out).2.1); rintro e w169 ⟨rfl, hb⟩; refine ⟨_, rfl, ?_⟩; have n0_ := Aside0.mk (Kd.R_below (by (with_reducible repeat (first | apply Kd.R_alloc | apply Kd.R_drewN | apply Kd.R_drew)); exact HO_201000.out) hb); have n1_ := Aside0.mk (Kd.R_below (by (with_reducible repeat (first | apply Kd.R_alloc | apply Kd.R_drewN | apply Kd.R_drew)); exact HO_205000.out) hb); have n2_ := Aside0.mk (Kd.R_below (by (with_reducible repeat (first | apply Kd.R_alloc | apply Kd.R_drewN | apply Kd.R_drew)); exact HO_210000.out) hb); have n3_ := Aside0.mk (blk_below (g := gb191) (o := .cells #[.slice A0_0 l0_0.length c0_0] 24 (0, 0)) (by (with_reducible repeat (first | refine blk_drewN ?_ _ | refine blk_drew ?_ | refine blk_alloc ?_ _)); exact BK191.out) hb); have n4_ := Aside0.mk (blk_below (g := gb200) (o := .cells #[.slice Ao20 t196.length co20] 28 (0, 0)) (by (with_reducible repeat (first | refine blk_drewN ?_ _ | refine blk_drew ?_ | refine blk_alloc ?_ _)); exact BK200.out) hb); have n5_ := Aside0.mk (blk_below (g := gb204) (o := .cells #[.slice Ao30 t216.length co30] 28 (0, 0)) (by (with_reducible repeat (first | refine blk_drewN ?_ _ | refine blk_drew ?_ | refine blk_alloc ?_ _)); exact BK204.out) hb); have n6_ := Aside0.mk (blk_below (g := gb209) (o := .cells #[.slice Ao39 t205.length co39] 28 (0, 0)) (by (with_reducible repeat (first | refine blk_drewN ?_ _ | refine blk_drew ?_ | refine blk_alloc ?_ _)); exact BK209.out) hb); have n7_ := Aside0.mk (below_step (by repeat (first | (with_reducible first | exact HB.out | apply below_alloc | apply pw_below_drewN | apply below_drew1 | refine below_set ?_ GE191.out | refine below_set ?_ GE200.out | refine below_set ?_ GE204.out | refine below_set ?_ GE209.out) | exact HB.out)) hb); clear HO_201000; clear HO_205000; clear HO_210000; clear BK191; clear BK200; clear BK204; clear BK209; clear HB; have HO_201000 := n0_; have HO_205000 := n1_; have HO_210000 := n2_; have BK191 := n3_; have BK200 := n4_; have BK204 := n5_; have BK209 := n6_; have HB := n7_; clear n0_ n1_ n2_ n3_ n4_ n5_ n6_ n7_; (try clear hb); (try clear hb2); (try clear hk); (try clear hi); have hnb170 := NB191_200.out; have hnc170 := NB200_191.out; have hnb171 := NB191_204.out; have hnc171 := NB204_191.out; (try (have hnw173 := Kd.R_ne HO_201000.out BK191.out (by decide); change some gb191 ≠ some _ at hnw173; have how173 := fun (e_ : gb191 = _) => hnw173 (congrArg some e_); have hpw173 := fun e_ => how173 (Eq.symm e_); clear hnw173; replace how173 := eq_false how173; replace hpw173 := eq_false hpw173)); (try (have hnw174 := Kd.R_ne HO_205000.out BK191.out (by decide); change some gb191 ≠ some _ at hnw174; have how174 := fun (e_ : gb191 = _) => hnw174 (congrArg some e_); have hpw174 := fun e_ => how174 (Eq.symm e_); clear hnw174; replace how174 := eq_false how174; replace hpw174 := eq_false hpw174)); (try (have hnw175 := Kd.R_ne HO_210000.out BK191.out (by decide); change some gb191 ≠ some _ at hnw175; have how175 := fun (e_ : gb191 = _) => hnw175 (congrArg some e_); have hpw175 := fun e_ => how175 (Eq.symm e_); clear hnw175; replace how175 := eq_false how175; replace hpw175 := eq_false hpw175)); have hcz172_0 : w169.cell? ⟨gb191, 0, none⟩ = some (.slice A0_0 l0_0.length c0_0) := (blk_cell BK191.out 0).trans rfl; have hfz172_0 := blk_frozen BK191.out 0) | ((with_reducible refine gate_callee (f := 13) rfl ?_); refine goesL_ (some 75) rfl rfl Tryd.func13 (by kernel_rfl) rfl #[.agg #[.slice A0_0 l0_0.length c0_0]] rfl (by (try simp only [List.map_toArray, List.map_cons, List.map_nil]); first | done | rfl | (simp only [List.length_drop, List.length_take]; rfl)) ?_; (with_reducible refine (laws_toTable.calls kj86 _ _ l0_0 t221 _ ?side1 ?side2 A154.out).mono ?_); (case side1 => repeat (first | exact (Kd.C_below HR0_0.out HB.out) | (with_reducible refine Kd.C_alloc ?_ _) | (with_reducible refine Kd.C_drewN ?_ _) | (with_reducible refine Kd.C_drew ?_))); (case side2 => exact HC0_0.out); rintro e w176 ⟨v222, rfl, ho0, hb⟩; refine ⟨_, rfl, ?_⟩; have n0_ := Aside0.mk (Kd.R_elder' (by (with_reducible repeat (first | apply Kd.R_alloc | apply Kd.R_drewN | apply Kd.R_drew)); exact HO_201000.out) (Kd.R_base ho0) hb); have n1_ := Aside0.mk (Kd.R_elder' (by (with_reducible repeat (first | apply Kd.R_alloc | apply Kd.R_drewN | apply Kd.R_drew)); exact HO_205000.out) (Kd.R_base ho0) hb); have n2_ := Aside0.mk (Kd.R_elder' (by (with_reducible repeat (first | apply Kd.R_alloc | apply Kd.R_drewN | apply Kd.R_drew)); exact HO_210000.out) (Kd.R_base ho0) hb); have n3_ := Aside0.mk (Kd.R_lower (Kd.R_new' (Kd.R_new' (Kd.R_new' ho0 (Kd.R_lt (by (with_reducible repeat (first | apply Kd.R_alloc | apply Kd.R_drewN | apply Kd.R_drew)); exact HO_201000.out))) (Kd.R_lt (by (with_reducible repeat (first | apply Kd.R_alloc | apply Kd.R_drewN | apply Kd.R_drew)); exact HO_205000.out))) (Kd.R_lt (by (with_reducible repeat (first | apply Kd.R_alloc | apply Kd.R_drewN | apply Kd.R_drew)); exact HO_210000.out))) (below_size (by repeat (first | (with_reducible first | exact HB.out | apply below_alloc | apply pw_below_drewN | apply below_drew1 | refine below_set ?_ GE191.out | refine below_set ?_ GE200.out | refine below_set ?_ GE204.out | refine below_set ?_ GE209.out) | exact HB.out)))); have n4_ := Aside0.mk (blk_below (g := gb191) (o := .cells #[.slice A0_0 l0_0.length c0_0] 24 (0, 0)) (by (with_reducible repeat (first | refine blk_drewN ?_ _ | refine blk_drew ?_ | refine blk_alloc ?_ _)); exact BK191.out) hb); have n5_ := Aside0.mk (blk_below (g := gb200) (o := .cells #[.slice Ao20 t196.length co20] 28 (0, 0)) (by (with_reducible repeat (first | refine blk_drewN ?_ _ | refine blk_drew ?_ | refine blk_alloc ?_ _)); exact BK200.out) hb); have n6_ := Aside0.mk (blk_below (g := gb204) (o := .cells #[.slice Ao30 t216.length co30] 28 (0, 0)) (by (with_reducible repeat (first | refine blk_drewN ?_ _ | refine blk_drew ?_ | refine blk_alloc ?_ _)); exact BK204.out) hb); have n7_ := Aside0.mk (blk_below (g := gb209) (o := .cells #[.slice Ao39 t205.length co39] 28 (0, 0)) (by (with_reducible repeat (first | refine blk_drewN ?_ _ | refine blk_drew ?_ | refine blk_alloc ?_ _)); exact BK209.out) hb); have n8_ := Aside0.mk (below_step (by repeat (first | (with_reducible first | exact HB.out | apply below_alloc | apply pw_below_drewN | apply below_drew1 | refine below_set ?_ GE191.out | refine below_set ?_ GE200.out | refine below_set ?_ GE204.out | refine below_set ?_ GE209.out) | exact HB.out)) hb); clear HO_201000; clear HO_205000; clear HO_210000; clear BK191; clear BK200; clear BK204; clear BK209; clear HB; have HO_201000 := n0_; have HO_205000 := n1_; have HO_210000 := n2_; have HO223 := n3_; have BK191 := n4_; have BK200 := n5_; have BK204 := n6_; have BK209 := n7_; have HB := n8_; clear n0_ n1_ n2_ n3_ n4_ n5_ n6_ n7_ n8_; (try clear hb); (try clear hb2); (try clear hk); (try clear hi); (try clear ho0); obtain ⟨Ao177, co177, eo177⟩ := Kd.R_slice HO223.out; subst eo177) | ((with_reducible refine gate_callee (f := 26) rfl ?_); refine goesL_ (some 76) rfl rfl Tryd.func26 (by kernel_rfl) rfl #[.agg #[.slice Ao177 t221.length co177]] rfl (by (try simp only [List.map_toArray, List.map_cons, List.map_nil]); first | done | rfl | (simp only [List.length_drop, List.length_take]; rfl)) ?_; (with_reducible refine (impl_EvenTable.calls kj86 _ _ t221 t224 t227 _ ?side1 ?side2 A155.out).mono ?_); (case side1 => repeat (first | exact (Kd.R_reads' HO223.out).2.2 | (with_reducible refine Kd.C_alloc ?_ _) | (with_reducible refine Kd.C_drewN ?_ _) | (with_reducible refine Kd.C_drew ?_))); (case side2 => exact (Kd.R_reads' HO223.out).2.1); rintro e w178 ⟨v225, rfl, ho0, hb⟩; refine ⟨_, rfl, ?_⟩; have n0_ := Aside0.mk (Kd.R_elder' (by (with_reducible repeat (first | apply Kd.R_alloc | apply Kd.R_drewN | apply Kd.R_drew)); exact HO_201000.out) (Kd.R_base ho0) hb); have n1_ := Aside0.mk (Kd.R_elder' (by (with_reducible repeat (first | apply Kd.R_alloc | apply Kd.R_drewN | apply Kd.R_drew)); exact HO_205000.out) (Kd.R_base ho0) hb); have n2_ := Aside0.mk (Kd.R_elder' (by (with_reducible repeat (first | apply Kd.R_alloc | apply Kd.R_drewN | apply Kd.R_drew)); exact HO_210000.out) (Kd.R_base ho0) hb); have n3_ := Aside0.mk (Kd.R_elder' (by (with_reducible repeat (first | apply Kd.R_alloc | apply Kd.R_drewN | apply Kd.R_drew)); exact HO223.out) (Kd.R_base ho0) hb); have n4_ := Aside0.mk (Kd.R_lower (Kd.R_new' (Kd.R_new' (Kd.R_new' (Kd.R_new' ho0 (Kd.R_lt (by (with_reducible repeat (first | apply Kd.R_alloc | apply Kd.R_drewN | apply Kd.R_drew)); exact HO_201000.out))) (Kd.R_lt (by (with_reducible repeat (first | apply Kd.R_alloc | apply Kd.R_drewN | apply Kd.R_drew)); exact HO_205000.out))) (Kd.R_lt (by (with_reducible repeat (first | apply Kd.R_alloc | apply Kd.R_drewN | apply Kd.R_drew)); exact HO_210000.out))) (Kd.R_lt (by (with_reducible repeat (first | apply Kd.R_alloc | apply Kd.R_drewN | apply Kd.R_drew)); exact HO223.out))) (below_size (by repeat (first | (with_reducible first | exact HB.out | apply below_alloc | apply pw_below_drewN | apply below_drew1 | refine below_set ?_ GE191.out | refine below_set ?_ GE200.out | refine below_set ?_ GE204.out | refine below_set ?_ GE209.out) | exact HB.out)))); have n5_ := Aside0.mk (blk_below (g := gb191) (o := .cells #[.slice A0_0 l0_0.length c0_0] 24 (0, 0)) (by (with_reducible repeat (first | refine blk_drewN ?_ _ | refine blk_drew ?_ | refine blk_alloc ?_ _)); exact BK191.out) hb); have n6_ := Aside0.mk (blk_below (g := gb200) (o := .cells #[.slice Ao20 t196.length co20] 28 (0, 0)) (by (with_reducible repeat (first | refine blk_drewN ?_ _ | refine blk_drew ?_ | refine blk_alloc ?_ _)); exact BK200.out) hb); have n7_ := Aside0.mk (blk_below (g := gb204) (o := .cells #[.slice Ao30 t216.length co30] 28 (0, 0)) (by (with_reducible repeat (first | refine blk_drewN ?_ _ | refine blk_drew ?_ | refine blk_alloc ?_ _)); exact BK204.out) hb); have n8_ := Aside0.mk (blk_below (g := gb209) (o := .cells #[.slice Ao39 t205.length co39] 28 (0, 0)) (by (with_reducible repeat (first | refine blk_drewN ?_ _ | refine blk_drew ?_ | refine blk_alloc ?_ _)); exact BK209.out) hb); have n9_ := Aside0.mk (below_step (by repeat (first | (with_reducible first | exact HB.out | apply below_alloc | apply pw_below_drewN | apply below_drew1 | refine below_set ?_ GE191.out | refine below_set ?_ GE200.out | refine below_set ?_ GE204.out | refine below_set ?_ GE209.out) | exact HB.out)) hb); clear HO_201000; clear HO_205000; clear HO_210000; clear HO223; clear BK191; clear BK200; clear BK204; clear BK209; clear HB; have HO_201000 := n0_; have HO_205000 := n1_; have HO_210000 := n2_; have HO223 := n3_; have HO226 := n4_; have BK191 := n5_; have BK200 := n6_; have BK204 := n7_; have BK209 := n8_; have HB := n9_; clear n0_ n1_ n2_ n3_ n4_ n5_ n6_ n7_ n8_ n9_; (try clear hb); (try clear hb2); (try clear hk); (try clear hi); (try clear ho0)) | ((with_reducible refine gate_dst (N := 12) rfl ?_); refine box_event ?hg (N := 12) ?hd (cs := #[.slice none 0 0]) (t := 28) ?hr ?_; (case hd => rfl); (case hg => rfl); (case hr => first | (go_simp; done) | (go_simp; rfl)); intro gb228 hg w179 hbox hb; have n0_ := Aside0.mk (Kd.R_below (by (with_reducible repeat (first | apply Kd.R_alloc | apply Kd.R_drewN | apply Kd.R_drew)); exact HO_201000.out) hb); have n1_ := Aside0.mk (Kd.R_below (by (with_reducible repeat (first | apply Kd.R_alloc | apply Kd.R_drewN | apply Kd.R_drew)); exact HO_205000.out) hb); have n2_ := Aside0.mk (Kd.R_below (by (with_reducible repeat (first | apply Kd.R_alloc | apply Kd.R_drewN | apply Kd.R_drew)); exact HO_210000.out) hb); have n3_ := Aside0.mk (Kd.R_below (by (with_reducible repeat (first | apply Kd.R_alloc | apply Kd.R_drewN | apply Kd.R_drew)); exact HO223.out) hb); have n4_ := Aside0.mk (Kd.R_below (by (with_reducible repeat (first | apply Kd.R_alloc | apply Kd.R_drewN | apply Kd.R_drew)); exact HO226.out) hb); have n5_ := Aside0.mk (blk_below (g := gb191) (o := .cells #[.slice A0_0 l0_0.length c0_0] 24 (0, 0)) (by (with_reducible repeat (first | refine blk_drewN ?_ _ | refine blk_drew ?_ | refine blk_alloc ?_ _)); exact BK191.out) hb); have n6_ := Aside0.mk (blk_below (g := gb200) (o := .cells #[.slice Ao20 t196.length co20] 28 (0, 0)) (by (with_reducible repeat (first | refine blk_drewN ?_ _ | refine blk_drew ?_ | refine blk_alloc ?_ _)); exact BK200.out) hb); have n7_ := Aside0.mk (blk_below (g := gb204) (o := .cells #[.slice Ao30 t216.length co30] 28 (0, 0)) (by (with_reducible repeat (first | refine blk_drewN ?_ _ | refine blk_drew ?_ | refine blk_alloc ?_ _)); exact BK204.out) hb); have n8_ := Aside0.mk (blk_below (g := gb209) (o := .cells #[.slice Ao39 t205.length co39] 28 (0, 0)) (by (with_reducible repeat (first | refine blk_drewN ?_ _ | refine blk_drew ?_ | refine blk_alloc ?_ _)); exact BK209.out) hb); have n9_ := Aside0.mk (below_step (by repeat (first | (with_reducible first | exact HB.out | apply below_alloc | apply pw_below_drewN | apply below_drew1 | refine below_set ?_ GE191.out | refine below_set ?_ GE200.out | refine below_set ?_ GE204.out | refine below_set ?_ GE209.out) | exact HB.out)) hb); have n10_ := Aside0.mk (hbox); have n11_ := Aside0.mk ((by rw [hg]; exact (below_size (by repeat (first | (with_reducible first | exact HB.out | apply below_alloc | apply pw_below_drewN | apply below_drew1 | refine below_set ?_ GE191.out | refine below_set ?_ GE200.out | refine below_set ?_ GE204.out | refine below_set ?_ GE209.out) | exact HB.out))) : w.heap.size ≤ gb228)); have n12_ := Aside0.mk ((by rw [hg]; exact (below_size (by repeat (first | (with_reducible first | exact HB.out | apply below_alloc | apply pw_below_drewN | apply below_drew1 | refine below_set ?_ GE191.out | refine below_set ?_ GE200.out | refine below_set ?_ GE204.out | refine below_set ?_ GE209.out) | exact HB.out))) : w.heap.size ≤ gb228)); have n13_ := Aside0.mk ((by rw [hg]; exact Nat.ne_of_lt (blk_lt (g := gb191) (o := .cells #[.slice A0_0 l0_0.length c0_0] 24 (0, 0)) (by (with_reducible repeat (first | refine blk_drewN ?_ _ | refine blk_drew ?_ | refine blk_alloc ?_ _)); exact BK191.out)) : gb191 ≠ gb228)); have n14_ := Aside0.mk ((by rw [hg]; exact Nat.ne_of_gt (blk_lt (g := gb191) (o := .cells #[.slice A0_0 l0_0.length c0_0] 24 (0, 0)) (by (with_reducible repeat (first | refine blk_drewN ?_ _ | refine blk_drew ?_ | refine blk_alloc ?_ _)); exact BK191.out)) : gb228 ≠ gb191)); have n15_ := Aside0.mk ((by rw [hg]; exact Nat.ne_of_lt (blk_lt (g := gb200) (o := .cells #[.slice Ao20 t196.length co20] 28 (0, 0)) (by (with_reducible repeat (first | refine blk_drewN ?_ _ | refine blk_drew ?_ | refine blk_alloc ?_ _)); exact BK200.out)) : gb200 ≠ gb228)); have n16_ := Aside0.mk ((by rw [hg]; exact Nat.ne_of_gt (blk_lt (g := gb200) (o := .cells #[.slice Ao20 t196.length co20] 28 (0, 0)) (by (with_reducible repeat (first | refine blk_drewN ?_ _ | refine blk_drew ?_ | refine blk_alloc ?_ _)); exact BK200.out)) : gb228 ≠ gb200)); have n17_ := Aside0.mk ((by rw [hg]; exact Nat.ne_of_lt (blk_lt (g := gb204) (o := .cells #[.slice Ao30 t216.length co30] 28 (0, 0)) (by (with_reducible repeat (first | refine blk_drewN ?_ _ | refine blk_drew ?_ | refine blk_alloc ?_ _)); exact BK204.out)) : gb204 ≠ gb228)); have n18_ := Aside0.mk ((by rw [hg]; exact Nat.ne_of_gt (blk_lt (g := gb204) (o := .cells #[.slice Ao30 t216.length co30] 28 (0, 0)) (by (with_reducible repeat (first | refine blk_drewN ?_ _ | refine blk_drew ?_ | refine blk_alloc ?_ _)); exact BK204.out)) : gb228 ≠ gb204)); have n19_ := Aside0.mk ((by rw [hg]; exact Nat.ne_of_lt (blk_lt (g := gb209) (o := .cells #[.slice Ao39 t205.length co39] 28 (0, 0)) (by (with_reducible repeat (first | refine blk_drewN ?_ _ | refine blk_drew ?_ | refine blk_alloc ?_ _)); exact BK209.out)) : gb209 ≠ gb228)); have n20_ := Aside0.mk ((by rw [hg]; exact Nat.ne_of_gt (blk_lt (g := gb209) (o := .cells #[.slice Ao39 t205.length co39] 28 (0, 0)) (by (with_reducible repeat (first | refine blk_drewN ?_ _ | refine blk_drew ?_ | refine blk_alloc ?_ _)); exact BK209.out)) : gb228 ≠ gb209)); clear HO_201000; clear HO_205000; clear HO_210000; clear HO223; clear HO226; clear BK191; clear BK200; clear BK204; clear BK209; clear HB; have HO_201000 := n0_; have HO_205000 := n1_; have HO_210000 := n2_; have HO223 := n3_; have HO226 := n4_; have BK191 := n5_; have BK200 := n6_; have BK204 := n7_; have BK209 := n8_; have HB := n9_; have BK228 := n10_; have GW228 := n11_; have GE228 := n12_; have NB191_228 := n13_; have NB228_191 := n14_; have NB200_228 := n15_; have NB228_200 := n16_; have NB204_228 := n17_; have NB228_204 := n18_; have NB209_228 := n19_; have NB228_209 := n20_; clear n0_ n1_ n2_ n3_ n4_ n5_ n6_ n7_ n8_ n9_ n10_ n11_ n12_ n13_ n14_ n15_ n16_ n17_ n18_ n19_ n20_; clear hb hbox hg; obtain ⟨Ao180, co180, eo180⟩ := Kd.R_slice HO226.out; subst eo180; have hnb181 := NB228_191.out; have hnc181 := NB191_228.out; have hnb182 := NB228_200.out; have hnc182 := NB200_228.out; have hnb183 := NB228_204.out; have hnc183 := NB204_228.out; have hnb184 := NB228_209.out; have hnc184 := NB209_228.out; (try (have hnw186 := Kd.R_ne HO_201000.out BK228.out (by decide); change some gb228 ≠ some _ at hnw186; have how186 := fun (e_ : gb228 = _) => hnw186 (congrArg some e_); have hpw186 := fun e_ => how186 (Eq.symm e_); clear hnw186; replace how186 := eq_false how186; replace hpw186 := eq_false hpw186)); (try (have hnw187 := Kd.R_ne HO_205000.out BK228.out (by decide); change some gb228 ≠ some _ at hnw187; have how187 := fun (e_ : gb228 = _) => hnw187 (congrArg some e_); have hpw187 := fun e_ => how187 (Eq.symm e_); clear hnw187; replace how187 := eq_false how187; replace hpw187 := eq_false hpw187)); (try (have hnw188 := Kd.R_ne HO_210000.out BK228.out (by decide); change some gb228 ≠ some _ at hnw188; have how188 := fun (e_ : gb228 = _) => hnw188 (congrArg some e_); have hpw188 := fun e_ => how188 (Eq.symm e_); clear hnw188; replace how188 := eq_false how188; replace hpw188 := eq_false hpw188)); (try (have hnw189 := Kd.R_ne HO223.out BK228.out (by decide); change some gb228 ≠ some _ at hnw189; have how189 := fun (e_ : gb228 = _) => hnw189 (congrArg some e_); have hpw189 := fun e_ => how189 (Eq.symm e_); clear hnw189; replace how189 := eq_false how189; replace hpw189 := eq_false hpw189)); (try (have hnw190 := Kd.R_ne HO226.out BK228.out (by decide); change some gb228 ≠ some _ at hnw190; have how190 := fun (e_ : gb228 = _) => hnw190 (congrArg some e_); have hpw190 := fun e_ => how190 (Eq.symm e_); clear hnw190; replace how190 := eq_false how190; replace hpw190 := eq_false hpw190)); have hcz185_0 : w179.cell? ⟨gb228, 0, none⟩ = some (.slice none 0 0) := (blk_cell BK228.out 0).trans rfl; have hfz185_0 := blk_frozen BK228.out 0))
                      (try simp only [Act.put, List.setIfInBounds_toArray, List.set_cons_zero, List.set_cons_succ])
                      go_cut [87] (fun v87 wc => ∃ (kq : Nat) (x87_155 : Bool), v87 = .bool x87_155 ∧ Aside0 (laws_FnExactEvenTable.j2 kq t218 x87_155 t219 = some r) ∧ Aside0 (kq ≤ kj86) ∧ Aside0 (Kd.R Kd.string 9 wc w.heap.size (fun k_ => some k_ ≠ ((.slice Ao30 t216.length co30) : Value).ownBlock ∧ some k_ ≠ ((.slice Ao39 t205.length co39) : Value).ownBlock ∧ some k_ ≠ ((.slice Ao180 t224.length co180) : Value).ownBlock) (.slice Ao20 t196.length co20) t196) ∧ Aside0 (Kd.R Kd.string 9 wc w.heap.size (fun k_ => some k_ ≠ ((.slice Ao20 t196.length co20) : Value).ownBlock ∧ some k_ ≠ ((.slice Ao39 t205.length co39) : Value).ownBlock ∧ some k_ ≠ ((.slice Ao180 t224.length co180) : Value).ownBlock) (.slice Ao30 t216.length co30) t216) ∧ Aside0 (Kd.R Kd.string 9 wc w.heap.size (fun k_ => some k_ ≠ ((.slice Ao20 t196.length co20) : Value).ownBlock ∧ some k_ ≠ ((.slice Ao30 t216.length co30) : Value).ownBlock ∧ some k_ ≠ ((.slice Ao180 t224.length co180) : Value).ownBlock) (.slice Ao39 t205.length co39) t219) ∧ Aside0 (Kd.R Kd.string 9 wc w.heap.size (fun k_ => some k_ ≠ ((.slice Ao20 t196.length co20) : Value).ownBlock ∧ some k_ ≠ ((.slice Ao30 t216.length co30) : Value).ownBlock ∧ some k_ ≠ ((.slice Ao39 t205.length co39) : Value).ownBlock) (.slice Ao180 t224.length co180) t224) ∧ Aside0 (wc.heap[gb191]? = some (.cells #[(.slice A0_0 l0_0.length c0_0)] 24 (0, 0))) ∧ Aside0 (wc.heap[gb200]? = some (.cells #[(.slice Ao20 t196.length co20)] 28 (0, 0))) ∧ Aside0 (wc.heap[gb204]? = some (.cells #[(.slice Ao30 t216.length co30)] 28 (0, 0))) ∧ Aside0 (wc.heap[gb209]? = some (.cells #[(.slice Ao39 t205.length co39)] 28 (0, 0))) ∧ Aside0 (wc.heap[gb228]? = some (.cells #[(.slice Ao180 t224.length co180)] 28 (0, 0))) ∧ Aside0 (Below w.heap.size w wc))
                      case first =>
                        have H := HC156.out
                        clear HC156
                        replace H := Option.bind_eq_some_iff.mp H
                        obtain ⟨t229, A1910, H⟩ := H
                        replace H : (if t229 = true then (laws_FnExactEvenTable.j2 kj86 t218 (t227 != t199) t219) else (laws_FnExactEvenTable.j2 kj86 t218 true t219)) = some r := H
                        have A191 := Aside0.mk A1910
                        clear A1910
                        by_cases c192 : t229 = true
                        · subst c192
                          have H1 : (laws_FnExactEvenTable.j2 kj86 t218 (t227 != t199) t219) = some r := by rw [if_pos rfl] at H; first | exact H | (simp only [if_true, eq_self] at H ⊢; exact H)
                          clear H
                          have H := H1
                          clear H1
                          have H' := Aside0.mk H
                          clear H
                          have hnb193 := NB228_191.out
                          have hnc193 := NB191_228.out
                          have hnb194 := NB228_200.out
                          have hnc194 := NB200_228.out
                          have hnb195 := NB228_204.out
                          have hnc195 := NB204_228.out
                          have hnb196 := NB228_209.out
                          have hnc196 := NB209_228.out
                          (try (have hnw198 := Kd.R_ne HO_201000.out BK228.out (by decide); change some gb228 ≠ some _ at hnw198; have how198 := fun (e_ : gb228 = _) => hnw198 (congrArg some e_); have hpw198 := fun e_ => how198 (Eq.symm e_); clear hnw198; replace how198 := eq_false how198; replace hpw198 := eq_false hpw198))
                          (try (have hnw199 := Kd.R_ne HO_205000.out BK228.out (by decide); change some gb228 ≠ some _ at hnw199; have how199 := fun (e_ : gb228 = _) => hnw199 (congrArg some e_); have hpw199 := fun e_ => how199 (Eq.symm e_); clear hnw199; replace how199 := eq_false how199; replace hpw199 := eq_false hpw199))
                          (try (have hnw200 := Kd.R_ne HO_210000.out BK228.out (by decide); change some gb228 ≠ some _ at hnw200; have how200 := fun (e_ : gb228 = _) => hnw200 (congrArg some e_); have hpw200 := fun e_ => how200 (Eq.symm e_); clear hnw200; replace how200 := eq_false how200; replace hpw200 := eq_false hpw200))
                          (try (have hnw201 := Kd.R_ne HO223.out BK228.out (by decide); change some gb228 ≠ some _ at hnw201; have how201 := fun (e_ : gb228 = _) => hnw201 (congrArg some e_); have hpw201 := fun e_ => how201 (Eq.symm e_); clear hnw201; replace how201 := eq_false how201; replace hpw201 := eq_false hpw201))
                          (try (have hnw202 := Kd.R_ne HO226.out BK228.out (by decide); change some gb228 ≠ some _ at hnw202; have how202 := fun (e_ : gb228 = _) => hnw202 (congrArg some e_); have hpw202 := fun e_ => how202 (Eq.symm e_); clear hnw202; replace how202 := eq_false how202; replace hpw202 := eq_false hpw202))
                          have hcz197_0 : w179.cell? ⟨gb228, 0, none⟩ = some (.slice none 0 0) := (blk_cell BK228.out 0).trans rfl
                          have hfz197_0 := blk_frozen BK228.out 0
                          have hnb203 := NB200_191.out
                          have hnc203 := NB191_200.out
                          have hnb204 := NB200_204.out
                          have hnc204 := NB204_200.out
                          have hnb205 := NB200_209.out
                          have hnc205 := NB209_200.out
                          (try (have hnw207 := Kd.R_ne HO_201000.out BK200.out (by decide); change some gb200 ≠ some _ at hnw207; have how207 := fun (e_ : gb200 = _) => hnw207 (congrArg some e_); have hpw207 := fun e_ => how207 (Eq.symm e_); clear hnw207; replace how207 := eq_false how207; replace hpw207 := eq_false hpw207))
                          (try (have hnw208 := Kd.R_ne HO_205000.out BK200.out (by decide); change some gb200 ≠ some _ at hnw208; have how208 := fun (e_ : gb200 = _) => hnw208 (congrArg some e_); have hpw208 := fun e_ => how208 (Eq.symm e_); clear hnw208; replace how208 := eq_false how208; replace hpw208 := eq_false hpw208))
                          (try (have hnw209 := Kd.R_ne HO_210000.out BK200.out (by decide); change some gb200 ≠ some _ at hnw209; have how209 := fun (e_ : gb200 = _) => hnw209 (congrArg some e_); have hpw209 := fun e_ => how209 (Eq.symm e_); clear hnw209; replace how209 := eq_false how209; replace hpw209 := eq_false hpw209))
                          (try (have hnw210 := Kd.R_ne HO223.out BK200.out (by decide); change some gb200 ≠ some _ at hnw210; have how210 := fun (e_ : gb200 = _) => hnw210 (congrArg some e_); have hpw210 := fun e_ => how210 (Eq.symm e_); clear hnw210; replace how210 := eq_false how210; replace hpw210 := eq_false hpw210))
                          (try (have hnw211 := Kd.R_ne HO226.out BK200.out (by decide); change some gb200 ≠ some _ at hnw211; have how211 := fun (e_ : gb200 = _) => hnw211 (congrArg some e_); have hpw211 := fun e_ => how211 (Eq.symm e_); clear hnw211; replace how211 := eq_false how211; replace hpw211 := eq_false hpw211))
                          have hcz206_0 : w179.cell? ⟨gb200, 0, none⟩ = some (.slice Ao20 t196.length co20) := (blk_cell BK200.out 0).trans rfl
                          have hfz206_0 := blk_frozen BK200.out 0
                          go_wp2_with (first | ((with_reducible refine gate_callee (f := 15) rfl ?_); refine goesL_ (some 81) rfl rfl Tryd.func15 (by kernel_rfl) rfl #[.agg #[.slice Ao180 t224.length co180], .agg #[.slice Ao20 t196.length co20]] rfl (by (try simp only [List.map_toArray, List.map_cons, List.map_nil]); first | done | rfl | (simp only [List.length_drop, List.length_take]; rfl)) ?_; (with_reducible refine (laws_eqTable.calls kj86 _ _ t224 _ _ t196 true _ ?side1 ?side2 ?side3 ?side4 A191.out).mono ?_); (case side1 => refine (Kd.R_reads' (e := 9) (base := w.heap.size) (ok := fun k_ => ((((True ∧ some k_ ≠ (.slice Ao20 t196.length co20 : Value).ownBlock) ∧ some k_ ≠ (.slice Ao30 t216.length co30 : Value).ownBlock) ∧ some k_ ≠ (.slice Ao39 t205.length co39 : Value).ownBlock) ∧ some k_ ≠ (.slice Ao177 t221.length co177 : Value).ownBlock)) (n := t224.length) (c := co180) ?_).2.2; exact (by (with_reducible repeat (first | apply Kd.R_alloc | apply Kd.R_drewN | apply Kd.R_drew)); exact (Kd.R_mono (Kd.R_far (p := ⟨gb228, 0, none⟩) (Kd.R_types HO226.out BK228.out (by decide)) (fun _ hk => hk.2) (.slice Ao180 t224.length co180)) (fun _ h_ => h_.1)))); (case side2 => exact (Kd.R_reads' HO226.out).2.1); (case side3 => refine (Kd.R_reads' (e := 9) (base := w.heap.size) (ok := fun k_ => (((some k_ ≠ (.slice Ao30 t216.length co30 : Value).ownBlock ∧ some k_ ≠ (.slice Ao39 t205.length co39 : Value).ownBlock) ∧ some k_ ≠ (.slice Ao177 t221.length co177 : Value).ownBlock) ∧ some k_ ≠ (.slice Ao180 t224.length co180 : Value).ownBlock)) (n := t196.length) (c := co20) ?_).2.2; exact (by (with_reducible repeat (first | apply Kd.R_alloc | apply Kd.R_drewN | apply Kd.R_drew)); exact (Kd.R_mono (Kd.R_far (p := ⟨gb228, 0, none⟩) (Kd.R_types HO_201000.out BK228.out (by decide)) (fun _ hk => hk.2) (.slice Ao180 t224.length co180)) (fun _ h_ => h_.1)))); (case side4 => exact (Kd.R_reads' HO_201000.out).2.1); rintro e w212 ⟨rfl, hb⟩; refine ⟨_, rfl, ?_⟩; have n0_ := Aside0.mk (Kd.R_below (by (with_reducible repeat (first | apply Kd.R_alloc | apply Kd.R_drewN | apply Kd.R_drew)); exact (Kd.R_mono (Kd.R_far (p := ⟨gb228, 0, none⟩) (Kd.R_types HO_201000.out BK228.out (by decide)) (fun _ hk => hk.2) (.slice Ao180 t224.length co180)) (fun _ h_ => h_.1))) hb); have n1_ := Aside0.mk (Kd.R_below (by (with_reducible repeat (first | apply Kd.R_alloc | apply Kd.R_drewN | apply Kd.R_drew)); exact (Kd.R_mono (Kd.R_far (p := ⟨gb228, 0, none⟩) (Kd.R_types HO_205000.out BK228.out (by decide)) (fun _ hk => hk.2) (.slice Ao180 t224.length co180)) (fun _ h_ => h_.1))) hb); have n2_ := Aside0.mk (Kd.R_below (by (with_reducible repeat (first | apply Kd.R_alloc | apply Kd.R_drewN | apply Kd.R_drew)); exact (Kd.R_mono (Kd.R_far (p := ⟨gb228, 0, none⟩) (Kd.R_types HO_210000.out BK228.out (by decide)) (fun _ hk => hk.2) (.slice Ao180 t224.length co180)) (fun _ h_ => h_.1))) hb); have n3_ := Aside0.mk (Kd.R_below (by (with_reducible repeat (first | apply Kd.R_alloc | apply Kd.R_drewN | apply Kd.R_drew)); exact (Kd.R_mono (Kd.R_far (p := ⟨gb228, 0, none⟩) (Kd.R_types HO223.out BK228.out (by decide)) (fun _ hk => hk.2) (.slice Ao180 t224.length co180)) (fun _ h_ => h_.1))) hb); have n4_ := Aside0.mk (Kd.R_below (by (with_reducible repeat (first | apply Kd.R_alloc | apply Kd.R_drewN | apply Kd.R_drew)); exact (Kd.R_mono (Kd.R_far (p := ⟨gb228, 0, none⟩) (Kd.R_types HO226.out BK228.out (by decide)) (fun _ hk => hk.2) (.slice Ao180 t224.length co180)) (fun _ h_ => h_.1))) hb); have n5_ := Aside0.mk (blk_below (g := gb191) (o := .cells #[.slice A0_0 l0_0.length c0_0] 24 (0, 0)) (by (with_reducible repeat (first | refine blk_drewN ?_ _ | refine blk_drew ?_ | refine blk_alloc ?_ _)); refine blk_far ?_ NB191_228.out _; (with_reducible repeat (first | refine blk_drewN ?_ _ | refine blk_drew ?_ | refine blk_alloc ?_ _)); exact BK191.out) hb); have n6_ := Aside0.mk (blk_below (g := gb200) (o := .cells #[.slice Ao20 t196.length co20] 28 (0, 0)) (by (with_reducible repeat (first | refine blk_drewN ?_ _ | refine blk_drew ?_ | refine blk_alloc ?_ _)); refine blk_far ?_ NB200_228.out _; (with_reducible repeat (first | refine blk_drewN ?_ _ | refine blk_drew ?_ | refine blk_alloc ?_ _)); exact BK200.out) hb); have n7_ := Aside0.mk (blk_below (g := gb204) (o := .cells #[.slice Ao30 t216.length co30] 28 (0, 0)) (by (with_reducible repeat (first | refine blk_drewN ?_ _ | refine blk_drew ?_ | refine blk_alloc ?_ _)); refine blk_far ?_ NB204_228.out _; (with_reducible repeat (first | refine blk_drewN ?_ _ | refine blk_drew ?_ | refine blk_alloc ?_ _)); exact BK204.out) hb); have n8_ := Aside0.mk (blk_below (g := gb209) (o := .cells #[.slice Ao39 t205.length co39] 28 (0, 0)) (by (with_reducible repeat (first | refine blk_drewN ?_ _ | refine blk_drew ?_ | refine blk_alloc ?_ _)); refine blk_far ?_ NB209_228.out _; (with_reducible repeat (first | refine blk_drewN ?_ _ | refine blk_drew ?_ | refine blk_alloc ?_ _)); exact BK209.out) hb); have n9_ := Aside0.mk (blk_below (g := gb228) (o := .cells #[.slice Ao180 t224.length co180] 28 (0, 0)) (by (with_reducible repeat (first | refine blk_drewN ?_ _ | refine blk_drew ?_ | refine blk_alloc ?_ _)); refine blk_put (cs := #[.slice none 0 0]) ?_ 0 _ rfl; (with_reducible repeat (first | refine blk_drewN ?_ _ | refine blk_drew ?_ | refine blk_alloc ?_ _)); exact BK228.out) hb); have n10_ := Aside0.mk (below_step (by repeat (first | (with_reducible first | exact HB.out | apply below_alloc | apply pw_below_drewN | apply below_drew1 | refine below_set ?_ GE191.out | refine below_set ?_ GE200.out | refine below_set ?_ GE204.out | refine below_set ?_ GE209.out | refine below_set ?_ GE228.out) | exact HB.out)) hb); clear HO_201000; clear HO_205000; clear HO_210000; clear HO223; clear HO226; clear BK191; clear BK200; clear BK204; clear BK209; clear BK228; clear HB; have HO_201000 := n0_; have HO_205000 := n1_; have HO_210000 := n2_; have HO223 := n3_; have HO226 := n4_; have BK191 := n5_; have BK200 := n6_; have BK204 := n7_; have BK209 := n8_; have BK228 := n9_; have HB := n10_; clear n0_ n1_ n2_ n3_ n4_ n5_ n6_ n7_ n8_ n9_ n10_; (try clear hb); (try clear hb2); (try clear hk); (try clear hi)))
                          go_meet
                          case rel => exact ⟨_, ((t227 != t199)), (by first | rfl | (simp; done) | (simp [*]; done)), H', ⟨by have := HJ10.out; have := HJ86.out; first | omega | exact Nat.le_refl _⟩, ⟨by (try simp only [hl205000_86]); (with_reducible repeat (first | apply Kd.R_alloc | apply Kd.R_drewN | apply Kd.R_drew)); exact Kd.R_mono HO_201000.out (fun _ hk => ⟨hk.1.1.1, ⟨hk.1.1.2, hk.2⟩⟩)⟩, ⟨by (try simp only [hl205000_86]); (with_reducible repeat (first | apply Kd.R_alloc | apply Kd.R_drewN | apply Kd.R_drew)); exact Kd.R_mono HO_205000.out (fun _ hk => ⟨hk.1.1.1, ⟨hk.1.1.2, hk.2⟩⟩)⟩, ⟨by (try simp only [hl205000_86]); (with_reducible repeat (first | apply Kd.R_alloc | apply Kd.R_drewN | apply Kd.R_drew)); exact Kd.R_mono HO_210000.out (fun _ hk => ⟨hk.1.1.1, ⟨hk.1.1.2, hk.2⟩⟩)⟩, ⟨by (try simp only [hl205000_86]); (with_reducible repeat (first | apply Kd.R_alloc | apply Kd.R_drewN | apply Kd.R_drew)); exact Kd.R_mono HO226.out (fun _ hk => ⟨hk.1.1.1.2, ⟨hk.1.1.2, hk.1.2⟩⟩)⟩, ⟨by (try simp only [hl205000_86]); (with_reducible repeat (first | refine blk_drewN ?_ _ | refine blk_drew ?_ | refine blk_alloc ?_ _)); exact BK191.out⟩, ⟨by (try simp only [hl205000_86]); (with_reducible repeat (first | refine blk_drewN ?_ _ | refine blk_drew ?_ | refine blk_alloc ?_ _)); exact BK200.out⟩, ⟨by (try simp only [hl205000_86]); (with_reducible repeat (first | refine blk_drewN ?_ _ | refine blk_drew ?_ | refine blk_alloc ?_ _)); exact BK204.out⟩, ⟨by (try simp only [hl205000_86]); (with_reducible repeat (first | refine blk_drewN ?_ _ | refine blk_drew ?_ | refine blk_alloc ?_ _)); exact BK209.out⟩, ⟨by (try simp only [hl205000_86]); (with_reducible repeat (first | refine blk_drewN ?_ _ | refine blk_drew ?_ | refine blk_alloc ?_ _)); exact BK228.out⟩, ⟨by repeat (first | (with_reducible first | exact HB.out | apply below_alloc | apply pw_below_drewN | apply below_drew1 | refine below_set ?_ GE191.out | refine below_set ?_ GE200.out | refine below_set ?_ GE204.out | refine below_set ?_ GE209.out | refine below_set ?_ GE228.out) | exact HB.out)⟩⟩
                        · replace c192 := Bool.eq_false_iff.mpr c192
                          subst c192
                          have H1 : (laws_FnExactEvenTable.j2 kj86 t218 true t219) = some r := by rw [if_neg (show ¬ (false = true) by decide)] at H; first | exact H | (simp only [if_true, eq_self] at H ⊢; exact H)
                          clear H
                          have H := H1
                          clear H1
                          have H' := Aside0.mk H
                          clear H
                          have hnb213 := NB228_191.out
                          have hnc213 := NB191_228.out
                          have hnb214 := NB228_200.out
                          have hnc214 := NB200_228.out
                          have hnb215 := NB228_204.out
                          have hnc215 := NB204_228.out
                          have hnb216 := NB228_209.out
                          have hnc216 := NB209_228.out
                          (try (have hnw218 := Kd.R_ne HO_201000.out BK228.out (by decide); change some gb228 ≠ some _ at hnw218; have how218 := fun (e_ : gb228 = _) => hnw218 (congrArg some e_); have hpw218 := fun e_ => how218 (Eq.symm e_); clear hnw218; replace how218 := eq_false how218; replace hpw218 := eq_false hpw218))
                          (try (have hnw219 := Kd.R_ne HO_205000.out BK228.out (by decide); change some gb228 ≠ some _ at hnw219; have how219 := fun (e_ : gb228 = _) => hnw219 (congrArg some e_); have hpw219 := fun e_ => how219 (Eq.symm e_); clear hnw219; replace how219 := eq_false how219; replace hpw219 := eq_false hpw219))
                          (try (have hnw220 := Kd.R_ne HO_210000.out BK228.out (by decide); change some gb228 ≠ some _ at hnw220; have how220 := fun (e_ : gb228 = _) => hnw220 (congrArg some e_); have hpw220 := fun e_ => how220 (Eq.symm e_); clear hnw220; replace how220 := eq_false how220; replace hpw220 := eq_false hpw220))
                          (try (have hnw221 := Kd.R_ne HO223.out BK228.out (by decide); change some gb228 ≠ some _ at hnw221; have how221 := fun (e_ : gb228 = _) => hnw221 (congrArg some e_); have hpw221 := fun e_ => how221 (Eq.symm e_); clear hnw221; replace how221 := eq_false how221; replace hpw221 := eq_false hpw221))
                          (try (have hnw222 := Kd.R_ne HO226.out BK228.out (by decide); change some gb228 ≠ some _ at hnw222; have how222 := fun (e_ : gb228 = _) => hnw222 (congrArg some e_); have hpw222 := fun e_ => how222 (Eq.symm e_); clear hnw222; replace how222 := eq_false how222; replace hpw222 := eq_false hpw222))
                          have hcz217_0 : w179.cell? ⟨gb228, 0, none⟩ = some (.slice none 0 0) := (blk_cell BK228.out 0).trans rfl
                          have hfz217_0 := blk_frozen BK228.out 0
                          have hnb223 := NB200_191.out
                          have hnc223 := NB191_200.out
                          have hnb224 := NB200_204.out
                          have hnc224 := NB204_200.out
                          have hnb225 := NB200_209.out
                          have hnc225 := NB209_200.out
                          (try (have hnw227 := Kd.R_ne HO_201000.out BK200.out (by decide); change some gb200 ≠ some _ at hnw227; have how227 := fun (e_ : gb200 = _) => hnw227 (congrArg some e_); have hpw227 := fun e_ => how227 (Eq.symm e_); clear hnw227; replace how227 := eq_false how227; replace hpw227 := eq_false hpw227))
                          (try (have hnw228 := Kd.R_ne HO_205000.out BK200.out (by decide); change some gb200 ≠ some _ at hnw228; have how228 := fun (e_ : gb200 = _) => hnw228 (congrArg some e_); have hpw228 := fun e_ => how228 (Eq.symm e_); clear hnw228; replace how228 := eq_false how228; replace hpw228 := eq_false hpw228))
                          (try (have hnw229 := Kd.R_ne HO_210000.out BK200.out (by decide); change some gb200 ≠ some _ at hnw229; have how229 := fun (e_ : gb200 = _) => hnw229 (congrArg some e_); have hpw229 := fun e_ => how229 (Eq.symm e_); clear hnw229; replace how229 := eq_false how229; replace hpw229 := eq_false hpw229))
                          (try (have hnw230 := Kd.R_ne HO223.out BK200.out (by decide); change some gb200 ≠ some _ at hnw230; have how230 := fun (e_ : gb200 = _) => hnw230 (congrArg some e_); have hpw230 := fun e_ => how230 (Eq.symm e_); clear hnw230; replace how230 := eq_false how230; replace hpw230 := eq_false hpw230))
                          (try (have hnw231 := Kd.R_ne HO226.out BK200.out (by decide); change some gb200 ≠ some _ at hnw231; have how231 := fun (e_ : gb200 = _) => hnw231 (congrArg some e_); have hpw231 := fun e_ => how231 (Eq.symm e_); clear hnw231; replace how231 := eq_false how231; replace hpw231 := eq_false hpw231))
                          have hcz226_0 : w179.cell? ⟨gb200, 0, none⟩ = some (.slice Ao20 t196.length co20) := (blk_cell BK200.out 0).trans rfl
                          have hfz226_0 := blk_frozen BK200.out 0
                          go_wp2_with (first | ((with_reducible refine gate_callee (f := 15) rfl ?_); refine goesL_ (some 81) rfl rfl Tryd.func15 (by kernel_rfl) rfl #[.agg #[.slice Ao180 t224.length co180], .agg #[.slice Ao20 t196.length co20]] rfl (by (try simp only [List.map_toArray, List.map_cons, List.map_nil]); first | done | rfl | (simp only [List.length_drop, List.length_take]; rfl)) ?_; (with_reducible refine (laws_eqTable.calls kj86 _ _ t224 _ _ t196 false _ ?side1 ?side2 ?side3 ?side4 A191.out).mono ?_); (case side1 => refine (Kd.R_reads' (e := 9) (base := w.heap.size) (ok := fun k_ => ((((True ∧ some k_ ≠ (.slice Ao20 t196.length co20 : Value).ownBlock) ∧ some k_ ≠ (.slice Ao30 t216.length co30 : Value).ownBlock) ∧ some k_ ≠ (.slice Ao39 t205.length co39 : Value).ownBlock) ∧ some k_ ≠ (.slice Ao177 t221.length co177 : Value).ownBlock)) (n := t224.length) (c := co180) ?_).2.2; exact (by (with_reducible repeat (first | apply Kd.R_alloc | apply Kd.R_drewN | apply Kd.R_drew)); exact (Kd.R_mono (Kd.R_far (p := ⟨gb228, 0, none⟩) (Kd.R_types HO226.out BK228.out (by decide)) (fun _ hk => hk.2) (.slice Ao180 t224.length co180)) (fun _ h_ => h_.1)))); (case side2 => exact (Kd.R_reads' HO226.out).2.1); (case side3 => refine (Kd.R_reads' (e := 9) (base := w.heap.size) (ok := fun k_ => (((some k_ ≠ (.slice Ao30 t216.length co30 : Value).ownBlock ∧ some k_ ≠ (.slice Ao39 t205.length co39 : Value).ownBlock) ∧ some k_ ≠ (.slice Ao177 t221.length co177 : Value).ownBlock) ∧ some k_ ≠ (.slice Ao180 t224.length co180 : Value).ownBlock)) (n := t196.length) (c := co20) ?_).2.2; exact (by (with_reducible repeat (first | apply Kd.R_alloc | apply Kd.R_drewN | apply Kd.R_drew)); exact (Kd.R_mono (Kd.R_far (p := ⟨gb228, 0, none⟩) (Kd.R_types HO_201000.out BK228.out (by decide)) (fun _ hk => hk.2) (.slice Ao180 t224.length co180)) (fun _ h_ => h_.1)))); (case side4 => exact (Kd.R_reads' HO_201000.out).2.1); rintro e w232 ⟨rfl, hb⟩; refine ⟨_, rfl, ?_⟩; have n0_ := Aside0.mk (Kd.R_below (by (with_reducible repeat (first | apply Kd.R_alloc | apply Kd.R_drewN | apply Kd.R_drew)); exact (Kd.R_mono (Kd.R_far (p := ⟨gb228, 0, none⟩) (Kd.R_types HO_201000.out BK228.out (by decide)) (fun _ hk => hk.2) (.slice Ao180 t224.length co180)) (fun _ h_ => h_.1))) hb); have n1_ := Aside0.mk (Kd.R_below (by (with_reducible repeat (first | apply Kd.R_alloc | apply Kd.R_drewN | apply Kd.R_drew)); exact (Kd.R_mono (Kd.R_far (p := ⟨gb228, 0, none⟩) (Kd.R_types HO_205000.out BK228.out (by decide)) (fun _ hk => hk.2) (.slice Ao180 t224.length co180)) (fun _ h_ => h_.1))) hb); have n2_ := Aside0.mk (Kd.R_below (by (with_reducible repeat (first | apply Kd.R_alloc | apply Kd.R_drewN | apply Kd.R_drew)); exact (Kd.R_mono (Kd.R_far (p := ⟨gb228, 0, none⟩) (Kd.R_types HO_210000.out BK228.out (by decide)) (fun _ hk => hk.2) (.slice Ao180 t224.length co180)) (fun _ h_ => h_.1))) hb); have n3_ := Aside0.mk (Kd.R_below (by (with_reducible repeat (first | apply Kd.R_alloc | apply Kd.R_drewN | apply Kd.R_drew)); exact (Kd.R_mono (Kd.R_far (p := ⟨gb228, 0, none⟩) (Kd.R_types HO223.out BK228.out (by decide)) (fun _ hk => hk.2) (.slice Ao180 t224.length co180)) (fun _ h_ => h_.1))) hb); have n4_ := Aside0.mk (Kd.R_below (by (with_reducible repeat (first | apply Kd.R_alloc | apply Kd.R_drewN | apply Kd.R_drew)); exact (Kd.R_mono (Kd.R_far (p := ⟨gb228, 0, none⟩) (Kd.R_types HO226.out BK228.out (by decide)) (fun _ hk => hk.2) (.slice Ao180 t224.length co180)) (fun _ h_ => h_.1))) hb); have n5_ := Aside0.mk (blk_below (g := gb191) (o := .cells #[.slice A0_0 l0_0.length c0_0] 24 (0, 0)) (by (with_reducible repeat (first | refine blk_drewN ?_ _ | refine blk_drew ?_ | refine blk_alloc ?_ _)); refine blk_far ?_ NB191_228.out _; (with_reducible repeat (first | refine blk_drewN ?_ _ | refine blk_drew ?_ | refine blk_alloc ?_ _)); exact BK191.out) hb); have n6_ := Aside0.mk (blk_below (g := gb200) (o := .cells #[.slice Ao20 t196.length co20] 28 (0, 0)) (by (with_reducible repeat (first | refine blk_drewN ?_ _ | refine blk_drew ?_ | refine blk_alloc ?_ _)); refine blk_far ?_ NB200_228.out _; (with_reducible repeat (first | refine blk_drewN ?_ _ | refine blk_drew ?_ | refine blk_alloc ?_ _)); exact BK200.out) hb); have n7_ := Aside0.mk (blk_below (g := gb204) (o := .cells #[.slice Ao30 t216.length co30] 28 (0, 0)) (by (with_reducible repeat (first | refine blk_drewN ?_ _ | refine blk_drew ?_ | refine blk_alloc ?_ _)); refine blk_far ?_ NB204_228.out _; (with_reducible repeat (first | refine blk_drewN ?_ _ | refine blk_drew ?_ | refine blk_alloc ?_ _)); exact BK204.out) hb); have n8_ := Aside0.mk (blk_below (g := gb209) (o := .cells #[.slice Ao39 t205.length co39] 28 (0, 0)) (by (with_reducible repeat (first | refine blk_drewN ?_ _ | refine blk_drew ?_ | refine blk_alloc ?_ _)); refine blk_far ?_ NB209_228.out _; (with_reducible repeat (first | refine blk_drewN ?_ _ | refine blk_drew ?_ | refine blk_alloc ?_ _)); exact BK209.out) hb); have n9_ := Aside0.mk (blk_below (g := gb228) (o := .cells #[.slice Ao180 t224.length co180] 28 (0, 0)) (by (with_reducible repeat (first | refine blk_drewN ?_ _ | refine blk_drew ?_ | refine blk_alloc ?_ _)); refine blk_put (cs := #[.slice none 0 0]) ?_ 0 _ rfl; (with_reducible repeat (first | refine blk_drewN ?_ _ | refine blk_drew ?_ | refine blk_alloc ?_ _)); exact BK228.out) hb); have n10_ := Aside0.mk (below_step (by repeat (first | (with_reducible first | exact HB.out | apply below_alloc | apply pw_below_drewN | apply below_drew1 | refine below_set ?_ GE191.out | refine below_set ?_ GE200.out | refine below_set ?_ GE204.out | refine below_set ?_ GE209.out | refine below_set ?_ GE228.out) | exact HB.out)) hb); clear HO_201000; clear HO_205000; clear HO_210000; clear HO223; clear HO226; clear BK191; clear BK200; clear BK204; clear BK209; clear BK228; clear HB; have HO_201000 := n0_; have HO_205000 := n1_; have HO_210000 := n2_; have HO223 := n3_; have HO226 := n4_; have BK191 := n5_; have BK200 := n6_; have BK204 := n7_; have BK209 := n8_; have BK228 := n9_; have HB := n10_; clear n0_ n1_ n2_ n3_ n4_ n5_ n6_ n7_ n8_ n9_ n10_; (try clear hb); (try clear hb2); (try clear hk); (try clear hi)))
                          go_meet
                          case rel => exact ⟨_, (true), (by first | rfl | (simp; done) | (simp [*]; done)), H', ⟨by have := HJ10.out; have := HJ86.out; first | omega | exact Nat.le_refl _⟩, ⟨by (try simp only [hl205000_86]); (with_reducible repeat (first | apply Kd.R_alloc | apply Kd.R_drewN | apply Kd.R_drew)); exact Kd.R_mono HO_201000.out (fun _ hk => ⟨hk.1.1.1, ⟨hk.1.1.2, hk.2⟩⟩)⟩, ⟨by (try simp only [hl205000_86]); (with_reducible repeat (first | apply Kd.R_alloc | apply Kd.R_drewN | apply Kd.R_drew)); exact Kd.R_mono HO_205000.out (fun _ hk => ⟨hk.1.1.1, ⟨hk.1.1.2, hk.2⟩⟩)⟩, ⟨by (try simp only [hl205000_86]); (with_reducible repeat (first | apply Kd.R_alloc | apply Kd.R_drewN | apply Kd.R_drew)); exact Kd.R_mono HO_210000.out (fun _ hk => ⟨hk.1.1.1, ⟨hk.1.1.2, hk.2⟩⟩)⟩, ⟨by (try simp only [hl205000_86]); (with_reducible repeat (first | apply Kd.R_alloc | apply Kd.R_drewN | apply Kd.R_drew)); exact Kd.R_mono HO226.out (fun _ hk => ⟨hk.1.1.1.2, ⟨hk.1.1.2, hk.1.2⟩⟩)⟩, ⟨by (try simp only [hl205000_86]); (with_reducible repeat (first | refine blk_drewN ?_ _ | refine blk_drew ?_ | refine blk_alloc ?_ _)); exact BK191.out⟩, ⟨by (try simp only [hl205000_86]); (with_reducible repeat (first | refine blk_drewN ?_ _ | refine blk_drew ?_ | refine blk_alloc ?_ _)); exact BK200.out⟩, ⟨by (try simp only [hl205000_86]); (with_reducible repeat (first | refine blk_drewN ?_ _ | refine blk_drew ?_ | refine blk_alloc ?_ _)); exact BK204.out⟩, ⟨by (try simp only [hl205000_86]); (with_reducible repeat (first | refine blk_drewN ?_ _ | refine blk_drew ?_ | refine blk_alloc ?_ _)); exact BK209.out⟩, ⟨by (try simp only [hl205000_86]); (with_reducible repeat (first | refine blk_drewN ?_ _ | refine blk_drew ?_ | refine blk_alloc ?_ _)); exact BK228.out⟩, ⟨by repeat (first | (with_reducible first | exact HB.out | apply below_alloc | apply pw_below_drewN | apply below_drew1 | refine below_set ?_ GE191.out | refine below_set ?_ GE200.out | refine below_set ?_ GE204.out | refine below_set ?_ GE209.out | refine below_set ?_ GE228.out) | exact HB.out)⟩⟩
                      case rest =>
                        clear HC156
                        try clear c1
                        try clear c2
                        try clear p2
                        try clear c3
                        try clear c3b0
                        try clear c4
                        try clear c5
                        try clear c6
                        try clear c7
                        try clear c8
                        try clear c9
                        try clear c10
                        try clear c11
                        try clear c12
                        try clear c13
                        try clear c14
                        try clear c15
                        try clear c17
                        try clear c18
                        try clear c19
                        try clear c20
                        try clear c21
                        try clear c22
                        try clear c25
                        try clear c26
                        try clear c27
                        try clear c31
                        try clear c32
                        try clear c40
                        try clear c41
                        try clear c42
                        try clear c49
                        try clear c50
                        try clear c51
                        try clear c52
                        try clear c58
                        try clear c59
                        try clear c66
                        try clear c67
                        try clear c68
                        try clear c74
                        try clear c75
                        try clear c82
                        try clear c85
                        try clear c92
                        try clear c93
                        try clear c94
                        try clear c101
                        try clear c101b0
                        try clear c103
                        try clear c104
                        try clear c105
                        try clear c106
                        try clear c112
                        try clear c113
                        try clear c120
                        try clear c121
                        try clear c122
                        try clear c128
                        try clear c129
                        try clear c136
                        try clear c139
                        try clear c139b0
                        try clear c140
                        try clear c141
                        try clear c142
                        try clear c153
                        try clear c153b0
                        try clear c153b1
                        try clear c157
                        try clear c158
                        try clear c159
                        try clear c170
                        try clear c171
                        try clear c181
                        try clear c182
                        try clear c183
                        try clear c184
                        try clear c192
                        try clear c193
                        try clear c194
                        try clear c195
                        try clear c196
                        try clear c203
                        try clear c204
                        try clear c205
                        try clear c213
                        try clear c214
                        try clear c215
                        try clear c216
                        try clear c223
                        try clear c224
                        try clear c225
                        try clear hcz107_0
                        try clear hcz114_0
                        try clear hcz123_0
                        try clear hcz130_0
                        try clear hcz13_0
                        try clear hcz143_0
                        try clear hcz148_0
                        try clear hcz15_0
                        try clear hcz160_0
                        try clear hcz165_0
                        try clear hcz172_0
                        try clear hcz185_0
                        try clear hcz197_0
                        try clear hcz206_0
                        try clear hcz217_0
                        try clear hcz226_0
                        try clear hcz22_0
                        try clear hcz25_0
                        try clear hcz33_0
                        try clear hcz43_0
                        try clear hcz53_0
                        try clear hcz5_0
                        try clear hcz60_0
                        try clear hcz69_0
                        try clear hcz76_0
                        try clear hcz95_0
                        try clear hfz107_0
                        try clear hfz114_0
                        try clear hfz123_0
                        try clear hfz130_0
                        try clear hfz13_0
                        try clear hfz143_0
                        try clear hfz148_0
                        try clear hfz15_0
                        try clear hfz160_0
                        try clear hfz165_0
                        try clear hfz172_0
                        try clear hfz185_0
                        try clear hfz197_0
                        try clear hfz206_0
                        try clear hfz217_0
                        try clear hfz226_0
                        try clear hfz22_0
                        try clear hfz25_0
                        try clear hfz33_0
                        try clear hfz43_0
                        try clear hfz53_0
                        try clear hfz5_0
                        try clear hfz60_0
                        try clear hfz69_0
                        try clear hfz76_0
                        try clear hfz95_0
                        try clear p2
                        obtain ⟨kq, x87_155, rfl, HA, HJ155, HO_201000, HO_205000, HO_210000, HO_229000, BK191, BK200, BK204, BK209, BK228, HB⟩ := hcut
                        have hl210000_155 := (Kd.R_reads' HO_210000.out).1
                        rw [hl210000_155] at HO_210000
                        (try simp only [hl210000_155])
                        (try simp only [hl210000_155] at BK191)
                        (try simp only [hl210000_155] at BK200)
                        (try simp only [hl210000_155] at BK204)
                        (try simp only [hl210000_155] at BK209)
                        (try simp only [hl210000_155] at BK228)
                        (try simp only [hl210000_155] at HO_201000)
                        (try simp only [hl210000_155] at HO_205000)
                        (try simp only [hl210000_155] at HO_229000)
                        cases kq with
                        | zero => exact absurd HA.out (by simp [laws_FnExactEvenTable.j2])
                        | succ kj155 =>
                          have H := HA.out
                          clear HA
                          simp only [laws_FnExactEvenTable.j2] at H
                          by_cases c233 : x87_155 = true
                          · subst c233
                            have H1 : (some false) = some r := by rw [if_pos rfl] at H; first | exact H | (simp only [if_true, eq_self] at H ⊢; exact H)
                            clear H
                            have H := H1
                            clear H1
                            obtain rfl := Option.some.inj H
                            go_wp2
                            go_ret
                            exact ⟨by first | rfl | (simp [errW_none, errW_some] <;> rfl) | (simp [*, errW_none, errW_some] <;> rfl), by repeat (first | (with_reducible first | exact HB.out | apply below_alloc | apply pw_below_drewN | apply below_drew1 | refine below_set ?_ GE191.out | refine below_set ?_ GE200.out | refine below_set ?_ GE204.out | refine below_set ?_ GE209.out | refine below_set ?_ GE228.out) | exact HB.out)⟩
                          · replace c233 := Bool.eq_false_iff.mpr c233
                            subst c233
                            have H1 : ((laws_heldTable.f kj155 t219 1).bind fun t230 => (if t230 < 0 then (some false) else (if t230 = t218 then (some true) else (some false)))) = some r := by rw [if_neg (show ¬ (false = true) by decide)] at H; first | exact H | (simp only [if_true, eq_self] at H ⊢; exact H)
                            clear H
                            have H := H1
                            clear H1
                            replace H := Option.bind_eq_some_iff.mp H
                            obtain ⟨t230, A2340, H⟩ := H
                            replace H : (if t230 < 0 then (some false) else (if t230 = t218 then (some true) else (some false))) = some r := H
                            have A234 := Aside0.mk A2340
                            clear A2340
                            by_cases c235 : t230 < 0
                            · rw [if_pos c235] at H
                              have c235b0 : decide (t230 < 0) = true := decide_eq_true c235
                              clear c235
                              obtain rfl := Option.some.inj H
                              have hnb236 := NB209_191.out
                              have hnc236 := NB191_209.out
                              have hnb237 := NB209_200.out
                              have hnc237 := NB200_209.out
                              have hnb238 := NB209_204.out
                              have hnc238 := NB204_209.out
                              have hnb239 := NB209_228.out
                              have hnc239 := NB228_209.out
                              (try (have hnw241 := Kd.R_ne HO_201000.out BK209.out (by decide); change some gb209 ≠ some _ at hnw241; have how241 := fun (e_ : gb209 = _) => hnw241 (congrArg some e_); have hpw241 := fun e_ => how241 (Eq.symm e_); clear hnw241; replace how241 := eq_false how241; replace hpw241 := eq_false hpw241))
                              (try (have hnw242 := Kd.R_ne HO_205000.out BK209.out (by decide); change some gb209 ≠ some _ at hnw242; have how242 := fun (e_ : gb209 = _) => hnw242 (congrArg some e_); have hpw242 := fun e_ => how242 (Eq.symm e_); clear hnw242; replace how242 := eq_false how242; replace hpw242 := eq_false hpw242))
                              (try (have hnw243 := Kd.R_ne HO_210000.out BK209.out (by decide); change some gb209 ≠ some _ at hnw243; have how243 := fun (e_ : gb209 = _) => hnw243 (congrArg some e_); have hpw243 := fun e_ => how243 (Eq.symm e_); clear hnw243; replace how243 := eq_false how243; replace hpw243 := eq_false hpw243))
                              (try (have hnw244 := Kd.R_ne HO_229000.out BK209.out (by decide); change some gb209 ≠ some _ at hnw244; have how244 := fun (e_ : gb209 = _) => hnw244 (congrArg some e_); have hpw244 := fun e_ => how244 (Eq.symm e_); clear hnw244; replace how244 := eq_false how244; replace hpw244 := eq_false hpw244))
                              have hcz240_0 : wc.cell? ⟨gb209, 0, none⟩ = some (.slice Ao39 t219.length co39) := (blk_cell BK209.out 0).trans rfl
                              have hfz240_0 := blk_frozen BK209.out 0
                              go_wp2_with (first | ((with_reducible refine gate_callee (f := 27) rfl ?_); refine goesL_ (some 90) rfl rfl Tryd.func27 (by kernel_rfl) rfl #[.agg #[.slice Ao39 t219.length co39], .int .i64 1] rfl (by (try simp only [List.map_toArray, List.map_cons, List.map_nil]); first | done | rfl | (simp only [List.length_drop, List.length_take]; rfl)) ?_; (with_reducible refine (laws_heldTable.calls kj155 _ _ t219 1 t230 _ ?side1 ?side2 A234.out).mono ?_); (case side1 => repeat (first | exact (Kd.R_reads' HO_210000.out).2.2 | (with_reducible refine Kd.C_alloc ?_ _) | (with_reducible refine Kd.C_drewN ?_ _) | (with_reducible refine Kd.C_drew ?_))); (case side2 => exact (Kd.R_reads' HO_210000.out).2.1); rintro e w245 ⟨rfl, hb⟩; refine ⟨_, rfl, ?_⟩; have n0_ := Aside0.mk (Kd.R_below (by (with_reducible repeat (first | apply Kd.R_alloc | apply Kd.R_drewN | apply Kd.R_drew)); exact HO_201000.out) hb); have n1_ := Aside0.mk (Kd.R_below (by (with_reducible repeat (first | apply Kd.R_alloc | apply Kd.R_drewN | apply Kd.R_drew)); exact HO_205000.out) hb); have n2_ := Aside0.mk (Kd.R_below (by (with_reducible repeat (first | apply Kd.R_alloc | apply Kd.R_drewN | apply Kd.R_drew)); exact HO_210000.out) hb); have n3_ := Aside0.mk (Kd.R_below (by (with_reducible repeat (first | apply Kd.R_alloc | apply Kd.R_drewN | apply Kd.R_drew)); exact HO_229000.out) hb); have n4_ := Aside0.mk (blk_below (g := gb191) (o := .cells #[.slice A0_0 l0_0.length c0_0] 24 (0, 0)) (by (with_reducible repeat (first | refine blk_drewN ?_ _ | refine blk_drew ?_ | refine blk_alloc ?_ _)); exact BK191.out) hb); have n5_ := Aside0.mk (blk_below (g := gb200) (o := .cells #[.slice Ao20 t196.length co20] 28 (0, 0)) (by (with_reducible repeat (first | refine blk_drewN ?_ _ | refine blk_drew ?_ | refine blk_alloc ?_ _)); exact BK200.out) hb); have n6_ := Aside0.mk (blk_below (g := gb204) (o := .cells #[.slice Ao30 t216.length co30] 28 (0, 0)) (by (with_reducible repeat (first | refine blk_drewN ?_ _ | refine blk_drew ?_ | refine blk_alloc ?_ _)); exact BK204.out) hb); have n7_ := Aside0.mk (blk_below (g := gb209) (o := .cells #[.slice Ao39 t219.length co39] 28 (0, 0)) (by (with_reducible repeat (first | refine blk_drewN ?_ _ | refine blk_drew ?_ | refine blk_alloc ?_ _)); exact BK209.out) hb); have n8_ := Aside0.mk (blk_below (g := gb228) (o := .cells #[.slice Ao180 t224.length co180] 28 (0, 0)) (by (with_reducible repeat (first | refine blk_drewN ?_ _ | refine blk_drew ?_ | refine blk_alloc ?_ _)); exact BK228.out) hb); have n9_ := Aside0.mk (below_step (by repeat (first | (with_reducible first | exact HB.out | apply below_alloc | apply pw_below_drewN | apply below_drew1 | refine below_set ?_ GE191.out | refine below_set ?_ GE200.out | refine below_set ?_ GE204.out | refine below_set ?_ GE209.out | refine below_set ?_ GE228.out) | exact HB.out)) hb); clear HO_201000; clear HO_205000; clear HO_210000; clear HO_229000; clear BK191; clear BK200; clear BK204; clear BK209; clear BK228; clear HB; have HO_201000 := n0_; have HO_205000 := n1_; have HO_210000 := n2_; have HO_229000 := n3_; have BK191 := n4_; have BK200 := n5_; have BK204 := n6_; have BK209 := n7_; have BK228 := n8_; have HB := n9_; clear n0_ n1_ n2_ n3_ n4_ n5_ n6_ n7_ n8_ n9_; (try clear hb); (try clear hb2); (try clear hk); (try clear hi)))
                              go_ret
                              exact ⟨by first | rfl | (simp [errW_none, errW_some] <;> rfl) | (simp [*, errW_none, errW_some] <;> rfl), by repeat (first | (with_reducible first | exact HB.out | apply below_alloc | apply pw_below_drewN | apply below_drew1 | refine below_set ?_ GE191.out | refine below_set ?_ GE200.out | refine below_set ?_ GE204.out | refine below_set ?_ GE209.out | refine below_set ?_ GE228.out) | exact HB.out)⟩
                            · rw [if_neg c235] at H
                              have c235b0 : decide (t230 < 0) = false := decide_eq_false c235
                              clear c235
                              by_cases c246 : t230 = t218
                              · rw [if_pos c246] at H
                                have c246b0 : (t230 == t218) = true := beq_iff_eq.mpr c246
                                have c246b1 : (t230 != t218) = false := bne_eq_false_iff_eq.mpr c246
                                clear c246
                                obtain rfl := Option.some.inj H
                                have hnb247 := NB209_191.out
                                have hnc247 := NB191_209.out
                                have hnb248 := NB209_200.out
                                have hnc248 := NB200_209.out
                                have hnb249 := NB209_204.out
                                have hnc249 := NB204_209.out
                                have hnb250 := NB209_228.out
                                have hnc250 := NB228_209.out
                                (try (have hnw252 := Kd.R_ne HO_201000.out BK209.out (by decide); change some gb209 ≠ some _ at hnw252; have how252 := fun (e_ : gb209 = _) => hnw252 (congrArg some e_); have hpw252 := fun e_ => how252 (Eq.symm e_); clear hnw252; replace how252 := eq_false how252; replace hpw252 := eq_false hpw252))
                                (try (have hnw253 := Kd.R_ne HO_205000.out BK209.out (by decide); change some gb209 ≠ some _ at hnw253; have how253 := fun (e_ : gb209 = _) => hnw253 (congrArg some e_); have hpw253 := fun e_ => how253 (Eq.symm e_); clear hnw253; replace how253 := eq_false how253; replace hpw253 := eq_false hpw253))
                                (try (have hnw254 := Kd.R_ne HO_210000.out BK209.out (by decide); change some gb209 ≠ some _ at hnw254; have how254 := fun (e_ : gb209 = _) => hnw254 (congrArg some e_); have hpw254 := fun e_ => how254 (Eq.symm e_); clear hnw254; replace how254 := eq_false how254; replace hpw254 := eq_false hpw254))
                                (try (have hnw255 := Kd.R_ne HO_229000.out BK209.out (by decide); change some gb209 ≠ some _ at hnw255; have how255 := fun (e_ : gb209 = _) => hnw255 (congrArg some e_); have hpw255 := fun e_ => how255 (Eq.symm e_); clear hnw255; replace how255 := eq_false how255; replace hpw255 := eq_false hpw255))
                                have hcz251_0 : wc.cell? ⟨gb209, 0, none⟩ = some (.slice Ao39 t219.length co39) := (blk_cell BK209.out 0).trans rfl
                                have hfz251_0 := blk_frozen BK209.out 0
                                go_wp2_with (first | ((with_reducible refine gate_callee (f := 27) rfl ?_); refine goesL_ (some 90) rfl rfl Tryd.func27 (by kernel_rfl) rfl #[.agg #[.slice Ao39 t219.length co39], .int .i64 1] rfl (by (try simp only [List.map_toArray, List.map_cons, List.map_nil]); first | done | rfl | (simp only [List.length_drop, List.length_take]; rfl)) ?_; (with_reducible refine (laws_heldTable.calls kj155 _ _ t219 1 t230 _ ?side1 ?side2 A234.out).mono ?_); (case side1 => repeat (first | exact (Kd.R_reads' HO_210000.out).2.2 | (with_reducible refine Kd.C_alloc ?_ _) | (with_reducible refine Kd.C_drewN ?_ _) | (with_reducible refine Kd.C_drew ?_))); (case side2 => exact (Kd.R_reads' HO_210000.out).2.1); rintro e w256 ⟨rfl, hb⟩; refine ⟨_, rfl, ?_⟩; have n0_ := Aside0.mk (Kd.R_below (by (with_reducible repeat (first | apply Kd.R_alloc | apply Kd.R_drewN | apply Kd.R_drew)); exact HO_201000.out) hb); have n1_ := Aside0.mk (Kd.R_below (by (with_reducible repeat (first | apply Kd.R_alloc | apply Kd.R_drewN | apply Kd.R_drew)); exact HO_205000.out) hb); have n2_ := Aside0.mk (Kd.R_below (by (with_reducible repeat (first | apply Kd.R_alloc | apply Kd.R_drewN | apply Kd.R_drew)); exact HO_210000.out) hb); have n3_ := Aside0.mk (Kd.R_below (by (with_reducible repeat (first | apply Kd.R_alloc | apply Kd.R_drewN | apply Kd.R_drew)); exact HO_229000.out) hb); have n4_ := Aside0.mk (blk_below (g := gb191) (o := .cells #[.slice A0_0 l0_0.length c0_0] 24 (0, 0)) (by (with_reducible repeat (first | refine blk_drewN ?_ _ | refine blk_drew ?_ | refine blk_alloc ?_ _)); exact BK191.out) hb); have n5_ := Aside0.mk (blk_below (g := gb200) (o := .cells #[.slice Ao20 t196.length co20] 28 (0, 0)) (by (with_reducible repeat (first | refine blk_drewN ?_ _ | refine blk_drew ?_ | refine blk_alloc ?_ _)); exact BK200.out) hb); have n6_ := Aside0.mk (blk_below (g := gb204) (o := .cells #[.slice Ao30 t216.length co30] 28 (0, 0)) (by (with_reducible repeat (first | refine blk_drewN ?_ _ | refine blk_drew ?_ | refine blk_alloc ?_ _)); exact BK204.out) hb); have n7_ := Aside0.mk (blk_below (g := gb209) (o := .cells #[.slice Ao39 t219.length co39] 28 (0, 0)) (by (with_reducible repeat (first | refine blk_drewN ?_ _ | refine blk_drew ?_ | refine blk_alloc ?_ _)); exact BK209.out) hb); have n8_ := Aside0.mk (blk_below (g := gb228) (o := .cells #[.slice Ao180 t224.length co180] 28 (0, 0)) (by (with_reducible repeat (first | refine blk_drewN ?_ _ | refine blk_drew ?_ | refine blk_alloc ?_ _)); exact BK228.out) hb); have n9_ := Aside0.mk (below_step (by repeat (first | (with_reducible first | exact HB.out | apply below_alloc | apply pw_below_drewN | apply below_drew1 | refine below_set ?_ GE191.out | refine below_set ?_ GE200.out | refine below_set ?_ GE204.out | refine below_set ?_ GE209.out | refine below_set ?_ GE228.out) | exact HB.out)) hb); clear HO_201000; clear HO_205000; clear HO_210000; clear HO_229000; clear BK191; clear BK200; clear BK204; clear BK209; clear BK228; clear HB; have HO_201000 := n0_; have HO_205000 := n1_; have HO_210000 := n2_; have HO_229000 := n3_; have BK191 := n4_; have BK200 := n5_; have BK204 := n6_; have BK209 := n7_; have BK228 := n8_; have HB := n9_; clear n0_ n1_ n2_ n3_ n4_ n5_ n6_ n7_ n8_ n9_; (try clear hb); (try clear hb2); (try clear hk); (try clear hi)))
                                go_ret
                                exact ⟨by first | rfl | (simp [errW_none, errW_some] <;> rfl) | (simp [*, errW_none, errW_some] <;> rfl), by repeat (first | (with_reducible first | exact HB.out | apply below_alloc | apply pw_below_drewN | apply below_drew1 | refine below_set ?_ GE191.out | refine below_set ?_ GE200.out | refine below_set ?_ GE204.out | refine below_set ?_ GE209.out | refine below_set ?_ GE228.out) | exact HB.out)⟩
                              · rw [if_neg c246] at H
                                have c246b0 : (t230 == t218) = false := beq_eq_false_iff_ne.mpr c246
                                have c246b1 : (t230 != t218) = true := bne_iff_ne.mpr c246
                                obtain rfl := Option.some.inj H
                                have hnb257 := NB209_191.out
                                have hnc257 := NB191_209.out
                                have hnb258 := NB209_200.out
                                have hnc258 := NB200_209.out
                                have hnb259 := NB209_204.out
                                have hnc259 := NB204_209.out
                                have hnb260 := NB209_228.out
                                have hnc260 := NB228_209.out
                                (try (have hnw262 := Kd.R_ne HO_201000.out BK209.out (by decide); change some gb209 ≠ some _ at hnw262; have how262 := fun (e_ : gb209 = _) => hnw262 (congrArg some e_); have hpw262 := fun e_ => how262 (Eq.symm e_); clear hnw262; replace how262 := eq_false how262; replace hpw262 := eq_false hpw262))
                                (try (have hnw263 := Kd.R_ne HO_205000.out BK209.out (by decide); change some gb209 ≠ some _ at hnw263; have how263 := fun (e_ : gb209 = _) => hnw263 (congrArg some e_); have hpw263 := fun e_ => how263 (Eq.symm e_); clear hnw263; replace how263 := eq_false how263; replace hpw263 := eq_false hpw263))
                                (try (have hnw264 := Kd.R_ne HO_210000.out BK209.out (by decide); change some gb209 ≠ some _ at hnw264; have how264 := fun (e_ : gb209 = _) => hnw264 (congrArg some e_); have hpw264 := fun e_ => how264 (Eq.symm e_); clear hnw264; replace how264 := eq_false how264; replace hpw264 := eq_false hpw264))
                                (try (have hnw265 := Kd.R_ne HO_229000.out BK209.out (by decide); change some gb209 ≠ some _ at hnw265; have how265 := fun (e_ : gb209 = _) => hnw265 (congrArg some e_); have hpw265 := fun e_ => how265 (Eq.symm e_); clear hnw265; replace how265 := eq_false how265; replace hpw265 := eq_false hpw265))
                                have hcz261_0 : wc.cell? ⟨gb209, 0, none⟩ = some (.slice Ao39 t219.length co39) := (blk_cell BK209.out 0).trans rfl
                                have hfz261_0 := blk_frozen BK209.out 0
                                go_wp2_with (first | ((with_reducible refine gate_callee (f := 27) rfl ?_); refine goesL_ (some 90) rfl rfl Tryd.func27 (by kernel_rfl) rfl #[.agg #[.slice Ao39 t219.length co39], .int .i64 1] rfl (by (try simp only [List.map_toArray, List.map_cons, List.map_nil]); first | done | rfl | (simp only [List.length_drop, List.length_take]; rfl)) ?_; (with_reducible refine (laws_heldTable.calls kj155 _ _ t219 1 t230 _ ?side1 ?side2 A234.out).mono ?_); (case side1 => repeat (first | exact (Kd.R_reads' HO_210000.out).2.2 | (with_reducible refine Kd.C_alloc ?_ _) | (with_reducible refine Kd.C_drewN ?_ _) | (with_reducible refine Kd.C_drew ?_))); (case side2 => exact (Kd.R_reads' HO_210000.out).2.1); rintro e w266 ⟨rfl, hb⟩; refine ⟨_, rfl, ?_⟩; have n0_ := Aside0.mk (Kd.R_below (by (with_reducible repeat (first | apply Kd.R_alloc | apply Kd.R_drewN | apply Kd.R_drew)); exact HO_201000.out) hb); have n1_ := Aside0.mk (Kd.R_below (by (with_reducible repeat (first | apply Kd.R_alloc | apply Kd.R_drewN | apply Kd.R_drew)); exact HO_205000.out) hb); have n2_ := Aside0.mk (Kd.R_below (by (with_reducible repeat (first | apply Kd.R_alloc | apply Kd.R_drewN | apply Kd.R_drew)); exact HO_210000.out) hb); have n3_ := Aside0.mk (Kd.R_below (by (with_reducible repeat (first | apply Kd.R_alloc | apply Kd.R_drewN | apply Kd.R_drew)); exact HO_229000.out) hb); have n4_ := Aside0.mk (blk_below (g := gb191) (o := .cells #[.slice A0_0 l0_0.length c0_0] 24 (0, 0)) (by (with_reducible repeat (first | refine blk_drewN ?_ _ | refine blk_drew ?_ | refine blk_alloc ?_ _)); exact BK191.out) hb); have n5_ := Aside0.mk (blk_below (g := gb200) (o := .cells #[.slice Ao20 t196.length co20] 28 (0, 0)) (by (with_reducible repeat (first | refine blk_drewN ?_ _ | refine blk_drew ?_ | refine blk_alloc ?_ _)); exact BK200.out) hb); have n6_ := Aside0.mk (blk_below (g := gb204) (o := .cells #[.slice Ao30 t216.length co30] 28 (0, 0)) (by (with_reducible repeat (first | refine blk_drewN ?_ _ | refine blk_drew ?_ | refine blk_alloc ?_ _)); exact BK204.out) hb); have n7_ := Aside0.mk (blk_below (g := gb209) (o := .cells #[.slice Ao39 t219.length co39] 28 (0, 0)) (by (with_reducible repeat (first | refine blk_drewN ?_ _ | refine blk_drew ?_ | refine blk_alloc ?_ _)); exact BK209.out) hb); have n8_ := Aside0.mk (blk_below (g := gb228) (o := .cells #[.slice Ao180 t224.length co180] 28 (0, 0)) (by (with_reducible repeat (first | refine blk_drewN ?_ _ | refine blk_drew ?_ | refine blk_alloc ?_ _)); exact BK228.out) hb); have n9_ := Aside0.mk (below_step (by repeat (first | (with_reducible first | exact HB.out | apply below_alloc | apply pw_below_drewN | apply below_drew1 | refine below_set ?_ GE191.out | refine below_set ?_ GE200.out | refine below_set ?_ GE204.out | refine below_set ?_ GE209.out | refine below_set ?_ GE228.out) | exact HB.out)) hb); clear HO_201000; clear HO_205000; clear HO_210000; clear HO_229000; clear BK191; clear BK200; clear BK204; clear BK209; clear BK228; clear HB; have HO_201000 := n0_; have HO_205000 := n1_; have HO_210000 := n2_; have HO_229000 := n3_; have BK191 := n4_; have BK200 := n5_; have BK204 := n6_; have BK209 := n7_; have BK228 := n8_; have HB := n9_; clear n0_ n1_ n2_ n3_ n4_ n5_ n6_ n7_ n8_ n9_; (try clear hb); (try clear hb2); (try clear hk); (try clear hi)))
                                go_ret
                                exact ⟨by first | rfl | (simp [errW_none, errW_some] <;> rfl) | (simp [*, errW_none, errW_some] <;> rfl), by repeat (first | (with_reducible first | exact HB.out | apply below_alloc | apply pw_below_drewN | apply below_drew1 | refine below_set ?_ GE191.out | refine below_set ?_ GE200.out | refine below_set ?_ GE204.out | refine below_set ?_ GE209.out | refine below_set ?_ GE228.out) | exact HB.out)⟩
                    · rw [if_neg c153] at H
                      have c153b0 : (t220 == t218) = false := beq_eq_false_iff_ne.mpr c153
                      have c153b1 : (t220 != t218) = true := bne_iff_ne.mpr c153
                      obtain rfl := Option.some.inj H
                      have hnb267 := NB209_191.out
                      have hnc267 := NB191_209.out
                      have hnb268 := NB209_200.out
                      have hnc268 := NB200_209.out
                      have hnb269 := NB209_204.out
                      have hnc269 := NB204_209.out
                      (try (have hnw271 := Kd.R_ne HO_201000.out BK209.out (by decide); change some gb209 ≠ some _ at hnw271; have how271 := fun (e_ : gb209 = _) => hnw271 (congrArg some e_); have hpw271 := fun e_ => how271 (Eq.symm e_); clear hnw271; replace how271 := eq_false how271; replace hpw271 := eq_false hpw271))
                      (try (have hnw272 := Kd.R_ne HO_205000.out BK209.out (by decide); change some gb209 ≠ some _ at hnw272; have how272 := fun (e_ : gb209 = _) => hnw272 (congrArg some e_); have hpw272 := fun e_ => how272 (Eq.symm e_); clear hnw272; replace how272 := eq_false how272; replace hpw272 := eq_false hpw272))
                      (try (have hnw273 := Kd.R_ne HO_210000.out BK209.out (by decide); change some gb209 ≠ some _ at hnw273; have how273 := fun (e_ : gb209 = _) => hnw273 (congrArg some e_); have hpw273 := fun e_ => how273 (Eq.symm e_); clear hnw273; replace how273 := eq_false how273; replace hpw273 := eq_false hpw273))
                      have hcz270_0 : wc.cell? ⟨gb209, 0, none⟩ = some (.slice Ao39 t205.length co39) := (blk_cell BK209.out 0).trans rfl
                      have hfz270_0 := blk_frozen BK209.out 0
                      go_wp2_with (first | ((with_reducible refine gate_callee (f := 19) rfl ?_); refine goesL_ (some 64) rfl rfl Tryd.func19 (by kernel_rfl) rfl #[.agg #[.slice Ao39 t205.length co39], .int .i64 1] rfl (by (try simp only [List.map_toArray, List.map_cons, List.map_nil]); first | done | rfl | (simp only [List.length_drop, List.length_take]; rfl)) ?_; (with_reducible refine (laws_markTable.calls kj86 (fun k_ => some k_ = (.slice Ao39 t205.length co39 : Value).ownBlock) (.slice Ao39 t205.length co39) t205 1 t218 t219 w _ ?side1 ?side2 A137.out).mono ?_); (case side1 => repeat (first | (with_reducible first | exact HB.out | apply below_alloc | apply pw_below_drewN | apply below_drew1 | refine below_set ?_ GE191.out | refine below_set ?_ GE200.out | refine below_set ?_ GE204.out | refine below_set ?_ GE209.out) | exact HB.out)); (case side2 => exact Kd.R_tight rfl HO_210000.out); rintro e w274 ⟨rfl, hy0, hb, hkp⟩; refine ⟨_, rfl, ?_⟩; have n0_ := Aside0.mk (Kd.R_mono (ok' := fun k_ => some k_ ≠ (.slice Ao30 t216.length co30 : Value).ownBlock ∧ some k_ ≠ (.slice Ao39 t205.length co39 : Value).ownBlock) (Kd.R_keptB (HO_201000.out) hkp (fun k_ hk_ hs_ => (hk_.2) hs_)) (fun k_ hk_ => ⟨hk_.1.1, hk_.1.2⟩)); have n1_ := Aside0.mk (Kd.R_mono (ok' := fun k_ => some k_ ≠ (.slice Ao20 t196.length co20 : Value).ownBlock ∧ some k_ ≠ (.slice Ao39 t205.length co39 : Value).ownBlock) (Kd.R_keptB (HO_205000.out) hkp (fun k_ hk_ hs_ => (hk_.2) hs_)) (fun k_ hk_ => ⟨hk_.1.1, hk_.1.2⟩)); have n2_ := Aside0.mk (Kd.R_reok rfl hy0 (fun k_ e_ => HO_210000.out.1 k_ e_)); have n3_ := Aside0.mk (blk_kept (by (with_reducible repeat (first | refine blk_drewN ?_ _ | refine blk_drew ?_ | refine blk_alloc ?_ _)); exact BK191.out) hkp (fun hs_ => (fun e_ => (Kd.R_ne HO_210000.out BK191.out (by decide)) e_) hs_)); have n4_ := Aside0.mk (blk_kept (by (with_reducible repeat (first | refine blk_drewN ?_ _ | refine blk_drew ?_ | refine blk_alloc ?_ _)); exact BK200.out) hkp (fun hs_ => (fun e_ => (Kd.R_ne HO_210000.out BK200.out (by decide)) e_) hs_)); have n5_ := Aside0.mk (blk_kept (by (with_reducible repeat (first | refine blk_drewN ?_ _ | refine blk_drew ?_ | refine blk_alloc ?_ _)); exact BK204.out) hkp (fun hs_ => (fun e_ => (Kd.R_ne HO_210000.out BK204.out (by decide)) e_) hs_)); have n6_ := Aside0.mk (blk_kept (by (with_reducible repeat (first | refine blk_drewN ?_ _ | refine blk_drew ?_ | refine blk_alloc ?_ _)); exact BK209.out) hkp (fun hs_ => (fun e_ => (Kd.R_ne HO_210000.out BK209.out (by decide)) e_) hs_)); have n7_ := Aside0.mk (hb); clear HO_201000; clear HO_205000; clear HO_210000; clear BK191; clear BK200; clear BK204; clear BK209; clear HB; have HO_201000 := n0_; have HO_205000 := n1_; have HO_210000 := n2_; have BK191 := n3_; have BK200 := n4_; have BK204 := n5_; have BK209 := n6_; have HB := n7_; clear n0_ n1_ n2_ n3_ n4_ n5_ n6_ n7_; (try clear hb); (try clear hkp); (try clear hy0); (try (have hnw276 := Kd.R_ne HO_201000.out BK209.out (by decide); change some gb209 ≠ some _ at hnw276; have how276 := fun (e_ : gb209 = _) => hnw276 (congrArg some e_); have hpw276 := fun e_ => how276 (Eq.symm e_); clear hnw276; replace how276 := eq_false how276; replace hpw276 := eq_false hpw276)); (try (have hnw277 := Kd.R_ne HO_205000.out BK209.out (by decide); change some gb209 ≠ some _ at hnw277; have how277 := fun (e_ : gb209 = _) => hnw277 (congrArg some e_); have hpw277 := fun e_ => how277 (Eq.symm e_); clear hnw277; replace how277 := eq_false how277; replace hpw277 := eq_false hpw277)); (try (have hnw278 := Kd.R_ne HO_210000.out BK209.out (by decide); change some gb209 ≠ some _ at hnw278; have how278 := fun (e_ : gb209 = _) => hnw278 (congrArg some e_); have hpw278 := fun e_ => how278 (Eq.symm e_); clear hnw278; replace how278 := eq_false how278; replace hpw278 := eq_false hpw278)); have hcz275_0 : w274.cell? ⟨gb209, 0, none⟩ = some (.slice Ao39 t205.length co39) := (blk_cell BK209.out 0).trans rfl; have hfz275_0 := blk_frozen BK209.out 0) | ((with_reducible refine gate_callee (f := 27) rfl ?_); refine goesL_ (some 67) rfl rfl Tryd.func27 (by kernel_rfl) rfl #[.agg #[.slice Ao39 t219.length co39], .int .i64 1] rfl (by (try simp only [List.map_toArray, List.map_cons, List.map_nil]); first | done | (rw [show t219.length = t205.length from (Kd.R_reads' HO_210000.out).1.symm] <;> rfl) | rfl | (simp only [List.length_drop, List.length_take]; rfl)) ?_; (with_reducible refine (laws_heldTable.calls kj86 _ _ t219 1 t220 _ ?side1 ?side2 A138.out).mono ?_); (case side1 => repeat (first | exact (Kd.R_reads' HO_210000.out).2.2 | (with_reducible refine Kd.C_alloc ?_ _) | (with_reducible refine Kd.C_drewN ?_ _) | (with_reducible refine Kd.C_drew ?_))); (case side2 => rw [show t219.length = t205.length from (Kd.R_reads' HO_210000.out).1.symm]; exact (Kd.R_reads' HO_210000.out).2.1); rintro e w279 ⟨rfl, hb⟩; refine ⟨_, rfl, ?_⟩; have n0_ := Aside0.mk (Kd.R_below (by (with_reducible repeat (first | apply Kd.R_alloc | apply Kd.R_drewN | apply Kd.R_drew)); exact HO_201000.out) hb); have n1_ := Aside0.mk (Kd.R_below (by (with_reducible repeat (first | apply Kd.R_alloc | apply Kd.R_drewN | apply Kd.R_drew)); exact HO_205000.out) hb); have n2_ := Aside0.mk (Kd.R_below (by (with_reducible repeat (first | apply Kd.R_alloc | apply Kd.R_drewN | apply Kd.R_drew)); exact HO_210000.out) hb); have n3_ := Aside0.mk (blk_below (g := gb191) (o := .cells #[.slice A0_0 l0_0.length c0_0] 24 (0, 0)) (by (with_reducible repeat (first | refine blk_drewN ?_ _ | refine blk_drew ?_ | refine blk_alloc ?_ _)); exact BK191.out) hb); have n4_ := Aside0.mk (blk_below (g := gb200) (o := .cells #[.slice Ao20 t196.length co20] 28 (0, 0)) (by (with_reducible repeat (first | refine blk_drewN ?_ _ | refine blk_drew ?_ | refine blk_alloc ?_ _)); exact BK200.out) hb); have n5_ := Aside0.mk (blk_below (g := gb204) (o := .cells #[.slice Ao30 t216.length co30] 28 (0, 0)) (by (with_reducible repeat (first | refine blk_drewN ?_ _ | refine blk_drew ?_ | refine blk_alloc ?_ _)); exact BK204.out) hb); have n6_ := Aside0.mk (blk_below (g := gb209) (o := .cells #[.slice Ao39 t205.length co39] 28 (0, 0)) (by (with_reducible repeat (first | refine blk_drewN ?_ _ | refine blk_drew ?_ | refine blk_alloc ?_ _)); exact BK209.out) hb); have n7_ := Aside0.mk (below_step (by repeat (first | (with_reducible first | exact HB.out | apply below_alloc | apply pw_below_drewN | apply below_drew1 | refine below_set ?_ GE191.out | refine below_set ?_ GE200.out | refine below_set ?_ GE204.out | refine below_set ?_ GE209.out) | exact HB.out)) hb); clear HO_201000; clear HO_205000; clear HO_210000; clear BK191; clear BK200; clear BK204; clear BK209; clear HB; have HO_201000 := n0_; have HO_205000 := n1_; have HO_210000 := n2_; have BK191 := n3_; have BK200 := n4_; have BK204 := n5_; have BK209 := n6_; have HB := n7_; clear n0_ n1_ n2_ n3_ n4_ n5_ n6_ n7_; (try clear hb); (try clear hb2); (try clear hk); (try clear hi)))
                      go_ret
                      exact ⟨by first | rfl | (simp [errW_none, errW_some] <;> rfl) | (simp [*, errW_none, errW_some] <;> rfl), by repeat (first | (with_reducible first | exact HB.out | apply below_alloc | apply pw_below_drewN | apply below_drew1 | refine below_set ?_ GE191.out | refine below_set ?_ GE200.out | refine below_set ?_ GE204.out | refine below_set ?_ GE209.out) | exact HB.out)⟩
          · replace c85 := Bool.eq_false_iff.mpr c85
            subst c85
            have H1 : (some false) = some r := by rw [if_neg (show ¬ (false = true) by decide)] at H; first | exact H | (simp only [if_true, eq_self] at H ⊢; exact H)
            clear H
            have H := H1
            clear H1
            obtain rfl := Option.some.inj H
            try go_wp2
            have n0_ := Aside0.mk (Kd.R_drew HO_201000.out)
            have n1_ := Aside0.mk (Kd.R_drew HO_205000.out)
            have n2_ := Aside0.mk (Kd.R_drew HO_210000.out)
            have n3_ := Aside0.mk (blk_drew BK191.out)
            have n4_ := Aside0.mk (blk_drew BK200.out)
            have n5_ := Aside0.mk (blk_drew BK204.out)
            have n6_ := Aside0.mk (blk_drew BK209.out)
            have n7_ := Aside0.mk (below_drew1 HB.out)
            clear HO_201000
            clear HO_205000
            clear HO_210000
            clear BK191
            clear BK200
            clear BK204
            clear BK209
            clear HB
            have HO_201000 := n0_
            have HO_205000 := n1_
            have HO_210000 := n2_
            have BK191 := n3_
            have BK200 := n4_
            have BK204 := n5_
            have BK209 := n6_
            have HB := n7_
            clear n0_ n1_ n2_ n3_ n4_ n5_ n6_ n7_
            refine start_ (n := 5) (S := fun w' => w'.cell? ⟨gb204, 0, none⟩ = some (.slice Ao30 t201.length co30) ∧ w'.cell? ⟨gb191, 0, none⟩ = some (.slice A0_0 l0_0.length c0_0)) (ds := []) #[false, false, false, false, false] (by kernel_rfl) rfl rfl ⟨(blk_cell BK204.out 0).trans rfl, (blk_cell BK191.out 0).trans rfl⟩ (fun hHeld => ?_)
            generalize wc.drew = w280 at HO_201000 HO_205000 HO_210000 BK191 BK200 BK204 BK209 HB hHeld ⊢
            refine take_ (i := 0) (N := some 41) (v := ?_) (a' := ?_) #[true, false, false, false, false] rfl rfl (by kernel_rfl) (fun _ _ _ h => h) (Or.inl ⟨by rfl, ?_⟩) hHeld ?_ ?_
            rotate_left
            · rintro w' ⟨s0, s1⟩
              go_simp
              with_reducible rfl
            rotate_left
            · simp only [Act.put, List.setIfInBounds_toArray, List.set_cons_zero, List.set_cons_succ, i64_w, i32_w]
              rfl
            refine take_ (i := 1) (N := some 42) (v := ?_) (a' := ?_) #[true, true, false, false, false] rfl rfl (by kernel_rfl) (fun _ _ _ h => h) (Or.inl ⟨by rfl, ?_⟩) hHeld ?_ ?_
            rotate_left
            · rintro w' ⟨s0, s1⟩
              go_simp
              with_reducible rfl
            rotate_left
            · simp only [Act.put, List.setIfInBounds_toArray, List.set_cons_zero, List.set_cons_succ, i64_w, i32_w]
              rfl
            refine one_ (i := 2) (N := some 43) #[true, true, true, false, false] rfl rfl (by kernel_rfl) (by decide) (fun K hK => ?_)
            refine goes_ Tryd.func13 (by kernel_rfl) rfl #[.agg #[.slice A0_0 l0_0.length c0_0]] (by rfl) rfl rfl (by (try simp only [List.map_toArray, List.map_cons, List.map_nil]); first | done | rfl | (simp only [List.length_drop, List.length_take]; rfl)) ?_
            with_reducible refine (laws_toTable.calls kj10 _ _ l0_0 t211 _ ?side1 ?side2 A83.out).mono ?_
            (case side1 => repeat (first | exact (Kd.C_below HR0_0.out HB.out) | (with_reducible refine Kd.C_alloc ?_ _) | (with_reducible refine Kd.C_drewN ?_ _) | (with_reducible refine Kd.C_drew ?_)))
            (case side2 => exact HC0_0.out)
            rintro e w281 ⟨v212, rfl, ho0, hb⟩
            refine ⟨_, rfl, ?_⟩
            have n0_ := Aside0.mk (Kd.R_elder' (by (with_reducible repeat (first | apply Kd.R_alloc | apply Kd.R_drewN | apply Kd.R_drew)); exact HO_201000.out) (Kd.R_base ho0) hb)
            have n1_ := Aside0.mk (Kd.R_elder' (by (with_reducible repeat (first | apply Kd.R_alloc | apply Kd.R_drewN | apply Kd.R_drew)); exact HO_205000.out) (Kd.R_base ho0) hb)
            have n2_ := Aside0.mk (Kd.R_elder' (by (with_reducible repeat (first | apply Kd.R_alloc | apply Kd.R_drewN | apply Kd.R_drew)); exact HO_210000.out) (Kd.R_base ho0) hb)
            have n3_ := Aside0.mk (Kd.R_lower (Kd.R_new' (Kd.R_new' (Kd.R_new' ho0 (Kd.R_lt (by (with_reducible repeat (first | apply Kd.R_alloc | apply Kd.R_drewN | apply Kd.R_drew)); exact HO_201000.out))) (Kd.R_lt (by (with_reducible repeat (first | apply Kd.R_alloc | apply Kd.R_drewN | apply Kd.R_drew)); exact HO_205000.out))) (Kd.R_lt (by (with_reducible repeat (first | apply Kd.R_alloc | apply Kd.R_drewN | apply Kd.R_drew)); exact HO_210000.out))) (below_size (by repeat (first | (with_reducible first | exact HB.out | apply below_alloc | apply pw_below_drewN | apply below_drew1 | refine below_set ?_ GE191.out | refine below_set ?_ GE200.out | refine below_set ?_ GE204.out | refine below_set ?_ GE209.out) | exact HB.out))))
            have n4_ := Aside0.mk (blk_below (g := gb191) (o := .cells #[.slice A0_0 l0_0.length c0_0] 24 (0, 0)) (by (with_reducible repeat (first | refine blk_drewN ?_ _ | refine blk_drew ?_ | refine blk_alloc ?_ _)); exact BK191.out) hb)
            have n5_ := Aside0.mk (blk_below (g := gb200) (o := .cells #[.slice Ao20 t196.length co20] 28 (0, 0)) (by (with_reducible repeat (first | refine blk_drewN ?_ _ | refine blk_drew ?_ | refine blk_alloc ?_ _)); exact BK200.out) hb)
            have n6_ := Aside0.mk (blk_below (g := gb204) (o := .cells #[.slice Ao30 t201.length co30] 28 (0, 0)) (by (with_reducible repeat (first | refine blk_drewN ?_ _ | refine blk_drew ?_ | refine blk_alloc ?_ _)); exact BK204.out) hb)
            have n7_ := Aside0.mk (blk_below (g := gb209) (o := .cells #[.slice Ao39 t205.length co39] 28 (0, 0)) (by (with_reducible repeat (first | refine blk_drewN ?_ _ | refine blk_drew ?_ | refine blk_alloc ?_ _)); exact BK209.out) hb)
            have n8_ := Aside0.mk (below_step (by repeat (first | (with_reducible first | exact HB.out | apply below_alloc | apply pw_below_drewN | apply below_drew1 | refine below_set ?_ GE191.out | refine below_set ?_ GE200.out | refine below_set ?_ GE204.out | refine below_set ?_ GE209.out) | exact HB.out)) hb)
            clear HO_201000
            clear HO_205000
            clear HO_210000
            clear BK191
            clear BK200
            clear BK204
            clear BK209
            clear HB
            have HO_201000 := n0_
            have HO_205000 := n1_
            have HO_210000 := n2_
            have HO213 := n3_
            have BK191 := n4_
            have BK200 := n5_
            have BK204 := n6_
            have BK209 := n7_
            have HB := n8_
            clear n0_ n1_ n2_ n3_ n4_ n5_ n6_ n7_ n8_
            (try clear hb)
            (try clear hb2)
            (try clear hk)
            (try clear hi)
            (try clear ho0)
            obtain ⟨Ao282, co282, eo282⟩ := Kd.R_slice HO213.out
            (first | subst eo282 | (injection eo282 with f1_ f2_ f3_; have f4_ := f1_.symm; have f5_ := f3_.symm; clear f1_ f2_ f3_; subst f4_; subst f5_))
            refine hK.out _ _ ⟨(blk_cell BK204.out 0).trans rfl, (blk_cell BK191.out 0).trans rfl⟩ (fun hHeld => ?_)
            clear hK K
            refine norm_ (a' := ?_) ?_ ?_
            rotate_left
            · show Act.put _ (some 43) _ = _
              simp only [Act.put, List.setIfInBounds_toArray, List.set_cons_zero, List.set_cons_succ, i64_w, i32_w]
              rfl
            refine one_ (i := 3) (N := some 44) #[true, true, true, true, false] rfl rfl (by kernel_rfl) (by decide) (fun K hK => ?_)
            refine goes_ Tryd.func15 (by kernel_rfl) rfl #[.agg #[.slice Ao30 t201.length co30], .agg #[.slice Ao282 t211.length co282]] (by rfl) rfl rfl (by (try simp only [List.map_toArray, List.map_cons, List.map_nil]); first | done | rfl | (simp only [List.length_drop, List.length_take]; rfl)) ?_
            with_reducible refine (laws_eqTable.calls kj10 _ _ t201 _ _ t211 false _ ?side1 ?side2 ?side3 ?side4 A84.out).mono ?_
            (case side1 => repeat (first | exact (Kd.R_reads' HO_205000.out).2.2 | (with_reducible refine Kd.C_alloc ?_ _) | (with_reducible refine Kd.C_drewN ?_ _) | (with_reducible refine Kd.C_drew ?_)))
            (case side2 => exact (Kd.R_reads' HO_205000.out).2.1)
            (case side3 => repeat (first | exact (Kd.R_reads' HO213.out).2.2 | (with_reducible refine Kd.C_alloc ?_ _) | (with_reducible refine Kd.C_drewN ?_ _) | (with_reducible refine Kd.C_drew ?_)))
            (case side4 => exact (Kd.R_reads' HO213.out).2.1)
            rintro e w283 ⟨rfl, hb⟩
            refine ⟨_, rfl, ?_⟩
            have n0_ := Aside0.mk (Kd.R_below (by (with_reducible repeat (first | apply Kd.R_alloc | apply Kd.R_drewN | apply Kd.R_drew)); exact HO_201000.out) hb)
            have n1_ := Aside0.mk (Kd.R_below (by (with_reducible repeat (first | apply Kd.R_alloc | apply Kd.R_drewN | apply Kd.R_drew)); exact HO_205000.out) hb)
            have n2_ := Aside0.mk (Kd.R_below (by (with_reducible repeat (first | apply Kd.R_alloc | apply Kd.R_drewN | apply Kd.R_drew)); exact HO_210000.out) hb)
            have n3_ := Aside0.mk (Kd.R_below (by (with_reducible repeat (first | apply Kd.R_alloc | apply Kd.R_drewN | apply Kd.R_drew)); exact HO213.out) hb)
            have n4_ := Aside0.mk (blk_below (g := gb191) (o := .cells #[.slice A0_0 l0_0.length c0_0] 24 (0, 0)) (by (with_reducible repeat (first | refine blk_drewN ?_ _ | refine blk_drew ?_ | refine blk_alloc ?_ _)); exact BK191.out) hb)
            have n5_ := Aside0.mk (blk_below (g := gb200) (o := .cells #[.slice Ao20 t196.length co20] 28 (0, 0)) (by (with_reducible repeat (first | refine blk_drewN ?_ _ | refine blk_drew ?_ | refine blk_alloc ?_ _)); exact BK200.out) hb)
            have n6_ := Aside0.mk (blk_below (g := gb204) (o := .cells #[.slice Ao30 t201.length co30] 28 (0, 0)) (by (with_reducible repeat (first | refine blk_drewN ?_ _ | refine blk_drew ?_ | refine blk_alloc ?_ _)); exact BK204.out) hb)
            have n7_ := Aside0.mk (blk_below (g := gb209) (o := .cells #[.slice Ao39 t205.length co39] 28 (0, 0)) (by (with_reducible repeat (first | refine blk_drewN ?_ _ | refine blk_drew ?_ | refine blk_alloc ?_ _)); exact BK209.out) hb)
            have n8_ := Aside0.mk (below_step (by repeat (first | (with_reducible first | exact HB.out | apply below_alloc | apply pw_below_drewN | apply below_drew1 | refine below_set ?_ GE191.out | refine below_set ?_ GE200.out | refine below_set ?_ GE204.out | refine below_set ?_ GE209.out) | exact HB.out)) hb)
            clear HO_201000
            clear HO_205000
            clear HO_210000
            clear HO213
            clear BK191
            clear BK200
            clear BK204
            clear BK209
            clear HB
            have HO_201000 := n0_
            have HO_205000 := n1_
            have HO_210000 := n2_
            have HO213 := n3_
            have BK191 := n4_
            have BK200 := n5_
            have BK204 := n6_
            have BK209 := n7_
            have HB := n8_
            clear n0_ n1_ n2_ n3_ n4_ n5_ n6_ n7_ n8_
            (try clear hb)
            (try clear hb2)
            (try clear hk)
            (try clear hi)
            refine hK.out _ _ ⟨(blk_cell BK204.out 0).trans rfl, (blk_cell BK191.out 0).trans rfl⟩ (fun hHeld => ?_)
            clear hK K
            refine norm_ (a' := ?_) ?_ ?_
            rotate_left
            · show Act.put _ (some 44) _ = _
              simp only [Act.put, List.setIfInBounds_toArray, List.set_cons_zero, List.set_cons_succ, i64_w, i32_w]
              rfl
            refine pure_ (i := 4) (N := some 45) (v := ?_) (a' := ?_) #[true, true, true, true, true] rfl rfl (by kernel_rfl) (fun _ _ _ h => h) (Or.inl ⟨by rfl, ?_⟩) ?_ ?_
            rotate_left
            · intro w'
              go_simp
              with_reducible rfl
            rotate_left
            · simp only [Act.put, List.setIfInBounds_toArray, List.set_cons_zero, List.set_cons_succ, i64_w, i32_w]
              rfl
            refine done_ (by kernel_rfl) ?_
            try go_wp2
            go_ret
            exact ⟨by first | rfl | (simp [errW_none, errW_some] <;> rfl) | (simp [*, errW_none, errW_some] <;> rfl), by repeat (first | (with_reducible first | exact HB.out | apply below_alloc | apply pw_below_drewN | apply below_drew1 | refine below_set ?_ GE191.out | refine below_set ?_ GE200.out | refine below_set ?_ GE204.out | refine below_set ?_ GE209.out) | exact HB.out)⟩

/-- THE ONE PURE STATEMENT of laws_FnExactEvenTable: yours. -/
def laws_FnExactEvenTable.Pure : Prop := ∀ (l0_0 : List ByteArray), (l0_0.length ≤ 9223372036854775807) → (∀ y_ ∈ l0_0, (y_.size ≤ 9223372036854775807)) → ∃ k, laws_FnExactEvenTable.f k l0_0 = some true

end Go.Proofs.YtlgmccliclmbaaaDoor.PFnExactEvenTable
