-- Written by a program of this session (the kit's print with this session's additions, wip/tools): Lean checks it. (pressed)
import Derived.Test.YtgpjcfkohlhknaaDoorAbbr
import Derived.Test.YtgpjcfkohlhknaaDoorPFnExactSortTablex0
import Derived.Test.YtgpjcfkohlhknaaDoorPFnExactSortTablex1
import Derived.Test.YtgpjcfkohlhknaaDoorPFnExactSortTablex5
namespace Go.Proofs.YtgpjcfkohlhknaaDoor.PFnExactSortTable
open Go.RowKit Go.Proofs.YtgpjcfkohlhknaaDoorW.PrintWords Go.Proofs.YtgpjcfkohlhknaaDoorW.PrintLast Go.Proofs.YtgpjcfkohlhknaaDoorW.PrintMore
attribute [local go_sem] max2_int min2_int max_two min_two max_three min_three max_four min_four   -- for this text's walks alone
set_option linter.unusedVariables false
set_option linter.unusedSimpArgs false

/-! ### impl_SortTable: function 28 -/
mutual
def impl_SortTable.l0 : Nat → List Int → Int → Int → List ByteArray → Option (List ByteArray × List Int × Bool)
 | 0, _, _, _, _ => none
 | k + 1, x5, x18, x19, x237000 => if x19 < x18 then (if x5.length < 17592186044416 then (impl_SortTable.l0 k (x5 ++ [x19]) x18 (wrap64 (x19 + 1)) x237000) else (none)) else ((slices_SortFunc_int_int.f k x5 x237000).bind fun t247 => (impl_SortTable.l1 k t247 t247 (x5.length : Int) 0 x237000 ([] : List ByteArray)))
def impl_SortTable.l1 : Nat → List Int → List Int → Int → Int → List ByteArray → List ByteArray → Option (List ByteArray × List Int × Bool)
 | 0, _, _, _, _, _, _ => none
 | k + 1, x5, x31, x32, x33, x237000, x243000 => if x33 < x32 then (if 0 ≤ x33 then (if x33 < (x31.length : Int) then (if 0 ≤ (rd x31 x33) then (if (rd x31 x33) < (x237000.length : Int) then (if x243000.length < 8796093022208 then (impl_SortTable.l1 k x5 x31 x32 (wrap64 (x33 + 1)) x237000 (x243000 ++ [rdOf ByteArray.empty x237000 (rd x31 x33)])) else (none)) else (none)) else (none)) else (none)) else (none)) else (some (x243000, x5, true))
end
def impl_SortTable.f (k : Nat) (l0_0 : List ByteArray) : Option (List ByteArray × List Int × Bool) := (impl_isTable.f k l0_0).bind fun t238 => (if t238 = true then (impl_SortTable.l0 k (([] : List Int)) (l0_0.length : Int) 0 l0_0) else (some (([] : List ByteArray), ([] : List Int), false)))
theorem impl_SortTable.mono_l : ∀ k, (∀ y0 y1 y2 y3, LeO (impl_SortTable.l0 k y0 y1 y2 y3) (impl_SortTable.l0 (k + 1) y0 y1 y2 y3)) ∧ (∀ y0 y1 y2 y3 y4 y5, LeO (impl_SortTable.l1 k y0 y1 y2 y3 y4 y5) (impl_SortTable.l1 (k + 1) y0 y1 y2 y3 y4 y5))
 | 0 => ⟨fun _ _ _ _ r h => by simp [impl_SortTable.l0] at h, fun _ _ _ _ _ _ r h => by simp [impl_SortTable.l1] at h⟩
 | k + 1 => by
  obtain ⟨ih0, ih1⟩ := impl_SortTable.mono_l k; refine ⟨?_, ?_⟩
  ·intro y0 y1 y2 y3; unfold impl_SortTable.l0
   repeat' first
   | (with_reducible exact ih0 _ _ _ _)
   | (with_reducible exact ih1 _ _ _ _ _ _)
   | (with_reducible exact impl_isTable.mono _ _)
   | (with_reducible exact slices_SortFunc_int_int.mono _ _ _)
   | (with_reducible exact LeO.refl _)
   | (with_reducible exact LeO.none _)
   | (with_reducible refine LeO.ite ?_ ?_)
   | (with_reducible refine LeO.bind ?_ (fun _ => ?_))
   | exact ih0 _ _ _ _
   | exact ih1 _ _ _ _ _ _
   | exact impl_isTable.mono _ _
   | exact slices_SortFunc_int_int.mono _ _ _
   | exact LeO.none _
   | refine LeO.ite ?_ ?_
   | refine LeO.bind ?_ (fun _ => ?_)
  ·intro y0 y1 y2 y3 y4 y5; unfold impl_SortTable.l1
   repeat' first
   | (with_reducible exact ih0 _ _ _ _)
   | (with_reducible exact ih1 _ _ _ _ _ _)
   | (with_reducible exact impl_isTable.mono _ _)
   | (with_reducible exact slices_SortFunc_int_int.mono _ _ _)
   | (with_reducible exact LeO.refl _)
   | (with_reducible exact LeO.none _)
   | (with_reducible refine LeO.ite ?_ ?_)
   | (with_reducible refine LeO.bind ?_ (fun _ => ?_))
   | exact ih0 _ _ _ _
   | exact ih1 _ _ _ _ _ _
   | exact impl_isTable.mono _ _
   | exact slices_SortFunc_int_int.mono _ _ _
   | exact LeO.none _
   | refine LeO.ite ?_ ?_
   | refine LeO.bind ?_ (fun _ => ?_)
theorem impl_SortTable.mono : ∀ a0 k, LeO (impl_SortTable.f k a0) (impl_SortTable.f (k + 1) a0) := by
 intro a0 k; obtain ⟨ih0, ih1⟩ := impl_SortTable.mono_l k; unfold impl_SortTable.f
 repeat' first
   | (with_reducible exact ih0 _ _ _ _)
   | (with_reducible exact ih1 _ _ _ _ _ _)
   | (with_reducible exact impl_isTable.mono _ _)
   | (with_reducible exact slices_SortFunc_int_int.mono _ _ _)
   | (with_reducible exact LeO.refl _)
   | (with_reducible exact LeO.none _)
   | (with_reducible refine LeO.ite ?_ ?_)
   | (with_reducible refine LeO.bind ?_ (fun _ => ?_))
   | exact ih0 _ _ _ _
   | exact ih1 _ _ _ _ _ _
   | exact impl_isTable.mono _ _
   | exact slices_SortFunc_int_int.mono _ _ _
   | exact LeO.none _
   | refine LeO.ite ?_ ?_
   | refine LeO.bind ?_ (fun _ => ?_)
def impl_SortTable.T13 : Bool × List (List Nat × List Nat) := (true, [([], []), ([0], [0]), ([], []), ([2], [2]), ([], []), ([3, 4], [3, 4]), ([5], [5]), ([6], [6]), ([1, 7], [1, 7]), ([0, 1, 2, 3, 4, 5, 6, 7, 8], []), ([9, 8, 8, 0, 1, 2, 3, 4, 5, 6, 7, 8], [8, 9])])
def impl_SortTable.B13 : List Nat := [0, 1, 0, 4, 0, 28, 60, 124, 255, 511, 1023]
theorem impl_SortTable.tab13 : rtab .any (opsOf Tryd.f28 13) = impl_SortTable.T13 := by kernel_rfl
theorem impl_SortTable.bits13 : waitsOk impl_SortTable.T13.2 impl_SortTable.B13 = true := by kernel_rfl
set_option maxHeartbeats 8000000 in
set_option maxRecDepth 100000 in
theorem impl_SortTable.calls (k : Nat) (A0_0 : Option Addr) (c0_0 : Nat) (l0_0 : List ByteArray) (r1 : List ByteArray) (r2 : List Int) (r3 : Bool) (w : World) (hr0_0 : Kd.C Kd.string w A0_0 l0_0.length l0_0) (hc0_0 : l0_0.length ≤ c0_0) (h : impl_SortTable.f k l0_0 = some (r1, r2, r3)) :
  Calls Tryd.prog 28 #[.agg #[.slice A0_0 l0_0.length c0_0]] w fun e w' => ∃ v0_ v1_ : Value, e = .returned (.tuple #[.agg #[v0_], v1_, .bool r3]) ∧ Kd.R Kd.string 9 w' w.heap.size (fun _ => True) v0_ r1 ∧ Kd.R (Kd.int .i64) 3 w' w.heap.size (fun _ => True) v1_ r2 ∧ Below w.heap.size w w' := by
 have hu28 := Tryd.underlying28; have HR0_0 := Aside0.mk hr0_0; have HC0_0 := Aside0.mk hc0_0; clear hr0_0 hc0_0; have HB := ak (Below.refl w.heap.size w); have H : ((impl_isTable.f k l0_0).bind fun t238 => (if t238 = true then (impl_SortTable.l0 k (([] : List Int)) (l0_0.length : Int) 0 l0_0) else (some (([] : List ByteArray), ([] : List Int), false)))) = some (r1, r2, r3) := h; clear h; replace H := Option.bind_eq_some_iff.mp H; obtain ⟨t238, A20, H⟩ := H; replace H : (if t238 = true then (impl_SortTable.l0 k (([] : List Int)) (l0_0.length : Int) 0 l0_0) else (some (([] : List ByteArray), ([] : List Int), false))) = some (r1, r2, r3) := H; have A2 := Aside0.mk A20; clear A20; by_cases c3 : t238 = true
 ·subst c3; have H1 : (impl_SortTable.l0 k (([] : List Int)) (l0_0.length : Int) 0 l0_0) = some (r1, r2, r3) := by rw [if_pos rfl] at H; first | exact H | (simp only [if_true, eq_self] at H ⊢; exact H)
  clear H; have H := H1; clear H1; obtain ⟨y239, hy239⟩ : ∃ y_ : List Int, y_ = (([] : List Int)) := ⟨_, rfl⟩; replace H : (impl_SortTable.l0 k y239 (l0_0.length : Int) 0 l0_0) = some (r1, r2, r3) := by first | (rw [hy239]; with_reducible exact H) | (have H2_ := (Option.bind_some _ _).symm.trans H; rw [hy239]; with_reducible exact H2_) | (have H2_ := (Option.bind_some _ _).symm.trans H; with_reducible exact H2_) | with_reducible exact H | (rw [hy239]; exact H) | exact H
  have Ny239 := Aside0.mk hy239; clear hy239; have H' := Aside0.mk H; clear H; go_enter Tryd.func28, Tryd.ntmps28
  go_wp2_with (first | ((with_reducible refine gate_dst (N := 1) rfl ?_); refine vbe (N := 1) (cs := #[.slice A0_0 l0_0.length c0_0]) (t := 28) ?_; intro gb236 hg w4 hbox hb; have n0_ := ak (below_step (vh HB.out) hb); have n1_ := ak (hbox); have n2_ := ak (vg hg (vh HB.out)); have n3_ := ak (vg hg (vh HB.out)); clear HB; have HB := n0_; have BK236 := n1_; have GW236 := n2_; have GE236 := n3_; clear n0_ n1_ n2_ n3_; clear hb hbox hg) | ((with_reducible refine gate_dst (N := 2) rfl ?_); refine vbe (N := 2) (cs := #[.slice none 0 0]) (t := 28) ?_; intro gb237 hg w5 hbox hb; have n0_ := ak (blk_below (vb BK236.out) hb); have n1_ := ak (below_step (vs1 HB.out GE236.out) hb); have n2_ := ak (hbox); have n3_ := ak (vg hg (vs1 HB.out GE236.out)); have n4_ := ak (vg hg (vs1 HB.out GE236.out)); have n5_ := ak (vn hg (vb BK236.out)); have n6_ := ak (vn' hg (vb BK236.out)); clear BK236; clear HB; have BK236 := n0_; have HB := n1_; have BK237 := n2_; have GW237 := n3_; have GE237 := n4_; have NB236_237 := n5_; have NB237_236 := n6_; clear n0_ n1_ n2_ n3_ n4_ n5_ n6_; clear hb hbox hg; have hnb6 := NB236_237.out; have hnc6 := NB237_236.out; have hcz7_0 : w5.cell? ⟨gb236, 0, none⟩ = some (.slice A0_0 l0_0.length c0_0) := (blk_cell BK236.out 0).trans rfl; have hfz7_0 := blk_frozen BK236.out 0) | ((with_reducible refine gate_callee (f := 46) rfl ?_); refine goesL_ (some 11) rfl rfl Tryd.func46 (by kernel_rfl) rfl #[.agg #[.slice A0_0 l0_0.length c0_0]] rfl vm ?_; (with_reducible refine (impl_isTable.calls k _ _ l0_0 true _ ?side1 ?side2 A2.out).mono ?_); (case side1 => exact vc HR0_0.out HB.out); (case side2 => exact HC0_0.out); rintro e w8 ⟨rfl, hb⟩; refine ⟨_, rfl, ?_⟩; have n0_ := ak (blk_below (vb BK236.out) hb); have n1_ := ak (blk_below (vb BK237.out) hb); have n2_ := ak (below_step (vs2 HB.out GE236.out GE237.out) hb); clear BK236; clear BK237; clear HB; have BK236 := n0_; have BK237 := n1_; have HB := n2_; clear n0_ n1_ n2_; (try clear hb); (try clear hb2); (try clear hk); (try clear hi)) | ((with_reducible refine gate_dst (N := 14) rfl ?_); refine Kd.R_lit (Kd.int .i64) _ 3 ?hg (N := 14) ?hd (xs := ([] : List Int)) (inner := []) (ok := fun _ => True) (okp := fun _ => True) ?hr ?hp (fun _ hk => hk) trivial (Below.refl _ _) (Nat.le_refl _) (by simp) ?_; (case hd => rfl); (case hg => rfl); (case hr => first | (go_simp; done) | (go_simp; rfl)); (case hp => exact (Reps.none _ _)); intro v240 w9 ho10 hb hg_ hnew_; clear hg_ hnew_; (first | rw [← Ny239.out] at ho10 | (simp only [Int.reduceToNat] at ho10; rw [← Ny239.out] at ho10)); have n0_ := ak (Kd.R_lower ho10 (below_size (vs2 HB.out GE236.out GE237.out))); have n1_ := ak (blk_below (vb BK236.out) hb); have n2_ := ak (blk_below (vb BK237.out) hb); have n3_ := ak (below_step (vs2 HB.out GE236.out GE237.out) hb); clear BK236; clear BK237; clear HB; have HO241 := n0_; have BK236 := n1_; have BK237 := n2_; have HB := n3_; clear n0_ n1_ n2_ n3_; clear hb ho10) | ((with_reducible refine gate_dst (N := 6) rfl ?_); refine vbe (N := 6) (cs := #[.slice none 0 0]) (t := 28) ?_; intro gb242 hg w11 hbox hb; have n0_ := ak (Kd.R_below (vr HO241.out) hb); have n1_ := ak (blk_below (vb BK236.out) hb); have n2_ := ak (blk_below (vb BK237.out) hb); have n3_ := ak (below_step (vs2 HB.out GE236.out GE237.out) hb); have n4_ := ak (hbox); have n5_ := ak (vg hg (vs2 HB.out GE236.out GE237.out)); have n6_ := ak (vg hg (vs2 HB.out GE236.out GE237.out)); have n7_ := ak (vn hg (vb BK236.out)); have n8_ := ak (vn' hg (vb BK236.out)); have n9_ := ak (vn hg (vb BK237.out)); have n10_ := ak (vn' hg (vb BK237.out)); clear HO241; clear BK236; clear BK237; clear HB; have HO241 := n0_; have BK236 := n1_; have BK237 := n2_; have HB := n3_; have BK242 := n4_; have GW242 := n5_; have GE242 := n6_; have NB236_242 := n7_; have NB242_236 := n8_; have NB237_242 := n9_; have NB242_237 := n10_; clear n0_ n1_ n2_ n3_ n4_ n5_ n6_ n7_ n8_ n9_ n10_; clear hb hbox hg; have hnb12 := NB242_236.out; have hnc12 := NB236_242.out; have hnb13 := NB242_237.out; have hnc13 := NB237_242.out; (try (have hnw15 := Kd.R_ne HO241.out BK242.out (by decide); change some gb242 ≠ some _ at hnw15; have how15 := fun (e_ : gb242 = _) => hnw15 (congrArg some e_); have hpw15 := fun e_ => how15 (Eq.symm e_); clear hnw15; replace how15 := eq_false how15; replace hpw15 := eq_false hpw15)); have hcz14_0 : w11.cell? ⟨gb242, 0, none⟩ = some (.slice none 0 0) := (blk_cell BK242.out 0).trans rfl; have hfz14_0 := blk_frozen BK242.out 0; (try (have hnw17 := Kd.R_ne HO241.out BK236.out (by decide); change some gb236 ≠ some _ at hnw17; have how17 := fun (e_ : gb236 = _) => hnw17 (congrArg some e_); have hpw17 := fun e_ => how17 (Eq.symm e_); clear hnw17; replace how17 := eq_false how17; replace hpw17 := eq_false hpw17)); have hcz16_0 : w11.cell? ⟨gb236, 0, none⟩ = some (.slice A0_0 l0_0.length c0_0) := (blk_cell BK236.out 0).trans rfl; have hfz16_0 := blk_frozen BK236.out 0))
  go_loopg [5, 19] k (fun kq v5 v19 w' => ∃ (x5_1 : List Int) (x19_1 : Int), v19 = .int .i64 x19_1 ∧ Aside0 (impl_SortTable.l0 kq x5_1 (l0_0.length : Int) x19_1 l0_0 = some (r1, r2, r3)) ∧ Aside0 (kq ≤ k) ∧ Aside0 (Kd.R (Kd.int .i64) 3 w' w.heap.size (fun _ => True) v5 x5_1) ∧ Aside0 (w'.heap[gb236]? = some (.cells #[(.slice A0_0 l0_0.length c0_0)] 28 (0, 0))) ∧ Aside0 (w'.heap[gb237]? = some (.cells #[(.slice none 0 0)] 28 (0, 0))) ∧ Aside0 (w'.heap[gb242]? = some (.cells #[(.slice none 0 0)] 28 (0, 0))) ∧ Aside0 (Below w.heap.size w w'))
  case atStart => exact ⟨(y239), (0), (by first | rfl | (simp; done) | (simp [*]; done)), H', ⟨Nat.le_refl _⟩, ⟨by (with_reducible repeat (first | apply Kd.R_alloc | apply Kd.R_drewN | apply Kd.R_drew)); exact Kd.R_mono (Kd.R_far (p := ⟨gb242, 0, none⟩) (Kd.R_types HO241.out BK242.out (by decide)) (fun _ hk => hk.2) (.slice none 0 0)) (fun _ hk => trivial)⟩, ⟨by (with_reducible repeat (first | refine blk_drewN ?_ _ | refine blk_drew ?_ | refine blk_alloc ?_ _)); refine blk_far ?_ NB236_242.out _; exact vb BK236.out⟩, ⟨by (with_reducible repeat (first | refine blk_drewN ?_ _ | refine blk_drew ?_ | refine blk_alloc ?_ _)); refine blk_far ?_ NB237_242.out _; exact vb BK237.out⟩, ⟨by (with_reducible repeat (first | refine blk_drewN ?_ _ | refine blk_drew ?_ | refine blk_alloc ?_ _)); refine blk_put (cs := #[.slice none 0 0]) ?_ 0 _ rfl; exact vb BK242.out⟩, ⟨by exact vs3 HB.out GE236.out GE237.out GE242.out⟩⟩
  case round =>
   clear H'; try clear c1
   try clear c2
   try clear p2
   try clear c3
   try clear c4
   try clear c6
   try clear c12
   try clear c13
   try clear hcz14_0
   try clear hcz16_0
   try clear hcz7_0
   try clear hfz14_0
   try clear hfz16_0
   try clear hfz7_0
   obtain ⟨x5_1, x19_1, rfl, HA, HK1, HO_5, BK236, BK237, BK242, HB⟩ := hrel; cases gk with
   | zero => exact absurd HA.out (by simp [impl_SortTable.l0])
   | succ k1 =>
    have H := HA.out; clear HA; simp only [impl_SortTable.l0] at H
    by_cases c18 : x19_1 < (l0_0.length : Int)
    ·rw [if_pos c18] at H
     have c18b0 : decide (x19_1 < (l0_0.length : Int)) = true := decide_eq_true c18; clear c18; by_cases c19 : x5_1.length < 17592186044416
     ·rw [if_pos c19] at H
      have LMc19 := Aside0.mk c19; clear c19; obtain ⟨y243, hy243⟩ : ∃ y_ : List Int, y_ = (x5_1 ++ [x19_1]) := ⟨_, rfl⟩; replace H : (impl_SortTable.l0 k1 y243 (l0_0.length : Int) (wrap64 (x19_1 + 1)) l0_0) = some (r1, r2, r3) := by first | (rw [hy243]; with_reducible exact H) | (have H2_ := (Option.bind_some _ _).symm.trans H; rw [hy243]; with_reducible exact H2_) | (have H2_ := (Option.bind_some _ _).symm.trans H; with_reducible exact H2_) | with_reducible exact H | (rw [hy243]; exact H) | exact H
      have Ny243 := Aside0.mk hy243; clear hy243; have H' := Aside0.mk H; clear H; go_wp2_with (first | ((with_reducible refine gate_builtin (b := .append) (xs := #[.tmp 22, .tmp 24]) rfl ?_); at_builtin; refine Kd.R_append (Kd.int .i64) (w0 := w) w.heap.size rfl (.tmp 22) (.tmp 24) 35 3 (.int .i64 0) 8 rfl Tryd.underlying35 info3 rfl (by decide) (by omega) u5 x5_1 x19_1 [.int .i64 x19_1] (fun _ => True) (fun _ => False) rfl rfl ?aP (fun _ hk => hk.elim) ?aF ?aO ?aB ?aS ?aL ?_; (case aP => exact rfl); (case aB => exact (vs3 HB.out GE236.out GE237.out GE242.out)); (case aF => exact (fun _ _ => trivial)); (case aO => exact (vr HO_5.out)); (case aS => exact (below_size (vs3 HB.out GE236.out GE237.out GE242.out))); (case aL => have := LMc19.out; omega); intro v244 w20 ho hb hg hat; rw [← Ny243.out] at ho; have n0_ := ak (blk_grown (g := gb236) (o := .cells #[.slice A0_0 l0_0.length c0_0] 28 (0, 0)) (vb BK236.out) hg (Kd.R_ne HO_5.out BK236.out (by decide))); have n1_ := ak (blk_grown (g := gb237) (o := .cells #[.slice none 0 0] 28 (0, 0)) (vb BK237.out) hg (Kd.R_ne HO_5.out BK237.out (by decide))); have n2_ := ak (blk_grown (g := gb242) (o := .cells #[.slice none 0 0] 28 (0, 0)) (vb BK242.out) hg (Kd.R_ne HO_5.out BK242.out (by decide))); have n3_ := ak (hb); have n4_ := ak (ho); clear BK236; clear BK237; clear BK242; clear HB; clear HO_5; have BK236 := n0_; have BK237 := n1_; have BK242 := n2_; have HB := n3_; have HO245 := n4_; clear n0_ n1_ n2_ n3_ n4_; clear ho hb hg hat))
      go_roundg k1
      case measure => have := HK1.out; omega
      case rel => exact ⟨(y243), (wrap64 (x19_1 + 1)), vq, H', ⟨by have := HK1.out; omega⟩, ⟨by exact vr HO245.out⟩, ⟨by exact vb BK236.out⟩, ⟨by exact vb BK237.out⟩, ⟨by exact vb BK242.out⟩, ⟨by exact vs3 HB.out GE236.out GE237.out GE242.out⟩⟩
     ·rw [if_neg c19] at H
      exact absurd H (by simp)
    ·rw [if_neg c18] at H
     have c18b0 : decide (x19_1 < (l0_0.length : Int)) = false := decide_eq_false c18; clear c18; replace H := Option.bind_eq_some_iff.mp H; obtain ⟨t247, A210, H⟩ := H; replace H : (impl_SortTable.l1 k1 t247 t247 (x5_1.length : Int) 0 l0_0 ([] : List ByteArray)) = some (r1, r2, r3) := H; have A21 := Aside0.mk A210; clear A210; have H' := Aside0.mk H; clear H; have hnb22 := NB236_237.out; have hnc22 := NB237_236.out; have hnb23 := NB236_242.out; have hnc23 := NB242_236.out; (try (have hnw25 := Kd.R_ne HO_5.out BK236.out (by decide); change some gb236 ≠ some _ at hnw25; have how25 := fun (e_ : gb236 = _) => hnw25 (congrArg some e_); have hpw25 := fun e_ => how25 (Eq.symm e_); clear hnw25; replace how25 := eq_false how25; replace hpw25 := eq_false hpw25)); have hcz24_0 : wr.cell? ⟨gb236, 0, none⟩ = some (.slice A0_0 l0_0.length c0_0) := (blk_cell BK236.out 0).trans rfl; have hfz24_0 := blk_frozen BK236.out 0; go_wp2_with (first | ((with_reducible refine gate_dst (N := 29) rfl ?_); refine impl_byNode.event ?hg (N := 29) ?hd (cs := #[.slice A0_0 l0_0.length c0_0]) (t := 28) ?hr ?_; (case hd => rfl); (case hg => rfl); (case hr => exact ⟨_, _, rfl, rfl, _, _, _, rfl, rfl⟩); intro gb246 hg w26 hbox hb; have n0_ := ak (Kd.R_below (vr HO_5.out) hb); have n1_ := ak (blk_below (vb BK236.out) hb); have n2_ := ak (blk_below (vb BK237.out) hb); have n3_ := ak (blk_below (vb BK242.out) hb); have n4_ := ak (below_step (vs3 HB.out GE236.out GE237.out GE242.out) hb); have n5_ := ak (hbox); have n6_ := ak (vg hg (vs3 HB.out GE236.out GE237.out GE242.out)); have n7_ := ak (vg hg (vs3 HB.out GE236.out GE237.out GE242.out)); have n8_ := ak (vn hg (vb BK236.out)); have n9_ := ak (vn' hg (vb BK236.out)); have n10_ := ak (vn hg (vb BK237.out)); have n11_ := ak (vn' hg (vb BK237.out)); have n12_ := ak (vn hg (vb BK242.out)); have n13_ := ak (vn' hg (vb BK242.out)); clear HO_5; clear BK236; clear BK237; clear BK242; clear HB; have HO_5 := n0_; have BK236 := n1_; have BK237 := n2_; have BK242 := n3_; have HB := n4_; have BK246 := n5_; have GW246 := n6_; have GE246 := n7_; have NB236_246 := n8_; have NB246_236 := n9_; have NB237_246 := n10_; have NB246_237 := n11_; have NB242_246 := n12_; have NB246_242 := n13_; clear n0_ n1_ n2_ n3_ n4_ n5_ n6_ n7_ n8_ n9_ n10_ n11_ n12_ n13_; clear hb hbox hg; have hnb27 := NB246_236.out; have hnc27 := NB236_246.out; have hnb28 := NB246_237.out; have hnc28 := NB237_246.out; have hnb29 := NB246_242.out; have hnc29 := NB242_246.out; (try (have hnw31 := Kd.R_ne HO_5.out BK246.out (by decide); change some gb246 ≠ some _ at hnw31; have how31 := fun (e_ : gb246 = _) => hnw31 (congrArg some e_); have hpw31 := fun e_ => how31 (Eq.symm e_); clear hnw31; replace how31 := eq_false how31; replace hpw31 := eq_false hpw31)); have hcz30_0 : w26.cell? ⟨gb246, 0, none⟩ = some (.slice A0_0 l0_0.length c0_0) := (blk_cell BK246.out 0).trans rfl; have hfz30_0 := blk_frozen BK246.out 0; obtain ⟨Ao32, co32, eo32⟩ := Kd.R_slice HO_5.out; subst eo32) | ((with_reducible refine gate_callee (f := 66) rfl ?_); refine goesL_ (some 30) rfl rfl Tryd.func66 (by kernel_rfl) rfl #[.slice Ao32 x5_1.length co32, .func (.func 100) #[] #[.pointer (some ⟨gb246, 0, none⟩)]] rfl vm ?_; (with_reducible refine (slices_SortFunc_int_int.calls k1 (fun k_ => some k_ = (.slice Ao32 x5_1.length co32 : Value).ownBlock) (.slice Ao32 x5_1.length co32) x5_1 gb246 A0_0 c0_0 l0_0 t247 w _ ?side1 ?side2 ?side3 ?side4 ?side5 A21.out).mono ?_); (case side1 => repeat (first | (with_reducible first | exact HB.out | apply below_alloc | apply pw_below_drewN | apply below_drew1 | refine below_set ?_ GE236.out | refine below_set ?_ GE237.out | refine below_set ?_ GE242.out | refine below_set ?_ GE246.out) | exact HB.out)); (case side2 => exact Kd.R_tight rfl HO_5.out); (case side3 => exact vb BK246.out); (case side4 => exact HR0_0.out); (case side5 => exact HC0_0.out); rintro e w33 ⟨rfl, hy0, hb, hkp⟩; refine ⟨_, rfl, ?_⟩; have n0_ := ak (Kd.R_reok rfl hy0 (fun k_ e_ => HO_5.out.1 k_ e_)); have n1_ := ak (blk_kept (vb BK236.out) hkp (fun hs_ => (fun e_ => (Kd.R_ne HO_5.out BK236.out (by decide)) e_) hs_)); have n2_ := ak (blk_kept (vb BK237.out) hkp (fun hs_ => (fun e_ => (Kd.R_ne HO_5.out BK237.out (by decide)) e_) hs_)); have n3_ := ak (blk_kept (vb BK242.out) hkp (fun hs_ => (fun e_ => (Kd.R_ne HO_5.out BK242.out (by decide)) e_) hs_)); have n4_ := ak (blk_kept (vb BK246.out) hkp (fun hs_ => (fun e_ => (Kd.R_ne HO_5.out BK246.out (by decide)) e_) hs_)); have n5_ := ak (hb); clear HO_5; clear BK236; clear BK237; clear BK242; clear BK246; clear HB; have HO_5 := n0_; have BK236 := n1_; have BK237 := n2_; have BK242 := n3_; have BK246 := n4_; have HB := n5_; clear n0_ n1_ n2_ n3_ n4_ n5_; (try clear hb); (try clear hkp); (try clear hy0)))
     go_loopg [33] k1 (fun kq v33 w' => ∃ (x33_2 : Int) (x243000_2 : List ByteArray) (u243000 : Value), v33 = .int .i64 x33_2 ∧ Aside0 (impl_SortTable.l1 kq t247 t247 (x5_1.length : Int) x33_2 l0_0 x243000_2 = some (r1, r2, r3)) ∧ Aside0 (kq ≤ k1) ∧ Aside0 (Kd.R (Kd.int .i64) 3 w' w.heap.size (fun _ => True) (.slice Ao32 x5_1.length co32) t247) ∧ Aside0 (Kd.R (Kd.int .i64) 3 w' w.heap.size (fun _ => True) (.slice Ao32 x5_1.length co32) t247) ∧ Aside0 (Kd.R Kd.string 9 w' w.heap.size (fun _ => True) u243000 x243000_2) ∧ Aside0 (w'.heap[gb236]? = some (.cells #[(.slice A0_0 l0_0.length c0_0)] 28 (0, 0))) ∧ Aside0 (w'.heap[gb237]? = some (.cells #[(.slice none 0 0)] 28 (0, 0))) ∧ Aside0 (w'.heap[gb242]? = some (.cells #[u243000] 28 (0, 0))) ∧ Aside0 (w'.heap[gb246]? = some (.cells #[(.slice A0_0 l0_0.length c0_0)] 28 (0, 0))) ∧ Aside0 (Below w.heap.size w w'))
     case atStart => exact ⟨(0), (([] : List ByteArray)), (.slice none 0 0), (by first | rfl | (simp; done) | (simp [*]; done)), H', ⟨Nat.le_refl _⟩, ⟨by exact vr HO_5.out⟩, ⟨by exact vr HO_5.out⟩, ⟨by first | exact Kd.R_nil _ _ _ _ _ | exact Kd.N_nil _ _ _ _ _ | exact Kd.V_nil _ _ _ _ _ | exact Kd.Q_nil _ _ _ _ _ | exact Kd.S_nil _ _ _ _ _⟩, ⟨by exact vb BK236.out⟩, ⟨by exact vb BK237.out⟩, ⟨by exact vb BK242.out⟩, ⟨by exact vb BK246.out⟩, ⟨by repeat (first | (with_reducible first | exact HB.out | apply below_alloc | apply pw_below_drewN | apply below_drew1 | refine below_set ?_ GE236.out | refine below_set ?_ GE237.out | refine below_set ?_ GE242.out | refine below_set ?_ GE246.out) | exact HB.out)⟩⟩
     case round =>
      clear H'; try clear c1
      try clear c2
      try clear p2
      try clear c3
      try clear c4
      try clear c6
      try clear p6
      try clear c12
      try clear c13
      try clear c18
      try clear c18b0
      try clear c19
      try clear c22
      try clear c23
      try clear c27
      try clear c28
      try clear c29
      try clear hcz14_0
      try clear hcz16_0
      try clear hcz24_0
      try clear hcz30_0
      try clear hcz7_0
      try clear hfz14_0
      try clear hfz16_0
      try clear hfz24_0
      try clear hfz30_0
      try clear hfz7_0
      try clear p2
      obtain ⟨x33_2, x243000_2, u243000, rfl, HA, HK2, HO_5, HO_31, HO_243000, BK236, BK237, BK242, BK246, HB⟩ := hrel; have hl5_2 := (Kd.R_reads' HO_5.out).1; rw [hl5_2] at HO_5
      (try simp only [hl5_2]); (try simp only [hl5_2] at BK236); (try simp only [hl5_2] at BK237); (try simp only [hl5_2] at BK242); (try simp only [hl5_2] at BK246); (try simp only [hl5_2] at HO_31); (try simp only [hl5_2] at HO_243000); have hl31_2 := (Kd.R_reads' HO_31.out).1; rw [hl31_2] at HO_31
      (try simp only [hl31_2]); (try simp only [hl31_2] at BK236); (try simp only [hl31_2] at BK237); (try simp only [hl31_2] at BK242); (try simp only [hl31_2] at BK246); (try simp only [hl31_2] at HO_5); (try simp only [hl31_2] at HO_243000); cases gk with
      | zero => exact absurd HA.out (by simp [impl_SortTable.l1])
      | succ k2 =>
       have H := HA.out; clear HA; simp only [impl_SortTable.l1] at H
       by_cases c34 : x33_2 < (x5_1.length : Int)
       ·rw [if_pos c34] at H
        have c34b0 : decide (x33_2 < (x5_1.length : Int)) = true := decide_eq_true c34; clear c34; by_cases c35 : 0 ≤ x33_2
        ·rw [if_pos c35] at H
         have c35b0 : decide (0 ≤ x33_2) = true := decide_eq_true c35; clear c35; by_cases c36 : x33_2 < (t247.length : Int)
         ·rw [if_pos c36] at H
          have c36b0 : decide (x33_2 < (t247.length : Int)) = true := decide_eq_true c36; clear c36; by_cases c37 : 0 ≤ (rd t247 x33_2)
          ·rw [if_pos c37] at H
           have c37b0 : decide (0 ≤ (rd t247 x33_2)) = true := decide_eq_true c37; clear c37; by_cases c38 : (rd t247 x33_2) < (l0_0.length : Int)
           ·rw [if_pos c38] at H
            have c38b0 : decide ((rd t247 x33_2) < (l0_0.length : Int)) = true := decide_eq_true c38; clear c38; by_cases c39 : x243000_2.length < 8796093022208
            ·rw [if_pos c39] at H
             have LMc39 := Aside0.mk c39; clear c39; obtain ⟨y250, hy250⟩ : ∃ y_ : List ByteArray, y_ = (x243000_2 ++ [rdOf ByteArray.empty l0_0 (rd t247 x33_2)]) := ⟨_, rfl⟩; replace H : (impl_SortTable.l1 k2 t247 t247 (x5_1.length : Int) (wrap64 (x33_2 + 1)) l0_0 y250) = some (r1, r2, r3) := by first | (rw [hy250]; with_reducible exact H) | (have H2_ := (Option.bind_some _ _).symm.trans H; rw [hy250]; with_reducible exact H2_) | (have H2_ := (Option.bind_some _ _).symm.trans H; with_reducible exact H2_) | with_reducible exact H | (rw [hy250]; exact H) | exact H
             have Ny250 := Aside0.mk hy250; clear hy250; have H' := Aside0.mk H; clear H; have p248 : 0 ≤ (x33_2 : Int) := of_decide_eq_true va; have q248 : x33_2 < (t247.length : Int) := of_decide_eq_true va; obtain ⟨ad248, e248, hx248_0⟩ := Kd.at_int (Kd.R_reads' HO_31.out).2.2 x33_2 p248 q248; cases e248; replace p248 := eq_true p248; replace q248 := eq_true q248; try go_wp2
             have n0_ := ak (Kd.R_drew HO_5.out); have n1_ := ak (Kd.R_drew HO_31.out); have n2_ := ak (Kd.R_drew HO_243000.out); have n3_ := ak (blk_drew BK236.out); have n4_ := ak (blk_drew BK237.out); have n5_ := ak (blk_drew BK242.out); have n6_ := ak (blk_drew BK246.out); have n7_ := ak (below_drew1 HB.out); clear HO_5; clear HO_31; clear HO_243000; clear BK236; clear BK237; clear BK242; clear BK246; clear HB; have HO_5 := n0_; have HO_31 := n1_; have HO_243000 := n2_; have BK236 := n3_; have BK237 := n4_; have BK242 := n5_; have BK246 := n6_; have HB := n7_; clear n0_ n1_ n2_ n3_ n4_ n5_ n6_ n7_; have p249 : 0 ≤ ((rd t247 x33_2) : Int) := of_decide_eq_true va; have q249 : (rd t247 x33_2) < (l0_0.length : Int) := of_decide_eq_true va; obtain ⟨ad249, e249, hx249_0⟩ := Kd.at_string HR0_0.out (rd t247 x33_2) p249 q249; have hw249_0 := hx249_0; cases e249; (try replace hx249_0 := vl HB.out hx249_0); replace p249 := eq_true p249; replace q249 := eq_true q249; refine start_ (n := 11) (S := fun w' => w'.cell? ⟨gb242, 0, none⟩ = some (u243000) ∧ w'.cell? ⟨gb236, 0, none⟩ = some (.slice (some ad249) l0_0.length c0_0) ∧ w'.cell? (ad249.add ((rd t247 x33_2)).toNat) = some (.string (rdOf ByteArray.empty l0_0 (rd t247 x33_2)))) (ds := [10]) #[false, false, false, false, false, false, false, false, false, false, false] (by kernel_rfl) rfl rfl ⟨(blk_cell BK242.out 0).trans rfl, (blk_cell BK236.out 0).trans rfl, (vl HB.out hw249_0 :)⟩ (fun hHeld => ?_); refine with_tabW impl_SortTable.tab13 impl_SortTable.bits13 (fun HT_ HW_ => ?_); generalize wr.drew = w40 at HO_5 HO_31 HO_243000 BK236 BK237 BK242 BK246 HB hx249_0 hHeld ⊢
             refine px 0 37 #[true, false, false, false, false, false, false, false, false, false, false] rfl HT_.out ?_ (.inl ⟨by rfl, ?_⟩) ?_ ?_ ?_; rotate_left
             ·intro w'; go_simp; with_reducible rfl
             rotate_left
             ·simp only [ap1, ap2, ap3, ap4, i64_w, i32_w]; rfl
             refine px 2 39 #[true, false, true, false, false, false, false, false, false, false, false] rfl HT_.out ?_ (.inl ⟨by rfl, ?_⟩) ?_ ?_ ?_; rotate_left
             ·intro w'; go_simp; with_reducible rfl
             rotate_left
             ·simp only [ap1, ap2, ap3, ap4, i64_w, i32_w]; rfl
             refine px 4 41 #[true, false, true, false, true, false, false, false, false, false, false] rfl HT_.out ?_ (.inl ⟨by rfl, ?_⟩) ?_ ?_ ?_; rotate_left
             ·intro w'; go_simp; with_reducible rfl
             rotate_left
             ·simp only [ap1, ap2, ap3, ap4, i64_w, i32_w]; rfl
             refine tx 1 38 #[true, true, true, false, true, false, false, false, false, false, false] rfl HT_.out HW_.out hHeld ?_ (.inl ⟨by rfl, ?_⟩) ?_ ?_ ?_; rotate_left
             ·rintro w' ⟨s0, s1, s2⟩; go_simp; with_reducible rfl
             rotate_left
             ·simp only [ap1, ap2, ap3, ap4, i64_w, i32_w]; rfl
             refine tx 3 40 #[true, true, true, true, true, false, false, false, false, false, false] rfl HT_.out HW_.out hHeld ?_ (.inl ⟨by rfl, ?_⟩) ?_ ?_ ?_; rotate_left
             ·rintro w' ⟨s0, s1, s2⟩; go_simp; with_reducible rfl
             rotate_left
             ·simp only [ap1, ap2, ap3, ap4, i64_w, i32_w]; rfl
             refine px 5 42 #[true, true, true, true, true, true, false, false, false, false, false] rfl HT_.out ?_ (.inl ⟨by rfl, ?_⟩) ?_ ?_ ?_; rotate_left
             ·intro w'; go_simp; with_reducible rfl
             rotate_left
             ·simp only [ap1, ap2, ap3, ap4, i64_w, i32_w]; rfl
             refine tx 6 43 #[true, true, true, true, true, true, true, false, false, false, false] rfl HT_.out HW_.out hHeld ?_ (.inl ⟨by rfl, ?_⟩) ?_ ?_ ?_; rotate_left
             ·rintro w' ⟨s0, s1, s2⟩; go_simp; with_reducible rfl
             rotate_left
             ·simp only [ap1, ap2, ap3, ap4, i64_w, i32_w]; rfl
             refine one_ (i := 7) (N := some 44) #[true, true, true, true, true, true, true, true, false, false, false] rfl rfl (one_of HT_.out (by kernel_rfl)) (by decide) (fun K hK => ?_); refine value_ (w1 := ?_) (v := ?_) (by rfl) rfl ?_ ?_; rotate_left 2
             ·go_simp; constructor
              ·rfl
              ·rfl
             refine hK.out _ _ ⟨(blk_cell (blk_alloc BK242.out _) 0).trans rfl, (blk_cell (blk_alloc BK236.out _) 0).trans rfl, (World.cell?_alloc_lt _ _ _ (World.block_lt_of_cell? _ _ ((vl HB.out hw249_0 :)))).trans ((vl HB.out hw249_0 :))⟩ (fun hHeld => ?_); clear hK K; refine norm_ (a' := ?_) ?_ ?_; rotate_left
             ·show Act.put _ (some 44) _ = _; simp only [ap1, ap2, ap3, ap4, i64_w, i32_w]; rfl
             refine one_ (i := 8) (N := some 45) #[true, true, true, true, true, true, true, true, true, false, false] rfl rfl (one_of HT_.out (by kernel_rfl)) (by decide) (fun K hK => ?_); refine Kd.R_append_step Kd.string (w0 := w) w.heap.size (by rfl) (.tmp 38) (.tmp 44) 22 9 (.string ⟨#[]⟩) 16 rfl Tryd.underlying22 info9 rfl (by decide) (by omega) u243000 x243000_2 (rdOf ByteArray.empty l0_0 (rd t247 x33_2)) [.string (rdOf ByteArray.empty l0_0 (rd t247 x33_2))] (fun _ => True) (fun _ => False) rfl rfl ?aP (fun _ hk => hk.elim) ?aF ?aO ?aB ?aS ?aL ?_; (case aP => exact rfl)
             (case aB => exact (by repeat (first | (with_reducible first | exact HB.out | apply below_alloc | apply pw_below_drewN | apply below_drew1 | refine below_set ?_ GE236.out | refine below_set ?_ GE237.out | refine below_set ?_ GE242.out | refine below_set ?_ GE246.out) | exact HB.out)))
             (case aF => exact (fun _ _ => trivial))
             (case aO => exact (vr HO_243000.out))
             (case aS => exact (below_size (by repeat (first | (with_reducible first | exact HB.out | apply below_alloc | apply pw_below_drewN | apply below_drew1 | refine below_set ?_ GE236.out | refine below_set ?_ GE237.out | refine below_set ?_ GE242.out | refine below_set ?_ GE246.out) | exact HB.out))))
             (case aL => have := LMc39.out; omega)
             intro v251 w41 ho hb hg hat; rw [← Ny250.out] at ho
             have n0_ := ak (Kd.R_over' (vr HO_5.out) (Kd.R_typed (vr HO_243000.out)) (by decide) hg); have n1_ := ak (Kd.R_over' (vr HO_31.out) (Kd.R_typed (vr HO_243000.out)) (by decide) hg); have n2_ := ak (blk_grown (g := gb236) (o := .cells #[.slice (some ad249) l0_0.length c0_0] 28 (0, 0)) (vb BK236.out) hg (Kd.R_ne HO_243000.out BK236.out (by decide))); have n3_ := ak (blk_grown (g := gb237) (o := .cells #[.slice none 0 0] 28 (0, 0)) (vb BK237.out) hg (Kd.R_ne HO_243000.out BK237.out (by decide))); have n4_ := ak (blk_grown (g := gb242) (o := .cells #[u243000] 28 (0, 0)) (vb BK242.out) hg (Kd.R_ne HO_243000.out BK242.out (by decide))); have n5_ := ak (blk_grown (g := gb246) (o := .cells #[.slice (some ad249) l0_0.length c0_0] 28 (0, 0)) (vb BK246.out) hg (Kd.R_ne HO_243000.out BK246.out (by decide))); have n6_ := ak (hb); have n7_ := ak (ho); clear HO_5; clear HO_31; clear BK236; clear BK237; clear BK242; clear BK246; clear HB; clear HO_243000; have HO_5 := n0_; have HO_31 := n1_; have BK236 := n2_; have BK237 := n3_; have BK242 := n4_; have BK246 := n5_; have HB := n6_; have HO252 := n7_; clear n0_ n1_ n2_ n3_ n4_ n5_ n6_ n7_; clear ho hb hg hat; obtain ⟨Ao42, co42, eo42⟩ := Kd.R_slice HO252.out; (first | subst eo42 | (injection eo42 with f1_ f2_ f3_; have f4_ := f1_.symm; have f5_ := f3_.symm; clear f1_ f2_ f3_; subst f4_; subst f5_)); refine hK.out _ _ ⟨(blk_cell BK242.out 0).trans rfl, (blk_cell BK236.out 0).trans rfl, (vl HB.out hw249_0 :)⟩ (fun hHeld => ?_); clear hK K; refine norm_ (a' := ?_) ?_ ?_; rotate_left
             ·show Act.put _ (some 45) _ = _; simp only [ap1, ap2, ap3, ap4, i64_w, i32_w]; rfl
             refine px 9 46 #[true, true, true, true, true, true, true, true, true, true, false] rfl HT_.out ?_ (.inl ⟨by rfl, ?_⟩) ?_ ?_ ?_; rotate_left
             ·intro w'; go_simp; with_reducible rfl
             rotate_left
             ·simp only [ap1, ap2, ap3, ap4, i64_w, i32_w]; rfl
             refine last_ (i := 10) (N := none) #[true, true, true, true, true, true, true, true, true, true, true] rfl rfl (one_of HT_.out (by kernel_rfl)) (by decide) (fun K hK => ?_); have hs43 : w41.cell? ⟨gb242, 0, none⟩ = some (u243000) := (blk_cell BK242.out 0).trans rfl; have hfs43 := blk_frozen BK242.out 0; have hns43_0 := NB236_242.out; have hns43_1 := NB237_242.out; have hns43_3 := NB246_242.out; have hms43_0 := NB242_236.out; have hms43_1 := NB242_237.out; have hms43_3 := NB242_246.out; refine skip_ (w1 := ?_) (by rfl) rfl ?_ ?_; rotate_left
             ·go_simp; rfl
             refine hK.out _ _ ?_; clear hK K; refine done_ (done_of HT_.out (by kernel_rfl)) ?_; try go_wp2
             (try simp only [← hl5_2]); (try simp only [← hl31_2]); go_roundg k2
             case measure => have := HK1.out; have := HK2.out; omega
             case rel => exact ⟨(wrap64 (x33_2 + 1)), (y250), (.slice Ao42 y250.length co42), vq, H', ⟨by have := HK1.out; have := HK2.out; omega⟩, ⟨by (try simp only [hl5_2]); (try simp only [hl31_2]); (with_reducible repeat (first | apply Kd.R_alloc | apply Kd.R_drewN | apply Kd.R_drew)); exact Kd.R_mono (Kd.R_far (p := ⟨gb242, 0, none⟩) (Kd.R_types HO_5.out BK242.out (by decide)) (fun _ hk => hk.2) (.slice Ao42 y250.length co42)) (fun _ hk => trivial)⟩, ⟨by (try simp only [hl5_2]); (try simp only [hl31_2]); (with_reducible repeat (first | apply Kd.R_alloc | apply Kd.R_drewN | apply Kd.R_drew)); exact Kd.R_mono (Kd.R_far (p := ⟨gb242, 0, none⟩) (Kd.R_types HO_31.out BK242.out (by decide)) (fun _ hk => hk.2) (.slice Ao42 y250.length co42)) (fun _ hk => trivial)⟩, ⟨by (try simp only [hl5_2]); (try simp only [hl31_2]); (with_reducible repeat (first | apply Kd.R_alloc | apply Kd.R_drewN | apply Kd.R_drew)); exact Kd.R_mono (Kd.R_far (p := ⟨gb242, 0, none⟩) (Kd.R_types HO252.out BK242.out (by decide)) (fun _ hk => hk.2) (.slice Ao42 y250.length co42)) (fun _ hk => trivial)⟩, ⟨by (try simp only [hl5_2]); (try simp only [hl31_2]); (with_reducible repeat (first | refine blk_drewN ?_ _ | refine blk_drew ?_ | refine blk_alloc ?_ _)); refine blk_far ?_ NB236_242.out _; exact vb BK236.out⟩, ⟨by (try simp only [hl5_2]); (try simp only [hl31_2]); (with_reducible repeat (first | refine blk_drewN ?_ _ | refine blk_drew ?_ | refine blk_alloc ?_ _)); refine blk_far ?_ NB237_242.out _; exact vb BK237.out⟩, ⟨by (try simp only [hl5_2]); (try simp only [hl31_2]); (with_reducible repeat (first | refine blk_drewN ?_ _ | refine blk_drew ?_ | refine blk_alloc ?_ _)); refine blk_put (cs := #[u243000]) ?_ 0 _ rfl; exact vb BK242.out⟩, ⟨by (try simp only [hl5_2]); (try simp only [hl31_2]); (with_reducible repeat (first | refine blk_drewN ?_ _ | refine blk_drew ?_ | refine blk_alloc ?_ _)); refine blk_far ?_ NB246_242.out _; exact vb BK246.out⟩, ⟨by repeat (first | (with_reducible first | exact HB.out | apply below_alloc | apply pw_below_drewN | apply below_drew1 | refine below_set ?_ GE236.out | refine below_set ?_ GE237.out | refine below_set ?_ GE242.out | refine below_set ?_ GE246.out) | exact HB.out)⟩⟩
            ·rw [if_neg c39] at H
             exact absurd H (by simp)
           ·rw [if_neg c38] at H
            exact absurd H (by simp)
          ·rw [if_neg c37] at H
           exact absurd H (by simp)
         ·rw [if_neg c36] at H
          exact absurd H (by simp)
        ·rw [if_neg c35] at H
         exact absurd H (by simp)
       ·rw [if_neg c34] at H
        have c34b0 : decide (x33_2 < (x5_1.length : Int)) = false := decide_eq_false c34; have c34b1 : decide (x33_2 < (t247.length : Int)) = false := decide_eq_false (by rw [← hl5_2]; exact c34); clear c34; simp only [Option.some.injEq, Prod.mk.injEq] at H
        obtain ⟨rfl, rfl, rfl⟩ := H; have hnb44 := NB242_236.out; have hnc44 := NB236_242.out; have hnb45 := NB242_237.out; have hnc45 := NB237_242.out; have hnb46 := NB242_246.out; have hnc46 := NB246_242.out; (try (have hnw48 := Kd.R_ne HO_5.out BK242.out (by decide); change some gb242 ≠ some _ at hnw48; have how48 := fun (e_ : gb242 = _) => hnw48 (congrArg some e_); have hpw48 := fun e_ => how48 (Eq.symm e_); clear hnw48; replace how48 := eq_false how48; replace hpw48 := eq_false hpw48)); (try (have hnw49 := Kd.R_ne HO_31.out BK242.out (by decide); change some gb242 ≠ some _ at hnw49; have how49 := fun (e_ : gb242 = _) => hnw49 (congrArg some e_); have hpw49 := fun e_ => how49 (Eq.symm e_); clear hnw49; replace how49 := eq_false how49; replace hpw49 := eq_false hpw49)); (try (have hnw50 := Kd.R_ne HO_243000.out BK242.out (by decide); change some gb242 ≠ some _ at hnw50; have how50 := fun (e_ : gb242 = _) => hnw50 (congrArg some e_); have hpw50 := fun e_ => how50 (Eq.symm e_); clear hnw50; replace how50 := eq_false how50; replace hpw50 := eq_false hpw50)); have hcz47_0 : wr.cell? ⟨gb242, 0, none⟩ = some (u243000) := (blk_cell BK242.out 0).trans rfl; have hfz47_0 := blk_frozen BK242.out 0; obtain ⟨Ao51, co51, eo51⟩ := Kd.R_slice HO_243000.out; subst eo51; have hnb52 := NB237_236.out; have hnc52 := NB236_237.out; have hnb53 := NB237_246.out; have hnc53 := NB246_237.out; (try (have hnw55 := Kd.R_ne HO_5.out BK237.out (by decide); change some gb237 ≠ some _ at hnw55; have how55 := fun (e_ : gb237 = _) => hnw55 (congrArg some e_); have hpw55 := fun e_ => how55 (Eq.symm e_); clear hnw55; replace how55 := eq_false how55; replace hpw55 := eq_false hpw55)); (try (have hnw56 := Kd.R_ne HO_31.out BK237.out (by decide); change some gb237 ≠ some _ at hnw56; have how56 := fun (e_ : gb237 = _) => hnw56 (congrArg some e_); have hpw56 := fun e_ => how56 (Eq.symm e_); clear hnw56; replace how56 := eq_false how56; replace hpw56 := eq_false hpw56)); (try (have hnw57 := Kd.R_ne HO_243000.out BK237.out (by decide); change some gb237 ≠ some _ at hnw57; have how57 := fun (e_ : gb237 = _) => hnw57 (congrArg some e_); have hpw57 := fun e_ => how57 (Eq.symm e_); clear hnw57; replace how57 := eq_false how57; replace hpw57 := eq_false hpw57)); have hcz54_0 : wr.cell? ⟨gb237, 0, none⟩ = some (.slice none 0 0) := (blk_cell BK237.out 0).trans rfl; have hfz54_0 := blk_frozen BK237.out 0; go_wp2
        refine bodyPost_ret (results_ctt rfl _ _ gb237 28 #[.slice Ao51 x243000_2.length co51] (0, 0) _ rfl (by (with_reducible repeat (first | refine blk_drewN ?_ _ | refine blk_drew ?_ | refine blk_alloc ?_ _)); refine blk_put (cs := #[.slice none 0 0]) ?_ 0 _ rfl; exact vb BK237.out) Tryd.underlying28 rfl (by kernel_rfl)) rfl ?_; exact ⟨_, _, by first | rfl | (simp [errW_none, errW_some] <;> rfl) | (simp [*, errW_none, errW_some] <;> rfl), by (with_reducible repeat (first | apply Kd.R_alloc | apply Kd.R_drewN | apply Kd.R_drew)); exact Kd.R_mono (Kd.R_far (p := ⟨gb237, 0, none⟩) (Kd.R_types HO_243000.out BK237.out (by decide)) (fun _ hk => hk.2) (.slice Ao51 x243000_2.length co51)) (fun _ hk => trivial), by (with_reducible repeat (first | apply Kd.R_alloc | apply Kd.R_drewN | apply Kd.R_drew)); exact Kd.R_mono (Kd.R_far (p := ⟨gb237, 0, none⟩) (Kd.R_types HO_5.out BK237.out (by decide)) (fun _ hk => hk.2) (.slice Ao51 x243000_2.length co51)) (fun _ hk => trivial), by repeat (first | (with_reducible first | exact HB.out | apply below_alloc | apply pw_below_drewN | apply below_drew1 | refine below_set ?_ GE236.out | refine below_set ?_ GE237.out | refine below_set ?_ GE242.out | refine below_set ?_ GE246.out) | exact HB.out)⟩
 ·replace c3 := Bool.eq_false_iff.mpr c3; subst c3; have H1 : (some (([] : List ByteArray), ([] : List Int), false)) = some (r1, r2, r3) := by rw [if_neg (show ¬ (false = true) by decide)] at H; first | exact H | (simp only [if_true, eq_self] at H ⊢; exact H)
  clear H; have H := H1; clear H1; simp only [Option.some.injEq, Prod.mk.injEq] at H
  obtain ⟨rfl, rfl, rfl⟩ := H; go_enter Tryd.func28, Tryd.ntmps28
  go_wp2_with (first | ((with_reducible refine gate_dst (N := 1) rfl ?_); refine vbe (N := 1) (cs := #[.slice A0_0 l0_0.length c0_0]) (t := 28) ?_; intro gb236 hg w58 hbox hb; have n0_ := ak (below_step (vh HB.out) hb); have n1_ := ak (hbox); have n2_ := ak (vg hg (vh HB.out)); have n3_ := ak (vg hg (vh HB.out)); clear HB; have HB := n0_; have BK236 := n1_; have GW236 := n2_; have GE236 := n3_; clear n0_ n1_ n2_ n3_; clear hb hbox hg) | ((with_reducible refine gate_dst (N := 2) rfl ?_); refine vbe (N := 2) (cs := #[.slice none 0 0]) (t := 28) ?_; intro gb237 hg w59 hbox hb; have n0_ := ak (blk_below (vb BK236.out) hb); have n1_ := ak (below_step (vs1 HB.out GE236.out) hb); have n2_ := ak (hbox); have n3_ := ak (vg hg (vs1 HB.out GE236.out)); have n4_ := ak (vg hg (vs1 HB.out GE236.out)); have n5_ := ak (vn hg (vb BK236.out)); have n6_ := ak (vn' hg (vb BK236.out)); clear BK236; clear HB; have BK236 := n0_; have HB := n1_; have BK237 := n2_; have GW237 := n3_; have GE237 := n4_; have NB236_237 := n5_; have NB237_236 := n6_; clear n0_ n1_ n2_ n3_ n4_ n5_ n6_; clear hb hbox hg; have hnb60 := NB236_237.out; have hnc60 := NB237_236.out; have hcz61_0 : w59.cell? ⟨gb236, 0, none⟩ = some (.slice A0_0 l0_0.length c0_0) := (blk_cell BK236.out 0).trans rfl; have hfz61_0 := blk_frozen BK236.out 0) | ((with_reducible refine gate_callee (f := 46) rfl ?_); refine goesL_ (some 11) rfl rfl Tryd.func46 (by kernel_rfl) rfl #[.agg #[.slice A0_0 l0_0.length c0_0]] rfl vm ?_; (with_reducible refine (impl_isTable.calls k _ _ l0_0 false _ ?side1 ?side2 A2.out).mono ?_); (case side1 => exact vc HR0_0.out HB.out); (case side2 => exact HC0_0.out); rintro e w62 ⟨rfl, hb⟩; refine ⟨_, rfl, ?_⟩; have n0_ := ak (blk_below (vb BK236.out) hb); have n1_ := ak (blk_below (vb BK237.out) hb); have n2_ := ak (below_step (vs2 HB.out GE236.out GE237.out) hb); clear BK236; clear BK237; clear HB; have BK236 := n0_; have BK237 := n1_; have HB := n2_; clear n0_ n1_ n2_; (try clear hb); (try clear hb2); (try clear hk); (try clear hi); have hcz63_0 : w62.cell? ⟨gb237, 0, none⟩ = some (.slice none 0 0) := (blk_cell BK237.out 0).trans rfl; have hfz63_0 := blk_frozen BK237.out 0))
  refine bodyPost_ret (results_ctt rfl _ _ gb237 28 #[.slice none 0 0] (0, 0) _ rfl (by (with_reducible repeat (first | refine blk_drewN ?_ _ | refine blk_drew ?_ | refine blk_alloc ?_ _)); refine blk_put (cs := #[.slice none 0 0]) ?_ 0 _ rfl; exact vb BK237.out) Tryd.underlying28 rfl (by kernel_rfl)) rfl ?_; exact ⟨_, _, by first | rfl | (simp [errW_none, errW_some] <;> rfl) | (simp [*, errW_none, errW_some] <;> rfl), by first | exact Kd.R_nil _ _ _ _ _ | exact Kd.N_nil _ _ _ _ _ | exact Kd.V_nil _ _ _ _ _ | exact Kd.Q_nil _ _ _ _ _ | exact Kd.S_nil _ _ _ _ _, by first | exact Kd.R_nil _ _ _ _ _ | exact Kd.N_nil _ _ _ _ _ | exact Kd.V_nil _ _ _ _ _ | exact Kd.Q_nil _ _ _ _ _ | exact Kd.S_nil _ _ _ _ _, by exact vs2 HB.out GE236.out GE237.out⟩

/-! ### laws_heldStringS: function 68 -/
def laws_heldStringS.l0 : Nat → List ByteArray → Int → Int → Option (Int)
 | 0, _, _, _ => none
 | k + 1, x0, x1, x5 => if x5 < (x0.length : Int) then (if 0 ≤ x5 then ((laws_markText.f k x1).bind fun t254 => (if (rdOf ByteArray.empty x0 x5).toList = t254.toList then (laws_heldStringS.l0 k x0 (wrap64 (x1 + 1)) (wrap64 (x5 + 1))) else (some (-1)))) else (none)) else (some x1)
def laws_heldStringS.f (k : Nat) (l0 : List ByteArray) (a1 : Int) : Option (Int) := laws_heldStringS.l0 k l0 a1 0
theorem laws_heldStringS.mono_l : ∀ k, (∀ y0 y1 y2, LeO (laws_heldStringS.l0 k y0 y1 y2) (laws_heldStringS.l0 (k + 1) y0 y1 y2))
 | 0 => fun _ _ _ r h => by simp [laws_heldStringS.l0] at h
 | k + 1 => by
  have ih0 := laws_heldStringS.mono_l k
  ·intro y0 y1 y2; unfold laws_heldStringS.l0
   repeat' first
   | (with_reducible exact ih0 _ _ _)
   | (with_reducible exact laws_markText.mono _ _)
   | (with_reducible exact LeO.refl _)
   | (with_reducible exact LeO.none _)
   | (with_reducible refine LeO.ite ?_ ?_)
   | (with_reducible refine LeO.bind ?_ (fun _ => ?_))
   | exact ih0 _ _ _
   | exact laws_markText.mono _ _
   | exact LeO.none _
   | refine LeO.ite ?_ ?_
   | refine LeO.bind ?_ (fun _ => ?_)
theorem laws_heldStringS.mono : ∀ a0 a1 k, LeO (laws_heldStringS.f k a0 a1) (laws_heldStringS.f (k + 1) a0 a1) := by
 intro a0 a1 k; have ih0 := laws_heldStringS.mono_l k; unfold laws_heldStringS.f
 repeat' first
   | (with_reducible exact ih0 _ _ _)
   | (with_reducible exact laws_markText.mono _ _)
   | (with_reducible exact LeO.refl _)
   | (with_reducible exact LeO.none _)
   | (with_reducible refine LeO.ite ?_ ?_)
   | (with_reducible refine LeO.bind ?_ (fun _ => ?_))
   | exact ih0 _ _ _
   | exact laws_markText.mono _ _
   | exact LeO.none _
   | refine LeO.ite ?_ ?_
   | refine LeO.bind ?_ (fun _ => ?_)
set_option maxHeartbeats 8000000 in
set_option maxRecDepth 100000 in
theorem laws_heldStringS.calls (k : Nat) (A0 : Option Addr) (c0 : Nat) (l0 : List ByteArray) (a1 : Int) (r : Int) (w : World) (hr0 : Kd.C Kd.string w A0 l0.length l0) (hc0 : l0.length ≤ c0) (h : laws_heldStringS.f k l0 a1 = some r) :
  Calls Tryd.prog 68 #[.slice A0 l0.length c0, .int .i64 a1] w fun e w' => e = .returned (.int .i64 r) ∧ Below w.heap.size w w' := by
 have HR0 := Aside0.mk hr0; have HC0 := Aside0.mk hc0; clear hr0 hc0; have HB := ak (Below.refl w.heap.size w); have H : (laws_heldStringS.l0 k l0 a1 0) = some r := h; clear h; have H' := Aside0.mk H; clear H; go_enter Tryd.func68, Tryd.ntmps68
 go_wp2
 go_loopg [1, 5] k (fun kq v1 v5 w' => ∃ (x1_1 : Int) (x5_1 : Int), v1 = .int .i64 x1_1 ∧ v5 = .int .i64 x5_1 ∧ Aside0 (laws_heldStringS.l0 kq l0 x1_1 x5_1 = some r) ∧ Aside0 (kq ≤ k) ∧ Aside0 (Below w.heap.size w w'))
 case atStart => exact ⟨(a1), (0), (by first | rfl | (simp; done) | (simp [*]; done)), (by first | rfl | (simp; done) | (simp [*]; done)), H', ⟨Nat.le_refl _⟩, ⟨by exact vh HB.out⟩⟩
 case round =>
  clear H'; try clear p2
  obtain ⟨x1_1, x5_1, rfl, rfl, HA, HK1, HB⟩ := hrel; cases gk with
  | zero => exact absurd HA.out (by simp [laws_heldStringS.l0])
  | succ k1 =>
   have H := HA.out; clear HA; simp only [laws_heldStringS.l0] at H
   by_cases c3 : x5_1 < (l0.length : Int)
   ·rw [if_pos c3] at H
    have c3b0 : decide (x5_1 < (l0.length : Int)) = true := decide_eq_true c3; clear c3; by_cases c4 : 0 ≤ x5_1
    ·rw [if_pos c4] at H
     have c4b0 : decide (0 ≤ x5_1) = true := decide_eq_true c4; clear c4; replace H := Option.bind_eq_some_iff.mp H; obtain ⟨t254, A50, H⟩ := H; replace H : (if (rdOf ByteArray.empty l0 x5_1).toList = t254.toList then (laws_heldStringS.l0 k1 l0 (wrap64 (x1_1 + 1)) (wrap64 (x5_1 + 1))) else (some (-1))) = some r := H; have A5 := Aside0.mk A50; clear A50; by_cases c6 : (rdOf ByteArray.empty l0 x5_1).toList = t254.toList
     ·rw [if_pos c6] at H
      have c6b0 : ((rdOf ByteArray.empty l0 x5_1).toList == t254.toList) = true := beq_iff_eq.mpr c6; have c6b1 : ((rdOf ByteArray.empty l0 x5_1).toList != t254.toList) = false := bne_eq_false_iff_eq.mpr c6; clear c6; have H' := Aside0.mk H; clear H; try go_wp2
      have n0_ := ak (below_drew1 HB.out); clear HB; have HB := n0_; clear n0_; have p253 : 0 ≤ (x5_1 : Int) := of_decide_eq_true va; have q253 : x5_1 < (l0.length : Int) := of_decide_eq_true va; obtain ⟨ad253, e253, hx253_0⟩ := Kd.at_string HR0.out x5_1 p253 q253; have hw253_0 := hx253_0; cases e253; (try replace hx253_0 := vl HB.out hx253_0); replace p253 := eq_true p253; replace q253 := eq_true q253; refine start_ (n := 7) (S := fun w' => w'.cell? (ad253.add (x5_1).toNat) = some (.string (rdOf ByteArray.empty l0 x5_1))) (ds := []) #[false, false, false, false, false, false, false] (by kernel_rfl) rfl rfl ((vl HB.out hw253_0 :)) (fun hHeld => ?_); generalize wr.drew = w7 at HB hx253_0 hHeld ⊢
      refine pure_ (i := 0) (N := some 12) (v := ?_) (a' := ?_) #[true, false, false, false, false, false, false] rfl rfl (by kernel_rfl) (fun _ _ _ h => h) (Or.inl ⟨by rfl, ?_⟩) ?_ ?_; rotate_left
      ·intro w'; go_simp; with_reducible rfl
      rotate_left
      ·simp only [ap1, ap2, ap3, ap4, i64_w, i32_w]; rfl
      refine pure_ (i := 1) (N := some 13) (v := ?_) (a' := ?_) #[true, true, false, false, false, false, false] rfl rfl (by kernel_rfl) (fun _ _ _ h => h) (Or.inl ⟨by rfl, ?_⟩) ?_ ?_; rotate_left
      ·intro w'; go_simp; with_reducible rfl
      rotate_left
      ·simp only [ap1, ap2, ap3, ap4, i64_w, i32_w]; rfl
      refine pure_ (i := 2) (N := some 14) (v := ?_) (a' := ?_) #[true, true, true, false, false, false, false] rfl rfl (by kernel_rfl) (fun _ _ _ h => h) (Or.inl ⟨by rfl, ?_⟩) ?_ ?_; rotate_left
      ·intro w'; go_simp; with_reducible rfl
      rotate_left
      ·simp only [ap1, ap2, ap3, ap4, i64_w, i32_w]; rfl
      refine pure_ (i := 4) (N := some 16) (v := ?_) (a' := ?_) #[true, true, true, false, true, false, false] rfl rfl (by kernel_rfl) (fun _ _ _ h => h) (Or.inl ⟨by rfl, ?_⟩) ?_ ?_; rotate_left
      ·intro w'; go_simp; with_reducible rfl
      rotate_left
      ·simp only [ap1, ap2, ap3, ap4, i64_w, i32_w]; rfl
      refine take_ (i := 3) (N := some 15) (v := ?_) (a' := ?_) #[true, true, true, true, true, false, false] rfl rfl (by kernel_rfl) (fun _ _ _ h => h) (Or.inl ⟨by rfl, ?_⟩) hHeld ?_ ?_; rotate_left
      ·intro w' s0; go_simp; with_reducible rfl
      rotate_left
      ·simp only [ap1, ap2, ap3, ap4, i64_w, i32_w]; rfl
      refine one_ (i := 5) (N := some 17) #[true, true, true, true, true, true, false] rfl rfl (by kernel_rfl) (by decide) (fun K hK => ?_); refine goes_ Tryd.func95 (by kernel_rfl) rfl #[.int .i64 x1_1] (by rfl) rfl rfl vm ?_; with_reducible refine (laws_markText.calls k1 x1_1 t254 _ A5.out).mono ?_
      rintro e w8 ⟨rfl, hb⟩; refine ⟨_, rfl, ?_⟩; have n0_ := ak (below_step (vh HB.out) hb); clear HB; have HB := n0_; clear n0_; (try clear hb); (try clear hb2); (try clear hk); (try clear hi); refine hK.out _ _ ((vl HB.out hw253_0 :)) (fun hHeld => ?_); clear hK K; refine norm_ (a' := ?_) ?_ ?_; rotate_left
      ·show Act.put _ (some 17) _ = _; simp only [ap1, ap2, ap3, ap4, i64_w, i32_w]; rfl
      refine pure_ (i := 6) (N := some 18) (v := ?_) (a' := ?_) #[true, true, true, true, true, true, true] rfl rfl (by kernel_rfl) (fun _ _ _ h => h) (Or.inl ⟨by rfl, ?_⟩) ?_ ?_; rotate_left
      ·intro w'; go_simp; with_reducible rfl
      rotate_left
      ·simp only [ap1, ap2, ap3, ap4, i64_w, i32_w]; rfl
      refine done_ (by kernel_rfl) ?_; try go_wp2
      go_roundg k1
      case measure => have := HK1.out; omega
      case rel => exact ⟨(wrap64 (x1_1 + 1)), (wrap64 (x5_1 + 1)), vq, vq, H', ⟨by have := HK1.out; omega⟩, ⟨by exact vh HB.out⟩⟩
     ·rw [if_neg c6] at H
      have c6b0 : ((rdOf ByteArray.empty l0 x5_1).toList == t254.toList) = false := beq_eq_false_iff_ne.mpr c6; have c6b1 : ((rdOf ByteArray.empty l0 x5_1).toList != t254.toList) = true := bne_iff_ne.mpr c6; obtain rfl := Option.some.inj H; try go_wp2
      have n0_ := ak (below_drew1 HB.out); clear HB; have HB := n0_; clear n0_; have p253 : 0 ≤ (x5_1 : Int) := of_decide_eq_true va; have q253 : x5_1 < (l0.length : Int) := of_decide_eq_true va; obtain ⟨ad253, e253, hx253_0⟩ := Kd.at_string HR0.out x5_1 p253 q253; have hw253_0 := hx253_0; cases e253; (try replace hx253_0 := vl HB.out hx253_0); replace p253 := eq_true p253; replace q253 := eq_true q253; refine start_ (n := 7) (S := fun w' => w'.cell? (ad253.add (x5_1).toNat) = some (.string (rdOf ByteArray.empty l0 x5_1))) (ds := []) #[false, false, false, false, false, false, false] (by kernel_rfl) rfl rfl ((vl HB.out hw253_0 :)) (fun hHeld => ?_); generalize wr.drew = w9 at HB hx253_0 hHeld ⊢
      refine pure_ (i := 0) (N := some 12) (v := ?_) (a' := ?_) #[true, false, false, false, false, false, false] rfl rfl (by kernel_rfl) (fun _ _ _ h => h) (Or.inl ⟨by rfl, ?_⟩) ?_ ?_; rotate_left
      ·intro w'; go_simp; with_reducible rfl
      rotate_left
      ·simp only [ap1, ap2, ap3, ap4, i64_w, i32_w]; rfl
      refine pure_ (i := 1) (N := some 13) (v := ?_) (a' := ?_) #[true, true, false, false, false, false, false] rfl rfl (by kernel_rfl) (fun _ _ _ h => h) (Or.inl ⟨by rfl, ?_⟩) ?_ ?_; rotate_left
      ·intro w'; go_simp; with_reducible rfl
      rotate_left
      ·simp only [ap1, ap2, ap3, ap4, i64_w, i32_w]; rfl
      refine pure_ (i := 2) (N := some 14) (v := ?_) (a' := ?_) #[true, true, true, false, false, false, false] rfl rfl (by kernel_rfl) (fun _ _ _ h => h) (Or.inl ⟨by rfl, ?_⟩) ?_ ?_; rotate_left
      ·intro w'; go_simp; with_reducible rfl
      rotate_left
      ·simp only [ap1, ap2, ap3, ap4, i64_w, i32_w]; rfl
      refine pure_ (i := 4) (N := some 16) (v := ?_) (a' := ?_) #[true, true, true, false, true, false, false] rfl rfl (by kernel_rfl) (fun _ _ _ h => h) (Or.inl ⟨by rfl, ?_⟩) ?_ ?_; rotate_left
      ·intro w'; go_simp; with_reducible rfl
      rotate_left
      ·simp only [ap1, ap2, ap3, ap4, i64_w, i32_w]; rfl
      refine take_ (i := 3) (N := some 15) (v := ?_) (a' := ?_) #[true, true, true, true, true, false, false] rfl rfl (by kernel_rfl) (fun _ _ _ h => h) (Or.inl ⟨by rfl, ?_⟩) hHeld ?_ ?_; rotate_left
      ·intro w' s0; go_simp; with_reducible rfl
      rotate_left
      ·simp only [ap1, ap2, ap3, ap4, i64_w, i32_w]; rfl
      refine one_ (i := 5) (N := some 17) #[true, true, true, true, true, true, false] rfl rfl (by kernel_rfl) (by decide) (fun K hK => ?_); refine goes_ Tryd.func95 (by kernel_rfl) rfl #[.int .i64 x1_1] (by rfl) rfl rfl vm ?_; with_reducible refine (laws_markText.calls k1 x1_1 t254 _ A5.out).mono ?_
      rintro e w10 ⟨rfl, hb⟩; refine ⟨_, rfl, ?_⟩; have n0_ := ak (below_step (vh HB.out) hb); clear HB; have HB := n0_; clear n0_; (try clear hb); (try clear hb2); (try clear hk); (try clear hi); refine hK.out _ _ ((vl HB.out hw253_0 :)) (fun hHeld => ?_); clear hK K; refine norm_ (a' := ?_) ?_ ?_; rotate_left
      ·show Act.put _ (some 17) _ = _; simp only [ap1, ap2, ap3, ap4, i64_w, i32_w]; rfl
      refine pure_ (i := 6) (N := some 18) (v := ?_) (a' := ?_) #[true, true, true, true, true, true, true] rfl rfl (by kernel_rfl) (fun _ _ _ h => h) (Or.inl ⟨by rfl, ?_⟩) ?_ ?_; rotate_left
      ·intro w'; go_simp; with_reducible rfl
      rotate_left
      ·simp only [ap1, ap2, ap3, ap4, i64_w, i32_w]; rfl
      refine done_ (by kernel_rfl) ?_; try go_wp2
      go_ret
      exact ⟨by first | rfl | (simp [errW_none, errW_some] <;> rfl) | (simp [*, errW_none, errW_some] <;> rfl), by exact vh HB.out⟩
    ·rw [if_neg c4] at H
     exact absurd H (by simp)
   ·rw [if_neg c3] at H
    have c3b0 : decide (x5_1 < (l0.length : Int)) = false := decide_eq_false c3; clear c3; obtain rfl := Option.some.inj H; go_wp2
    go_ret
    exact ⟨by first | rfl | (simp [errW_none, errW_some] <;> rfl) | (simp [*, errW_none, errW_some] <;> rfl), by exact vh HB.out⟩

/-! ### laws_heldTable: function 29 -/
def laws_heldTable.f (k : Nat) (l0_0 : List ByteArray) (a1 : Int) : Option (Int) := (laws_heldStringS.f k l0_0 a1).bind fun t256 => (if t256 < 0 then (some (-1)) else (some t256))
theorem laws_heldTable.mono : ∀ a0 a1 k, LeO (laws_heldTable.f k a0 a1) (laws_heldTable.f (k + 1) a0 a1) := by
 intro a0 a1 k; unfold laws_heldTable.f
 repeat' first
   | (with_reducible exact laws_heldStringS.mono _ _ _)
   | (with_reducible exact LeO.refl _)
   | (with_reducible exact LeO.none _)
   | (with_reducible refine LeO.ite ?_ ?_)
   | (with_reducible refine LeO.bind ?_ (fun _ => ?_))
   | exact laws_heldStringS.mono _ _ _
   | exact LeO.none _
   | refine LeO.ite ?_ ?_
   | refine LeO.bind ?_ (fun _ => ?_)
set_option maxHeartbeats 8000000 in
set_option maxRecDepth 100000 in
theorem laws_heldTable.calls (k : Nat) (A0_0 : Option Addr) (c0_0 : Nat) (l0_0 : List ByteArray) (a1 : Int) (r : Int) (w : World) (hr0_0 : Kd.C Kd.string w A0_0 l0_0.length l0_0) (hc0_0 : l0_0.length ≤ c0_0) (h : laws_heldTable.f k l0_0 a1 = some r) :
  Calls Tryd.prog 29 #[.agg #[.slice A0_0 l0_0.length c0_0], .int .i64 a1] w fun e w' => e = .returned (.int .i64 r) ∧ Below w.heap.size w w' := by
 have hu28 := Tryd.underlying28; have HR0_0 := Aside0.mk hr0_0; have HC0_0 := Aside0.mk hc0_0; clear hr0_0 hc0_0; have HB := ak (Below.refl w.heap.size w); have H : ((laws_heldStringS.f k l0_0 a1).bind fun t256 => (if t256 < 0 then (some (-1)) else (some t256))) = some r := h; clear h; replace H := Option.bind_eq_some_iff.mp H; obtain ⟨t256, A30, H⟩ := H; replace H : (if t256 < 0 then (some (-1)) else (some t256)) = some r := H; have A3 := Aside0.mk A30; clear A30; by_cases c4 : t256 < 0
 ·rw [if_pos c4] at H
  have c4b0 : decide (t256 < 0) = true := decide_eq_true c4; clear c4; obtain rfl := Option.some.inj H; go_enter Tryd.func29, Tryd.ntmps29
  go_wp2_with (first | ((with_reducible refine gate_dst (N := 2) rfl ?_); refine vbe (N := 2) (cs := #[.slice A0_0 l0_0.length c0_0]) (t := 28) ?_; intro gb255 hg w5 hbox hb; have n0_ := ak (below_step (vh HB.out) hb); have n1_ := ak (hbox); have n2_ := ak (vg hg (vh HB.out)); have n3_ := ak (vg hg (vh HB.out)); clear HB; have HB := n0_; have BK255 := n1_; have GW255 := n2_; have GE255 := n3_; clear n0_ n1_ n2_ n3_; clear hb hbox hg; have hcz6_0 : w5.cell? ⟨gb255, 0, none⟩ = some (.slice A0_0 l0_0.length c0_0) := (blk_cell BK255.out 0).trans rfl; have hfz6_0 := blk_frozen BK255.out 0) | ((with_reducible refine gate_callee (f := 68) rfl ?_); refine goesL_ (some 8) rfl rfl Tryd.func68 (by kernel_rfl) rfl #[.slice A0_0 l0_0.length c0_0, .int .i64 a1] rfl vm ?_; (with_reducible refine (laws_heldStringS.calls k _ _ l0_0 a1 t256 _ ?side1 ?side2 A3.out).mono ?_); (case side1 => exact vc HR0_0.out HB.out); (case side2 => exact HC0_0.out); rintro e w7 ⟨rfl, hb⟩; refine ⟨_, rfl, ?_⟩; have n0_ := ak (blk_below (vb BK255.out) hb); have n1_ := ak (below_step (vs1 HB.out GE255.out) hb); clear BK255; clear HB; have BK255 := n0_; have HB := n1_; clear n0_ n1_; (try clear hb); (try clear hb2); (try clear hk); (try clear hi)))
  go_ret
  exact ⟨by first | rfl | (simp [errW_none, errW_some] <;> rfl) | (simp [*, errW_none, errW_some] <;> rfl), by exact vs1 HB.out GE255.out⟩
 ·rw [if_neg c4] at H
  have c4b0 : decide (t256 < 0) = false := decide_eq_false c4; clear c4; obtain rfl := Option.some.inj H; go_enter Tryd.func29, Tryd.ntmps29
  go_wp2_with (first | ((with_reducible refine gate_dst (N := 2) rfl ?_); refine vbe (N := 2) (cs := #[.slice A0_0 l0_0.length c0_0]) (t := 28) ?_; intro gb255 hg w8 hbox hb; have n0_ := ak (below_step (vh HB.out) hb); have n1_ := ak (hbox); have n2_ := ak (vg hg (vh HB.out)); have n3_ := ak (vg hg (vh HB.out)); clear HB; have HB := n0_; have BK255 := n1_; have GW255 := n2_; have GE255 := n3_; clear n0_ n1_ n2_ n3_; clear hb hbox hg; have hcz9_0 : w8.cell? ⟨gb255, 0, none⟩ = some (.slice A0_0 l0_0.length c0_0) := (blk_cell BK255.out 0).trans rfl; have hfz9_0 := blk_frozen BK255.out 0) | ((with_reducible refine gate_callee (f := 68) rfl ?_); refine goesL_ (some 8) rfl rfl Tryd.func68 (by kernel_rfl) rfl #[.slice A0_0 l0_0.length c0_0, .int .i64 a1] rfl vm ?_; (with_reducible refine (laws_heldStringS.calls k _ _ l0_0 a1 t256 _ ?side1 ?side2 A3.out).mono ?_); (case side1 => exact vc HR0_0.out HB.out); (case side2 => exact HC0_0.out); rintro e w10 ⟨rfl, hb⟩; refine ⟨_, rfl, ?_⟩; have n0_ := ak (blk_below (vb BK255.out) hb); have n1_ := ak (below_step (vs1 HB.out GE255.out) hb); clear BK255; clear HB; have BK255 := n0_; have HB := n1_; clear n0_ n1_; (try clear hb); (try clear hb2); (try clear hk); (try clear hi)))
  go_ret
  exact ⟨by first | rfl | (simp [errW_none, errW_some] <;> rfl) | (simp [*, errW_none, errW_some] <;> rfl), by exact vs1 HB.out GE255.out⟩

end Go.Proofs.YtgpjcfkohlhknaaDoor.PFnExactSortTable
