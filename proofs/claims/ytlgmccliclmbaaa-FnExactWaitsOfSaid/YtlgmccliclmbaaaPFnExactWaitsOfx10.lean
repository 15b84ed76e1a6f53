-- Written by a program of this session (the kit's print with this session's additions, wip/tools): Lean checks it. (pressed)
import Derived.Test.YtlgmccliclmbaaaAbbr
import Derived.Test.YtlgmccliclmbaaaPFnExactWaitsOfx0
import Derived.Test.YtlgmccliclmbaaaPFnExactWaitsOfx7
import Derived.Test.YtlgmccliclmbaaaPFnExactWaitsOfx9
namespace Go.Proofs.Ytlgmccliclmbaaa.PFnExactWaitsOf
open Go.RowKit Go.Proofs.YtlgmccliclmbaaaW.PrintWords Go.Proofs.YtlgmccliclmbaaaW.PrintLast Go.Proofs.YtlgmccliclmbaaaW.PrintMore
attribute [local go_sem] max2_int min2_int max_two min_two max_three min_three max_four min_four   -- for this text's walks alone
set_option linter.unusedVariables false
set_option linter.unusedSimpArgs false

/-! ### impl_arePlanned: function 53 -/
def impl_arePlanned.f (k : Nat) (a0 : Int) (l1 : List (S63)) (l2 : List (S67)) : Option (Bool) := (impl_areJobs.f a0 l1).bind fun t267 => (if t267 = true then ((impl_isPlan.f k l1 l2).bind fun t268 => (some t268)) else (some false))
theorem impl_arePlanned.mono : ∀ a0 a1 a2 k, LeO (impl_arePlanned.f k a0 a1 a2) (impl_arePlanned.f (k + 1) a0 a1 a2) := by
 intro a0 a1 a2 k; unfold impl_arePlanned.f
 repeat' first
   | (with_reducible exact impl_isPlan.mono _ _ _)
   | (with_reducible exact LeO.refl _)
   | (with_reducible exact LeO.none _)
   | (with_reducible refine LeO.ite ?_ ?_)
   | (with_reducible refine LeO.bind ?_ (fun _ => ?_))
   | exact impl_isPlan.mono _ _ _
   | exact LeO.none _
   | refine LeO.ite ?_ ?_
   | refine LeO.bind ?_ (fun _ => ?_)
set_option maxHeartbeats 8000000 in
set_option maxRecDepth 100000 in
theorem impl_arePlanned.calls (k : Nat) (a0 : Int) (A1 : Option Addr) (c1 : Nat) (l1 : List (S63)) (A2 : Option Addr) (c2 : Nat) (l2 : List (S67)) (r : Bool) (w : World) (hr1 : Kd.C k63 w A1 l1.length l1) (hc1 : l1.length ≤ c1) (hr2 : Kd.C k67 w A2 l2.length l2) (hc2 : l2.length ≤ c2) (h : impl_arePlanned.f k a0 l1 l2 = some r) :
  Calls Try.prog 53 #[.int .i64 a0, .slice A1 l1.length c1, .slice A2 l2.length c2] w fun e w' => e = .returned (.bool r) ∧ Below w.heap.size w w' := by
 have HR1 := Aside0.mk hr1; have HC1 := Aside0.mk hc1; clear hr1 hc1; have HR2 := Aside0.mk hr2; have HC2 := Aside0.mk hc2; clear hr2 hc2; have HB := ak (Below.refl w.heap.size w); have H : ((impl_areJobs.f a0 l1).bind fun t267 => (if t267 = true then ((impl_isPlan.f k l1 l2).bind fun t268 => (some t268)) else (some false))) = some r := h; clear h; replace H := Option.bind_eq_some_iff.mp H; obtain ⟨t267, A40, H⟩ := H; replace H : (if t267 = true then ((impl_isPlan.f k l1 l2).bind fun t268 => (some t268)) else (some false)) = some r := H; have A4 := Aside0.mk A40; clear A40; by_cases c5 : t267 = true
 ·subst c5; have H1 : ((impl_isPlan.f k l1 l2).bind fun t268 => (some t268)) = some r := by rw [if_pos rfl] at H; first | exact H | (simp only [if_true, eq_self] at H ⊢; exact H)
  clear H; have H := H1; clear H1; replace H := Option.bind_eq_some_iff.mp H; obtain ⟨t268, A60, H⟩ := H; replace H : (some t268) = some r := H; have A6 := Aside0.mk A60; clear A60; obtain rfl := Option.some.inj H; go_enter Try.func53, Try.ntmps53
  go_wp2_with (first | ((with_reducible refine gate_callee (f := 48) rfl ?_); refine goesL_ (some 9) rfl rfl Try.func48 (by kernel_rfl) rfl #[.int .i64 a0, .slice A1 l1.length c1] rfl vm ?_; (with_reducible refine (impl_areJobs.calls a0 _ _ l1 true _ ?side1 ?side2 A4.out).mono ?_); (case side1 => repeat (first | exact HR1.out | (with_reducible refine Kd.C_alloc ?_ _) | (with_reducible refine Kd.C_drewN ?_ _) | (with_reducible refine Kd.C_drew ?_))); (case side2 => exact HC1.out); rintro e w7 ⟨rfl, hb⟩; refine ⟨_, rfl, ?_⟩; have n0_ := ak (below_step (vh HB.out) hb); clear HB; have HB := n0_; clear n0_; (try clear hb); (try clear hb2); (try clear hk); (try clear hi)) | (go_at_call 49; (with_reducible refine (impl_isPlan.calls k _ _ l1 _ _ l2 t268 _ ?side1 ?side2 ?side3 ?side4 A6.out).mono ?_); (case side1 => exact vc HR1.out HB.out); (case side2 => exact HC1.out); (case side3 => exact vc HR2.out HB.out); (case side4 => exact HC2.out); rintro e w8 ⟨rfl, hb⟩; have n0_ := ak (below_step (vh HB.out) hb); clear HB; have HB := n0_; clear n0_; (try clear hb); (try clear hb2); (try clear hk); (try clear hi)))
  go_ret
  exact ⟨by first | rfl | (simp [errW_none, errW_some] <;> rfl) | (simp [*, errW_none, errW_some] <;> rfl), by exact vh HB.out⟩
 ·replace c5 := Bool.eq_false_iff.mpr c5; subst c5; have H1 : (some false) = some r := by rw [if_neg (show ¬ (false = true) by decide)] at H; first | exact H | (simp only [if_true, eq_self] at H ⊢; exact H)
  clear H; have H := H1; clear H1; obtain rfl := Option.some.inj H; go_enter Try.func53, Try.ntmps53
  go_wp2_with (first | ((with_reducible refine gate_callee (f := 48) rfl ?_); refine goesL_ (some 9) rfl rfl Try.func48 (by kernel_rfl) rfl #[.int .i64 a0, .slice A1 l1.length c1] rfl vm ?_; (with_reducible refine (impl_areJobs.calls a0 _ _ l1 false _ ?side1 ?side2 A4.out).mono ?_); (case side1 => repeat (first | exact HR1.out | (with_reducible refine Kd.C_alloc ?_ _) | (with_reducible refine Kd.C_drewN ?_ _) | (with_reducible refine Kd.C_drew ?_))); (case side2 => exact HC1.out); rintro e w9 ⟨rfl, hb⟩; refine ⟨_, rfl, ?_⟩; have n0_ := ak (below_step (vh HB.out) hb); clear HB; have HB := n0_; clear n0_; (try clear hb); (try clear hb2); (try clear hk); (try clear hi)))
  go_ret
  exact ⟨by first | rfl | (simp [errW_none, errW_some] <;> rfl) | (simp [*, errW_none, errW_some] <;> rfl), by exact vh HB.out⟩

/-! ### impl_Job_steps: function 56 -/
def impl_Job_steps.f (a0_0 : Int) (a0_1 : Int) (a0_2 : Int) (a0_3 : Int) : Option (Int) := some (mx (wrap64 (a0_1 - a0_0)) (wrap64 (a0_0 - a0_1)))
set_option maxHeartbeats 8000000 in
set_option maxRecDepth 100000 in
theorem impl_Job_steps.calls (a0_0 : Int) (a0_1 : Int) (a0_2 : Int) (a0_3 : Int) (r : Int) (w : World) (h : impl_Job_steps.f a0_0 a0_1 a0_2 a0_3 = some r) :
  Calls Try.prog 56 #[.agg #[.int .i64 a0_0, .int .i64 a0_1, .int .i64 a0_2, .int .i64 a0_3]] w fun e w' => e = .returned (.int .i64 r) ∧ Below w.heap.size w w' := by
 have hu63 := Try.underlying63; have HB := ak (Below.refl w.heap.size w); have H : (some (mx (wrap64 (a0_1 - a0_0)) (wrap64 (a0_0 - a0_1)))) = some r := h; clear h; obtain ⟨ji2, hji2⟩ : ∃ j_ : Int, (mx (wrap64 (a0_1 - a0_0)) (wrap64 (a0_0 - a0_1))) = j_ := ⟨_, rfl⟩; replace H : (some ji2) = some r := by first | (rw [hji2] at H; exact H) | (simp only [hji2] at H ⊢; exact H)
 have hji2_ : (if (wrap64 (a0_1 - a0_0)) < (wrap64 (a0_0 - a0_1)) then (wrap64 (a0_0 - a0_1)) else (wrap64 (a0_1 - a0_0))) = ji2 := hji2; obtain rfl := Option.some.inj H; go_enter Try.func56, Try.ntmps56
 go_wp2_with (first | ((with_reducible refine gate_dst (N := 1) rfl ?_); refine vbe (N := 1) (cs := #[.int .i64 a0_0, .int .i64 a0_1, .int .i64 a0_2, .int .i64 a0_3]) (t := 63) ?_; intro gb269 hg w3 hbox hb; have n0_ := ak (below_step (vh HB.out) hb); have n1_ := ak (hbox); have n2_ := ak (vg hg (vh HB.out)); have n3_ := ak (vg hg (vh HB.out)); clear HB; have HB := n0_; have BK269 := n1_; have GW269 := n2_; have GE269 := n3_; clear n0_ n1_ n2_ n3_; clear hb hbox hg; have hcz4_0 : w3.cell? ⟨gb269, 0, none⟩ = some (.int .i64 a0_0) := (blk_cell BK269.out 0).trans rfl; have hcz4_1 : w3.cell? ⟨gb269, 1, none⟩ = some (.int .i64 a0_1) := (blk_cell BK269.out 1).trans rfl; have hcz4_2 : w3.cell? ⟨gb269, 2, none⟩ = some (.int .i64 a0_2) := (blk_cell BK269.out 2).trans rfl; have hcz4_3 : w3.cell? ⟨gb269, 3, none⟩ = some (.int .i64 a0_3) := (blk_cell BK269.out 3).trans rfl; have hfz4_0 := blk_frozen BK269.out 0; have hfz4_1 := blk_frozen BK269.out 1; have hfz4_2 := blk_frozen BK269.out 2; have hfz4_3 := blk_frozen BK269.out 3))
 go_ret
 exact ⟨by first | rfl | (simp [errW_none, errW_some] <;> rfl) | (simp only [← hji2]; first | rfl | (simp [errW_none, errW_some] <;> rfl)) | (simp [*, errW_none, errW_some] <;> rfl), by exact vs1 HB.out GE269.out⟩

/-! ### impl_WaitsOf: function 23 -/
mutual
def impl_WaitsOf.l0 : Nat → List (S67) → List Int → List (S63) → Int → Int → Option (List Int × Bool)
 | 0, _, _, _, _, _ => none
 | k + 1, x2, x8, x20, x21, x22 => if x22 < x21 then (if 0 ≤ x22 then (if x22 < (x20.length : Int) then (impl_WaitsOf.l1 k x2 x8 x22 ((rd_T63 x20 x22).f3) x20 x21 x22 x2 (x2.length : Int) 0 ((rd_T63 x20 x22).f0) ((rd_T63 x20 x22).f1) ((rd_T63 x20 x22).f2) ((rd_T63 x20 x22).f3)) else (none)) else (none)) else (some (x8, true))
def impl_WaitsOf.l1 : Nat → List (S67) → List Int → Int → Int → List (S63) → Int → Int → List (S67) → Int → Int → Int → Int → Int → Int → Option (List Int × Bool)
 | 0, _, _, _, _, _, _, _, _, _, _, _, _, _, _ => none
 | k + 1, x2, x8, x9, x11, x20, x21, x22, x29, x30, x31, x276000, x276001, x276002, x276003 => if x31 < x30 then (if 0 ≤ x31 then (if x31 < (x29.length : Int) then (if ((rd_T67 x29 x31).f0) = x9 then (impl_WaitsOf.l1 k x2 x8 x9 (mx x11 (wrap64 (((rd_T67 x29 x31).f2) + x276002))) x20 x21 x22 x29 x30 (wrap64 (x31 + 1)) x276000 x276001 x276002 x276003) else (impl_WaitsOf.l1 k x2 x8 x9 x11 x20 x21 x22 x29 x30 (wrap64 (x31 + 1)) x276000 x276001 x276002 x276003)) else (none)) else (none)) else ((impl_Job_steps.f x276000 x276001 x276002 x276003).bind fun t278 => (if x8.length < 17592186044416 then (impl_WaitsOf.l0 k x2 (x8 ++ [wrap64 ((wrap64 (x11 - x276003)) - (wrap64 (t278 * x276002)))]) x20 x21 (wrap64 (x22 + 1))) else (none)))
end
def impl_WaitsOf.f (k : Nat) (a0 : Int) (l1 : List (S63)) (l2 : List (S67)) : Option (List Int × Bool) := (impl_arePlanned.f k a0 l1 l2).bind fun t270 => (if t270 = true then (impl_WaitsOf.l0 k l2 (([] : List Int)) l1 (l1.length : Int) 0) else (some (([] : List Int), false)))
theorem impl_WaitsOf.mono_l : ∀ k, (∀ y0 y1 y2 y3 y4, LeO (impl_WaitsOf.l0 k y0 y1 y2 y3 y4) (impl_WaitsOf.l0 (k + 1) y0 y1 y2 y3 y4)) ∧ (∀ y0 y1 y2 y3 y4 y5 y6 y7 y8 y9 y10 y11 y12 y13, LeO (impl_WaitsOf.l1 k y0 y1 y2 y3 y4 y5 y6 y7 y8 y9 y10 y11 y12 y13) (impl_WaitsOf.l1 (k + 1) y0 y1 y2 y3 y4 y5 y6 y7 y8 y9 y10 y11 y12 y13))
 | 0 => ⟨fun _ _ _ _ _ r h => by simp [impl_WaitsOf.l0] at h, fun _ _ _ _ _ _ _ _ _ _ _ _ _ _ r h => by simp [impl_WaitsOf.l1] at h⟩
 | k + 1 => by
  obtain ⟨ih0, ih1⟩ := impl_WaitsOf.mono_l k; refine ⟨?_, ?_⟩
  ·intro y0 y1 y2 y3 y4; unfold impl_WaitsOf.l0
   repeat' first
   | (with_reducible exact ih0 _ _ _ _ _)
   | (with_reducible exact ih1 _ _ _ _ _ _ _ _ _ _ _ _ _ _)
   | (with_reducible exact impl_arePlanned.mono _ _ _ _)
   | (with_reducible exact LeO.refl _)
   | (with_reducible exact LeO.none _)
   | (with_reducible refine LeO.ite ?_ ?_)
   | (with_reducible refine LeO.bind ?_ (fun _ => ?_))
   | exact ih0 _ _ _ _ _
   | exact ih1 _ _ _ _ _ _ _ _ _ _ _ _ _ _
   | exact impl_arePlanned.mono _ _ _ _
   | exact LeO.none _
   | refine LeO.ite ?_ ?_
   | refine LeO.bind ?_ (fun _ => ?_)
  ·intro y0 y1 y2 y3 y4 y5 y6 y7 y8 y9 y10 y11 y12 y13; unfold impl_WaitsOf.l1
   repeat' first
   | (with_reducible exact ih0 _ _ _ _ _)
   | (with_reducible exact ih1 _ _ _ _ _ _ _ _ _ _ _ _ _ _)
   | (with_reducible exact impl_arePlanned.mono _ _ _ _)
   | (with_reducible exact LeO.refl _)
   | (with_reducible exact LeO.none _)
   | (with_reducible refine LeO.ite ?_ ?_)
   | (with_reducible refine LeO.bind ?_ (fun _ => ?_))
   | exact ih0 _ _ _ _ _
   | exact ih1 _ _ _ _ _ _ _ _ _ _ _ _ _ _
   | exact impl_arePlanned.mono _ _ _ _
   | exact LeO.none _
   | refine LeO.ite ?_ ?_
   | refine LeO.bind ?_ (fun _ => ?_)
theorem impl_WaitsOf.mono : ∀ a0 a1 a2 k, LeO (impl_WaitsOf.f k a0 a1 a2) (impl_WaitsOf.f (k + 1) a0 a1 a2) := by
 intro a0 a1 a2 k; obtain ⟨ih0, ih1⟩ := impl_WaitsOf.mono_l k; unfold impl_WaitsOf.f
 repeat' first
   | (with_reducible exact ih0 _ _ _ _ _)
   | (with_reducible exact ih1 _ _ _ _ _ _ _ _ _ _ _ _ _ _)
   | (with_reducible exact impl_arePlanned.mono _ _ _ _)
   | (with_reducible exact LeO.refl _)
   | (with_reducible exact LeO.none _)
   | (with_reducible refine LeO.ite ?_ ?_)
   | (with_reducible refine LeO.bind ?_ (fun _ => ?_))
   | exact ih0 _ _ _ _ _
   | exact ih1 _ _ _ _ _ _ _ _ _ _ _ _ _ _
   | exact impl_arePlanned.mono _ _ _ _
   | exact LeO.none _
   | refine LeO.ite ?_ ?_
   | refine LeO.bind ?_ (fun _ => ?_)
def impl_WaitsOf.T14 : Bool × List (List Nat × List Nat) := (true, [([], []), ([], []), ([], []), ([2], [2]), ([1, 3], [1, 3]), ([], []), ([5], [5]), ([], []), ([7], [7]), ([6, 8], [6, 8]), ([4, 9], [4, 9]), ([10], [10]), ([0, 11, 6], [0, 11]), ([12, 12, 0, 1, 2, 3, 4, 5, 6, 7, 8, 9, 10, 11, 12], [0, 12])])
def impl_WaitsOf.B14 : List Nat := [0, 0, 0, 4, 14, 0, 32, 0, 128, 480, 1022, 2046, 4095, 8191]
theorem impl_WaitsOf.tab14 : rtab .any (opsOf Try.f23 14) = impl_WaitsOf.T14 := by kernel_rfl
theorem impl_WaitsOf.bits14 : waitsOk impl_WaitsOf.T14.2 impl_WaitsOf.B14 = true := by kernel_rfl
set_option maxHeartbeats 8000000 in
set_option maxRecDepth 100000 in
theorem impl_WaitsOf.calls (k : Nat) (a0 : Int) (A1 : Option Addr) (c1 : Nat) (l1 : List (S63)) (A2 : Option Addr) (c2 : Nat) (l2 : List (S67)) (r1 : List Int) (r2 : Bool) (w : World) (hr1 : Kd.C k63 w A1 l1.length l1) (hc1 : l1.length ≤ c1) (hr2 : Kd.C k67 w A2 l2.length l2) (hc2 : l2.length ≤ c2) (h : impl_WaitsOf.f k a0 l1 l2 = some (r1, r2)) :
  Calls Try.prog 23 #[.int .i64 a0, .slice A1 l1.length c1, .slice A2 l2.length c2] w fun e w' => ∃ v0_ : Value, e = .returned (.tuple #[v0_, .bool r2]) ∧ Kd.R (Kd.int .i64) 3 w' w.heap.size (fun _ => True) v0_ r1 ∧ Below w.heap.size w w' := by
 have hu63 := Try.underlying63; have hu67 := Try.underlying67; have HR1 := Aside0.mk hr1; have HC1 := Aside0.mk hc1; clear hr1 hc1; have HR2 := Aside0.mk hr2; have HC2 := Aside0.mk hc2; clear hr2 hc2; have HB := ak (Below.refl w.heap.size w); have H : ((impl_arePlanned.f k a0 l1 l2).bind fun t270 => (if t270 = true then (impl_WaitsOf.l0 k l2 (([] : List Int)) l1 (l1.length : Int) 0) else (some (([] : List Int), false)))) = some (r1, r2) := h; clear h; replace H := Option.bind_eq_some_iff.mp H; obtain ⟨t270, A40, H⟩ := H; replace H : (if t270 = true then (impl_WaitsOf.l0 k l2 (([] : List Int)) l1 (l1.length : Int) 0) else (some (([] : List Int), false))) = some (r1, r2) := H; have A4 := Aside0.mk A40; clear A40; by_cases c5 : t270 = true
 ·subst c5; have H1 : (impl_WaitsOf.l0 k l2 (([] : List Int)) l1 (l1.length : Int) 0) = some (r1, r2) := by rw [if_pos rfl] at H; first | exact H | (simp only [if_true, eq_self] at H ⊢; exact H)
  clear H; have H := H1; clear H1; obtain ⟨y271, hy271⟩ : ∃ y_ : List Int, y_ = (([] : List Int)) := ⟨_, rfl⟩; replace H : (impl_WaitsOf.l0 k l2 y271 l1 (l1.length : Int) 0) = some (r1, r2) := by first | (rw [hy271]; with_reducible exact H) | (have H2_ := (Option.bind_some _ _).symm.trans H; rw [hy271]; with_reducible exact H2_) | (have H2_ := (Option.bind_some _ _).symm.trans H; with_reducible exact H2_) | with_reducible exact H | (rw [hy271]; exact H) | exact H
  have Ny271 := Aside0.mk hy271; clear hy271; have H' := Aside0.mk H; clear H; go_enter Try.func23, Try.ntmps23
  go_wp2_with (first | ((with_reducible refine gate_callee (f := 53) rfl ?_); refine goesL_ (some 17) rfl rfl Try.func53 (by kernel_rfl) rfl #[.int .i64 a0, .slice A1 l1.length c1, .slice A2 l2.length c2] rfl vm ?_; (with_reducible refine (impl_arePlanned.calls k a0 _ _ l1 _ _ l2 true _ ?side1 ?side2 ?side3 ?side4 A4.out).mono ?_); (case side1 => repeat (first | exact HR1.out | (with_reducible refine Kd.C_alloc ?_ _) | (with_reducible refine Kd.C_drewN ?_ _) | (with_reducible refine Kd.C_drew ?_))); (case side2 => exact HC1.out); (case side3 => repeat (first | exact HR2.out | (with_reducible refine Kd.C_alloc ?_ _) | (with_reducible refine Kd.C_drewN ?_ _) | (with_reducible refine Kd.C_drew ?_))); (case side4 => exact HC2.out); rintro e w6 ⟨rfl, hb⟩; refine ⟨_, rfl, ?_⟩; have n0_ := ak (below_step (vh HB.out) hb); clear HB; have HB := n0_; clear n0_; (try clear hb); (try clear hb2); (try clear hk); (try clear hi)) | ((with_reducible refine gate_dst (N := 19) rfl ?_); refine Kd.R_lit (Kd.int .i64) _ 3 ?hg (N := 19) ?hd (xs := ([] : List Int)) (inner := []) (ok := fun _ => True) (okp := fun _ => True) ?hr ?hp (fun _ hk => hk) trivial (Below.refl _ _) (Nat.le_refl _) (by simp) ?_; (case hd => rfl); (case hg => rfl); (case hr => first | (go_simp; done) | (go_simp; rfl)); (case hp => exact (Reps.none _ _)); intro v272 w7 ho8 hb hg_ hnew_; clear hg_ hnew_; (first | rw [← Ny271.out] at ho8 | (simp only [Int.reduceToNat] at ho8; rw [← Ny271.out] at ho8)); have n0_ := ak (Kd.R_lower ho8 (below_size (vh HB.out))); have n1_ := ak (below_step (vh HB.out) hb); clear HB; have HO273 := n0_; have HB := n1_; clear n0_ n1_; clear hb ho8))
  go_loopg [8, 22] k (fun kq v8 v22 w' => ∃ (x8_1 : List Int) (x22_1 : Int), v22 = .int .i64 x22_1 ∧ Aside0 (impl_WaitsOf.l0 kq l2 x8_1 l1 (l1.length : Int) x22_1 = some (r1, r2)) ∧ Aside0 (kq ≤ k) ∧ Aside0 (Kd.R (Kd.int .i64) 3 w' w.heap.size (fun _ => True) v8 x8_1) ∧ Aside0 (Below w.heap.size w w'))
  case atStart => exact ⟨(y271), (0), (by first | rfl | (simp; done) | (simp [*]; done)), H', ⟨Nat.le_refl _⟩, ⟨by exact vr HO273.out⟩, ⟨by exact vh HB.out⟩⟩
  case round =>
   clear H'; try clear c1
   try clear c2
   try clear p2
   try clear c5
   obtain ⟨x8_1, x22_1, rfl, HA, HK1, HO_8, HB⟩ := hrel; cases gk with
   | zero => exact absurd HA.out (by simp [impl_WaitsOf.l0])
   | succ k1 =>
    have H := HA.out; clear HA; simp only [impl_WaitsOf.l0] at H
    by_cases c9 : x22_1 < (l1.length : Int)
    ·rw [if_pos c9] at H
     have c9b0 : decide (x22_1 < (l1.length : Int)) = true := decide_eq_true c9; clear c9; by_cases c10 : 0 ≤ x22_1
     ·rw [if_pos c10] at H
      have c10b0 : decide (0 ≤ x22_1) = true := decide_eq_true c10; clear c10; by_cases c11 : x22_1 < (l1.length : Int)
      ·rw [if_pos c11] at H
       have c11b0 : decide (x22_1 < (l1.length : Int)) = true := decide_eq_true c11; clear c11; have H' := Aside0.mk H; clear H; have p274 : 0 ≤ (x22_1 : Int) := of_decide_eq_true va; have q274 : x22_1 < (l1.length : Int) := of_decide_eq_true va; obtain ⟨ad274, e274, hx274_0, hx274_1, hx274_2, hx274_3⟩ := at_T63 HR1.out x22_1 p274 q274; cases e274; (try replace hx274_0 := vl HB.out hx274_0); (try replace hx274_1 := vl HB.out hx274_1); (try replace hx274_2 := vl HB.out hx274_2); (try replace hx274_3 := vl HB.out hx274_3); replace p274 := eq_true p274; replace q274 := eq_true q274; go_wp2_with (first | ((with_reducible refine gate_dst (N := 10) rfl ?_); refine vbe (N := 10) (cs := #[.int .i64 0, .int .i64 0, .int .i64 0, .int .i64 0]) (t := 63) ?_; intro gb275 hg w12 hbox hb; have n0_ := ak (Kd.R_below (vr HO_8.out) hb); have n1_ := ak (below_step (vh HB.out) hb); have n2_ := ak (hbox); have n3_ := ak (vg hg (vh HB.out)); have n4_ := ak (vg hg (vh HB.out)); clear HO_8; clear HB; have HO_8 := n0_; have HB := n1_; have BK275 := n2_; have GW275 := n3_; have GE275 := n4_; clear n0_ n1_ n2_ n3_ n4_; clear hb hbox hg; (try (have hnw14 := Kd.R_ne HO_8.out BK275.out (by decide); change some gb275 ≠ some _ at hnw14; have how14 := fun (e_ : gb275 = _) => hnw14 (congrArg some e_); have hpw14 := fun e_ => how14 (Eq.symm e_); clear hnw14; replace how14 := eq_false how14; replace hpw14 := eq_false hpw14)); have hcz13_0 : w12.cell? ⟨gb275, 0, none⟩ = some (.int .i64 0) := (blk_cell BK275.out 0).trans rfl; have hcz13_1 : w12.cell? ⟨gb275, 1, none⟩ = some (.int .i64 0) := (blk_cell BK275.out 1).trans rfl; have hcz13_2 : w12.cell? ⟨gb275, 2, none⟩ = some (.int .i64 0) := (blk_cell BK275.out 2).trans rfl; have hcz13_3 : w12.cell? ⟨gb275, 3, none⟩ = some (.int .i64 0) := (blk_cell BK275.out 3).trans rfl; have hfz13_0 := blk_frozen BK275.out 0; have hfz13_1 := blk_frozen BK275.out 1; have hfz13_2 := blk_frozen BK275.out 2; have hfz13_3 := blk_frozen BK275.out 3))
       go_loopg [11, 31] k1 (fun kq v11 v31 w' => ∃ (x11_2 : Int) (x31_2 : Int), v11 = .int .i64 x11_2 ∧ v31 = .int .i64 x31_2 ∧ Aside0 (impl_WaitsOf.l1 kq l2 x8_1 x22_1 x11_2 l1 (l1.length : Int) x22_1 l2 (l2.length : Int) x31_2 ((rd_T63 l1 x22_1).f0) ((rd_T63 l1 x22_1).f1) ((rd_T63 l1 x22_1).f2) ((rd_T63 l1 x22_1).f3) = some (r1, r2)) ∧ Aside0 (kq ≤ k1) ∧ Aside0 (Kd.R (Kd.int .i64) 3 w' w.heap.size (fun _ => True) u8 x8_1) ∧ Aside0 (w'.heap[gb275]? = some (.cells #[.int .i64 ((rd_T63 l1 x22_1).f0), .int .i64 ((rd_T63 l1 x22_1).f1), .int .i64 ((rd_T63 l1 x22_1).f2), .int .i64 ((rd_T63 l1 x22_1).f3)] 63 (0, 0))) ∧ Aside0 (Below w.heap.size w w'))
       case atStart => exact ⟨((rd_T63 l1 x22_1).f3), (0), (by first | rfl | (simp; done) | (simp [*]; done)), (by first | rfl | (simp; done) | (simp [*]; done)), H', ⟨Nat.le_refl _⟩, ⟨by (with_reducible repeat (first | apply Kd.R_alloc | apply Kd.R_drewN | apply Kd.R_drew)); exact Kd.R_mono (Kd.R_far (p := ⟨gb275, 3, none⟩) (Kd.R_far (p := ⟨gb275, 2, none⟩) (Kd.R_far (p := ⟨gb275, 1, none⟩) (Kd.R_far (p := ⟨gb275, 0, none⟩) (Kd.R_types HO_8.out BK275.out (by decide)) (fun _ hk => hk.2) (.int .i64 ((rd_T63 l1 x22_1).f0))) (fun _ hk => hk.2) (.int .i64 ((rd_T63 l1 x22_1).f1))) (fun _ hk => hk.2) (.int .i64 ((rd_T63 l1 x22_1).f2))) (fun _ hk => hk.2) (.int .i64 ((rd_T63 l1 x22_1).f3))) (fun _ hk => trivial)⟩, ⟨by (with_reducible repeat (first | refine blk_drewN ?_ _ | refine blk_drew ?_ | refine blk_alloc ?_ _)); refine blk_put (cs := #[.int .i64 ((rd_T63 l1 x22_1).f0), .int .i64 ((rd_T63 l1 x22_1).f1), .int .i64 ((rd_T63 l1 x22_1).f2), .int .i64 0]) ?_ 3 _ rfl; (with_reducible repeat (first | refine blk_drewN ?_ _ | refine blk_drew ?_ | refine blk_alloc ?_ _)); refine blk_put (cs := #[.int .i64 ((rd_T63 l1 x22_1).f0), .int .i64 ((rd_T63 l1 x22_1).f1), .int .i64 0, .int .i64 0]) ?_ 2 _ rfl; (with_reducible repeat (first | refine blk_drewN ?_ _ | refine blk_drew ?_ | refine blk_alloc ?_ _)); refine blk_put (cs := #[.int .i64 ((rd_T63 l1 x22_1).f0), .int .i64 0, .int .i64 0, .int .i64 0]) ?_ 1 _ rfl; (with_reducible repeat (first | refine blk_drewN ?_ _ | refine blk_drew ?_ | refine blk_alloc ?_ _)); refine blk_put (cs := #[.int .i64 0, .int .i64 0, .int .i64 0, .int .i64 0]) ?_ 0 _ rfl; exact vb BK275.out⟩, ⟨by exact vs1 HB.out GE275.out⟩⟩
       case round =>
        clear H'; try clear c1
        try clear c2
        try clear p2
        try clear q2
        try clear hx2
        try clear c5
        try clear c9
        try clear c9b0
        try clear c10
        try clear c10b0
        try clear c11
        try clear c11b0
        try clear hcz13_0
        try clear hcz13_1
        try clear hcz13_2
        try clear hcz13_3
        try clear hfz13_0
        try clear hfz13_1
        try clear hfz13_2
        try clear hfz13_3
        try clear hx274_0
        try clear hx274_1
        try clear hx274_2
        try clear hx274_3
        try clear p2
        try clear p274
        try clear q274
        obtain ⟨x11_2, x31_2, rfl, rfl, HA, HK2, HO_8, BK275, HB⟩ := hrel; cases gk with
        | zero => exact absurd HA.out (by simp [impl_WaitsOf.l1])
        | succ k2 =>
         have H := HA.out; clear HA; simp only [impl_WaitsOf.l1] at H
         by_cases c15 : x31_2 < (l2.length : Int)
         ·rw [if_pos c15] at H
          have c15b0 : decide (x31_2 < (l2.length : Int)) = true := decide_eq_true c15; clear c15; by_cases c16 : 0 ≤ x31_2
          ·rw [if_pos c16] at H
           have c16b0 : decide (0 ≤ x31_2) = true := decide_eq_true c16; clear c16; by_cases c17 : x31_2 < (l2.length : Int)
           ·rw [if_pos c17] at H
            have c17b0 : decide (x31_2 < (l2.length : Int)) = true := decide_eq_true c17; clear c17; by_cases c18 : ((rd_T67 l2 x31_2).f0) = x22_1
            ·rw [if_pos c18] at H
             have c18b0 : (((rd_T67 l2 x31_2).f0) == x22_1) = true := beq_iff_eq.mpr c18; have c18b1 : (((rd_T67 l2 x31_2).f0) != x22_1) = false := bne_eq_false_iff_eq.mpr c18; clear c18; obtain ⟨ji19, hji19⟩ : ∃ j_ : Int, (mx x11_2 (wrap64 (((rd_T67 l2 x31_2).f2) + ((rd_T63 l1 x22_1).f2)))) = j_ := ⟨_, rfl⟩; replace H : (impl_WaitsOf.l1 k2 l2 x8_1 x22_1 ji19 l1 (l1.length : Int) x22_1 l2 (l2.length : Int) (wrap64 (x31_2 + 1)) ((rd_T63 l1 x22_1).f0) ((rd_T63 l1 x22_1).f1) ((rd_T63 l1 x22_1).f2) ((rd_T63 l1 x22_1).f3)) = some (r1, r2) := by first | (rw [hji19] at H; exact H) | (simp only [hji19] at H ⊢; exact H)
             have hji19_ : (if x11_2 < (wrap64 (((rd_T67 l2 x31_2).f2) + ((rd_T63 l1 x22_1).f2))) then (wrap64 (((rd_T67 l2 x31_2).f2) + ((rd_T63 l1 x22_1).f2))) else x11_2) = ji19 := hji19; have H' := Aside0.mk H; clear H; have p276 : 0 ≤ (x31_2 : Int) := of_decide_eq_true va; have q276 : x31_2 < (l2.length : Int) := of_decide_eq_true va; obtain ⟨ad276, e276, hx276_0, hx276_1, hx276_2⟩ := at_T67 HR2.out x31_2 p276 q276; cases e276; (try replace hx276_0 := vl HB.out hx276_0); (try replace hx276_1 := vl HB.out hx276_1); (try replace hx276_2 := vl HB.out hx276_2); replace p276 := eq_true p276; replace q276 := eq_true q276; go_wp2_with (first | ((with_reducible refine gate_dst (N := 13) rfl ?_); refine vbe (N := 13) (cs := #[.int .i64 0, .int .i64 0, .int .i64 0]) (t := 67) ?_; intro gb277 hg w20 hbox hb; have n0_ := ak (Kd.R_below (vr HO_8.out) hb); have n1_ := ak (blk_below (g := gb275) (o := .cells #[.int .i64 ((rd_T63 l1 x22_1).f0), .int .i64 ((rd_T63 l1 x22_1).f1), .int .i64 ((rd_T63 l1 x22_1).f2), .int .i64 ((rd_T63 l1 x22_1).f3)] 63 (0, 0)) (vb BK275.out) hb); have n2_ := ak (below_step (vs1 HB.out GE275.out) hb); have n3_ := ak (hbox); have n4_ := ak (vg hg (vs1 HB.out GE275.out)); have n5_ := ak (vg hg (vs1 HB.out GE275.out)); have n6_ := ak ((by rw [hg]; exact Nat.ne_of_lt (blk_lt (g := gb275) (o := .cells #[.int .i64 ((rd_T63 l1 x22_1).f0), .int .i64 ((rd_T63 l1 x22_1).f1), .int .i64 ((rd_T63 l1 x22_1).f2), .int .i64 ((rd_T63 l1 x22_1).f3)] 63 (0, 0)) (vb BK275.out)) : gb275 ≠ gb277)); have n7_ := ak ((by rw [hg]; exact Nat.ne_of_gt (blk_lt (g := gb275) (o := .cells #[.int .i64 ((rd_T63 l1 x22_1).f0), .int .i64 ((rd_T63 l1 x22_1).f1), .int .i64 ((rd_T63 l1 x22_1).f2), .int .i64 ((rd_T63 l1 x22_1).f3)] 63 (0, 0)) (vb BK275.out)) : gb277 ≠ gb275)); clear HO_8; clear BK275; clear HB; have HO_8 := n0_; have BK275 := n1_; have HB := n2_; have BK277 := n3_; have GW277 := n4_; have GE277 := n5_; have NB275_277 := n6_; have NB277_275 := n7_; clear n0_ n1_ n2_ n3_ n4_ n5_ n6_ n7_; clear hb hbox hg; have hnb21 := NB277_275.out; have hnc21 := NB275_277.out; (try (have hnw23 := Kd.R_ne HO_8.out BK277.out (by decide); change some gb277 ≠ some _ at hnw23; have how23 := fun (e_ : gb277 = _) => hnw23 (congrArg some e_); have hpw23 := fun e_ => how23 (Eq.symm e_); clear hnw23; replace how23 := eq_false how23; replace hpw23 := eq_false hpw23)); have hcz22_0 : w20.cell? ⟨gb277, 0, none⟩ = some (.int .i64 0) := (blk_cell BK277.out 0).trans rfl; have hcz22_1 : w20.cell? ⟨gb277, 1, none⟩ = some (.int .i64 0) := (blk_cell BK277.out 1).trans rfl; have hcz22_2 : w20.cell? ⟨gb277, 2, none⟩ = some (.int .i64 0) := (blk_cell BK277.out 2).trans rfl; have hfz22_0 := blk_frozen BK277.out 0; have hfz22_1 := blk_frozen BK277.out 1; have hfz22_2 := blk_frozen BK277.out 2; (try (have hnw25 := Kd.R_ne HO_8.out BK275.out (by decide); change some gb275 ≠ some _ at hnw25; have how25 := fun (e_ : gb275 = _) => hnw25 (congrArg some e_); have hpw25 := fun e_ => how25 (Eq.symm e_); clear hnw25; replace how25 := eq_false how25; replace hpw25 := eq_false hpw25)); have hcz24_0 : w20.cell? ⟨gb275, 0, none⟩ = some (.int .i64 ((rd_T63 l1 x22_1).f0)) := (blk_cell BK275.out 0).trans rfl; have hcz24_1 : w20.cell? ⟨gb275, 1, none⟩ = some (.int .i64 ((rd_T63 l1 x22_1).f1)) := (blk_cell BK275.out 1).trans rfl; have hcz24_2 : w20.cell? ⟨gb275, 2, none⟩ = some (.int .i64 ((rd_T63 l1 x22_1).f2)) := (blk_cell BK275.out 2).trans rfl; have hcz24_3 : w20.cell? ⟨gb275, 3, none⟩ = some (.int .i64 ((rd_T63 l1 x22_1).f3)) := (blk_cell BK275.out 3).trans rfl; have hfz24_0 := blk_frozen BK275.out 0; have hfz24_1 := blk_frozen BK275.out 1; have hfz24_2 := blk_frozen BK275.out 2; have hfz24_3 := blk_frozen BK275.out 3))
             go_roundg k2
             case measure => have := HK1.out; have := HK2.out; omega
             case rel => exact ⟨(ji19), (wrap64 (x31_2 + 1)), (by first | rfl | (simp; done) | (simp only [← hji19] <;> (first | rfl | simp)) | (simp [*]; done)), vq, H', ⟨by have := HK1.out; have := HK2.out; omega⟩, ⟨by (with_reducible repeat (first | apply Kd.R_alloc | apply Kd.R_drewN | apply Kd.R_drew)); exact Kd.R_mono (Kd.R_far (p := ⟨gb277, 2, none⟩) (Kd.R_far (p := ⟨gb277, 1, none⟩) (Kd.R_far (p := ⟨gb277, 0, none⟩) (Kd.R_types HO_8.out BK277.out (by decide)) (fun _ hk => hk.2) (.int .i64 ((rd_T67 l2 x31_2).f0))) (fun _ hk => hk.2) (.int .i64 ((rd_T67 l2 x31_2).f1))) (fun _ hk => hk.2) (.int .i64 ((rd_T67 l2 x31_2).f2))) (fun _ hk => trivial)⟩, ⟨by (with_reducible repeat (first | refine blk_drewN ?_ _ | refine blk_drew ?_ | refine blk_alloc ?_ _)); refine blk_far ?_ NB275_277.out _; (with_reducible repeat (first | refine blk_drewN ?_ _ | refine blk_drew ?_ | refine blk_alloc ?_ _)); refine blk_far ?_ NB275_277.out _; (with_reducible repeat (first | refine blk_drewN ?_ _ | refine blk_drew ?_ | refine blk_alloc ?_ _)); refine blk_far ?_ NB275_277.out _; exact vb BK275.out⟩, ⟨by exact vs2 HB.out GE275.out GE277.out⟩⟩
            ·rw [if_neg c18] at H
             have c18b0 : (((rd_T67 l2 x31_2).f0) == x22_1) = false := beq_eq_false_iff_ne.mpr c18; have c18b1 : (((rd_T67 l2 x31_2).f0) != x22_1) = true := bne_iff_ne.mpr c18; have H' := Aside0.mk H; clear H; have p276 : 0 ≤ (x31_2 : Int) := of_decide_eq_true va; have q276 : x31_2 < (l2.length : Int) := of_decide_eq_true va; obtain ⟨ad276, e276, hx276_0, hx276_1, hx276_2⟩ := at_T67 HR2.out x31_2 p276 q276; cases e276; (try replace hx276_0 := vl HB.out hx276_0); (try replace hx276_1 := vl HB.out hx276_1); (try replace hx276_2 := vl HB.out hx276_2); replace p276 := eq_true p276; replace q276 := eq_true q276; go_wp2_with (first | ((with_reducible refine gate_dst (N := 13) rfl ?_); refine vbe (N := 13) (cs := #[.int .i64 0, .int .i64 0, .int .i64 0]) (t := 67) ?_; intro gb277 hg w26 hbox hb; have n0_ := ak (Kd.R_below (vr HO_8.out) hb); have n1_ := ak (blk_below (g := gb275) (o := .cells #[.int .i64 ((rd_T63 l1 x22_1).f0), .int .i64 ((rd_T63 l1 x22_1).f1), .int .i64 ((rd_T63 l1 x22_1).f2), .int .i64 ((rd_T63 l1 x22_1).f3)] 63 (0, 0)) (vb BK275.out) hb); have n2_ := ak (below_step (vs1 HB.out GE275.out) hb); have n3_ := ak (hbox); have n4_ := ak (vg hg (vs1 HB.out GE275.out)); have n5_ := ak (vg hg (vs1 HB.out GE275.out)); have n6_ := ak ((by rw [hg]; exact Nat.ne_of_lt (blk_lt (g := gb275) (o := .cells #[.int .i64 ((rd_T63 l1 x22_1).f0), .int .i64 ((rd_T63 l1 x22_1).f1), .int .i64 ((rd_T63 l1 x22_1).f2), .int .i64 ((rd_T63 l1 x22_1).f3)] 63 (0, 0)) (vb BK275.out)) : gb275 ≠ gb277)); have n7_ := ak ((by rw [hg]; exact Nat.ne_of_gt (blk_lt (g := gb275) (o := .cells #[.int .i64 ((rd_T63 l1 x22_1).f0), .int .i64 ((rd_T63 l1 x22_1).f1), .int .i64 ((rd_T63 l1 x22_1).f2), .int .i64 ((rd_T63 l1 x22_1).f3)] 63 (0, 0)) (vb BK275.out)) : gb277 ≠ gb275)); clear HO_8; clear BK275; clear HB; have HO_8 := n0_; have BK275 := n1_; have HB := n2_; have BK277 := n3_; have GW277 := n4_; have GE277 := n5_; have NB275_277 := n6_; have NB277_275 := n7_; clear n0_ n1_ n2_ n3_ n4_ n5_ n6_ n7_; clear hb hbox hg; have hnb27 := NB277_275.out; have hnc27 := NB275_277.out; (try (have hnw29 := Kd.R_ne HO_8.out BK277.out (by decide); change some gb277 ≠ some _ at hnw29; have how29 := fun (e_ : gb277 = _) => hnw29 (congrArg some e_); have hpw29 := fun e_ => how29 (Eq.symm e_); clear hnw29; replace how29 := eq_false how29; replace hpw29 := eq_false hpw29)); have hcz28_0 : w26.cell? ⟨gb277, 0, none⟩ = some (.int .i64 0) := (blk_cell BK277.out 0).trans rfl; have hcz28_1 : w26.cell? ⟨gb277, 1, none⟩ = some (.int .i64 0) := (blk_cell BK277.out 1).trans rfl; have hcz28_2 : w26.cell? ⟨gb277, 2, none⟩ = some (.int .i64 0) := (blk_cell BK277.out 2).trans rfl; have hfz28_0 := blk_frozen BK277.out 0; have hfz28_1 := blk_frozen BK277.out 1; have hfz28_2 := blk_frozen BK277.out 2))
             go_roundg k2
             case measure => have := HK1.out; have := HK2.out; omega
             case rel => exact ⟨(x11_2), (wrap64 (x31_2 + 1)), (by first | rfl | (simp; done) | (simp [*]; done)), vq, H', ⟨by have := HK1.out; have := HK2.out; omega⟩, ⟨by (with_reducible repeat (first | apply Kd.R_alloc | apply Kd.R_drewN | apply Kd.R_drew)); exact Kd.R_mono (Kd.R_far (p := ⟨gb277, 2, none⟩) (Kd.R_far (p := ⟨gb277, 1, none⟩) (Kd.R_far (p := ⟨gb277, 0, none⟩) (Kd.R_types HO_8.out BK277.out (by decide)) (fun _ hk => hk.2) (.int .i64 ((rd_T67 l2 x31_2).f0))) (fun _ hk => hk.2) (.int .i64 ((rd_T67 l2 x31_2).f1))) (fun _ hk => hk.2) (.int .i64 ((rd_T67 l2 x31_2).f2))) (fun _ hk => trivial)⟩, ⟨by (with_reducible repeat (first | refine blk_drewN ?_ _ | refine blk_drew ?_ | refine blk_alloc ?_ _)); refine blk_far ?_ NB275_277.out _; (with_reducible repeat (first | refine blk_drewN ?_ _ | refine blk_drew ?_ | refine blk_alloc ?_ _)); refine blk_far ?_ NB275_277.out _; (with_reducible repeat (first | refine blk_drewN ?_ _ | refine blk_drew ?_ | refine blk_alloc ?_ _)); refine blk_far ?_ NB275_277.out _; exact vb BK275.out⟩, ⟨by exact vs2 HB.out GE275.out GE277.out⟩⟩
           ·rw [if_neg c17] at H
            exact absurd H (by simp)
          ·rw [if_neg c16] at H
           exact absurd H (by simp)
         ·rw [if_neg c15] at H
          have c15b0 : decide (x31_2 < (l2.length : Int)) = false := decide_eq_false c15; clear c15; replace H := Option.bind_eq_some_iff.mp H; obtain ⟨t278, A300, H⟩ := H; replace H : (if x8_1.length < 17592186044416 then (impl_WaitsOf.l0 k2 l2 (x8_1 ++ [wrap64 ((wrap64 (x11_2 - ((rd_T63 l1 x22_1).f3))) - (wrap64 (t278 * ((rd_T63 l1 x22_1).f2))))]) l1 (l1.length : Int) (wrap64 (x22_1 + 1))) else (none)) = some (r1, r2) := H; have A30 := Aside0.mk A300; clear A300; by_cases c31 : x8_1.length < 17592186044416
          ·rw [if_pos c31] at H
           have LMc31 := Aside0.mk c31; clear c31; obtain ⟨y279, hy279⟩ : ∃ y_ : List Int, y_ = (x8_1 ++ [wrap64 ((wrap64 (x11_2 - ((rd_T63 l1 x22_1).f3))) - (wrap64 (t278 * ((rd_T63 l1 x22_1).f2))))]) := ⟨_, rfl⟩; replace H : (impl_WaitsOf.l0 k2 l2 y279 l1 (l1.length : Int) (wrap64 (x22_1 + 1))) = some (r1, r2) := by first | (rw [hy279]; with_reducible exact H) | (have H2_ := (Option.bind_some _ _).symm.trans H; rw [hy279]; with_reducible exact H2_) | (have H2_ := (Option.bind_some _ _).symm.trans H; with_reducible exact H2_) | with_reducible exact H | (rw [hy279]; exact H) | exact H
           have Ny279 := Aside0.mk hy279; clear hy279; have H' := Aside0.mk H; clear H; try go_wp2
           have n0_ := ak (Kd.R_drew HO_8.out); have n1_ := ak (blk_drew BK275.out); have n2_ := ak (below_drew1 HB.out); clear HO_8; clear BK275; clear HB; have HO_8 := n0_; have BK275 := n1_; have HB := n2_; clear n0_ n1_ n2_; refine start_ (n := 14) (S := fun w' => w'.cell? ⟨gb275, 0, none⟩ = some (.int .i64 ((rd_T63 l1 x22_1).f0)) ∧ w'.cell? ⟨gb275, 1, none⟩ = some (.int .i64 ((rd_T63 l1 x22_1).f1)) ∧ w'.cell? ⟨gb275, 2, none⟩ = some (.int .i64 ((rd_T63 l1 x22_1).f2)) ∧ w'.cell? ⟨gb275, 3, none⟩ = some (.int .i64 ((rd_T63 l1 x22_1).f3))) (ds := []) #[false, false, false, false, false, false, false, false, false, false, false, false, false, false] (by kernel_rfl) rfl rfl ⟨(blk_cell BK275.out 0).trans rfl, (blk_cell BK275.out 1).trans rfl, (blk_cell BK275.out 2).trans rfl, (blk_cell BK275.out 3).trans rfl⟩ (fun hHeld => ?_); refine with_tabW impl_WaitsOf.tab14 impl_WaitsOf.bits14 (fun HT_ HW_ => ?_); generalize wr.drew = w32 at HO_8 BK275 HB hHeld ⊢
           refine px 0 47 #[true, false, false, false, false, false, false, false, false, false, false, false, false, false] rfl HT_.out ?_ (.inl ⟨by rfl, ?_⟩) ?_ ?_ ?_; rotate_left
           ·intro w'; go_simp; with_reducible rfl
           rotate_left
           ·simp only [ap1, ap2, ap3, ap4, i64_w, i32_w]; rfl
           refine px 1 48 #[true, true, false, false, false, false, false, false, false, false, false, false, false, false] rfl HT_.out ?_ (.inl ⟨by rfl, ?_⟩) ?_ ?_ ?_; rotate_left
           ·intro w'; go_simp; with_reducible rfl
           rotate_left
           ·simp only [ap1, ap2, ap3, ap4, i64_w, i32_w]; rfl
           refine px 2 49 #[true, true, true, false, false, false, false, false, false, false, false, false, false, false] rfl HT_.out ?_ (.inl ⟨by rfl, ?_⟩) ?_ ?_ ?_; rotate_left
           ·intro w'; go_simp; with_reducible rfl
           rotate_left
           ·simp only [ap1, ap2, ap3, ap4, i64_w, i32_w]; rfl
           refine px 7 54 #[true, true, true, false, false, false, false, true, false, false, false, false, false, false] rfl HT_.out ?_ (.inl ⟨by rfl, ?_⟩) ?_ ?_ ?_; rotate_left
           ·intro w'; go_simp; with_reducible rfl
           rotate_left
           ·simp only [ap1, ap2, ap3, ap4, i64_w, i32_w]; rfl
           refine tx 3 50 #[true, true, true, true, false, false, false, true, false, false, false, false, false, false] rfl HT_.out HW_.out hHeld ?_ (.inl ⟨by rfl, ?_⟩) ?_ ?_ ?_; rotate_left
           ·rintro w' ⟨s0, s1, s2, s3⟩; go_simp; with_reducible rfl
           rotate_left
           ·simp only [ap1, ap2, ap3, ap4, i64_w, i32_w]; rfl
           refine px 4 51 #[true, true, true, true, true, false, false, true, false, false, false, false, false, false] rfl HT_.out ?_ (.inl ⟨by rfl, ?_⟩) ?_ ?_ ?_; rotate_left
           ·intro w'; go_simp; with_reducible rfl
           rotate_left
           ·simp only [ap1, ap2, ap3, ap4, i64_w, i32_w]; rfl
           refine tx 5 52 #[true, true, true, true, true, true, false, true, false, false, false, false, false, false] rfl HT_.out HW_.out hHeld ?_ (.inl ⟨by rfl, ?_⟩) ?_ ?_ ?_; rotate_left
           ·rintro w' ⟨s0, s1, s2, s3⟩; go_simp; with_reducible rfl
           rotate_left
           ·simp only [ap1, ap2, ap3, ap4, i64_w, i32_w]; rfl
           refine tx 8 55 #[true, true, true, true, true, true, false, true, true, false, false, false, false, false] rfl HT_.out HW_.out hHeld ?_ (.inl ⟨by rfl, ?_⟩) ?_ ?_ ?_; rotate_left
           ·rintro w' ⟨s0, s1, s2, s3⟩; go_simp; with_reducible rfl
           rotate_left
           ·simp only [ap1, ap2, ap3, ap4, i64_w, i32_w]; rfl
           refine one_ (i := 6) (N := some 53) #[true, true, true, true, true, true, true, true, true, false, false, false, false, false] rfl rfl (one_of HT_.out (by kernel_rfl)) (by decide) (fun K hK => ?_); refine goes_ Try.func56 (by kernel_rfl) rfl #[.agg #[.int .i64 ((rd_T63 l1 x22_1).f0), .int .i64 ((rd_T63 l1 x22_1).f1), .int .i64 ((rd_T63 l1 x22_1).f2), .int .i64 ((rd_T63 l1 x22_1).f3)]] (by rfl) rfl rfl vm ?_; with_reducible refine (impl_Job_steps.calls ((rd_T63 l1 x22_1).f0) ((rd_T63 l1 x22_1).f1) ((rd_T63 l1 x22_1).f2) ((rd_T63 l1 x22_1).f3) t278 _ A30.out).mono ?_
           rintro e w33 ⟨rfl, hb⟩; refine ⟨_, rfl, ?_⟩; have n0_ := ak (Kd.R_below (vr HO_8.out) hb); have n1_ := ak (blk_below (g := gb275) (o := .cells #[.int .i64 ((rd_T63 l1 x22_1).f0), .int .i64 ((rd_T63 l1 x22_1).f1), .int .i64 ((rd_T63 l1 x22_1).f2), .int .i64 ((rd_T63 l1 x22_1).f3)] 63 (0, 0)) (vb BK275.out) hb); have n2_ := ak (below_step (vs1 HB.out GE275.out) hb); clear HO_8; clear BK275; clear HB; have HO_8 := n0_; have BK275 := n1_; have HB := n2_; clear n0_ n1_ n2_; (try clear hb); (try clear hb2); (try clear hk); (try clear hi); refine hK.out _ _ ⟨(blk_cell BK275.out 0).trans rfl, (blk_cell BK275.out 1).trans rfl, (blk_cell BK275.out 2).trans rfl, (blk_cell BK275.out 3).trans rfl⟩ (fun hHeld => ?_); clear hK K; refine norm_ (a' := ?_) ?_ ?_; rotate_left
           ·show Act.put _ (some 53) _ = _; simp only [ap1, ap2, ap3, ap4, i64_w, i32_w]; rfl
           refine px 9 56 #[true, true, true, true, true, true, true, true, true, true, false, false, false, false] rfl HT_.out ?_ (.inl ⟨by rfl, ?_⟩) ?_ ?_ ?_; rotate_left
           ·intro w'; go_simp; with_reducible rfl
           rotate_left
           ·simp only [ap1, ap2, ap3, ap4, i64_w, i32_w]; rfl
           refine px 10 57 #[true, true, true, true, true, true, true, true, true, true, true, false, false, false] rfl HT_.out ?_ (.inl ⟨by rfl, ?_⟩) ?_ ?_ ?_; rotate_left
           ·intro w'; go_simp; with_reducible rfl
           rotate_left
           ·simp only [ap1, ap2, ap3, ap4, i64_w, i32_w]; rfl
           refine one_ (i := 11) (N := some 58) #[true, true, true, true, true, true, true, true, true, true, true, true, false, false] rfl rfl (one_of HT_.out (by kernel_rfl)) (by decide) (fun K hK => ?_); refine value_ (w1 := ?_) (v := ?_) (by rfl) rfl ?_ ?_; rotate_left 2
           ·go_simp; constructor
            ·rfl
            ·rfl
           refine hK.out _ _ ⟨(blk_cell (blk_alloc BK275.out _) 0).trans rfl, (blk_cell (blk_alloc BK275.out _) 1).trans rfl, (blk_cell (blk_alloc BK275.out _) 2).trans rfl, (blk_cell (blk_alloc BK275.out _) 3).trans rfl⟩ (fun hHeld => ?_); clear hK K; refine norm_ (a' := ?_) ?_ ?_; rotate_left
           ·show Act.put _ (some 58) _ = _; simp only [ap1, ap2, ap3, ap4, i64_w, i32_w]; rfl
           refine one_ (i := 12) (N := some 59) #[true, true, true, true, true, true, true, true, true, true, true, true, true, false] rfl rfl (one_of HT_.out (by kernel_rfl)) (by decide) (fun K hK => ?_); refine Kd.R_append_step (Kd.int .i64) (w0 := w) w.heap.size (by rfl) (.tmp 47) (.tmp 58) 45 3 (.int .i64 0) 8 rfl Try.underlying45 info3 rfl (by decide) (by omega) u8 x8_1 (wrap64 ((wrap64 (x11_2 - ((rd_T63 l1 x22_1).f3))) - (wrap64 (t278 * ((rd_T63 l1 x22_1).f2))))) [.int .i64 (wrap64 ((wrap64 (x11_2 - ((rd_T63 l1 x22_1).f3))) - (wrap64 (t278 * ((rd_T63 l1 x22_1).f2)))))] (fun _ => True) (fun _ => False) rfl rfl ?aP (fun _ hk => hk.elim) ?aF ?aO ?aB ?aS ?aL ?_; (case aP => exact rfl)
           (case aB => exact (vs1 HB.out GE275.out))
           (case aF => exact (fun _ _ => trivial))
           (case aO => exact (vr HO_8.out))
           (case aS => exact (below_size (vs1 HB.out GE275.out)))
           (case aL => have := LMc31.out; omega)
           intro v280 w34 ho hb hg hat; rw [← Ny279.out] at ho
           have n0_ := ak (blk_grown (g := gb275) (o := .cells #[.int .i64 ((rd_T63 l1 x22_1).f0), .int .i64 ((rd_T63 l1 x22_1).f1), .int .i64 ((rd_T63 l1 x22_1).f2), .int .i64 ((rd_T63 l1 x22_1).f3)] 63 (0, 0)) (vb BK275.out) hg (Kd.R_ne HO_8.out BK275.out (by decide))); have n1_ := ak (hb); have n2_ := ak (ho); clear BK275; clear HB; clear HO_8; have BK275 := n0_; have HB := n1_; have HO281 := n2_; clear n0_ n1_ n2_; clear ho hb hg hat; refine hK.out _ _ ⟨(blk_cell BK275.out 0).trans rfl, (blk_cell BK275.out 1).trans rfl, (blk_cell BK275.out 2).trans rfl, (blk_cell BK275.out 3).trans rfl⟩ (fun hHeld => ?_); clear hK K; refine norm_ (a' := ?_) ?_ ?_; rotate_left
           ·show Act.put _ (some 59) _ = _; simp only [ap1, ap2, ap3, ap4, i64_w, i32_w]; rfl
           refine px 13 8 #[true, true, true, true, true, true, true, true, true, true, true, true, true, true] rfl HT_.out ?_ (.inl ⟨by rfl, ?_⟩) ?_ ?_ ?_; rotate_left
           ·intro w'; go_simp; with_reducible rfl
           rotate_left
           ·simp only [ap1, ap2, ap3, ap4, i64_w, i32_w]; rfl
           refine done_ (done_of HT_.out (by kernel_rfl)) ?_; try go_wp2
           go_roundg k2
           case measure => have := HK1.out; have := HK2.out; omega
           case rel => exact ⟨(y279), (wrap64 (x22_1 + 1)), vq, H', ⟨by have := HK1.out; have := HK2.out; omega⟩, ⟨by exact vr HO281.out⟩, ⟨by exact vs1 HB.out GE275.out⟩⟩
          ·rw [if_neg c31] at H
           exact absurd H (by simp)
      ·rw [if_neg c11] at H
       exact absurd H (by simp)
     ·rw [if_neg c10] at H
      exact absurd H (by simp)
    ·rw [if_neg c9] at H
     have c9b0 : decide (x22_1 < (l1.length : Int)) = false := decide_eq_false c9; clear c9; simp only [Option.some.injEq, Prod.mk.injEq] at H
     obtain ⟨rfl, rfl⟩ := H; go_wp2
     go_ret2
     exact ⟨_, by first | rfl | (simp [errW_none, errW_some] <;> rfl) | (simp [*, errW_none, errW_some] <;> rfl), by exact vr HO_8.out, by exact vh HB.out⟩
 ·replace c5 := Bool.eq_false_iff.mpr c5; subst c5; have H1 : (some (([] : List Int), false)) = some (r1, r2) := by rw [if_neg (show ¬ (false = true) by decide)] at H; first | exact H | (simp only [if_true, eq_self] at H ⊢; exact H)
  clear H; have H := H1; clear H1; simp only [Option.some.injEq, Prod.mk.injEq] at H
  obtain ⟨rfl, rfl⟩ := H; go_enter Try.func23, Try.ntmps23
  go_wp2_with (first | ((with_reducible refine gate_callee (f := 53) rfl ?_); refine goesL_ (some 17) rfl rfl Try.func53 (by kernel_rfl) rfl #[.int .i64 a0, .slice A1 l1.length c1, .slice A2 l2.length c2] rfl vm ?_; (with_reducible refine (impl_arePlanned.calls k a0 _ _ l1 _ _ l2 false _ ?side1 ?side2 ?side3 ?side4 A4.out).mono ?_); (case side1 => repeat (first | exact HR1.out | (with_reducible refine Kd.C_alloc ?_ _) | (with_reducible refine Kd.C_drewN ?_ _) | (with_reducible refine Kd.C_drew ?_))); (case side2 => exact HC1.out); (case side3 => repeat (first | exact HR2.out | (with_reducible refine Kd.C_alloc ?_ _) | (with_reducible refine Kd.C_drewN ?_ _) | (with_reducible refine Kd.C_drew ?_))); (case side4 => exact HC2.out); rintro e w35 ⟨rfl, hb⟩; refine ⟨_, rfl, ?_⟩; have n0_ := ak (below_step (vh HB.out) hb); clear HB; have HB := n0_; clear n0_; (try clear hb); (try clear hb2); (try clear hk); (try clear hi)))
  go_ret2
  exact ⟨_, by first | rfl | (simp [errW_none, errW_some] <;> rfl) | (simp [*, errW_none, errW_some] <;> rfl), by first | exact Kd.R_nil _ _ _ _ _ | exact Kd.N_nil _ _ _ _ _ | exact Kd.V_nil _ _ _ _ _ | exact Kd.Q_nil _ _ _ _ _ | exact Kd.S_nil _ _ _ _ _, by exact vh HB.out⟩

/-! ### laws_eqIntS: function 24 -/
def laws_eqIntS.l0 : Nat → List Int → List Int → Int → Option (Bool)
 | 0, _, _, _ => none
 | k + 1, x0, x1, x5 => if x5 < (x0.length : Int) then (if 0 ≤ x5 then (if x5 < (x1.length : Int) then (if (rd x0 x5) = (rd x1 x5) then (laws_eqIntS.l0 k x0 x1 (wrap64 (x5 + 1))) else (some false)) else (none)) else (none)) else (some true)
def laws_eqIntS.f (k : Nat) (l0 : List Int) (l1 : List Int) : Option (Bool) := if (l0.length : Int) = (l1.length : Int) then (laws_eqIntS.l0 k l0 l1 0) else (some false)
theorem laws_eqIntS.mono_l : ∀ k, (∀ y0 y1 y2, LeO (laws_eqIntS.l0 k y0 y1 y2) (laws_eqIntS.l0 (k + 1) y0 y1 y2))
 | 0 => fun _ _ _ r h => by simp [laws_eqIntS.l0] at h
 | k + 1 => by
  have ih0 := laws_eqIntS.mono_l k
  ·intro y0 y1 y2; unfold laws_eqIntS.l0
   repeat' first
   | (with_reducible exact ih0 _ _ _)
   | (with_reducible exact LeO.refl _)
   | (with_reducible exact LeO.none _)
   | (with_reducible refine LeO.ite ?_ ?_)
   | (with_reducible refine LeO.bind ?_ (fun _ => ?_))
   | exact ih0 _ _ _
   | exact LeO.none _
   | refine LeO.ite ?_ ?_
   | refine LeO.bind ?_ (fun _ => ?_)
theorem laws_eqIntS.mono : ∀ a0 a1 k, LeO (laws_eqIntS.f k a0 a1) (laws_eqIntS.f (k + 1) a0 a1) := by
 intro a0 a1 k; have ih0 := laws_eqIntS.mono_l k; unfold laws_eqIntS.f
 repeat' first
   | (with_reducible exact ih0 _ _ _)
   | (with_reducible exact LeO.refl _)
   | (with_reducible exact LeO.none _)
   | (with_reducible refine LeO.ite ?_ ?_)
   | (with_reducible refine LeO.bind ?_ (fun _ => ?_))
   | exact ih0 _ _ _
   | exact LeO.none _
   | refine LeO.ite ?_ ?_
   | refine LeO.bind ?_ (fun _ => ?_)
set_option maxHeartbeats 8000000 in
set_option maxRecDepth 100000 in
theorem laws_eqIntS.calls (k : Nat) (A0 : Option Addr) (c0 : Nat) (l0 : List Int) (A1 : Option Addr) (c1 : Nat) (l1 : List Int) (r : Bool) (w : World) (hr0 : Kd.C (Kd.int .i64) w A0 l0.length l0) (hc0 : l0.length ≤ c0) (hr1 : Kd.C (Kd.int .i64) w A1 l1.length l1) (hc1 : l1.length ≤ c1) (h : laws_eqIntS.f k l0 l1 = some r) :
  Calls Try.prog 24 #[.slice A0 l0.length c0, .slice A1 l1.length c1] w fun e w' => e = .returned (.bool r) ∧ Drawn0 w w' := by
 have HR0 := Aside0.mk hr0; have HC0 := Aside0.mk hc0; clear hr0 hc0; have HR1 := Aside0.mk hr1; have HC1 := Aside0.mk hc1; clear hr1 hc1; have H : (if (l0.length : Int) = (l1.length : Int) then (laws_eqIntS.l0 k l0 l1 0) else (some false)) = some r := h; clear h; by_cases c3 : (l0.length : Int) = (l1.length : Int)
 ·rw [if_pos c3] at H
  have c3b0 : ((l0.length : Int) == (l1.length : Int)) = true := beq_iff_eq.mpr c3; have c3b1 : ((l0.length : Int) != (l1.length : Int)) = false := bne_eq_false_iff_eq.mpr c3; have c3b2 : (l0.length == l1.length) = true := by first | simpa using c3 | (simp at c3 ⊢; omega)
  clear c3; have H' := Aside0.mk H; clear H; go_enter Try.func24, Try.ntmps24
  go_wp2
  repeat (go_quiet (fail); try go_wp2)
  go_loopg [5] k (fun kq v5 w' => ∃ (x5_1 : Int), v5 = .int .i64 x5_1 ∧ Aside0 (laws_eqIntS.l0 kq l0 l1 x5_1 = some r) ∧ Aside0 (kq ≤ k) ∧ Drawn0 w w')
  case atStart => exact ⟨(0), (by first | rfl | (simp; done) | (simp [*]; done)), H', ⟨Nat.le_refl _⟩, by repeat (first | exact Drawn0.refl _ | apply Drawn0.step)⟩
  case round =>
   clear H'; try clear c1
   try clear c2
   try clear p2
   try clear c3
   try clear c3b0
   try clear c3b1
   try clear c3b2
   obtain ⟨x5_1, rfl, HA, HK1, ⟨m1, rfl⟩⟩ := hrel; cases gk with
   | zero => exact absurd HA.out (by simp [laws_eqIntS.l0])
   | succ k1 =>
    have H := HA.out; clear HA; simp only [laws_eqIntS.l0] at H
    by_cases c4 : x5_1 < (l0.length : Int)
    ·rw [if_pos c4] at H
     have c4b0 : decide (x5_1 < (l0.length : Int)) = true := decide_eq_true c4; clear c4; by_cases c5 : 0 ≤ x5_1
     ·rw [if_pos c5] at H
      have c5b0 : decide (0 ≤ x5_1) = true := decide_eq_true c5; clear c5; by_cases c6 : x5_1 < (l1.length : Int)
      ·rw [if_pos c6] at H
       have c6b0 : decide (x5_1 < (l1.length : Int)) = true := decide_eq_true c6; clear c6; by_cases c7 : (rd l0 x5_1) = (rd l1 x5_1)
       ·rw [if_pos c7] at H
        have c7b0 : ((rd l0 x5_1) == (rd l1 x5_1)) = true := beq_iff_eq.mpr c7; have c7b1 : ((rd l0 x5_1) != (rd l1 x5_1)) = false := bne_eq_false_iff_eq.mpr c7; clear c7; have H' := Aside0.mk H; clear H; have p282 : 0 ≤ (x5_1 : Int) := of_decide_eq_true va; have q282 : x5_1 < (l0.length : Int) := of_decide_eq_true va; obtain ⟨ad282, e282, hx282_0⟩ := Kd.at_int HR0.out x5_1 p282 q282; cases e282; replace p282 := eq_true p282; replace q282 := eq_true q282; have p283 : 0 ≤ (x5_1 : Int) := of_decide_eq_true va; have q283 : x5_1 < (l1.length : Int) := of_decide_eq_true va; obtain ⟨ad283, e283, hx283_0⟩ := Kd.at_int HR1.out x5_1 p283 q283; cases e283; replace p283 := eq_true p283; replace q283 := eq_true q283; go_wp2
        repeat (go_quiet (fail); try go_wp2)
        go_roundg k1
        case measure => have := HK1.out; omega
        case rel => exact ⟨(wrap64 (x5_1 + 1)), vq, H', ⟨by have := HK1.out; omega⟩, by repeat (first | exact Drawn0.refl _ | apply Drawn0.step)⟩
       ·rw [if_neg c7] at H
        have c7b0 : ((rd l0 x5_1) == (rd l1 x5_1)) = false := beq_eq_false_iff_ne.mpr c7; have c7b1 : ((rd l0 x5_1) != (rd l1 x5_1)) = true := bne_iff_ne.mpr c7; obtain rfl := Option.some.inj H; have p282 : 0 ≤ (x5_1 : Int) := of_decide_eq_true va; have q282 : x5_1 < (l0.length : Int) := of_decide_eq_true va; obtain ⟨ad282, e282, hx282_0⟩ := Kd.at_int HR0.out x5_1 p282 q282; cases e282; replace p282 := eq_true p282; replace q282 := eq_true q282; have p283 : 0 ≤ (x5_1 : Int) := of_decide_eq_true va; have q283 : x5_1 < (l1.length : Int) := of_decide_eq_true va; obtain ⟨ad283, e283, hx283_0⟩ := Kd.at_int HR1.out x5_1 p283 q283; cases e283; replace p283 := eq_true p283; replace q283 := eq_true q283; go_wp2
        repeat (go_quiet (fail); try go_wp2)
        go_ret
        exact ⟨by first | rfl | (simp; done) | (simp [*]; done), by repeat (first | exact Drawn0.refl _ | apply Drawn0.step)⟩
      ·rw [if_neg c6] at H
       exact absurd H (by simp)
     ·rw [if_neg c5] at H
      exact absurd H (by simp)
    ·rw [if_neg c4] at H
     have c4b0 : decide (x5_1 < (l0.length : Int)) = false := decide_eq_false c4; clear c4; obtain rfl := Option.some.inj H; go_wp2
     repeat (go_quiet (fail); try go_wp2)
     go_ret
     exact ⟨by first | rfl | (simp; done) | (simp [*]; done), by repeat (first | exact Drawn0.refl _ | apply Drawn0.step)⟩
 ·rw [if_neg c3] at H
  have c3b0 : ((l0.length : Int) == (l1.length : Int)) = false := beq_eq_false_iff_ne.mpr c3; have c3b1 : ((l0.length : Int) != (l1.length : Int)) = true := bne_iff_ne.mpr c3; have c3b2 : (l0.length == l1.length) = false := by first | simpa using c3 | (simp at c3 ⊢; omega)
  obtain rfl := Option.some.inj H; go_enter Try.func24, Try.ntmps24
  go_wp2
  repeat (go_quiet (fail); try go_wp2)
  go_ret
  exact ⟨by first | rfl | (simp; done) | (simp [*]; done), by repeat (first | exact Drawn0.refl _ | apply Drawn0.step)⟩

/-! ### laws_markJobS: function 25 -/
def laws_markJobS.l0 : Nat → List (S63) → Int → Int → Option (Int × (List (S63)))
 | 0, _, _, _ => none
 | k + 1, x0, x1, x5 => if x5 < (x0.length : Int) then (if 0 ≤ x5 then ((some (x0.set (x5 : Int).toNat (⟨x1, (rd_T63 x0 x5).f1, (rd_T63 x0 x5).f2, (rd_T63 x0 x5).f3⟩ : S63) : List (S63))).bind fun y284 => ((some (y284.set (x5 : Int).toNat (⟨(rd_T63 y284 x5).f0, wrap64 (x1 + 1), (rd_T63 y284 x5).f2, (rd_T63 y284 x5).f3⟩ : S63) : List (S63))).bind fun y285 => ((some (y285.set (x5 : Int).toNat (⟨(rd_T63 y285 x5).f0, (rd_T63 y285 x5).f1, wrap64 ((wrap64 (x1 + 1)) + 1), (rd_T63 y285 x5).f3⟩ : S63) : List (S63))).bind fun y286 => (laws_markJobS.l0 k (y286.set (x5 : Int).toNat (⟨(rd_T63 y286 x5).f0, (rd_T63 y286 x5).f1, (rd_T63 y286 x5).f2, wrap64 ((wrap64 ((wrap64 (x1 + 1)) + 1)) + 1)⟩ : S63)) (wrap64 ((wrap64 ((wrap64 ((wrap64 (x1 + 1)) + 1)) + 1)) + 1)) (wrap64 (x5 + 1)))))) else (none)) else (some (x1, x0))
def laws_markJobS.f (k : Nat) (l0 : List (S63)) (a1 : Int) : Option (Int × (List (S63))) := laws_markJobS.l0 k l0 a1 0
theorem laws_markJobS.mono_l : ∀ k, (∀ y0 y1 y2, LeO (laws_markJobS.l0 k y0 y1 y2) (laws_markJobS.l0 (k + 1) y0 y1 y2))
 | 0 => fun _ _ _ r h => by simp [laws_markJobS.l0] at h
 | k + 1 => by
  have ih0 := laws_markJobS.mono_l k
  ·intro y0 y1 y2; unfold laws_markJobS.l0
   repeat' first
   | (with_reducible exact ih0 _ _ _)
   | (with_reducible exact LeO.refl _)
   | (with_reducible exact LeO.none _)
   | (with_reducible refine LeO.ite ?_ ?_)
   | (with_reducible refine LeO.bind ?_ (fun _ => ?_))
   | exact ih0 _ _ _
   | exact LeO.none _
   | refine LeO.ite ?_ ?_
   | refine LeO.bind ?_ (fun _ => ?_)
theorem laws_markJobS.mono : ∀ a0 a1 k, LeO (laws_markJobS.f k a0 a1) (laws_markJobS.f (k + 1) a0 a1) := by
 intro a0 a1 k; have ih0 := laws_markJobS.mono_l k; unfold laws_markJobS.f
 repeat' first
   | (with_reducible exact ih0 _ _ _)
   | (with_reducible exact LeO.refl _)
   | (with_reducible exact LeO.none _)
   | (with_reducible refine LeO.ite ?_ ?_)
   | (with_reducible refine LeO.bind ?_ (fun _ => ?_))
   | exact ih0 _ _ _
   | exact LeO.none _
   | refine LeO.ite ?_ ?_
   | refine LeO.bind ?_ (fun _ => ?_)
set_option maxHeartbeats 8000000 in
set_option maxRecDepth 100000 in
theorem laws_markJobS.calls (k : Nat) (P0_ : Nat → Prop) (u9000_ : Value) (l0 : List (S63)) (a1 : Int) (r1 : Int) (r2 : List (S63)) (w0 w : World) (hB : Below w0.heap.size w0 w) (ho0 : Kd.R k63 63 w w0.heap.size P0_ u9000_ l0) (h : laws_markJobS.f k l0 a1 = some (r1, r2)) :
  Calls Try.prog 25 #[u9000_, .int .i64 a1] w fun e w' => e = .returned (.int .i64 r1) ∧ Kd.R k63 63 w' w0.heap.size (fun k_ => (P0_ k_ ∨ w.heap.size ≤ k_)) u9000_ r2 ∧ Below w0.heap.size w0 w' ∧ Kept w w' (fun k_ => P0_ k_) := by
 have HO0 := ak (show Kd.R k63 63 w w0.heap.size (fun k_ => (P0_ k_ ∨ w.heap.size ≤ k_)) u9000_ l0 from Kd.R_mono ho0 (fun k_ hk => (.inl hk))); have HK := ak (Kept.refl w (fun k_ => P0_ k_)); have HW0 := Aside0.mk hB.size; have HB := Aside0.mk hB; clear hB; have H : (laws_markJobS.l0 k l0 a1 0) = some (r1, r2) := h; clear h; have H' := Aside0.mk H; clear H; go_enter Try.func25, Try.ntmps25
 go_wp2
 go_loopg [1, 5] k (fun kq v1 v5 w' => ∃ (x0_1 : List (S63)) (x1_1 : Int) (x5_1 : Int), v1 = .int .i64 x1_1 ∧ v5 = .int .i64 x5_1 ∧ Aside0 (laws_markJobS.l0 kq x0_1 x1_1 x5_1 = some (r1, r2)) ∧ Aside0 (kq ≤ k) ∧ Aside0 (Kd.R k63 63 w' w0.heap.size (fun k_ => (P0_ k_ ∨ w.heap.size ≤ k_)) u9000_ x0_1) ∧ Aside0 (Kept w w' (fun k_ => P0_ k_)) ∧ Aside0 (Below w0.heap.size w0 w'))
 case atStart => exact ⟨(l0), (a1), (0), (by first | rfl | (simp; done) | (simp [*]; done)), (by first | rfl | (simp; done) | (simp [*]; done)), H', ⟨Nat.le_refl _⟩, ⟨by exact vr HO0.out⟩, ⟨by repeat (first | (with_reducible first | exact HK.out | apply Kept.alloc | apply Kept.drewN | apply Kept.drew) | exact HK.out)⟩, ⟨by exact vh HB.out⟩⟩
 case round =>
  clear H'; try clear c2
  try clear p2
  obtain ⟨x0_1, x1_1, x5_1, rfl, rfl, HA, HK1, HO_0, HK, HB⟩ := hrel; cases gk with
  | zero => exact absurd HA.out (by simp [laws_markJobS.l0])
  | succ k1 =>
   have H := HA.out; clear HA; simp only [laws_markJobS.l0] at H
   by_cases c3 : x5_1 < (x0_1.length : Int)
   ·rw [if_pos c3] at H
    have c3b0 : decide (x5_1 < (x0_1.length : Int)) = true := decide_eq_true c3; clear c3; by_cases c4 : 0 ≤ x5_1
    ·rw [if_pos c4] at H
     have c4b0 : decide (0 ≤ x5_1) = true := decide_eq_true c4; clear c4; obtain ⟨y284, hy284⟩ : ∃ y_ : List (S63), y_ = (x0_1.set (x5_1 : Int).toNat (⟨x1_1, (rd_T63 x0_1 x5_1).f1, (rd_T63 x0_1 x5_1).f2, (rd_T63 x0_1 x5_1).f3⟩ : S63)) := ⟨_, rfl⟩; replace H : ((some (y284.set (x5_1 : Int).toNat (⟨(rd_T63 y284 x5_1).f0, wrap64 (x1_1 + 1), (rd_T63 y284 x5_1).f2, (rd_T63 y284 x5_1).f3⟩ : S63) : List (S63))).bind fun y285 => ((some (y285.set (x5_1 : Int).toNat (⟨(rd_T63 y285 x5_1).f0, (rd_T63 y285 x5_1).f1, wrap64 ((wrap64 (x1_1 + 1)) + 1), (rd_T63 y285 x5_1).f3⟩ : S63) : List (S63))).bind fun y286 => (laws_markJobS.l0 k1 (y286.set (x5_1 : Int).toNat (⟨(rd_T63 y286 x5_1).f0, (rd_T63 y286 x5_1).f1, (rd_T63 y286 x5_1).f2, wrap64 ((wrap64 ((wrap64 (x1_1 + 1)) + 1)) + 1)⟩ : S63)) (wrap64 ((wrap64 ((wrap64 ((wrap64 (x1_1 + 1)) + 1)) + 1)) + 1)) (wrap64 (x5_1 + 1))))) = some (r1, r2) := by first | (rw [hy284]; with_reducible exact H) | (have H2_ := (Option.bind_some _ _).symm.trans H; rw [hy284]; with_reducible exact H2_) | (have H2_ := (Option.bind_some _ _).symm.trans H; with_reducible exact H2_) | with_reducible exact H | (rw [hy284]; exact H) | exact H
     have Ny284 := Aside0.mk hy284; clear hy284; obtain ⟨y285, hy285⟩ : ∃ y_ : List (S63), y_ = (y284.set (x5_1 : Int).toNat (⟨(rd_T63 y284 x5_1).f0, wrap64 (x1_1 + 1), (rd_T63 y284 x5_1).f2, (rd_T63 y284 x5_1).f3⟩ : S63)) := ⟨_, rfl⟩; replace H : ((some (y285.set (x5_1 : Int).toNat (⟨(rd_T63 y285 x5_1).f0, (rd_T63 y285 x5_1).f1, wrap64 ((wrap64 (x1_1 + 1)) + 1), (rd_T63 y285 x5_1).f3⟩ : S63) : List (S63))).bind fun y286 => (laws_markJobS.l0 k1 (y286.set (x5_1 : Int).toNat (⟨(rd_T63 y286 x5_1).f0, (rd_T63 y286 x5_1).f1, (rd_T63 y286 x5_1).f2, wrap64 ((wrap64 ((wrap64 (x1_1 + 1)) + 1)) + 1)⟩ : S63)) (wrap64 ((wrap64 ((wrap64 ((wrap64 (x1_1 + 1)) + 1)) + 1)) + 1)) (wrap64 (x5_1 + 1)))) = some (r1, r2) := by first | (rw [hy285]; with_reducible exact H) | (have H2_ := (Option.bind_some _ _).symm.trans H; rw [hy285]; with_reducible exact H2_) | (have H2_ := (Option.bind_some _ _).symm.trans H; with_reducible exact H2_) | with_reducible exact H | (rw [hy285]; exact H) | exact H
     have Ny285 := Aside0.mk hy285; clear hy285; obtain ⟨y286, hy286⟩ : ∃ y_ : List (S63), y_ = (y285.set (x5_1 : Int).toNat (⟨(rd_T63 y285 x5_1).f0, (rd_T63 y285 x5_1).f1, wrap64 ((wrap64 (x1_1 + 1)) + 1), (rd_T63 y285 x5_1).f3⟩ : S63)) := ⟨_, rfl⟩; replace H : (laws_markJobS.l0 k1 (y286.set (x5_1 : Int).toNat (⟨(rd_T63 y286 x5_1).f0, (rd_T63 y286 x5_1).f1, (rd_T63 y286 x5_1).f2, wrap64 ((wrap64 ((wrap64 (x1_1 + 1)) + 1)) + 1)⟩ : S63)) (wrap64 ((wrap64 ((wrap64 ((wrap64 (x1_1 + 1)) + 1)) + 1)) + 1)) (wrap64 (x5_1 + 1))) = some (r1, r2) := by first | (rw [hy286]; with_reducible exact H) | (have H2_ := (Option.bind_some _ _).symm.trans H; rw [hy286]; with_reducible exact H2_) | (have H2_ := (Option.bind_some _ _).symm.trans H; with_reducible exact H2_) | with_reducible exact H | (rw [hy286]; exact H) | exact H
     have Ny286 := Aside0.mk hy286; clear hy286; obtain ⟨y287, hy287⟩ : ∃ y_ : List (S63), y_ = (y286.set (x5_1 : Int).toNat (⟨(rd_T63 y286 x5_1).f0, (rd_T63 y286 x5_1).f1, (rd_T63 y286 x5_1).f2, wrap64 ((wrap64 ((wrap64 (x1_1 + 1)) + 1)) + 1)⟩ : S63)) := ⟨_, rfl⟩; replace H : (laws_markJobS.l0 k1 y287 (wrap64 ((wrap64 ((wrap64 ((wrap64 (x1_1 + 1)) + 1)) + 1)) + 1)) (wrap64 (x5_1 + 1))) = some (r1, r2) := by first | (rw [hy287]; with_reducible exact H) | (have H2_ := (Option.bind_some _ _).symm.trans H; rw [hy287]; with_reducible exact H2_) | (have H2_ := (Option.bind_some _ _).symm.trans H; with_reducible exact H2_) | with_reducible exact H | (rw [hy287]; exact H) | exact H
     have Ny287 := Aside0.mk hy287; clear hy287; have H' := Aside0.mk H; clear H; obtain ⟨Ao9, co9, eo9⟩ := Kd.R_slice HO_0.out; subst eo9; have p5 : 0 ≤ (x5_1 : Int) := of_decide_eq_true va; have q5 : (x5_1 : Int) < ((x0_1.length : Int) : Int) := of_decide_eq_true va; obtain ⟨go5, co5, eo5, gb5, gl5, cl5, HG5⟩ := Kd.R_form HO_0.out (by omega); (first | cases eo5 | (injection eo5 with ea_ en_ ec_; (first | subst ea_ | (injection ea_ with ea_; subst ea_)); subst ec_; clear en_)); have GB5 := Aside0.mk gb5; have GG5 := Aside0.mk HG5; clear gb5 gl5 HG5; have HMgo5 := ak (show (P0_ go5 ∨ w.heap.size ≤ go5) from (HO_0.out.1 _ rfl)); obtain ⟨ce5, hcl5, hM5, hcc5, hfr5⟩ := Kd.R_elem HO_0.out z63 (x5_1 : Int) p5 q5; obtain rfl := k63_openM hM5; have hx5_0 : wr.cell? ⟨go5, (x5_1 : Int).toNat * 4, none⟩ = some (.int .i64 ((rd_T63 x0_1 x5_1).f0)) := hcc5 0 _ rfl; have hx5_1 : wr.cell? ⟨go5, (x5_1 : Int).toNat * 4 + 1, none⟩ = some (.int .i64 ((rd_T63 x0_1 x5_1).f1)) := hcc5 1 _ rfl; have hx5_2 : wr.cell? ⟨go5, (x5_1 : Int).toNat * 4 + 2, none⟩ = some (.int .i64 ((rd_T63 x0_1 x5_1).f2)) := hcc5 2 _ rfl; have hx5_3 : wr.cell? ⟨go5, (x5_1 : Int).toNat * 4 + 3, none⟩ = some (.int .i64 ((rd_T63 x0_1 x5_1).f3)) := hcc5 3 _ rfl; have hf5_0 : wr.frozen? ⟨go5, (x5_1 : Int).toNat * 4, none⟩ = false := hfr5 0; have hf5_1 : wr.frozen? ⟨go5, (x5_1 : Int).toNat * 4 + 1, none⟩ = false := hfr5 1; have hf5_2 : wr.frozen? ⟨go5, (x5_1 : Int).toNat * 4 + 2, none⟩ = false := hfr5 2; have hf5_3 : wr.frozen? ⟨go5, (x5_1 : Int).toNat * 4 + 3, none⟩ = false := hfr5 3; clear hcl5 hcc5 hfr5 hM5; replace p5 := eq_true p5; replace q5 := eq_true q5; have HX10 := ak (show Kd.R k63 63 wr w0.heap.size (fun k_ => (P0_ k_ ∨ w.heap.size ≤ k_)) (.slice (some ⟨go5, 0, none⟩) x0_1.length co9) x0_1 from (vr HO_0.out)); obtain ⟨ce10, hcl10, hM10, hcc10, hfr10⟩ := Kd.R_elem HX10.out z63 (x5_1 : Int) (of_decide_eq_true va) (by have h_ : (x5_1 : Int) < ((x0_1.length : Int) : Int) := of_decide_eq_true va; first | exact h_ | (have e_ := (Kd.R_reads' HO_0.out).1; omega) | simpa using h_); obtain rfl := k63_openM hM10; have HP10 := Kd.R_seg HX10.out (x5_1 : Int) (of_decide_eq_true va) (by have h_ : (x5_1 : Int) < ((x0_1.length : Int) : Int) := of_decide_eq_true va; first | exact h_ | (have e_ := (Kd.R_reads' HO_0.out).1; omega) | simpa using h_) (seg := [.int .i64 x1_1]) (j := 0) hcl10 hcc10 (show 1 ≤ 4 from by decide) (x' := (⟨x1_1, (rd_T63 x0_1 x5_1).f1, (rd_T63 x0_1 x5_1).f2, (rd_T63 x0_1 x5_1).f3⟩ : S63)) (k63_mkM _ _ _ (⟨x1_1, (rd_T63 x0_1 x5_1).f1, (rd_T63 x0_1 x5_1).f2, (rd_T63 x0_1 x5_1).f3⟩ : S63) ) (fun _ hk => hk); have hx10_0 := hcc10 0 _ rfl; (try simp only [show (k63).sz = 4 from rfl, Nat.mul_one, Nat.add_zero] at hx10_0); have hf10_0 := hfr10 0; (try simp only [show (k63).sz = 4 from rfl, Nat.mul_one, Nat.add_zero] at hf10_0); clear hcl10 hcc10 hfr10 hM10; go_wp2_with (first | ((with_reducible refine gate_store (t := 3) (p := 16) rfl ?_); refine store_event (t := 3) (p := 16) (v := ?vo_w11) (w1 := (wr.setCell ⟨go5, (x5_1 : Int).toNat * 4, none⟩ (.int .i64 x1_1))) ?hg ?ho ?hn ?hr ?_; (case ho => rfl); (case hg => rfl); (case hn => rfl); (case hr => first | (go_simp; done) | (go_simp; rfl)); intro w11 hw; have hg : wr.grownBy w11 (some go5) := (by rw [hw]; exact HP10.2); have hp_ : Kd.R k63 63 w11 w0.heap.size (fun k_ => (P0_ k_ ∨ w.heap.size ≤ k_)) (.slice (some ⟨go5, 0, none⟩) x0_1.length co9) y284 := (by rw [hw, Ny284.out]; exact HP10.1); clear HP10; have n0_ := ak (hp_); have n1_ := ak ((by rw [hw]; exact below_set (HB.out) GB5.out : Below w0.heap.size w0 w11)); have n2_ := ak (Kept.of_grown (S := (fun k_ => P0_ k_)) hg (by repeat (first | (with_reducible first | exact HK.out | apply Kept.alloc | apply Kept.drewN | apply Kept.drew) | exact HK.out)) (fun k_ e_ => (HO_0.out.1 k_ e_))); clear HO_0; clear HB; clear HK; have HO_0 := n0_; have HB := n1_; have HK := n2_; clear n0_ n1_ n2_; clear hg hw hp_; have p6 : 0 ≤ (x5_1 : Int) := of_decide_eq_true va; have q6 : (x5_1 : Int) < ((x0_1.length : Int) : Int) := of_decide_eq_true va; obtain ⟨ce6, hcl6, hM6, hcc6, hfr6⟩ := Kd.R_elem HO_0.out z63 (x5_1 : Int) p6 q6; obtain rfl := k63_openM hM6; have hx6_0 : w11.cell? ⟨go5, (x5_1 : Int).toNat * 4, none⟩ = some (.int .i64 ((rd_T63 y284 x5_1).f0)) := hcc6 0 _ rfl; have hx6_1 : w11.cell? ⟨go5, (x5_1 : Int).toNat * 4 + 1, none⟩ = some (.int .i64 ((rd_T63 y284 x5_1).f1)) := hcc6 1 _ rfl; have hx6_2 : w11.cell? ⟨go5, (x5_1 : Int).toNat * 4 + 2, none⟩ = some (.int .i64 ((rd_T63 y284 x5_1).f2)) := hcc6 2 _ rfl; have hx6_3 : w11.cell? ⟨go5, (x5_1 : Int).toNat * 4 + 3, none⟩ = some (.int .i64 ((rd_T63 y284 x5_1).f3)) := hcc6 3 _ rfl; have hf6_0 : w11.frozen? ⟨go5, (x5_1 : Int).toNat * 4, none⟩ = false := hfr6 0; have hf6_1 : w11.frozen? ⟨go5, (x5_1 : Int).toNat * 4 + 1, none⟩ = false := hfr6 1; have hf6_2 : w11.frozen? ⟨go5, (x5_1 : Int).toNat * 4 + 2, none⟩ = false := hfr6 2; have hf6_3 : w11.frozen? ⟨go5, (x5_1 : Int).toNat * 4 + 3, none⟩ = false := hfr6 3; clear hcl6 hcc6 hfr6 hM6; replace p6 := eq_true p6; replace q6 := eq_true q6; have HX12 := ak (show Kd.R k63 63 w11 w0.heap.size (fun k_ => (P0_ k_ ∨ w.heap.size ≤ k_)) (.slice (some ⟨go5, 0, none⟩) x0_1.length co9) y284 from (vr HO_0.out)); obtain ⟨ce12, hcl12, hM12, hcc12, hfr12⟩ := Kd.R_elem HX12.out z63 (x5_1 : Int) (of_decide_eq_true va) (by have h_ : (x5_1 : Int) < ((x0_1.length : Int) : Int) := of_decide_eq_true va; first | exact h_ | (have e_ := (Kd.R_reads' HO_0.out).1; omega) | simpa using h_); obtain rfl := k63_openM hM12; have HP12 := Kd.R_seg HX12.out (x5_1 : Int) (of_decide_eq_true va) (by have h_ : (x5_1 : Int) < ((x0_1.length : Int) : Int) := of_decide_eq_true va; first | exact h_ | (have e_ := (Kd.R_reads' HO_0.out).1; omega) | simpa using h_) (seg := [.int .i64 (wrap64 (x1_1 + 1))]) (j := 1) hcl12 hcc12 (show 2 ≤ 4 from by decide) (x' := (⟨(rd_T63 y284 x5_1).f0, wrap64 (x1_1 + 1), (rd_T63 y284 x5_1).f2, (rd_T63 y284 x5_1).f3⟩ : S63)) (k63_mkM _ _ _ (⟨(rd_T63 y284 x5_1).f0, wrap64 (x1_1 + 1), (rd_T63 y284 x5_1).f2, (rd_T63 y284 x5_1).f3⟩ : S63) ) (fun _ hk => hk); have hx12_1 := hcc12 1 _ rfl; (try simp only [show (k63).sz = 4 from rfl, Nat.mul_one, Nat.add_zero] at hx12_1); have hf12_1 := hfr12 1; (try simp only [show (k63).sz = 4 from rfl, Nat.mul_one, Nat.add_zero] at hf12_1); clear hcl12 hcc12 hfr12 hM12) | ((with_reducible refine gate_store (t := 3) (p := 23) rfl ?_); refine store_event (t := 3) (p := 23) (v := ?vo_w13) (w1 := (w11.setCell ⟨go5, (x5_1 : Int).toNat * 4 + 1, none⟩ (.int .i64 (wrap64 (x1_1 + 1))))) ?hg ?ho ?hn ?hr ?_; (case ho => rfl); (case hg => rfl); (case hn => rfl); (case hr => first | (go_simp; done) | (go_simp; rfl)); intro w13 hw; have hg : w11.grownBy w13 (some go5) := (by rw [hw]; exact HP12.2); have hp_ : Kd.R k63 63 w13 w0.heap.size (fun k_ => (P0_ k_ ∨ w.heap.size ≤ k_)) (.slice (some ⟨go5, 0, none⟩) x0_1.length co9) y285 := (by rw [hw, Ny285.out]; exact HP12.1); clear HP12; have n0_ := ak (hp_); have n1_ := ak ((by rw [hw]; exact below_set (HB.out) GB5.out : Below w0.heap.size w0 w13)); have n2_ := ak (Kept.of_grown (S := (fun k_ => P0_ k_)) hg (by repeat (first | (with_reducible first | exact HK.out | apply Kept.alloc | apply Kept.drewN | apply Kept.drew) | exact HK.out)) (fun k_ e_ => (HO_0.out.1 k_ e_))); clear HO_0; clear HB; clear HK; have HO_0 := n0_; have HB := n1_; have HK := n2_; clear n0_ n1_ n2_; clear hg hw hp_; have p7 : 0 ≤ (x5_1 : Int) := of_decide_eq_true va; have q7 : (x5_1 : Int) < ((x0_1.length : Int) : Int) := of_decide_eq_true va; obtain ⟨ce7, hcl7, hM7, hcc7, hfr7⟩ := Kd.R_elem HO_0.out z63 (x5_1 : Int) p7 q7; obtain rfl := k63_openM hM7; have hx7_0 : w13.cell? ⟨go5, (x5_1 : Int).toNat * 4, none⟩ = some (.int .i64 ((rd_T63 y285 x5_1).f0)) := hcc7 0 _ rfl; have hx7_1 : w13.cell? ⟨go5, (x5_1 : Int).toNat * 4 + 1, none⟩ = some (.int .i64 ((rd_T63 y285 x5_1).f1)) := hcc7 1 _ rfl; have hx7_2 : w13.cell? ⟨go5, (x5_1 : Int).toNat * 4 + 2, none⟩ = some (.int .i64 ((rd_T63 y285 x5_1).f2)) := hcc7 2 _ rfl; have hx7_3 : w13.cell? ⟨go5, (x5_1 : Int).toNat * 4 + 3, none⟩ = some (.int .i64 ((rd_T63 y285 x5_1).f3)) := hcc7 3 _ rfl; have hf7_0 : w13.frozen? ⟨go5, (x5_1 : Int).toNat * 4, none⟩ = false := hfr7 0; have hf7_1 : w13.frozen? ⟨go5, (x5_1 : Int).toNat * 4 + 1, none⟩ = false := hfr7 1; have hf7_2 : w13.frozen? ⟨go5, (x5_1 : Int).toNat * 4 + 2, none⟩ = false := hfr7 2; have hf7_3 : w13.frozen? ⟨go5, (x5_1 : Int).toNat * 4 + 3, none⟩ = false := hfr7 3; clear hcl7 hcc7 hfr7 hM7; replace p7 := eq_true p7; replace q7 := eq_true q7; have HX14 := ak (show Kd.R k63 63 w13 w0.heap.size (fun k_ => (P0_ k_ ∨ w.heap.size ≤ k_)) (.slice (some ⟨go5, 0, none⟩) x0_1.length co9) y285 from (vr HO_0.out)); obtain ⟨ce14, hcl14, hM14, hcc14, hfr14⟩ := Kd.R_elem HX14.out z63 (x5_1 : Int) (of_decide_eq_true va) (by have h_ : (x5_1 : Int) < ((x0_1.length : Int) : Int) := of_decide_eq_true va; first | exact h_ | (have e_ := (Kd.R_reads' HO_0.out).1; omega) | simpa using h_); obtain rfl := k63_openM hM14; have HP14 := Kd.R_seg HX14.out (x5_1 : Int) (of_decide_eq_true va) (by have h_ : (x5_1 : Int) < ((x0_1.length : Int) : Int) := of_decide_eq_true va; first | exact h_ | (have e_ := (Kd.R_reads' HO_0.out).1; omega) | simpa using h_) (seg := [.int .i64 (wrap64 ((wrap64 (x1_1 + 1)) + 1))]) (j := 2) hcl14 hcc14 (show 3 ≤ 4 from by decide) (x' := (⟨(rd_T63 y285 x5_1).f0, (rd_T63 y285 x5_1).f1, wrap64 ((wrap64 (x1_1 + 1)) + 1), (rd_T63 y285 x5_1).f3⟩ : S63)) (k63_mkM _ _ _ (⟨(rd_T63 y285 x5_1).f0, (rd_T63 y285 x5_1).f1, wrap64 ((wrap64 (x1_1 + 1)) + 1), (rd_T63 y285 x5_1).f3⟩ : S63) ) (fun _ hk => hk); have hx14_2 := hcc14 2 _ rfl; (try simp only [show (k63).sz = 4 from rfl, Nat.mul_one, Nat.add_zero] at hx14_2); have hf14_2 := hfr14 2; (try simp only [show (k63).sz = 4 from rfl, Nat.mul_one, Nat.add_zero] at hf14_2); clear hcl14 hcc14 hfr14 hM14) | ((with_reducible refine gate_store (t := 3) (p := 30) rfl ?_); refine store_event (t := 3) (p := 30) (v := ?vo_w15) (w1 := (w13.setCell ⟨go5, (x5_1 : Int).toNat * 4 + 2, none⟩ (.int .i64 (wrap64 ((wrap64 (x1_1 + 1)) + 1))))) ?hg ?ho ?hn ?hr ?_; (case ho => rfl); (case hg => rfl); (case hn => rfl); (case hr => first | (go_simp; done) | (go_simp; rfl)); intro w15 hw; have hg : w13.grownBy w15 (some go5) := (by rw [hw]; exact HP14.2); have hp_ : Kd.R k63 63 w15 w0.heap.size (fun k_ => (P0_ k_ ∨ w.heap.size ≤ k_)) (.slice (some ⟨go5, 0, none⟩) x0_1.length co9) y286 := (by rw [hw, Ny286.out]; exact HP14.1); clear HP14; have n0_ := ak (hp_); have n1_ := ak ((by rw [hw]; exact below_set (HB.out) GB5.out : Below w0.heap.size w0 w15)); have n2_ := ak (Kept.of_grown (S := (fun k_ => P0_ k_)) hg (by repeat (first | (with_reducible first | exact HK.out | apply Kept.alloc | apply Kept.drewN | apply Kept.drew) | exact HK.out)) (fun k_ e_ => (HO_0.out.1 k_ e_))); clear HO_0; clear HB; clear HK; have HO_0 := n0_; have HB := n1_; have HK := n2_; clear n0_ n1_ n2_; clear hg hw hp_; have p8 : 0 ≤ (x5_1 : Int) := of_decide_eq_true va; have q8 : (x5_1 : Int) < ((x0_1.length : Int) : Int) := of_decide_eq_true va; obtain ⟨ce8, hcl8, hM8, hcc8, hfr8⟩ := Kd.R_elem HO_0.out z63 (x5_1 : Int) p8 q8; obtain rfl := k63_openM hM8; have hx8_0 : w15.cell? ⟨go5, (x5_1 : Int).toNat * 4, none⟩ = some (.int .i64 ((rd_T63 y286 x5_1).f0)) := hcc8 0 _ rfl; have hx8_1 : w15.cell? ⟨go5, (x5_1 : Int).toNat * 4 + 1, none⟩ = some (.int .i64 ((rd_T63 y286 x5_1).f1)) := hcc8 1 _ rfl; have hx8_2 : w15.cell? ⟨go5, (x5_1 : Int).toNat * 4 + 2, none⟩ = some (.int .i64 ((rd_T63 y286 x5_1).f2)) := hcc8 2 _ rfl; have hx8_3 : w15.cell? ⟨go5, (x5_1 : Int).toNat * 4 + 3, none⟩ = some (.int .i64 ((rd_T63 y286 x5_1).f3)) := hcc8 3 _ rfl; have hf8_0 : w15.frozen? ⟨go5, (x5_1 : Int).toNat * 4, none⟩ = false := hfr8 0; have hf8_1 : w15.frozen? ⟨go5, (x5_1 : Int).toNat * 4 + 1, none⟩ = false := hfr8 1; have hf8_2 : w15.frozen? ⟨go5, (x5_1 : Int).toNat * 4 + 2, none⟩ = false := hfr8 2; have hf8_3 : w15.frozen? ⟨go5, (x5_1 : Int).toNat * 4 + 3, none⟩ = false := hfr8 3; clear hcl8 hcc8 hfr8 hM8; replace p8 := eq_true p8; replace q8 := eq_true q8; have HX16 := ak (show Kd.R k63 63 w15 w0.heap.size (fun k_ => (P0_ k_ ∨ w.heap.size ≤ k_)) (.slice (some ⟨go5, 0, none⟩) x0_1.length co9) y286 from (vr HO_0.out)); obtain ⟨ce16, hcl16, hM16, hcc16, hfr16⟩ := Kd.R_elem HX16.out z63 (x5_1 : Int) (of_decide_eq_true va) (by have h_ : (x5_1 : Int) < ((x0_1.length : Int) : Int) := of_decide_eq_true va; first | exact h_ | (have e_ := (Kd.R_reads' HO_0.out).1; omega) | simpa using h_); obtain rfl := k63_openM hM16; have HP16 := Kd.R_seg HX16.out (x5_1 : Int) (of_decide_eq_true va) (by have h_ : (x5_1 : Int) < ((x0_1.length : Int) : Int) := of_decide_eq_true va; first | exact h_ | (have e_ := (Kd.R_reads' HO_0.out).1; omega) | simpa using h_) (seg := [.int .i64 (wrap64 ((wrap64 ((wrap64 (x1_1 + 1)) + 1)) + 1))]) (j := 3) hcl16 hcc16 (show 4 ≤ 4 from by decide) (x' := (⟨(rd_T63 y286 x5_1).f0, (rd_T63 y286 x5_1).f1, (rd_T63 y286 x5_1).f2, wrap64 ((wrap64 ((wrap64 (x1_1 + 1)) + 1)) + 1)⟩ : S63)) (k63_mkM _ _ _ (⟨(rd_T63 y286 x5_1).f0, (rd_T63 y286 x5_1).f1, (rd_T63 y286 x5_1).f2, wrap64 ((wrap64 ((wrap64 (x1_1 + 1)) + 1)) + 1)⟩ : S63) ) (fun _ hk => hk); have hx16_3 := hcc16 3 _ rfl; (try simp only [show (k63).sz = 4 from rfl, Nat.mul_one, Nat.add_zero] at hx16_3); have hf16_3 := hfr16 3; (try simp only [show (k63).sz = 4 from rfl, Nat.mul_one, Nat.add_zero] at hf16_3); clear hcl16 hcc16 hfr16 hM16) | ((with_reducible refine gate_store (t := 3) (p := 37) rfl ?_); refine store_event (t := 3) (p := 37) (v := ?vo_w17) (w1 := (w15.setCell ⟨go5, (x5_1 : Int).toNat * 4 + 3, none⟩ (.int .i64 (wrap64 ((wrap64 ((wrap64 (x1_1 + 1)) + 1)) + 1))))) ?hg ?ho ?hn ?hr ?_; (case ho => rfl); (case hg => rfl); (case hn => rfl); (case hr => first | (go_simp; done) | (go_simp; rfl)); intro w17 hw; have hg : w15.grownBy w17 (some go5) := (by rw [hw]; exact HP16.2); have hp_ : Kd.R k63 63 w17 w0.heap.size (fun k_ => (P0_ k_ ∨ w.heap.size ≤ k_)) (.slice (some ⟨go5, 0, none⟩) x0_1.length co9) y287 := (by rw [hw, Ny287.out]; exact HP16.1); clear HP16; have n0_ := ak (hp_); have n1_ := ak ((by rw [hw]; exact below_set (HB.out) GB5.out : Below w0.heap.size w0 w17)); have n2_ := ak (Kept.of_grown (S := (fun k_ => P0_ k_)) hg (by repeat (first | (with_reducible first | exact HK.out | apply Kept.alloc | apply Kept.drewN | apply Kept.drew) | exact HK.out)) (fun k_ e_ => (HO_0.out.1 k_ e_))); clear HO_0; clear HB; clear HK; have HO_0 := n0_; have HB := n1_; have HK := n2_; clear n0_ n1_ n2_; clear hg hw hp_))
     go_roundg k1
     case measure => have := HK1.out; omega
     case rel => exact ⟨(y287), (wrap64 ((wrap64 ((wrap64 ((wrap64 (x1_1 + 1)) + 1)) + 1)) + 1)), (wrap64 (x5_1 + 1)), vq, vq, H', ⟨by have := HK1.out; omega⟩, ⟨by exact vr HO_0.out⟩, ⟨by repeat (first | (with_reducible first | exact HK.out | apply Kept.alloc | apply Kept.drewN | apply Kept.drew) | exact HK.out)⟩, ⟨by exact vh HB.out⟩⟩
    ·rw [if_neg c4] at H
     exact absurd H (by simp)
   ·rw [if_neg c3] at H
    have c3b0 : decide (x5_1 < (x0_1.length : Int)) = false := decide_eq_false c3; clear c3; simp only [Option.some.injEq, Prod.mk.injEq] at H
    obtain ⟨rfl, rfl⟩ := H; obtain ⟨Ao18, co18, eo18⟩ := Kd.R_slice HO_0.out; subst eo18; go_wp2
    go_ret
    exact ⟨by first | rfl | (simp [errW_none, errW_some] <;> rfl) | (simp [*, errW_none, errW_some] <;> rfl), by exact vr HO_0.out, by exact vh HB.out, by repeat (first | (with_reducible first | exact HK.out | apply Kept.alloc | apply Kept.drewN | apply Kept.drew) | exact HK.out)⟩

end Go.Proofs.Ytlgmccliclmbaaa.PFnExactWaitsOf
