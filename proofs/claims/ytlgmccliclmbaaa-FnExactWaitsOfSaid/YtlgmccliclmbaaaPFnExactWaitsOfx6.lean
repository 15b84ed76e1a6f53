-- Written by a program of this session (the kit's print with this session's additions, wip/tools): Lean checks it. (pressed)
import Derived.Test.YtlgmccliclmbaaaAbbr
import Derived.Test.YtlgmccliclmbaaaPFnExactWaitsOfx0
import Derived.Test.YtlgmccliclmbaaaPFnExactWaitsOfx2
import Derived.Test.YtlgmccliclmbaaaPFnExactWaitsOfx5
namespace Go.Proofs.Ytlgmccliclmbaaa.PFnExactWaitsOf
open Go.RowKit Go.Proofs.YtlgmccliclmbaaaW.PrintWords Go.Proofs.YtlgmccliclmbaaaW.PrintLast Go.Proofs.YtlgmccliclmbaaaW.PrintMore
attribute [local go_sem] max2_int min2_int max_two min_two max_three min_three max_four min_four   -- for this text's walks alone
set_option linter.unusedVariables false
set_option linter.unusedSimpArgs false

/-! ### spec_WaitsOf: function 22 -/
mutual
def spec_WaitsOf.j0 : Nat → List (S63) → List (S67) → Bool → Option (List Int × Bool)
 | 0, _, _, _ => none
 | k + 1, x1, x2, x22 => if x22 = true then (some ((([] : List Int)), false)) else (if 0 ≤ (x1.length : Int) then (if ((x1.length : Int) : Int).toNat ≤ 35184372088832 then (spec_WaitsOf.l0 k x1 x2 (List.replicate ((x1.length : Int) : Int).toNat 0) 0) else (none)) else (none))
def spec_WaitsOf.l0 : Nat → List (S63) → List (S67) → List Int → Int → Option (List Int × Bool)
 | 0, _, _, _, _ => none
 | k + 1, x1, x2, x8, x9 => if x9 < (x2.length : Int) then (if 0 ≤ x9 then (if 0 ≤ ((rd_T67 x2 x9).f0) then (if ((rd_T67 x2 x9).f0) < (x1.length : Int) then ((spec_l10Steps.f ((rd_T63 x1 ((rd_T67 x2 x9).f0)).f0) ((rd_T63 x1 ((rd_T67 x2 x9).f0)).f1) ((rd_T63 x1 ((rd_T67 x2 x9).f0)).f2) ((rd_T63 x1 ((rd_T67 x2 x9).f0)).f3)).bind fun bt183 => (if ((rd_T67 x2 x9).f0) < (x8.length : Int) then (spec_WaitsOf.l0 k x1 x2 (x8.set (((rd_T67 x2 x9).f0) : Int).toNat (wrap64 ((wrap64 ((wrap64 (((rd_T67 x2 x9).f2) + ((rd_T63 x1 ((rd_T67 x2 x9).f0)).f2))) - ((rd_T63 x1 ((rd_T67 x2 x9).f0)).f3))) - (wrap64 (bt183.1 * ((rd_T63 x1 ((rd_T67 x2 x9).f0)).f2)))))) (wrap64 (x9 + 1))) else (none))) else (none)) else (none)) else (none)) else (some (x8, true))
end
def spec_WaitsOf.f (k : Nat) (a0 : Int) (l1 : List (S63)) (l2 : List (S67)) : Option (List Int × Bool) := (spec_l10Good.f k a0 l1).bind fun t173 => (if t173 = true then ((spec_l10IsPlan.f k l1 l2).bind fun t174 => (spec_WaitsOf.j0 k l1 l2 (!t174))) else (spec_WaitsOf.j0 k l1 l2 true))
theorem spec_WaitsOf.mono_l : ∀ k, (∀ y0 y1 y2, LeO (spec_WaitsOf.j0 k y0 y1 y2) (spec_WaitsOf.j0 (k + 1) y0 y1 y2)) ∧ (∀ y0 y1 y2 y3, LeO (spec_WaitsOf.l0 k y0 y1 y2 y3) (spec_WaitsOf.l0 (k + 1) y0 y1 y2 y3))
 | 0 => ⟨fun _ _ _ r h => by simp [spec_WaitsOf.j0] at h, fun _ _ _ _ r h => by simp [spec_WaitsOf.l0] at h⟩
 | k + 1 => by
  obtain ⟨ih0, ih1⟩ := spec_WaitsOf.mono_l k; refine ⟨?_, ?_⟩
  ·intro y0 y1 y2; unfold spec_WaitsOf.j0
   repeat' first
   | (with_reducible exact ih0 _ _ _)
   | (with_reducible exact ih1 _ _ _ _)
   | (with_reducible exact spec_l10Good.mono _ _ _)
   | (with_reducible exact spec_l10IsPlan.mono _ _ _)
   | (with_reducible exact LeO.refl _)
   | (with_reducible exact LeO.none _)
   | (with_reducible refine LeO.ite ?_ ?_)
   | (with_reducible refine LeO.bind ?_ (fun _ => ?_))
   | exact ih0 _ _ _
   | exact ih1 _ _ _ _
   | exact spec_l10Good.mono _ _ _
   | exact spec_l10IsPlan.mono _ _ _
   | exact LeO.none _
   | refine LeO.ite ?_ ?_
   | refine LeO.bind ?_ (fun _ => ?_)
  ·intro y0 y1 y2 y3; unfold spec_WaitsOf.l0
   repeat' first
   | (with_reducible exact ih0 _ _ _)
   | (with_reducible exact ih1 _ _ _ _)
   | (with_reducible exact spec_l10Good.mono _ _ _)
   | (with_reducible exact spec_l10IsPlan.mono _ _ _)
   | (with_reducible exact LeO.refl _)
   | (with_reducible exact LeO.none _)
   | (with_reducible refine LeO.ite ?_ ?_)
   | (with_reducible refine LeO.bind ?_ (fun _ => ?_))
   | exact ih0 _ _ _
   | exact ih1 _ _ _ _
   | exact spec_l10Good.mono _ _ _
   | exact spec_l10IsPlan.mono _ _ _
   | exact LeO.none _
   | refine LeO.ite ?_ ?_
   | refine LeO.bind ?_ (fun _ => ?_)
theorem spec_WaitsOf.mono : ∀ a0 a1 a2 k, LeO (spec_WaitsOf.f k a0 a1 a2) (spec_WaitsOf.f (k + 1) a0 a1 a2) := by
 intro a0 a1 a2 k; obtain ⟨ih0, ih1⟩ := spec_WaitsOf.mono_l k; unfold spec_WaitsOf.f
 repeat' first
   | (with_reducible exact ih0 _ _ _)
   | (with_reducible exact ih1 _ _ _ _)
   | (with_reducible exact spec_l10Good.mono _ _ _)
   | (with_reducible exact spec_l10IsPlan.mono _ _ _)
   | (with_reducible exact LeO.refl _)
   | (with_reducible exact LeO.none _)
   | (with_reducible refine LeO.ite ?_ ?_)
   | (with_reducible refine LeO.bind ?_ (fun _ => ?_))
   | exact ih0 _ _ _
   | exact ih1 _ _ _ _
   | exact spec_l10Good.mono _ _ _
   | exact spec_l10IsPlan.mono _ _ _
   | exact LeO.none _
   | refine LeO.ite ?_ ?_
   | refine LeO.bind ?_ (fun _ => ?_)
def spec_WaitsOf.T9 : Bool × List (List Nat × List Nat) := (true, [([], []), ([], []), ([], []), ([], []), ([2, 3], [2, 3]), ([4], [4]), ([5], [5]), ([], []), ([], []), ([7, 8], [7, 8]), ([9], [9]), ([10], [10]), ([6, 11], [6, 11]), ([], []), ([], []), ([13, 14], [13, 14]), ([15], [15]), ([16], [16]), ([12, 17], [12, 17]), ([], []), ([], []), ([], []), ([20, 21], [20, 21]), ([22], [22]), ([23], [23]), ([19, 24], [19, 24]), ([18, 25], [18, 25]), ([0, 1, 0, 1, 2, 3, 4, 5, 6, 7, 8, 9, 10, 11, 12, 13, 14, 15, 16, 17, 18, 19, 20, 21, 22, 23, 24, 25, 26], [0, 1]), ([27, 26, 0, 1, 2, 3, 4, 5, 6, 7, 8, 9, 10, 11, 12, 13, 14, 15, 16, 17, 18, 19, 20, 21, 22, 23, 24, 25, 26], [26, 27])])
def spec_WaitsOf.B9 : List Nat := [0, 0, 0, 0, 12, 28, 60, 0, 0, 384, 896, 1920, 4092, 0, 0, 24576, 57344, 122880, 262140, 0, 0, 0, 3145728, 7340032, 15728640, 33030144, 67108860, 134217727, 268435455]
theorem spec_WaitsOf.tab9 : rtab .any (opsOf Try.f22 9) = spec_WaitsOf.T9 := by kernel_rfl
theorem spec_WaitsOf.bits9 : waitsOk spec_WaitsOf.T9.2 spec_WaitsOf.B9 = true := by kernel_rfl
set_option maxHeartbeats 8000000 in
set_option maxRecDepth 100000 in
theorem spec_WaitsOf.calls (k : Nat) (a0 : Int) (A1 : Option Addr) (c1 : Nat) (l1 : List (S63)) (A2 : Option Addr) (c2 : Nat) (l2 : List (S67)) (r1 : List Int) (r2 : Bool) (w : World) (hr1 : Kd.C k63 w A1 l1.length l1) (hc1 : l1.length ≤ c1) (hr2 : Kd.C k67 w A2 l2.length l2) (hc2 : l2.length ≤ c2) (h : spec_WaitsOf.f k a0 l1 l2 = some (r1, r2)) :
  Calls Try.prog 22 #[.int .i64 a0, .slice A1 l1.length c1, .slice A2 l2.length c2] w fun e w' => ∃ v0_ : Value, e = .returned (.tuple #[v0_, .bool r2]) ∧ Kd.R (Kd.int .i64) 3 w' w.heap.size (fun _ => True) v0_ r1 ∧ Below w.heap.size w w' := by
 have hu63 := Try.underlying63; have HR1 := Aside0.mk hr1; have HC1 := Aside0.mk hc1; clear hr1 hc1; have HR2 := Aside0.mk hr2; have HC2 := Aside0.mk hc2; clear hr2 hc2; have HB := ak (Below.refl w.heap.size w); have H : ((spec_l10Good.f k a0 l1).bind fun t173 => (if t173 = true then ((spec_l10IsPlan.f k l1 l2).bind fun t174 => (spec_WaitsOf.j0 k l1 l2 (!t174))) else (spec_WaitsOf.j0 k l1 l2 true))) = some (r1, r2) := h; clear h; have HC4 := Aside0.mk H; clear H; go_enter Try.func22, Try.ntmps22
 go_upto_region 1 with (fail)
 go_cut [22] (fun v22 wc => ∃ (kq : Nat) (x22_3 : Bool), v22 = .bool x22_3 ∧ Aside0 (spec_WaitsOf.j0 kq l1 l2 x22_3 = some (r1, r2)) ∧ Aside0 (kq ≤ k) ∧ Aside0 (Below w.heap.size w wc))
 case first =>
  have H := HC4.out; clear HC4; replace H := Option.bind_eq_some_iff.mp H; obtain ⟨t173, A50, H⟩ := H; replace H : (if t173 = true then ((spec_l10IsPlan.f k l1 l2).bind fun t174 => (spec_WaitsOf.j0 k l1 l2 (!t174))) else (spec_WaitsOf.j0 k l1 l2 true)) = some (r1, r2) := H; have A5 := Aside0.mk A50; clear A50; by_cases c6 : t173 = true
  ·subst c6; have H1 : ((spec_l10IsPlan.f k l1 l2).bind fun t174 => (spec_WaitsOf.j0 k l1 l2 (!t174))) = some (r1, r2) := by rw [if_pos rfl] at H; first | exact H | (simp only [if_true, eq_self] at H ⊢; exact H)
   clear H; have H := H1; clear H1; replace H := Option.bind_eq_some_iff.mp H; obtain ⟨t174, A70, H⟩ := H; replace H : (spec_WaitsOf.j0 k l1 l2 (!t174)) = some (r1, r2) := H; have A7 := Aside0.mk A70; clear A70; have H' := Aside0.mk H; clear H; go_wp2_with (first | ((with_reducible refine gate_callee (f := 44) rfl ?_); refine goesL_ (some 15) rfl rfl Try.func44 (by kernel_rfl) rfl #[.int .i64 a0, .slice A1 l1.length c1] rfl vm ?_; (with_reducible refine (spec_l10Good.calls k a0 _ _ l1 true _ ?side1 ?side2 A5.out).mono ?_); (case side1 => exact vc HR1.out HB.out); (case side2 => exact HC1.out); rintro e w8 ⟨rfl, hb⟩; refine ⟨_, rfl, ?_⟩; have n0_ := ak (below_step (vh HB.out) hb); clear HB; have HB := n0_; clear n0_; (try clear hb); (try clear hb2); (try clear hk); (try clear hi)) | (go_at_call 45; (with_reducible refine (spec_l10IsPlan.calls k _ _ l1 _ _ l2 t174 _ ?side1 ?side2 ?side3 ?side4 A7.out).mono ?_); (case side1 => exact vc HR1.out HB.out); (case side2 => exact HC1.out); (case side3 => exact vc HR2.out HB.out); (case side4 => exact HC2.out); rintro e w9 ⟨rfl, hb⟩; have n0_ := ak (below_step (vh HB.out) hb); clear HB; have HB := n0_; clear n0_; (try clear hb); (try clear hb2); (try clear hk); (try clear hi)))
   go_meet
   case rel => exact ⟨_, (!t174), (by first | rfl | (simp; done) | (simp [*]; done)), H', ⟨by first | omega | exact Nat.le_refl _⟩, ⟨by exact vh HB.out⟩⟩
  ·replace c6 := Bool.eq_false_iff.mpr c6; subst c6; have H1 : (spec_WaitsOf.j0 k l1 l2 true) = some (r1, r2) := by rw [if_neg (show ¬ (false = true) by decide)] at H; first | exact H | (simp only [if_true, eq_self] at H ⊢; exact H)
   clear H; have H := H1; clear H1; have H' := Aside0.mk H; clear H; go_wp2_with (first | ((with_reducible refine gate_callee (f := 44) rfl ?_); refine goesL_ (some 15) rfl rfl Try.func44 (by kernel_rfl) rfl #[.int .i64 a0, .slice A1 l1.length c1] rfl vm ?_; (with_reducible refine (spec_l10Good.calls k a0 _ _ l1 false _ ?side1 ?side2 A5.out).mono ?_); (case side1 => exact vc HR1.out HB.out); (case side2 => exact HC1.out); rintro e w10 ⟨rfl, hb⟩; refine ⟨_, rfl, ?_⟩; have n0_ := ak (below_step (vh HB.out) hb); clear HB; have HB := n0_; clear n0_; (try clear hb); (try clear hb2); (try clear hk); (try clear hi)))
   go_meet
   case rel => exact ⟨_, (true), (by first | rfl | (simp; done) | (simp [*]; done)), H', ⟨by first | omega | exact Nat.le_refl _⟩, ⟨by exact vh HB.out⟩⟩
 case rest =>
  clear HC4; try clear c1
  try clear c2
  try clear p2
  try clear c4
  try clear c6
  obtain ⟨kq, x22_3, rfl, HA, HJ3, HB⟩ := hcut; cases kq with
  | zero => exact absurd HA.out (by simp [spec_WaitsOf.j0])
  | succ kj3 =>
   have H := HA.out; clear HA; simp only [spec_WaitsOf.j0] at H
   by_cases c11 : x22_3 = true
   ·subst c11; have H1 : (some ((([] : List Int)), false)) = some (r1, r2) := by rw [if_pos rfl] at H; first | exact H | (simp only [if_true, eq_self] at H ⊢; exact H)
    clear H; have H := H1; clear H1; obtain ⟨y175, hy175⟩ : ∃ y_ : List Int, y_ = (([] : List Int)) := ⟨_, rfl⟩; replace H : (some (y175, false)) = some (r1, r2) := by first | (rw [hy175]; with_reducible exact H) | (have H2_ := (Option.bind_some _ _).symm.trans H; rw [hy175]; with_reducible exact H2_) | (have H2_ := (Option.bind_some _ _).symm.trans H; with_reducible exact H2_) | with_reducible exact H | (rw [hy175]; exact H) | exact H
    have Ny175 := Aside0.mk hy175; clear hy175; simp only [Option.some.injEq, Prod.mk.injEq] at H
    obtain ⟨rfl, rfl⟩ := H; go_wp2_with (first | ((with_reducible refine gate_dst (N := 23) rfl ?_); refine Kd.R_lit (Kd.int .i64) _ 3 ?hg (N := 23) ?hd (xs := ([] : List Int)) (inner := []) (ok := fun _ => True) (okp := fun _ => True) ?hr ?hp (fun _ hk => hk) trivial (Below.refl _ _) (Nat.le_refl _) (by simp) ?_; (case hd => rfl); (case hg => rfl); (case hr => first | (go_simp; done) | (go_simp; rfl)); (case hp => exact (Reps.none _ _)); intro v176 w12 ho13 hb hg_ hnew_; clear hg_ hnew_; (first | rw [← Ny175.out] at ho13 | (simp only [Int.reduceToNat] at ho13; rw [← Ny175.out] at ho13)); have n0_ := ak (Kd.R_lower ho13 (below_size (vh HB.out))); have n1_ := ak (below_step (vh HB.out) hb); clear HB; have HO177 := n0_; have HB := n1_; clear n0_ n1_; clear hb ho13))
    go_ret2
    exact ⟨_, by first | rfl | (simp [errW_none, errW_some] <;> rfl) | (simp [*, errW_none, errW_some] <;> rfl), by exact vr HO177.out, by exact vh HB.out⟩
   ·replace c11 := Bool.eq_false_iff.mpr c11; subst c11; have H1 : (if 0 ≤ (l1.length : Int) then (if ((l1.length : Int) : Int).toNat ≤ 35184372088832 then (spec_WaitsOf.l0 kj3 l1 l2 (List.replicate ((l1.length : Int) : Int).toNat 0) 0) else (none)) else (none)) = some (r1, r2) := by rw [if_neg (show ¬ (false = true) by decide)] at H; first | exact H | (simp only [if_true, eq_self] at H ⊢; exact H)
    clear H; have H := H1; clear H1; by_cases c14 : 0 ≤ (l1.length : Int)
    ·rw [if_pos c14] at H
     have c14b0 := eq_true c14; have c14b1 : decide (0 ≤ (l1.length : Int)) = true := decide_eq_true c14; clear c14; by_cases c15 : ((l1.length : Int) : Int).toNat ≤ 35184372088832
     ·rw [if_pos c15] at H
      have c15b0 := eq_true c15; have c15b1 : decide (((l1.length : Int) : Int).toNat ≤ 35184372088832) = true := decide_eq_true c15; clear c15; obtain ⟨y178, hy178⟩ : ∃ y_ : List Int, y_ = (List.replicate ((l1.length : Int) : Int).toNat 0) := ⟨_, rfl⟩; replace H : (spec_WaitsOf.l0 kj3 l1 l2 y178 0) = some (r1, r2) := by first | (rw [hy178]; with_reducible exact H) | (have H2_ := (Option.bind_some _ _).symm.trans H; rw [hy178]; with_reducible exact H2_) | (have H2_ := (Option.bind_some _ _).symm.trans H; with_reducible exact H2_) | with_reducible exact H | (rw [hy178]; exact H) | exact H
      have Ny178 := Aside0.mk hy178; clear hy178; have H' := Aside0.mk H; clear H; go_wp2_with (first | ((with_reducible refine gate_dst (N := 26) rfl ?_); refine Kd.R_make (Kd.int .i64) _ 3 rfl (N := 26) rfl 45 _ _ rfl (l1.length : Int) rfl rfl Try.underlying45 (.int .i64 0) 8 info3 rfl (by decide) (by omega) 0 (ok := fun _ => True) (okp := fun _ => True) rfl (fun _ hk => hk) trivial (of_decide_eq_true va) (Nat.le_trans (Nat.mul_le_mul_right _ (of_decide_eq_true va : (l1.length : Int).toNat ≤ 35184372088832)) (by omega)) (Below.refl _ _) (Nat.le_refl _) ?_; intro v179 w16 ho17 hb hg_ hnew_; clear hg_ hnew_; (first | rw [← Ny178.out] at ho17 | (simp only [Int.reduceToNat] at ho17; rw [← Ny178.out] at ho17)); have n0_ := ak (Kd.R_lower ho17 (below_size (vh HB.out))); have n1_ := ak (below_step (vh HB.out) hb); clear HB; have HO180 := n0_; have HB := n1_; clear n0_ n1_; clear hb ho17))
      go_loopg [9] kj3 (fun kq v9 w' => ∃ (x8_2 : List Int) (x9_2 : Int), v9 = .int .i64 x9_2 ∧ Aside0 (spec_WaitsOf.l0 kq l1 l2 x8_2 x9_2 = some (r1, r2)) ∧ Aside0 (kq ≤ kj3) ∧ Aside0 (Kd.R (Kd.int .i64) 3 w' w.heap.size (fun _ => True) v179 x8_2) ∧ Aside0 (Below w.heap.size w w'))
      case atStart => exact ⟨(y178), (0), (by first | rfl | (simp; done) | (simp [*]; done)), H', ⟨Nat.le_refl _⟩, ⟨by exact vr HO180.out⟩, ⟨by exact vh HB.out⟩⟩
      case round =>
       clear H'; try clear c1
       try clear c2
       try clear p2
       try clear c4
       try clear c6
       try clear c11
       try clear c14
       try clear c14b0
       try clear c14b1
       try clear c15
       try clear c15b0
       try clear c15b1
       try clear p2
       obtain ⟨x8_2, x9_2, rfl, HA, HK2, HO_8, HB⟩ := hrel; cases gk with
       | zero => exact absurd HA.out (by simp [spec_WaitsOf.l0])
       | succ k2 =>
        have H := HA.out; clear HA; simp only [spec_WaitsOf.l0] at H
        by_cases c18 : x9_2 < (l2.length : Int)
        ·rw [if_pos c18] at H
         have c18b0 : decide (x9_2 < (l2.length : Int)) = true := decide_eq_true c18; clear c18; by_cases c19 : 0 ≤ x9_2
         ·rw [if_pos c19] at H
          have c19b0 : decide (0 ≤ x9_2) = true := decide_eq_true c19; clear c19; by_cases c20 : 0 ≤ ((rd_T67 l2 x9_2).f0)
          ·rw [if_pos c20] at H
           have c20b0 : decide (0 ≤ ((rd_T67 l2 x9_2).f0)) = true := decide_eq_true c20; clear c20; by_cases c21 : ((rd_T67 l2 x9_2).f0) < (l1.length : Int)
           ·rw [if_pos c21] at H
            have c21b0 : decide (((rd_T67 l2 x9_2).f0) < (l1.length : Int)) = true := decide_eq_true c21; clear c21; replace H := Option.bind_eq_some_iff.mp H; obtain ⟨⟨t183, t184⟩, A220, H⟩ := H; replace H : (if ((rd_T67 l2 x9_2).f0) < (x8_2.length : Int) then (spec_WaitsOf.l0 k2 l1 l2 (x8_2.set (((rd_T67 l2 x9_2).f0) : Int).toNat (wrap64 ((wrap64 ((wrap64 (((rd_T67 l2 x9_2).f2) + ((rd_T63 l1 ((rd_T67 l2 x9_2).f0)).f2))) - ((rd_T63 l1 ((rd_T67 l2 x9_2).f0)).f3))) - (wrap64 (t183 * ((rd_T63 l1 ((rd_T67 l2 x9_2).f0)).f2)))))) (wrap64 (x9_2 + 1))) else (none)) = some (r1, r2) := H; have A22 := Aside0.mk A220; clear A220; by_cases c23 : ((rd_T67 l2 x9_2).f0) < (x8_2.length : Int)
            ·rw [if_pos c23] at H
             have c23b0 : decide (((rd_T67 l2 x9_2).f0) < (x8_2.length : Int)) = true := decide_eq_true c23; clear c23; obtain ⟨y189, hy189⟩ : ∃ y_ : List Int, y_ = (x8_2.set (((rd_T67 l2 x9_2).f0) : Int).toNat (wrap64 ((wrap64 ((wrap64 (((rd_T67 l2 x9_2).f2) + ((rd_T63 l1 ((rd_T67 l2 x9_2).f0)).f2))) - ((rd_T63 l1 ((rd_T67 l2 x9_2).f0)).f3))) - (wrap64 (t183 * ((rd_T63 l1 ((rd_T67 l2 x9_2).f0)).f2)))))) := ⟨_, rfl⟩; replace H : (spec_WaitsOf.l0 k2 l1 l2 y189 (wrap64 (x9_2 + 1))) = some (r1, r2) := by first | (rw [hy189]; with_reducible exact H) | (have H2_ := (Option.bind_some _ _).symm.trans H; rw [hy189]; with_reducible exact H2_) | (have H2_ := (Option.bind_some _ _).symm.trans H; with_reducible exact H2_) | with_reducible exact H | (rw [hy189]; exact H) | exact H
             have Ny189 := Aside0.mk hy189; clear hy189; have H' := Aside0.mk H; clear H; have p181 : 0 ≤ (x9_2 : Int) := of_decide_eq_true va; have q181 : x9_2 < (l2.length : Int) := of_decide_eq_true va; obtain ⟨ad181, e181, hx181_0, hx181_1, hx181_2⟩ := at_T67 HR2.out x9_2 p181 q181; cases e181; (try replace hx181_0 := vl HB.out hx181_0); (try replace hx181_1 := vl HB.out hx181_1); (try replace hx181_2 := vl HB.out hx181_2); replace p181 := eq_true p181; replace q181 := eq_true q181; have p182 : 0 ≤ (((rd_T67 l2 x9_2).f0) : Int) := of_decide_eq_true va; have q182 : ((rd_T67 l2 x9_2).f0) < (l1.length : Int) := of_decide_eq_true va; obtain ⟨ad182, e182, hx182_0, hx182_1, hx182_2, hx182_3⟩ := at_T63 HR1.out ((rd_T67 l2 x9_2).f0) p182 q182; cases e182; (try replace hx182_0 := vl HB.out hx182_0); (try replace hx182_1 := vl HB.out hx182_1); (try replace hx182_2 := vl HB.out hx182_2); (try replace hx182_3 := vl HB.out hx182_3); replace p182 := eq_true p182; replace q182 := eq_true q182; try go_wp2_with (first | ((with_reducible refine gate_callee (f := 55) rfl ?_); refine goesL_ (some 43) rfl rfl Try.func55 (by kernel_rfl) rfl #[.agg #[.int .i64 ((rd_T63 l1 ((rd_T67 l2 x9_2).f0)).f0), .int .i64 ((rd_T63 l1 ((rd_T67 l2 x9_2).f0)).f1), .int .i64 ((rd_T63 l1 ((rd_T67 l2 x9_2).f0)).f2), .int .i64 ((rd_T63 l1 ((rd_T67 l2 x9_2).f0)).f3)]] rfl vm ?_; (with_reducible refine (spec_l10Steps.calls ((rd_T63 l1 ((rd_T67 l2 x9_2).f0)).f0) ((rd_T63 l1 ((rd_T67 l2 x9_2).f0)).f1) ((rd_T63 l1 ((rd_T67 l2 x9_2).f0)).f2) ((rd_T63 l1 ((rd_T67 l2 x9_2).f0)).f3) t183 t184 _ A22.out).mono ?_); rintro e w25 ⟨rfl, hb⟩; refine ⟨_, rfl, ?_⟩; have n0_ := ak (Kd.R_below (vr HO_8.out) hb); have n1_ := ak (below_step (vh HB.out) hb); clear HO_8; clear HB; have HO_8 := n0_; have HB := n1_; clear n0_ n1_; (try clear hb); (try clear hb2); (try clear hk); (try clear hi)))
             have n0_ := ak (Kd.R_drew HO_8.out); have n1_ := ak (below_drew1 HB.out); clear HO_8; clear HB; have HO_8 := n0_; have HB := n1_; clear n0_ n1_; have p185 : 0 ≤ (x9_2 : Int) := of_decide_eq_true va; have q185 : x9_2 < (l2.length : Int) := of_decide_eq_true va; obtain ⟨ad185, e185, hx185_0, hx185_1, hx185_2⟩ := at_T67 HR2.out x9_2 p185 q185; have hw185_2 := hx185_2; have hw185_1 := hx185_1; have hw185_0 := hx185_0; obtain rfl : ad181 = ad185 := (by injection e185); (try replace hx185_0 := vl HB.out hx185_0); (try replace hx185_1 := vl HB.out hx185_1); (try replace hx185_2 := vl HB.out hx185_2); replace p185 := eq_true p185; replace q185 := eq_true q185; have p186 : 0 ≤ (((rd_T67 l2 x9_2).f0) : Int) := of_decide_eq_true va; have q186 : ((rd_T67 l2 x9_2).f0) < (l1.length : Int) := of_decide_eq_true va; obtain ⟨ad186, e186, hx186_0, hx186_1, hx186_2, hx186_3⟩ := at_T63 HR1.out ((rd_T67 l2 x9_2).f0) p186 q186; have hw186_3 := hx186_3; have hw186_2 := hx186_2; have hw186_1 := hx186_1; have hw186_0 := hx186_0; obtain rfl : ad182 = ad186 := (by injection e186); (try replace hx186_0 := vl HB.out hx186_0); (try replace hx186_1 := vl HB.out hx186_1); (try replace hx186_2 := vl HB.out hx186_2); (try replace hx186_3 := vl HB.out hx186_3); replace p186 := eq_true p186; replace q186 := eq_true q186; have p187 : 0 ≤ (((rd_T67 l2 x9_2).f0) : Int) := of_decide_eq_true va; have q187 : ((rd_T67 l2 x9_2).f0) < (l1.length : Int) := of_decide_eq_true va; obtain ⟨ad187, e187, hx187_0, hx187_1, hx187_2, hx187_3⟩ := at_T63 HR1.out ((rd_T67 l2 x9_2).f0) p187 q187; have hw187_3 := hx187_3; have hw187_2 := hx187_2; have hw187_1 := hx187_1; have hw187_0 := hx187_0; obtain rfl : ad182 = ad187 := (by injection e187); (try replace hx187_0 := vl HB.out hx187_0); (try replace hx187_1 := vl HB.out hx187_1); (try replace hx187_2 := vl HB.out hx187_2); (try replace hx187_3 := vl HB.out hx187_3); replace p187 := eq_true p187; replace q187 := eq_true q187; have p188 : 0 ≤ (((rd_T67 l2 x9_2).f0) : Int) := of_decide_eq_true va; have q188 : ((rd_T67 l2 x9_2).f0) < (l1.length : Int) := of_decide_eq_true va; obtain ⟨ad188, e188, hx188_0, hx188_1, hx188_2, hx188_3⟩ := at_T63 HR1.out ((rd_T67 l2 x9_2).f0) p188 q188; have hw188_3 := hx188_3; have hw188_2 := hx188_2; have hw188_1 := hx188_1; have hw188_0 := hx188_0; obtain rfl : ad182 = ad188 := (by injection e188); (try replace hx188_0 := vl HB.out hx188_0); (try replace hx188_1 := vl HB.out hx188_1); (try replace hx188_2 := vl HB.out hx188_2); (try replace hx188_3 := vl HB.out hx188_3); replace p188 := eq_true p188; replace q188 := eq_true q188; have p24 : 0 ≤ (((rd_T67 l2 x9_2).f0) : Int) := of_decide_eq_true va; have q24 : (((rd_T67 l2 x9_2).f0) : Int) < ((x8_2.length : Int) : Int) := of_decide_eq_true va; obtain ⟨go24, co24, eo24, gb24, gl24, cl24, HG24⟩ := Kd.R_form HO_8.out (by omega); (first | cases eo24 | (injection eo24 with ea_ en_ ec_; (first | subst ea_ | (injection ea_ with ea_; subst ea_)); subst ec_; clear en_)); have GB24 := Aside0.mk gb24; have GG24 := Aside0.mk HG24; clear gb24 gl24 HG24; obtain ⟨hx24_0, hf24_0⟩ := Kd.R_celln 0 HO_8.out (((rd_T67 l2 x9_2).f0) : Int) p24 q24; replace p24 := eq_true p24; replace q24 := eq_true q24; have HP27 := Kd.R_putn HO_8.out (((rd_T67 l2 x9_2).f0) : Int) (wrap64 ((wrap64 ((wrap64 (((rd_T67 l2 x9_2).f2) + ((rd_T63 l1 ((rd_T67 l2 x9_2).f0)).f2))) - ((rd_T63 l1 ((rd_T67 l2 x9_2).f0)).f3))) - (wrap64 (t183 * ((rd_T63 l1 ((rd_T67 l2 x9_2).f0)).f2))))); rw [← Ny189.out] at HP27
             have HQ27 := Aside0.mk HP27; clear HP27; refine start_ (n := 29) (S := fun w' => w'.cell? (ad181.add ((x9_2).toNat * 3)) = some (.int .i64 ((rd_T67 l2 x9_2).f0)) ∧ w'.cell? ⟨(ad181.add ((x9_2).toNat * 3)).block, (ad181.add ((x9_2).toNat * 3)).off + 1, none⟩ = some (.int .i64 ((rd_T67 l2 x9_2).f1)) ∧ w'.cell? ⟨(ad181.add ((x9_2).toNat * 3)).block, (ad181.add ((x9_2).toNat * 3)).off + 2, none⟩ = some (.int .i64 ((rd_T67 l2 x9_2).f2)) ∧ w'.cell? (ad182.add ((((rd_T67 l2 x9_2).f0)).toNat * 4)) = some (.int .i64 ((rd_T63 l1 ((rd_T67 l2 x9_2).f0)).f0)) ∧ w'.cell? ⟨(ad182.add ((((rd_T67 l2 x9_2).f0)).toNat * 4)).block, (ad182.add ((((rd_T67 l2 x9_2).f0)).toNat * 4)).off + 1, none⟩ = some (.int .i64 ((rd_T63 l1 ((rd_T67 l2 x9_2).f0)).f1)) ∧ w'.cell? ⟨(ad182.add ((((rd_T67 l2 x9_2).f0)).toNat * 4)).block, (ad182.add ((((rd_T67 l2 x9_2).f0)).toNat * 4)).off + 2, none⟩ = some (.int .i64 ((rd_T63 l1 ((rd_T67 l2 x9_2).f0)).f2)) ∧ w'.cell? ⟨(ad182.add ((((rd_T67 l2 x9_2).f0)).toNat * 4)).block, (ad182.add ((((rd_T67 l2 x9_2).f0)).toNat * 4)).off + 3, none⟩ = some (.int .i64 ((rd_T63 l1 ((rd_T67 l2 x9_2).f0)).f3)) ∧ w'.cell? (ad182.add ((((rd_T67 l2 x9_2).f0)).toNat * 4)) = some (.int .i64 ((rd_T63 l1 ((rd_T67 l2 x9_2).f0)).f0)) ∧ w'.cell? ⟨(ad182.add ((((rd_T67 l2 x9_2).f0)).toNat * 4)).block, (ad182.add ((((rd_T67 l2 x9_2).f0)).toNat * 4)).off + 1, none⟩ = some (.int .i64 ((rd_T63 l1 ((rd_T67 l2 x9_2).f0)).f1)) ∧ w'.cell? ⟨(ad182.add ((((rd_T67 l2 x9_2).f0)).toNat * 4)).block, (ad182.add ((((rd_T67 l2 x9_2).f0)).toNat * 4)).off + 2, none⟩ = some (.int .i64 ((rd_T63 l1 ((rd_T67 l2 x9_2).f0)).f2)) ∧ w'.cell? ⟨(ad182.add ((((rd_T67 l2 x9_2).f0)).toNat * 4)).block, (ad182.add ((((rd_T67 l2 x9_2).f0)).toNat * 4)).off + 3, none⟩ = some (.int .i64 ((rd_T63 l1 ((rd_T67 l2 x9_2).f0)).f3)) ∧ w'.cell? (ad182.add ((((rd_T67 l2 x9_2).f0)).toNat * 4)) = some (.int .i64 ((rd_T63 l1 ((rd_T67 l2 x9_2).f0)).f0)) ∧ w'.cell? ⟨(ad182.add ((((rd_T67 l2 x9_2).f0)).toNat * 4)).block, (ad182.add ((((rd_T67 l2 x9_2).f0)).toNat * 4)).off + 1, none⟩ = some (.int .i64 ((rd_T63 l1 ((rd_T67 l2 x9_2).f0)).f1)) ∧ w'.cell? ⟨(ad182.add ((((rd_T67 l2 x9_2).f0)).toNat * 4)).block, (ad182.add ((((rd_T67 l2 x9_2).f0)).toNat * 4)).off + 2, none⟩ = some (.int .i64 ((rd_T63 l1 ((rd_T67 l2 x9_2).f0)).f2)) ∧ w'.cell? ⟨(ad182.add ((((rd_T67 l2 x9_2).f0)).toNat * 4)).block, (ad182.add ((((rd_T67 l2 x9_2).f0)).toNat * 4)).off + 3, none⟩ = some (.int .i64 ((rd_T63 l1 ((rd_T67 l2 x9_2).f0)).f3))) (ds := [28]) #[false, false, false, false, false, false, false, false, false, false, false, false, false, false, false, false, false, false, false, false, false, false, false, false, false, false, false, false, false] (by kernel_rfl) rfl rfl ⟨(vl HB.out hw185_0 :), (vl HB.out hw185_1 :), (vl HB.out hw185_2 :), (vl HB.out hw186_0 :), (vl HB.out hw186_1 :), (vl HB.out hw186_2 :), (vl HB.out hw186_3 :), (vl HB.out hw187_0 :), (vl HB.out hw187_1 :), (vl HB.out hw187_2 :), (vl HB.out hw187_3 :), (vl HB.out hw188_0 :), (vl HB.out hw188_1 :), (vl HB.out hw188_2 :), (vl HB.out hw188_3 :)⟩ (fun hHeld => ?_); refine with_tabW spec_WaitsOf.tab9 spec_WaitsOf.bits9 (fun HT_ HW_ => ?_); generalize w25.drew = w26 at HO_8 HB GG24 HQ27 hf24_0 hx185_0 hx185_1 hx185_2 hx186_0 hx186_1 hx186_2 hx186_3 hx187_0 hx187_1 hx187_2 hx187_3 hx188_0 hx188_1 hx188_2 hx188_3 hx24_0 hHeld ⊢
             refine px 0 46 #[true, false, false, false, false, false, false, false, false, false, false, false, false, false, false, false, false, false, false, false, false, false, false, false, false, false, false, false, false] rfl HT_.out ?_ (.inl ⟨by rfl, ?_⟩) ?_ ?_ ?_; rotate_left
             ·intro w'; go_simp; with_reducible rfl
             rotate_left
             ·simp only [ap1, ap2, ap3, ap4, i64_w, i32_w]; rfl
             refine px 1 47 #[true, true, false, false, false, false, false, false, false, false, false, false, false, false, false, false, false, false, false, false, false, false, false, false, false, false, false, false, false] rfl HT_.out ?_ (.inl ⟨by rfl, ?_⟩) ?_ ?_ ?_; rotate_left
             ·intro w'; go_simp; with_reducible rfl
             rotate_left
             ·simp only [ap1, ap2, ap3, ap4, i64_w, i32_w]; rfl
             refine px 2 48 #[true, true, true, false, false, false, false, false, false, false, false, false, false, false, false, false, false, false, false, false, false, false, false, false, false, false, false, false, false] rfl HT_.out ?_ (.inl ⟨by rfl, ?_⟩) ?_ ?_ ?_; rotate_left
             ·intro w'; go_simp; with_reducible rfl
             rotate_left
             ·simp only [ap1, ap2, ap3, ap4, i64_w, i32_w]; rfl
             refine px 3 49 #[true, true, true, true, false, false, false, false, false, false, false, false, false, false, false, false, false, false, false, false, false, false, false, false, false, false, false, false, false] rfl HT_.out ?_ (.inl ⟨by rfl, ?_⟩) ?_ ?_ ?_; rotate_left
             ·intro w'; go_simp; with_reducible rfl
             rotate_left
             ·simp only [ap1, ap2, ap3, ap4, i64_w, i32_w]; rfl
             refine px 4 50 #[true, true, true, true, true, false, false, false, false, false, false, false, false, false, false, false, false, false, false, false, false, false, false, false, false, false, false, false, false] rfl HT_.out ?_ (.inl ⟨by rfl, ?_⟩) ?_ ?_ ?_; rotate_left
             ·intro w'; go_simp; with_reducible rfl
             rotate_left
             ·simp only [ap1, ap2, ap3, ap4, i64_w, i32_w]; rfl
             refine px 5 51 #[true, true, true, true, true, true, false, false, false, false, false, false, false, false, false, false, false, false, false, false, false, false, false, false, false, false, false, false, false] rfl HT_.out ?_ (.inl ⟨by rfl, ?_⟩) ?_ ?_ ?_; rotate_left
             ·intro w'; go_simp; with_reducible rfl
             rotate_left
             ·simp only [ap1, ap2, ap3, ap4, i64_w, i32_w]; rfl
             refine px 7 53 #[true, true, true, true, true, true, false, true, false, false, false, false, false, false, false, false, false, false, false, false, false, false, false, false, false, false, false, false, false] rfl HT_.out ?_ (.inl ⟨by rfl, ?_⟩) ?_ ?_ ?_; rotate_left
             ·intro w'; go_simp; with_reducible rfl
             rotate_left
             ·simp only [ap1, ap2, ap3, ap4, i64_w, i32_w]; rfl
             refine px 8 54 #[true, true, true, true, true, true, false, true, true, false, false, false, false, false, false, false, false, false, false, false, false, false, false, false, false, false, false, false, false] rfl HT_.out ?_ (.inl ⟨by rfl, ?_⟩) ?_ ?_ ?_; rotate_left
             ·intro w'; go_simp; with_reducible rfl
             rotate_left
             ·simp only [ap1, ap2, ap3, ap4, i64_w, i32_w]; rfl
             refine px 9 55 #[true, true, true, true, true, true, false, true, true, true, false, false, false, false, false, false, false, false, false, false, false, false, false, false, false, false, false, false, false] rfl HT_.out ?_ (.inl ⟨by rfl, ?_⟩) ?_ ?_ ?_; rotate_left
             ·intro w'; go_simp; with_reducible rfl
             rotate_left
             ·simp only [ap1, ap2, ap3, ap4, i64_w, i32_w]; rfl
             refine px 10 56 #[true, true, true, true, true, true, false, true, true, true, true, false, false, false, false, false, false, false, false, false, false, false, false, false, false, false, false, false, false] rfl HT_.out ?_ (.inl ⟨by rfl, ?_⟩) ?_ ?_ ?_; rotate_left
             ·intro w'; go_simp; with_reducible rfl
             rotate_left
             ·simp only [ap1, ap2, ap3, ap4, i64_w, i32_w]; rfl
             refine px 13 59 #[true, true, true, true, true, true, false, true, true, true, true, false, false, true, false, false, false, false, false, false, false, false, false, false, false, false, false, false, false] rfl HT_.out ?_ (.inl ⟨by rfl, ?_⟩) ?_ ?_ ?_; rotate_left
             ·intro w'; go_simp; with_reducible rfl
             rotate_left
             ·simp only [ap1, ap2, ap3, ap4, i64_w, i32_w]; rfl
             refine px 14 60 #[true, true, true, true, true, true, false, true, true, true, true, false, false, true, true, false, false, false, false, false, false, false, false, false, false, false, false, false, false] rfl HT_.out ?_ (.inl ⟨by rfl, ?_⟩) ?_ ?_ ?_; rotate_left
             ·intro w'; go_simp; with_reducible rfl
             rotate_left
             ·simp only [ap1, ap2, ap3, ap4, i64_w, i32_w]; rfl
             refine px 15 61 #[true, true, true, true, true, true, false, true, true, true, true, false, false, true, true, true, false, false, false, false, false, false, false, false, false, false, false, false, false] rfl HT_.out ?_ (.inl ⟨by rfl, ?_⟩) ?_ ?_ ?_; rotate_left
             ·intro w'; go_simp; with_reducible rfl
             rotate_left
             ·simp only [ap1, ap2, ap3, ap4, i64_w, i32_w]; rfl
             refine px 16 62 #[true, true, true, true, true, true, false, true, true, true, true, false, false, true, true, true, true, false, false, false, false, false, false, false, false, false, false, false, false] rfl HT_.out ?_ (.inl ⟨by rfl, ?_⟩) ?_ ?_ ?_; rotate_left
             ·intro w'; go_simp; with_reducible rfl
             rotate_left
             ·simp only [ap1, ap2, ap3, ap4, i64_w, i32_w]; rfl
             refine px 19 65 #[true, true, true, true, true, true, false, true, true, true, true, false, false, true, true, true, true, false, false, true, false, false, false, false, false, false, false, false, false] rfl HT_.out ?_ (.inl ⟨by rfl, ?_⟩) ?_ ?_ ?_; rotate_left
             ·intro w'; go_simp; with_reducible rfl
             rotate_left
             ·simp only [ap1, ap2, ap3, ap4, i64_w, i32_w]; rfl
             refine px 20 66 #[true, true, true, true, true, true, false, true, true, true, true, false, false, true, true, true, true, false, false, true, true, false, false, false, false, false, false, false, false] rfl HT_.out ?_ (.inl ⟨by rfl, ?_⟩) ?_ ?_ ?_; rotate_left
             ·intro w'; go_simp; with_reducible rfl
             rotate_left
             ·simp only [ap1, ap2, ap3, ap4, i64_w, i32_w]; rfl
             refine px 21 67 #[true, true, true, true, true, true, false, true, true, true, true, false, false, true, true, true, true, false, false, true, true, true, false, false, false, false, false, false, false] rfl HT_.out ?_ (.inl ⟨by rfl, ?_⟩) ?_ ?_ ?_; rotate_left
             ·intro w'; go_simp; with_reducible rfl
             rotate_left
             ·simp only [ap1, ap2, ap3, ap4, i64_w, i32_w]; rfl
             refine px 22 68 #[true, true, true, true, true, true, false, true, true, true, true, false, false, true, true, true, true, false, false, true, true, true, true, false, false, false, false, false, false] rfl HT_.out ?_ (.inl ⟨by rfl, ?_⟩) ?_ ?_ ?_; rotate_left
             ·intro w'; go_simp; with_reducible rfl
             rotate_left
             ·simp only [ap1, ap2, ap3, ap4, i64_w, i32_w]; rfl
             refine px 23 69 #[true, true, true, true, true, true, false, true, true, true, true, false, false, true, true, true, true, false, false, true, true, true, true, true, false, false, false, false, false] rfl HT_.out ?_ (.inl ⟨by rfl, ?_⟩) ?_ ?_ ?_; rotate_left
             ·intro w'; go_simp; with_reducible rfl
             rotate_left
             ·simp only [ap1, ap2, ap3, ap4, i64_w, i32_w]; rfl
             refine tx 6 52 #[true, true, true, true, true, true, true, true, true, true, true, false, false, true, true, true, true, false, false, true, true, true, true, true, false, false, false, false, false] rfl HT_.out HW_.out hHeld ?_ (.inl ⟨by rfl, ?_⟩) ?_ ?_ ?_; rotate_left
             ·rintro w' ⟨s0, s1, s2, s3, s4, s5, s6, s7, s8, s9, s10, s11, s12, s13, s14⟩; go_simp; with_reducible rfl
             rotate_left
             ·simp only [ap1, ap2, ap3, ap4, i64_w, i32_w]; rfl
             refine tx 11 57 #[true, true, true, true, true, true, true, true, true, true, true, true, false, true, true, true, true, false, false, true, true, true, true, true, false, false, false, false, false] rfl HT_.out HW_.out hHeld ?_ (.inl ⟨by rfl, ?_⟩) ?_ ?_ ?_; rotate_left
             ·rintro w' ⟨s0, s1, s2, s3, s4, s5, s6, s7, s8, s9, s10, s11, s12, s13, s14⟩; go_simp; with_reducible rfl
             rotate_left
             ·simp only [ap1, ap2, ap3, ap4, i64_w, i32_w]; rfl
             refine px 12 58 #[true, true, true, true, true, true, true, true, true, true, true, true, true, true, true, true, true, false, false, true, true, true, true, true, false, false, false, false, false] rfl HT_.out ?_ (.inl ⟨by rfl, ?_⟩) ?_ ?_ ?_; rotate_left
             ·intro w'; go_simp; with_reducible rfl
             rotate_left
             ·simp only [ap1, ap2, ap3, ap4, i64_w, i32_w]; rfl
             refine tx 17 63 #[true, true, true, true, true, true, true, true, true, true, true, true, true, true, true, true, true, true, false, true, true, true, true, true, false, false, false, false, false] rfl HT_.out HW_.out hHeld ?_ (.inl ⟨by rfl, ?_⟩) ?_ ?_ ?_; rotate_left
             ·rintro w' ⟨s0, s1, s2, s3, s4, s5, s6, s7, s8, s9, s10, s11, s12, s13, s14⟩; go_simp; with_reducible rfl
             rotate_left
             ·simp only [ap1, ap2, ap3, ap4, i64_w, i32_w]; rfl
             refine px 18 64 #[true, true, true, true, true, true, true, true, true, true, true, true, true, true, true, true, true, true, true, true, true, true, true, true, false, false, false, false, false] rfl HT_.out ?_ (.inl ⟨by rfl, ?_⟩) ?_ ?_ ?_; rotate_left
             ·intro w'; go_simp; with_reducible rfl
             rotate_left
             ·simp only [ap1, ap2, ap3, ap4, i64_w, i32_w]; rfl
             refine tx 24 70 #[true, true, true, true, true, true, true, true, true, true, true, true, true, true, true, true, true, true, true, true, true, true, true, true, true, false, false, false, false] rfl HT_.out HW_.out hHeld ?_ (.inl ⟨by rfl, ?_⟩) ?_ ?_ ?_; rotate_left
             ·rintro w' ⟨s0, s1, s2, s3, s4, s5, s6, s7, s8, s9, s10, s11, s12, s13, s14⟩; go_simp; with_reducible rfl
             rotate_left
             ·simp only [ap1, ap2, ap3, ap4, i64_w, i32_w]; rfl
             refine px 25 71 #[true, true, true, true, true, true, true, true, true, true, true, true, true, true, true, true, true, true, true, true, true, true, true, true, true, true, false, false, false] rfl HT_.out ?_ (.inl ⟨by rfl, ?_⟩) ?_ ?_ ?_; rotate_left
             ·intro w'; go_simp; with_reducible rfl
             rotate_left
             ·simp only [ap1, ap2, ap3, ap4, i64_w, i32_w]; rfl
             refine px 26 72 #[true, true, true, true, true, true, true, true, true, true, true, true, true, true, true, true, true, true, true, true, true, true, true, true, true, true, true, false, false] rfl HT_.out ?_ (.inl ⟨by rfl, ?_⟩) ?_ ?_ ?_; rotate_left
             ·intro w'; go_simp; with_reducible rfl
             rotate_left
             ·simp only [ap1, ap2, ap3, ap4, i64_w, i32_w]; rfl
             refine px 27 73 #[true, true, true, true, true, true, true, true, true, true, true, true, true, true, true, true, true, true, true, true, true, true, true, true, true, true, true, true, false] rfl HT_.out ?_ (.inl ⟨by rfl, ?_⟩) ?_ ?_ ?_; rotate_left
             ·intro w'; go_simp; with_reducible rfl
             rotate_left
             ·simp only [ap1, ap2, ap3, ap4, i64_w, i32_w]; rfl
             refine last_ (i := 28) (N := none) #[true, true, true, true, true, true, true, true, true, true, true, true, true, true, true, true, true, true, true, true, true, true, true, true, true, true, true, true, true] rfl rfl (one_of HT_.out (by kernel_rfl)) (by decide) (fun K hK => ?_); refine skip_ (w1 := ?_) (by rfl) rfl ?_ ?_; rotate_left
             ·go_simp; rfl
             refine hK.out _ _ ?_; clear hK K; refine done_ (done_of HT_.out (by kernel_rfl)) ?_; try go_wp2
             go_roundg k2
             case measure => have := HJ3.out; have := HK2.out; omega
             case rel => exact ⟨(y189), (wrap64 (x9_2 + 1)), vq, H', ⟨by have := HJ3.out; have := HK2.out; omega⟩, ⟨by (with_reducible repeat (first | apply Kd.R_alloc | apply Kd.R_drewN | apply Kd.R_drew)); exact HQ27.out⟩, ⟨by repeat (first | (with_reducible first | exact HB.out | apply below_alloc | apply pw_below_drewN | apply below_drew1 | refine below_set ?_ GB24.out) | exact HB.out)⟩⟩
            ·rw [if_neg c23] at H
             exact absurd H (by simp)
           ·rw [if_neg c21] at H
            exact absurd H (by simp)
          ·rw [if_neg c20] at H
           exact absurd H (by simp)
         ·rw [if_neg c19] at H
          exact absurd H (by simp)
        ·rw [if_neg c18] at H
         have c18b0 : decide (x9_2 < (l2.length : Int)) = false := decide_eq_false c18; clear c18; simp only [Option.some.injEq, Prod.mk.injEq] at H
         obtain ⟨rfl, rfl⟩ := H; go_wp2
         go_ret2
         exact ⟨_, by first | rfl | (simp [errW_none, errW_some] <;> rfl) | (simp [*, errW_none, errW_some] <;> rfl), by exact vr HO_8.out, by exact vh HB.out⟩
     ·rw [if_neg c15] at H
      exact absurd H (by simp)
    ·rw [if_neg c14] at H
     exact absurd H (by simp)

/-! ### impl_in: function 36 -/
def impl_in.f (a0 : Int) (a1 : Int) (a2 : Int) : Option (Bool) := if a0 ≥ a1 then (some (decide (a0 ≤ a2))) else (some false)
set_option maxHeartbeats 8000000 in
set_option maxRecDepth 100000 in
theorem impl_in.calls (a0 : Int) (a1 : Int) (a2 : Int) (r : Bool) (w : World) (h : impl_in.f a0 a1 a2 = some r) :
  Calls Try.prog 36 #[.int .i64 a0, .int .i64 a1, .int .i64 a2] w fun e w' => e = .returned (.bool r) ∧ Drawn0 w w' := by
 have H : (if a0 ≥ a1 then (some (decide (a0 ≤ a2))) else (some false)) = some r := h; clear h; by_cases c4 : a0 ≥ a1
 ·rw [if_pos c4] at H
  have c4b0 : decide (a1 ≤ a0) = true := decide_eq_true c4; clear c4; obtain rfl := Option.some.inj H; go_enter Try.func36, Try.ntmps36
  go_wp2
  go_ret
  exact ⟨by first | rfl | (simp; done) | (simp [*]; done), by repeat (first | exact Drawn0.refl _ | apply Drawn0.step)⟩
 ·rw [if_neg c4] at H
  have c4b0 : decide (a1 ≤ a0) = false := decide_eq_false c4; clear c4; obtain rfl := Option.some.inj H; go_enter Try.func36, Try.ntmps36
  go_wp2
  go_ret
  exact ⟨by first | rfl | (simp; done) | (simp [*]; done), by repeat (first | exact Drawn0.refl _ | apply Drawn0.step)⟩

/-! ### impl_isJob: function 66 -/
def impl_isJob.f (a0 : Int) (a1_0 : Int) (a1_1 : Int) (a1_2 : Int) (a1_3 : Int) : Option (Bool) := (impl_in.f a1_0 0 (wrap64 (a0 - 1))).bind fun t191 => (if t191 = true then ((impl_in.f a1_1 0 (wrap64 (a0 - 1))).bind fun t192 => (if t192 = true then (if a1_0 = a1_1 then (some false) else ((impl_in.f a1_2 1 60).bind fun t193 => (if t193 = true then ((impl_in.f a1_3 0 999).bind fun t194 => (some t194)) else (some false)))) else (some false))) else (some false))
set_option maxHeartbeats 8000000 in
set_option maxRecDepth 100000 in
theorem impl_isJob.calls (a0 : Int) (a1_0 : Int) (a1_1 : Int) (a1_2 : Int) (a1_3 : Int) (r : Bool) (w : World) (h : impl_isJob.f a0 a1_0 a1_1 a1_2 a1_3 = some r) :
  Calls Try.prog 66 #[.int .i64 a0, .agg #[.int .i64 a1_0, .int .i64 a1_1, .int .i64 a1_2, .int .i64 a1_3]] w fun e w' => e = .returned (.bool r) ∧ Below w.heap.size w w' := by
 have hu63 := Try.underlying63; have HB := ak (Below.refl w.heap.size w); have H : ((impl_in.f a1_0 0 (wrap64 (a0 - 1))).bind fun t191 => (if t191 = true then ((impl_in.f a1_1 0 (wrap64 (a0 - 1))).bind fun t192 => (if t192 = true then (if a1_0 = a1_1 then (some false) else ((impl_in.f a1_2 1 60).bind fun t193 => (if t193 = true then ((impl_in.f a1_3 0 999).bind fun t194 => (some t194)) else (some false)))) else (some false))) else (some false))) = some r := h; clear h; replace H := Option.bind_eq_some_iff.mp H; obtain ⟨t191, A30, H⟩ := H; replace H : (if t191 = true then ((impl_in.f a1_1 0 (wrap64 (a0 - 1))).bind fun t192 => (if t192 = true then (if a1_0 = a1_1 then (some false) else ((impl_in.f a1_2 1 60).bind fun t193 => (if t193 = true then ((impl_in.f a1_3 0 999).bind fun t194 => (some t194)) else (some false)))) else (some false))) else (some false)) = some r := H; have A3 := Aside0.mk A30; clear A30; by_cases c4 : t191 = true
 ·subst c4; have H1 : ((impl_in.f a1_1 0 (wrap64 (a0 - 1))).bind fun t192 => (if t192 = true then (if a1_0 = a1_1 then (some false) else ((impl_in.f a1_2 1 60).bind fun t193 => (if t193 = true then ((impl_in.f a1_3 0 999).bind fun t194 => (some t194)) else (some false)))) else (some false))) = some r := by rw [if_pos rfl] at H; first | exact H | (simp only [if_true, eq_self] at H ⊢; exact H)
  clear H; have H := H1; clear H1; replace H := Option.bind_eq_some_iff.mp H; obtain ⟨t192, A50, H⟩ := H; replace H : (if t192 = true then (if a1_0 = a1_1 then (some false) else ((impl_in.f a1_2 1 60).bind fun t193 => (if t193 = true then ((impl_in.f a1_3 0 999).bind fun t194 => (some t194)) else (some false)))) else (some false)) = some r := H; have A5 := Aside0.mk A50; clear A50; by_cases c6 : t192 = true
  ·subst c6; have H1 : (if a1_0 = a1_1 then (some false) else ((impl_in.f a1_2 1 60).bind fun t193 => (if t193 = true then ((impl_in.f a1_3 0 999).bind fun t194 => (some t194)) else (some false)))) = some r := by rw [if_pos rfl] at H; first | exact H | (simp only [if_true, eq_self] at H ⊢; exact H)
   clear H; have H := H1; clear H1; by_cases c7 : a1_0 = a1_1
   ·rw [if_pos c7] at H
    have c7b0 : (a1_0 == a1_1) = true := beq_iff_eq.mpr c7; have c7b1 : (a1_0 != a1_1) = false := bne_eq_false_iff_eq.mpr c7; clear c7; obtain rfl := Option.some.inj H; go_enter Try.func66, Try.ntmps66
    go_wp2_with (first | ((with_reducible refine gate_dst (N := 3) rfl ?_); refine vbe (N := 3) (cs := #[.int .i64 a1_0, .int .i64 a1_1, .int .i64 a1_2, .int .i64 a1_3]) (t := 63) ?_; intro gb190 hg w8 hbox hb; have n0_ := ak (below_step (vh HB.out) hb); have n1_ := ak (hbox); have n2_ := ak (vg hg (vh HB.out)); have n3_ := ak (vg hg (vh HB.out)); clear HB; have HB := n0_; have BK190 := n1_; have GW190 := n2_; have GE190 := n3_; clear n0_ n1_ n2_ n3_; clear hb hbox hg; have hcz9_0 : w8.cell? ⟨gb190, 0, none⟩ = some (.int .i64 a1_0) := (blk_cell BK190.out 0).trans rfl; have hcz9_1 : w8.cell? ⟨gb190, 1, none⟩ = some (.int .i64 a1_1) := (blk_cell BK190.out 1).trans rfl; have hcz9_2 : w8.cell? ⟨gb190, 2, none⟩ = some (.int .i64 a1_2) := (blk_cell BK190.out 2).trans rfl; have hcz9_3 : w8.cell? ⟨gb190, 3, none⟩ = some (.int .i64 a1_3) := (blk_cell BK190.out 3).trans rfl; have hfz9_0 := blk_frozen BK190.out 0; have hfz9_1 := blk_frozen BK190.out 1; have hfz9_2 := blk_frozen BK190.out 2; have hfz9_3 := blk_frozen BK190.out 3) | ((with_reducible refine gate_callee (f := 36) rfl ?_); refine goesL_ (some 9) rfl rfl Try.func36 (by kernel_rfl) rfl #[.int .i64 a1_0, .int .i64 0, .int .i64 (wrap64 (a0 - 1))] rfl vm ?_; (with_reducible refine (impl_in.calls a1_0 0 (wrap64 (a0 - 1)) true _ A3.out).mono ?_); rintro e w' ⟨rfl, ⟨nd, rfl⟩⟩; refine ⟨_, rfl, ?_⟩) | (go_at_call 36; (with_reducible refine (impl_in.calls a1_1 0 (wrap64 (a0 - 1)) true _ A5.out).mono ?_); rintro e w' ⟨rfl, ⟨nd, rfl⟩⟩))
    go_ret
    exact ⟨by first | rfl | (simp [errW_none, errW_some] <;> rfl) | (simp [*, errW_none, errW_some] <;> rfl), by exact vs1 HB.out GE190.out⟩
   ·rw [if_neg c7] at H
    have c7b0 : (a1_0 == a1_1) = false := beq_eq_false_iff_ne.mpr c7; have c7b1 : (a1_0 != a1_1) = true := bne_iff_ne.mpr c7; replace H := Option.bind_eq_some_iff.mp H; obtain ⟨t193, A100, H⟩ := H; replace H : (if t193 = true then ((impl_in.f a1_3 0 999).bind fun t194 => (some t194)) else (some false)) = some r := H; have A10 := Aside0.mk A100; clear A100; by_cases c11 : t193 = true
    ·subst c11; have H1 : ((impl_in.f a1_3 0 999).bind fun t194 => (some t194)) = some r := by rw [if_pos rfl] at H; first | exact H | (simp only [if_true, eq_self] at H ⊢; exact H)
     clear H; have H := H1; clear H1; replace H := Option.bind_eq_some_iff.mp H; obtain ⟨t194, A120, H⟩ := H; replace H : (some t194) = some r := H; have A12 := Aside0.mk A120; clear A120; obtain rfl := Option.some.inj H; go_enter Try.func66, Try.ntmps66
     go_wp2_with (first | ((with_reducible refine gate_dst (N := 3) rfl ?_); refine vbe (N := 3) (cs := #[.int .i64 a1_0, .int .i64 a1_1, .int .i64 a1_2, .int .i64 a1_3]) (t := 63) ?_; intro gb190 hg w13 hbox hb; have n0_ := ak (below_step (vh HB.out) hb); have n1_ := ak (hbox); have n2_ := ak (vg hg (vh HB.out)); have n3_ := ak (vg hg (vh HB.out)); clear HB; have HB := n0_; have BK190 := n1_; have GW190 := n2_; have GE190 := n3_; clear n0_ n1_ n2_ n3_; clear hb hbox hg; have hcz14_0 : w13.cell? ⟨gb190, 0, none⟩ = some (.int .i64 a1_0) := (blk_cell BK190.out 0).trans rfl; have hcz14_1 : w13.cell? ⟨gb190, 1, none⟩ = some (.int .i64 a1_1) := (blk_cell BK190.out 1).trans rfl; have hcz14_2 : w13.cell? ⟨gb190, 2, none⟩ = some (.int .i64 a1_2) := (blk_cell BK190.out 2).trans rfl; have hcz14_3 : w13.cell? ⟨gb190, 3, none⟩ = some (.int .i64 a1_3) := (blk_cell BK190.out 3).trans rfl; have hfz14_0 := blk_frozen BK190.out 0; have hfz14_1 := blk_frozen BK190.out 1; have hfz14_2 := blk_frozen BK190.out 2; have hfz14_3 := blk_frozen BK190.out 3) | ((with_reducible refine gate_callee (f := 36) rfl ?_); refine goesL_ (some 9) rfl rfl Try.func36 (by kernel_rfl) rfl #[.int .i64 a1_0, .int .i64 0, .int .i64 (wrap64 (a0 - 1))] rfl vm ?_; (with_reducible refine (impl_in.calls a1_0 0 (wrap64 (a0 - 1)) true _ A3.out).mono ?_); rintro e w' ⟨rfl, ⟨nd, rfl⟩⟩; refine ⟨_, rfl, ?_⟩) | (go_at_call 36; (with_reducible refine (impl_in.calls a1_1 0 (wrap64 (a0 - 1)) true _ A5.out).mono ?_); rintro e w' ⟨rfl, ⟨nd, rfl⟩⟩) | (go_at_call 36; (with_reducible refine (impl_in.calls a1_2 1 60 true _ A10.out).mono ?_); rintro e w' ⟨rfl, ⟨nd, rfl⟩⟩) | (go_at_call 36; (with_reducible refine (impl_in.calls a1_3 0 999 t194 _ A12.out).mono ?_); rintro e w' ⟨rfl, ⟨nd, rfl⟩⟩))
     go_ret
     exact ⟨by first | rfl | (simp [errW_none, errW_some] <;> rfl) | (simp [*, errW_none, errW_some] <;> rfl), by exact vs1 HB.out GE190.out⟩
    ·replace c11 := Bool.eq_false_iff.mpr c11; subst c11; have H1 : (some false) = some r := by rw [if_neg (show ¬ (false = true) by decide)] at H; first | exact H | (simp only [if_true, eq_self] at H ⊢; exact H)
     clear H; have H := H1; clear H1; obtain rfl := Option.some.inj H; go_enter Try.func66, Try.ntmps66
     go_wp2_with (first | ((with_reducible refine gate_dst (N := 3) rfl ?_); refine vbe (N := 3) (cs := #[.int .i64 a1_0, .int .i64 a1_1, .int .i64 a1_2, .int .i64 a1_3]) (t := 63) ?_; intro gb190 hg w15 hbox hb; have n0_ := ak (below_step (vh HB.out) hb); have n1_ := ak (hbox); have n2_ := ak (vg hg (vh HB.out)); have n3_ := ak (vg hg (vh HB.out)); clear HB; have HB := n0_; have BK190 := n1_; have GW190 := n2_; have GE190 := n3_; clear n0_ n1_ n2_ n3_; clear hb hbox hg; have hcz16_0 : w15.cell? ⟨gb190, 0, none⟩ = some (.int .i64 a1_0) := (blk_cell BK190.out 0).trans rfl; have hcz16_1 : w15.cell? ⟨gb190, 1, none⟩ = some (.int .i64 a1_1) := (blk_cell BK190.out 1).trans rfl; have hcz16_2 : w15.cell? ⟨gb190, 2, none⟩ = some (.int .i64 a1_2) := (blk_cell BK190.out 2).trans rfl; have hcz16_3 : w15.cell? ⟨gb190, 3, none⟩ = some (.int .i64 a1_3) := (blk_cell BK190.out 3).trans rfl; have hfz16_0 := blk_frozen BK190.out 0; have hfz16_1 := blk_frozen BK190.out 1; have hfz16_2 := blk_frozen BK190.out 2; have hfz16_3 := blk_frozen BK190.out 3) | ((with_reducible refine gate_callee (f := 36) rfl ?_); refine goesL_ (some 9) rfl rfl Try.func36 (by kernel_rfl) rfl #[.int .i64 a1_0, .int .i64 0, .int .i64 (wrap64 (a0 - 1))] rfl vm ?_; (with_reducible refine (impl_in.calls a1_0 0 (wrap64 (a0 - 1)) true _ A3.out).mono ?_); rintro e w' ⟨rfl, ⟨nd, rfl⟩⟩; refine ⟨_, rfl, ?_⟩) | (go_at_call 36; (with_reducible refine (impl_in.calls a1_1 0 (wrap64 (a0 - 1)) true _ A5.out).mono ?_); rintro e w' ⟨rfl, ⟨nd, rfl⟩⟩) | (go_at_call 36; (with_reducible refine (impl_in.calls a1_2 1 60 false _ A10.out).mono ?_); rintro e w' ⟨rfl, ⟨nd, rfl⟩⟩))
     go_ret
     exact ⟨by first | rfl | (simp [errW_none, errW_some] <;> rfl) | (simp [*, errW_none, errW_some] <;> rfl), by exact vs1 HB.out GE190.out⟩
  ·replace c6 := Bool.eq_false_iff.mpr c6; subst c6; have H1 : (some false) = some r := by rw [if_neg (show ¬ (false = true) by decide)] at H; first | exact H | (simp only [if_true, eq_self] at H ⊢; exact H)
   clear H; have H := H1; clear H1; obtain rfl := Option.some.inj H; go_enter Try.func66, Try.ntmps66
   go_wp2_with (first | ((with_reducible refine gate_dst (N := 3) rfl ?_); refine vbe (N := 3) (cs := #[.int .i64 a1_0, .int .i64 a1_1, .int .i64 a1_2, .int .i64 a1_3]) (t := 63) ?_; intro gb190 hg w17 hbox hb; have n0_ := ak (below_step (vh HB.out) hb); have n1_ := ak (hbox); have n2_ := ak (vg hg (vh HB.out)); have n3_ := ak (vg hg (vh HB.out)); clear HB; have HB := n0_; have BK190 := n1_; have GW190 := n2_; have GE190 := n3_; clear n0_ n1_ n2_ n3_; clear hb hbox hg; have hcz18_0 : w17.cell? ⟨gb190, 0, none⟩ = some (.int .i64 a1_0) := (blk_cell BK190.out 0).trans rfl; have hcz18_1 : w17.cell? ⟨gb190, 1, none⟩ = some (.int .i64 a1_1) := (blk_cell BK190.out 1).trans rfl; have hcz18_2 : w17.cell? ⟨gb190, 2, none⟩ = some (.int .i64 a1_2) := (blk_cell BK190.out 2).trans rfl; have hcz18_3 : w17.cell? ⟨gb190, 3, none⟩ = some (.int .i64 a1_3) := (blk_cell BK190.out 3).trans rfl; have hfz18_0 := blk_frozen BK190.out 0; have hfz18_1 := blk_frozen BK190.out 1; have hfz18_2 := blk_frozen BK190.out 2; have hfz18_3 := blk_frozen BK190.out 3) | ((with_reducible refine gate_callee (f := 36) rfl ?_); refine goesL_ (some 9) rfl rfl Try.func36 (by kernel_rfl) rfl #[.int .i64 a1_0, .int .i64 0, .int .i64 (wrap64 (a0 - 1))] rfl vm ?_; (with_reducible refine (impl_in.calls a1_0 0 (wrap64 (a0 - 1)) true _ A3.out).mono ?_); rintro e w' ⟨rfl, ⟨nd, rfl⟩⟩; refine ⟨_, rfl, ?_⟩) | (go_at_call 36; (with_reducible refine (impl_in.calls a1_1 0 (wrap64 (a0 - 1)) false _ A5.out).mono ?_); rintro e w' ⟨rfl, ⟨nd, rfl⟩⟩))
   go_ret
   exact ⟨by first | rfl | (simp [errW_none, errW_some] <;> rfl) | (simp [*, errW_none, errW_some] <;> rfl), by exact vs1 HB.out GE190.out⟩
 ·replace c4 := Bool.eq_false_iff.mpr c4; subst c4; have H1 : (some false) = some r := by rw [if_neg (show ¬ (false = true) by decide)] at H; first | exact H | (simp only [if_true, eq_self] at H ⊢; exact H)
  clear H; have H := H1; clear H1; obtain rfl := Option.some.inj H; go_enter Try.func66, Try.ntmps66
  go_wp2_with (first | ((with_reducible refine gate_dst (N := 3) rfl ?_); refine vbe (N := 3) (cs := #[.int .i64 a1_0, .int .i64 a1_1, .int .i64 a1_2, .int .i64 a1_3]) (t := 63) ?_; intro gb190 hg w19 hbox hb; have n0_ := ak (below_step (vh HB.out) hb); have n1_ := ak (hbox); have n2_ := ak (vg hg (vh HB.out)); have n3_ := ak (vg hg (vh HB.out)); clear HB; have HB := n0_; have BK190 := n1_; have GW190 := n2_; have GE190 := n3_; clear n0_ n1_ n2_ n3_; clear hb hbox hg; have hcz20_0 : w19.cell? ⟨gb190, 0, none⟩ = some (.int .i64 a1_0) := (blk_cell BK190.out 0).trans rfl; have hcz20_1 : w19.cell? ⟨gb190, 1, none⟩ = some (.int .i64 a1_1) := (blk_cell BK190.out 1).trans rfl; have hcz20_2 : w19.cell? ⟨gb190, 2, none⟩ = some (.int .i64 a1_2) := (blk_cell BK190.out 2).trans rfl; have hcz20_3 : w19.cell? ⟨gb190, 3, none⟩ = some (.int .i64 a1_3) := (blk_cell BK190.out 3).trans rfl; have hfz20_0 := blk_frozen BK190.out 0; have hfz20_1 := blk_frozen BK190.out 1; have hfz20_2 := blk_frozen BK190.out 2; have hfz20_3 := blk_frozen BK190.out 3) | ((with_reducible refine gate_callee (f := 36) rfl ?_); refine goesL_ (some 9) rfl rfl Try.func36 (by kernel_rfl) rfl #[.int .i64 a1_0, .int .i64 0, .int .i64 (wrap64 (a0 - 1))] rfl vm ?_; (with_reducible refine (impl_in.calls a1_0 0 (wrap64 (a0 - 1)) false _ A3.out).mono ?_); rintro e w' ⟨rfl, ⟨nd, rfl⟩⟩; refine ⟨_, rfl, ?_⟩))
  go_ret
  exact ⟨by first | rfl | (simp [errW_none, errW_some] <;> rfl) | (simp [*, errW_none, errW_some] <;> rfl), by exact vs1 HB.out GE190.out⟩

/-! ### impl_areStations: function 63 -/
def impl_areStations.f (a0 : Int) : Option (Bool) := (impl_in.f a0 2 6).bind fun t195 => (some t195)
set_option maxHeartbeats 8000000 in
set_option maxRecDepth 100000 in
theorem impl_areStations.calls (a0 : Int) (r : Bool) (w : World) (h : impl_areStations.f a0 = some r) :
  Calls Try.prog 63 #[.int .i64 a0] w fun e w' => e = .returned (.bool r) ∧ Drawn0 w w' := by
 have H : ((impl_in.f a0 2 6).bind fun t195 => (some t195)) = some r := h; clear h; replace H := Option.bind_eq_some_iff.mp H; obtain ⟨t195, A20, H⟩ := H; replace H : (some t195) = some r := H; have A2 := Aside0.mk A20; clear A20; obtain rfl := Option.some.inj H; go_enter Try.func63, Try.ntmps63
 go_wp2_with (first | ((with_reducible refine gate_callee (f := 36) rfl ?_); refine goesL_ (some 4) rfl rfl Try.func36 (by kernel_rfl) rfl #[.int .i64 a0, .int .i64 2, .int .i64 6] rfl vm ?_; (with_reducible refine (impl_in.calls a0 2 6 t195 _ A2.out).mono ?_); rintro e w' ⟨rfl, ⟨nd, rfl⟩⟩; refine ⟨_, rfl, ?_⟩))
 go_ret
 exact ⟨by first | rfl | (simp; done) | (simp [*]; done), by repeat (first | exact Drawn0.refl _ | apply Drawn0.step)⟩

end Go.Proofs.Ytlgmccliclmbaaa.PFnExactWaitsOf
