-- Written by a program of this session (the kit's print with this session's additions, wip/tools): Lean checks it. (pressed)
import Derived.Test.YtlgmccliclmbaaaAbbr
import Derived.Test.YtlgmccliclmbaaaPFnExactWaitsOfx0
import Derived.Test.YtlgmccliclmbaaaPFnExactWaitsOfx2
import Derived.Test.YtlgmccliclmbaaaPFnExactWaitsOfx3
import Derived.Test.YtlgmccliclmbaaaPFnExactWaitsOfx4
namespace Go.Proofs.Ytlgmccliclmbaaa.PFnExactWaitsOf
open Go.RowKit Go.Proofs.YtlgmccliclmbaaaW.PrintWords Go.Proofs.YtlgmccliclmbaaaW.PrintLast Go.Proofs.YtlgmccliclmbaaaW.PrintMore
attribute [local go_sem] max2_int min2_int max_two min_two max_three min_three max_four min_four   -- for this text's walks alone
set_option linter.unusedVariables false
set_option linter.unusedSimpArgs false

/-! ### spec_l10IsPlan: function 45 -/
mutual
def spec_l10IsPlan.l0 : Nat → List (S63) → List (S67) → Int → Int → Option (Bool)
 | 0, _, _, _, _ => none
 | k + 1, x0, x1, x5, x6 => if x6 < (x0.length : Int) then (if 0 ≤ x6 then ((spec_l10Steps.f ((rd_T63 x0 x6).f0) ((rd_T63 x0 x6).f1) ((rd_T63 x0 x6).f2) ((rd_T63 x0 x6).f3)).bind fun bt157 => (spec_l10IsPlan.l1 k x0 x1 (wrap64 (x5 + bt157.1)) x6 bt157.1 bt157.2 ((rd_T63 x0 x6).f3) 0 0)) else (none)) else (if (x1.length : Int) = x5 then (spec_l10IsPlan.l2 k x0 x1 0) else (some false))
def spec_l10IsPlan.l1 : Nat → List (S63) → List (S67) → Int → Int → Int → Int → Int → Int → Int → Option (Bool)
 | 0, _, _, _, _, _, _, _, _, _ => none
 | k + 1, x0, x1, x5, x6, x7, x8, x9, x10, x11 => if x11 < (x1.length : Int) then (if 0 ≤ x11 then (if ((rd_T67 x1 x11).f0) = x6 then (if x10 ≥ x7 then (some false) else (if 0 ≤ x6 then (if x6 < (x0.length : Int) then (if ((rd_T67 x1 x11).f1) = (wrap64 (((rd_T63 x0 x6).f0) + (wrap64 (x8 * x10)))) then ((spec_l1In.f ((rd_T67 x1 x11).f2) x9 9999).bind fun t164 => (if t164 = true then (spec_l10IsPlan.l1 k x0 x1 x5 x6 x7 x8 (wrap64 (((rd_T67 x1 x11).f2) + ((rd_T63 x0 x6).f2))) (wrap64 (x10 + 1)) (wrap64 (x11 + 1))) else (some false))) else (some false)) else (none)) else (none))) else (spec_l10IsPlan.l1 k x0 x1 x5 x6 x7 x8 x9 x10 (wrap64 (x11 + 1)))) else (none)) else (if x10 = x7 then (spec_l10IsPlan.l0 k x0 x1 x5 (wrap64 (x6 + 1))) else (some false))
def spec_l10IsPlan.l2 : Nat → List (S63) → List (S67) → Int → Option (Bool)
 | 0, _, _, _ => none
 | k + 1, x0, x1, x12 => if x12 < (x1.length : Int) then (spec_l10IsPlan.l3 k x0 x1 x12 0) else (some true)
def spec_l10IsPlan.l3 : Nat → List (S63) → List (S67) → Int → Int → Option (Bool)
 | 0, _, _, _, _ => none
 | k + 1, x0, x1, x12, x13 => if x13 < x12 then (if 0 ≤ x13 then (if x13 < (x1.length : Int) then (if 0 ≤ x12 then (if x12 < (x1.length : Int) then ((spec_l10Clash.f k x0 ((rd_T67 x1 x13).f0) ((rd_T67 x1 x13).f1) ((rd_T67 x1 x13).f2) ((rd_T67 x1 x12).f0) ((rd_T67 x1 x12).f1) ((rd_T67 x1 x12).f2)).bind fun t169 => (if t169 = true then (some false) else (spec_l10IsPlan.l3 k x0 x1 x12 (wrap64 (x13 + 1))))) else (none)) else (none)) else (none)) else (none)) else (if x12 > 0 then (if 0 ≤ (wrap64 (x12 - 1)) then (if (wrap64 (x12 - 1)) < (x1.length : Int) then (if 0 ≤ x12 then (if x12 < (x1.length : Int) then ((spec_l10Before.f ((rd_T67 x1 (wrap64 (x12 - 1))).f0) ((rd_T67 x1 (wrap64 (x12 - 1))).f1) ((rd_T67 x1 (wrap64 (x12 - 1))).f2) ((rd_T67 x1 x12).f0) ((rd_T67 x1 x12).f1) ((rd_T67 x1 x12).f2)).bind fun t172 => (if t172 = true then (spec_l10IsPlan.l2 k x0 x1 (wrap64 (x12 + 1))) else (some false))) else (none)) else (none)) else (none)) else (none)) else (spec_l10IsPlan.l2 k x0 x1 (wrap64 (x12 + 1))))
end
def spec_l10IsPlan.f (k : Nat) (l0 : List (S63)) (l1 : List (S67)) : Option (Bool) := spec_l10IsPlan.l0 k l0 l1 0 0
theorem spec_l10IsPlan.mono_l : ∀ k, (∀ y0 y1 y2 y3, LeO (spec_l10IsPlan.l0 k y0 y1 y2 y3) (spec_l10IsPlan.l0 (k + 1) y0 y1 y2 y3)) ∧ (∀ y0 y1 y2 y3 y4 y5 y6 y7 y8, LeO (spec_l10IsPlan.l1 k y0 y1 y2 y3 y4 y5 y6 y7 y8) (spec_l10IsPlan.l1 (k + 1) y0 y1 y2 y3 y4 y5 y6 y7 y8)) ∧ (∀ y0 y1 y2, LeO (spec_l10IsPlan.l2 k y0 y1 y2) (spec_l10IsPlan.l2 (k + 1) y0 y1 y2)) ∧ (∀ y0 y1 y2 y3, LeO (spec_l10IsPlan.l3 k y0 y1 y2 y3) (spec_l10IsPlan.l3 (k + 1) y0 y1 y2 y3))
 | 0 => ⟨fun _ _ _ _ r h => by simp [spec_l10IsPlan.l0] at h, fun _ _ _ _ _ _ _ _ _ r h => by simp [spec_l10IsPlan.l1] at h, fun _ _ _ r h => by simp [spec_l10IsPlan.l2] at h, fun _ _ _ _ r h => by simp [spec_l10IsPlan.l3] at h⟩
 | k + 1 => by
  obtain ⟨ih0, ih1, ih2, ih3⟩ := spec_l10IsPlan.mono_l k; refine ⟨?_, ?_, ?_, ?_⟩
  ·intro y0 y1 y2 y3; unfold spec_l10IsPlan.l0
   repeat' first
   | (with_reducible exact ih0 _ _ _ _)
   | (with_reducible exact ih1 _ _ _ _ _ _ _ _ _)
   | (with_reducible exact ih2 _ _ _)
   | (with_reducible exact ih3 _ _ _ _)
   | (with_reducible exact spec_l10Clash.mono _ _ _ _ _ _ _ _)
   | (with_reducible exact LeO.refl _)
   | (with_reducible exact LeO.none _)
   | (with_reducible refine LeO.ite ?_ ?_)
   | (with_reducible refine LeO.bind ?_ (fun _ => ?_))
   | exact ih0 _ _ _ _
   | exact ih1 _ _ _ _ _ _ _ _ _
   | exact ih2 _ _ _
   | exact ih3 _ _ _ _
   | exact spec_l10Clash.mono _ _ _ _ _ _ _ _
   | exact LeO.none _
   | refine LeO.ite ?_ ?_
   | refine LeO.bind ?_ (fun _ => ?_)
  ·intro y0 y1 y2 y3 y4 y5 y6 y7 y8; unfold spec_l10IsPlan.l1
   repeat' first
   | (with_reducible exact ih0 _ _ _ _)
   | (with_reducible exact ih1 _ _ _ _ _ _ _ _ _)
   | (with_reducible exact ih2 _ _ _)
   | (with_reducible exact ih3 _ _ _ _)
   | (with_reducible exact spec_l10Clash.mono _ _ _ _ _ _ _ _)
   | (with_reducible exact LeO.refl _)
   | (with_reducible exact LeO.none _)
   | (with_reducible refine LeO.ite ?_ ?_)
   | (with_reducible refine LeO.bind ?_ (fun _ => ?_))
   | exact ih0 _ _ _ _
   | exact ih1 _ _ _ _ _ _ _ _ _
   | exact ih2 _ _ _
   | exact ih3 _ _ _ _
   | exact spec_l10Clash.mono _ _ _ _ _ _ _ _
   | exact LeO.none _
   | refine LeO.ite ?_ ?_
   | refine LeO.bind ?_ (fun _ => ?_)
  ·intro y0 y1 y2; unfold spec_l10IsPlan.l2
   repeat' first
   | (with_reducible exact ih0 _ _ _ _)
   | (with_reducible exact ih1 _ _ _ _ _ _ _ _ _)
   | (with_reducible exact ih2 _ _ _)
   | (with_reducible exact ih3 _ _ _ _)
   | (with_reducible exact spec_l10Clash.mono _ _ _ _ _ _ _ _)
   | (with_reducible exact LeO.refl _)
   | (with_reducible exact LeO.none _)
   | (with_reducible refine LeO.ite ?_ ?_)
   | (with_reducible refine LeO.bind ?_ (fun _ => ?_))
   | exact ih0 _ _ _ _
   | exact ih1 _ _ _ _ _ _ _ _ _
   | exact ih2 _ _ _
   | exact ih3 _ _ _ _
   | exact spec_l10Clash.mono _ _ _ _ _ _ _ _
   | exact LeO.none _
   | refine LeO.ite ?_ ?_
   | refine LeO.bind ?_ (fun _ => ?_)
  ·intro y0 y1 y2 y3; unfold spec_l10IsPlan.l3
   repeat' first
   | (with_reducible exact ih0 _ _ _ _)
   | (with_reducible exact ih1 _ _ _ _ _ _ _ _ _)
   | (with_reducible exact ih2 _ _ _)
   | (with_reducible exact ih3 _ _ _ _)
   | (with_reducible exact spec_l10Clash.mono _ _ _ _ _ _ _ _)
   | (with_reducible exact LeO.refl _)
   | (with_reducible exact LeO.none _)
   | (with_reducible refine LeO.ite ?_ ?_)
   | (with_reducible refine LeO.bind ?_ (fun _ => ?_))
   | exact ih0 _ _ _ _
   | exact ih1 _ _ _ _ _ _ _ _ _
   | exact ih2 _ _ _
   | exact ih3 _ _ _ _
   | exact spec_l10Clash.mono _ _ _ _ _ _ _ _
   | exact LeO.none _
   | refine LeO.ite ?_ ?_
   | refine LeO.bind ?_ (fun _ => ?_)
theorem spec_l10IsPlan.mono : ∀ a0 a1 k, LeO (spec_l10IsPlan.f k a0 a1) (spec_l10IsPlan.f (k + 1) a0 a1) := by
 intro a0 a1 k; obtain ⟨ih0, ih1, ih2, ih3⟩ := spec_l10IsPlan.mono_l k; unfold spec_l10IsPlan.f
 repeat' first
   | (with_reducible exact ih0 _ _ _ _)
   | (with_reducible exact ih1 _ _ _ _ _ _ _ _ _)
   | (with_reducible exact ih2 _ _ _)
   | (with_reducible exact ih3 _ _ _ _)
   | (with_reducible exact spec_l10Clash.mono _ _ _ _ _ _ _ _)
   | (with_reducible exact LeO.refl _)
   | (with_reducible exact LeO.none _)
   | (with_reducible refine LeO.ite ?_ ?_)
   | (with_reducible refine LeO.bind ?_ (fun _ => ?_))
   | exact ih0 _ _ _ _
   | exact ih1 _ _ _ _ _ _ _ _ _
   | exact ih2 _ _ _
   | exact ih3 _ _ _ _
   | exact spec_l10Clash.mono _ _ _ _ _ _ _ _
   | exact LeO.none _
   | refine LeO.ite ?_ ?_
   | refine LeO.bind ?_ (fun _ => ?_)
def spec_l10IsPlan.T12 : Bool × List (List Nat × List Nat) := (true, [([], []), ([], []), ([0, 1], [0, 1]), ([2], [2]), ([3], [3]), ([3], [3]), ([4, 5, 3], [3, 4, 5]), ([6, 3], [3, 6]), ([7, 3], [3, 7]), ([3], [3]), ([3], [3]), ([9, 10, 3], [3, 9, 10]), ([11, 3], [3, 11]), ([12, 3], [3, 12]), ([3], [3]), ([3], [3]), ([14, 15, 3], [3, 14, 15]), ([13, 16, 3], [3, 13, 16]), ([8, 17, 3], [3, 8, 17]), ([3, 18], [3, 18]), ([19, 3], [19]), ([20], [20]), ([20], [20]), ([21, 22, 20], [20, 21, 22]), ([23, 20], [20, 23]), ([24, 20], [20, 24]), ([20], [20]), ([25, 26, 20, 20], [20, 25, 26]), ([27, 20], [20, 27]), ([20, 28], [20, 28])])
def spec_l10IsPlan.B12 : List Nat := [0, 0, 3, 7, 15, 15, 63, 127, 255, 15, 15, 1551, 3599, 7695, 15, 15, 49167, 130575, 262143, 524287, 1048575, 2097151, 2097151, 8388607, 16777215, 33554431, 2097151, 134217727, 268435455, 536870911]
theorem spec_l10IsPlan.tab12 : rtab .any (opsOf Try.f45 12) = spec_l10IsPlan.T12 := by kernel_rfl
theorem spec_l10IsPlan.bits12 : waitsOk spec_l10IsPlan.T12.2 spec_l10IsPlan.B12 = true := by kernel_rfl
def spec_l10IsPlan.T14 : Bool × List (List Nat × List Nat) := (true, [([], []), ([], []), ([0, 1], [0, 1]), ([2], [2]), ([3], [3]), ([], []), ([], []), ([5, 6], [5, 6]), ([7], [7]), ([8], [8]), ([4, 9], [4, 9]), ([10, 0, 1, 2, 3, 4, 5, 6, 7, 8, 9, 10], [10])])
def spec_l10IsPlan.B14 : List Nat := [0, 0, 3, 7, 15, 0, 0, 96, 224, 480, 1023, 2047]
theorem spec_l10IsPlan.tab14 : rtab .any (opsOf Try.f45 14) = spec_l10IsPlan.T14 := by kernel_rfl
theorem spec_l10IsPlan.bits14 : waitsOk spec_l10IsPlan.T14.2 spec_l10IsPlan.B14 = true := by kernel_rfl
def spec_l10IsPlan.T26 : Bool × List (List Nat × List Nat) := (true, [([], []), ([], []), ([], []), ([1, 2], [1, 2]), ([3], [3]), ([], []), ([], []), ([5, 6], [5, 6]), ([7], [7]), ([0, 4, 8], [0, 4, 8])])
def spec_l10IsPlan.B26 : List Nat := [0, 0, 0, 6, 14, 0, 0, 96, 224, 511]
theorem spec_l10IsPlan.tab26 : rtab .any (opsOf Try.f45 26) = spec_l10IsPlan.T26 := by kernel_rfl
theorem spec_l10IsPlan.bits26 : waitsOk spec_l10IsPlan.T26.2 spec_l10IsPlan.B26 = true := by kernel_rfl
def spec_l10IsPlan.T28 : Bool × List (List Nat × List Nat) := (true, [([], []), ([0], [0]), ([1], [1]), ([2], [2]), ([2], [2]), ([4, 2], [2, 4]), ([3, 5, 2], [2, 3, 5]), ([6, 2], [2, 6]), ([2], [2]), ([2], [2]), ([8, 9, 2], [2, 8, 9]), ([10, 2], [2, 10]), ([7, 11, 2, 2], [2, 7, 11]), ([12, 2], [2, 12]), ([2, 13], [2, 13])])
def spec_l10IsPlan.B28 : List Nat := [0, 1, 3, 7, 7, 23, 63, 127, 7, 7, 775, 1799, 4095, 8191, 16383]
theorem spec_l10IsPlan.tab28 : rtab .any (opsOf Try.f45 28) = spec_l10IsPlan.T28 := by kernel_rfl
theorem spec_l10IsPlan.bits28 : waitsOk spec_l10IsPlan.T28.2 spec_l10IsPlan.B28 = true := by kernel_rfl
set_option maxHeartbeats 8000000 in
set_option maxRecDepth 100000 in
theorem spec_l10IsPlan.calls (k : Nat) (A0 : Option Addr) (c0 : Nat) (l0 : List (S63)) (A1 : Option Addr) (c1 : Nat) (l1 : List (S67)) (r : Bool) (w : World) (hr0 : Kd.C k63 w A0 l0.length l0) (hc0 : l0.length ≤ c0) (hr1 : Kd.C k67 w A1 l1.length l1) (hc1 : l1.length ≤ c1) (h : spec_l10IsPlan.f k l0 l1 = some r) :
  Calls Try.prog 45 #[.slice A0 l0.length c0, .slice A1 l1.length c1] w fun e w' => e = .returned (.bool r) ∧ Below w.heap.size w w' := by
 have hu63 := Try.underlying63; have hu67 := Try.underlying67; have HR0 := Aside0.mk hr0; have HC0 := Aside0.mk hc0; clear hr0 hc0; have HR1 := Aside0.mk hr1; have HC1 := Aside0.mk hc1; clear hr1 hc1; have HB := ak (Below.refl w.heap.size w); have H : (spec_l10IsPlan.l0 k l0 l1 0 0) = some r := h; clear h; have H' := Aside0.mk H; clear H; go_enter Try.func45, Try.ntmps45
 go_wp2
 go_loopg [5, 6] k (fun kq v5 v6 w' => ∃ (x5_1 : Int) (x6_1 : Int), v5 = .int .i64 x5_1 ∧ v6 = .int .i64 x6_1 ∧ Aside0 (spec_l10IsPlan.l0 kq l0 l1 x5_1 x6_1 = some r) ∧ Aside0 (kq ≤ k) ∧ Aside0 (Below w.heap.size w w'))
 case atStart => exact ⟨(0), (0), (by first | rfl | (simp; done) | (simp [*]; done)), (by first | rfl | (simp; done) | (simp [*]; done)), H', ⟨Nat.le_refl _⟩, ⟨by exact vh HB.out⟩⟩
 case round =>
  clear H'; try clear c1
  try clear p2
  obtain ⟨x5_1, x6_1, rfl, rfl, HA, HK1, HB⟩ := hrel; cases gk with
  | zero => exact absurd HA.out (by simp [spec_l10IsPlan.l0])
  | succ k1 =>
   have H := HA.out; clear HA; simp only [spec_l10IsPlan.l0] at H
   by_cases c3 : x6_1 < (l0.length : Int)
   ·rw [if_pos c3] at H
    have c3b0 : decide (x6_1 < (l0.length : Int)) = true := decide_eq_true c3; clear c3; by_cases c4 : 0 ≤ x6_1
    ·rw [if_pos c4] at H
     have c4b0 : decide (0 ≤ x6_1) = true := decide_eq_true c4; clear c4; replace H := Option.bind_eq_some_iff.mp H; obtain ⟨⟨t157, t158⟩, A50, H⟩ := H; replace H : (spec_l10IsPlan.l1 k1 l0 l1 (wrap64 (x5_1 + t157)) x6_1 t157 t158 ((rd_T63 l0 x6_1).f3) 0 0) = some r := H; have A5 := Aside0.mk A50; clear A50; have H' := Aside0.mk H; clear H; have p156 : 0 ≤ (x6_1 : Int) := of_decide_eq_true va; have q156 : x6_1 < (l0.length : Int) := of_decide_eq_true va; obtain ⟨ad156, e156, hx156_0, hx156_1, hx156_2, hx156_3⟩ := at_T63 HR0.out x6_1 p156 q156; cases e156; (try replace hx156_0 := vl HB.out hx156_0); (try replace hx156_1 := vl HB.out hx156_1); (try replace hx156_2 := vl HB.out hx156_2); (try replace hx156_3 := vl HB.out hx156_3); replace p156 := eq_true p156; replace q156 := eq_true q156; go_wp2_with (first | ((with_reducible refine gate_callee (f := 55) rfl ?_); refine goesL_ (some 25) rfl rfl Try.func55 (by kernel_rfl) rfl #[.agg #[.int .i64 ((rd_T63 l0 x6_1).f0), .int .i64 ((rd_T63 l0 x6_1).f1), .int .i64 ((rd_T63 l0 x6_1).f2), .int .i64 ((rd_T63 l0 x6_1).f3)]] rfl vm ?_; (with_reducible refine (spec_l10Steps.calls ((rd_T63 l0 x6_1).f0) ((rd_T63 l0 x6_1).f1) ((rd_T63 l0 x6_1).f2) ((rd_T63 l0 x6_1).f3) t157 t158 _ A5.out).mono ?_); rintro e w6 ⟨rfl, hb⟩; refine ⟨_, rfl, ?_⟩; have n0_ := ak (below_step (vh HB.out) hb); clear HB; have HB := n0_; clear n0_; (try clear hb); (try clear hb2); (try clear hk); (try clear hi); have p159 : 0 ≤ (x6_1 : Int) := of_decide_eq_true va; have q159 : x6_1 < (l0.length : Int) := of_decide_eq_true va; obtain ⟨ad159, e159, hx159_0, hx159_1, hx159_2, hx159_3⟩ := at_T63 HR0.out x6_1 p159 q159; obtain rfl : ad156 = ad159 := (by injection e159); (try replace hx159_0 := vl HB.out hx159_0); (try replace hx159_1 := vl HB.out hx159_1); (try replace hx159_2 := vl HB.out hx159_2); (try replace hx159_3 := vl HB.out hx159_3); replace p159 := eq_true p159; replace q159 := eq_true q159))
     go_loopg [9, 10, 11] k1 (fun kq v9 v10 v11 w' => ∃ (x9_2 : Int) (x10_2 : Int) (x11_2 : Int), v9 = .int .i64 x9_2 ∧ v10 = .int .i64 x10_2 ∧ v11 = .int .i64 x11_2 ∧ Aside0 (spec_l10IsPlan.l1 kq l0 l1 (wrap64 (x5_1 + t157)) x6_1 t157 t158 x9_2 x10_2 x11_2 = some r) ∧ Aside0 (kq ≤ k1) ∧ Aside0 (Below w.heap.size w w'))
     case atStart => exact ⟨((rd_T63 l0 x6_1).f3), (0), (0), (by first | rfl | (simp; done) | (simp [*]; done)), (by first | rfl | (simp; done) | (simp [*]; done)), (by first | rfl | (simp; done) | (simp [*]; done)), H', ⟨Nat.le_refl _⟩, ⟨by exact vh HB.out⟩⟩
     case round =>
      clear H'; try clear c1
      try clear p1
      try clear q1
      try clear hx1
      try clear p2
      try clear c3
      try clear c3b0
      try clear c4
      try clear c4b0
      try clear c5
      try clear p6
      try clear hx156_0
      try clear hx156_1
      try clear hx156_2
      try clear hx156_3
      try clear hx159_0
      try clear hx159_1
      try clear hx159_2
      try clear hx159_3
      try clear p156
      try clear p159
      try clear p2
      try clear q156
      try clear q159
      obtain ⟨x9_2, x10_2, x11_2, rfl, rfl, rfl, HA, HK2, HB⟩ := hrel; cases gk with
      | zero => exact absurd HA.out (by simp [spec_l10IsPlan.l1])
      | succ k2 =>
       have H := HA.out; clear HA; simp only [spec_l10IsPlan.l1] at H
       by_cases c7 : x11_2 < (l1.length : Int)
       ·rw [if_pos c7] at H
        have c7b0 : decide (x11_2 < (l1.length : Int)) = true := decide_eq_true c7; clear c7; by_cases c8 : 0 ≤ x11_2
        ·rw [if_pos c8] at H
         have c8b0 : decide (0 ≤ x11_2) = true := decide_eq_true c8; clear c8; by_cases c9 : ((rd_T67 l1 x11_2).f0) = x6_1
         ·rw [if_pos c9] at H
          have c9b0 : (((rd_T67 l1 x11_2).f0) == x6_1) = true := beq_iff_eq.mpr c9; have c9b1 : (((rd_T67 l1 x11_2).f0) != x6_1) = false := bne_eq_false_iff_eq.mpr c9; clear c9; by_cases c10 : x10_2 ≥ t157
          ·rw [if_pos c10] at H
           have c10b0 : decide (t157 ≤ x10_2) = true := decide_eq_true c10; clear c10; obtain rfl := Option.some.inj H; have p160 : 0 ≤ (x11_2 : Int) := of_decide_eq_true va; have q160 : x11_2 < (l1.length : Int) := of_decide_eq_true va; obtain ⟨ad160, e160, hx160_0, hx160_1, hx160_2⟩ := at_T67 HR1.out x11_2 p160 q160; cases e160; (try replace hx160_0 := vl HB.out hx160_0); (try replace hx160_1 := vl HB.out hx160_1); (try replace hx160_2 := vl HB.out hx160_2); replace p160 := eq_true p160; replace q160 := eq_true q160; try go_wp2
           have n0_ := ak (below_drew1 HB.out); clear HB; have HB := n0_; clear n0_; refine start_ (n := 30) (S := fun w' => True) (ds := []) #[false, false, false, false, false, false, false, false, false, false, false, false, false, false, false, false, false, false, false, false, false, false, false, false, false, false, false, false, false, false] (by kernel_rfl) rfl rfl trivial (fun hHeld => ?_); refine with_tabW spec_l10IsPlan.tab12 spec_l10IsPlan.bits12 (fun HT_ HW_ => ?_); generalize wr.drew = w11 at HB hHeld ⊢
           refine px 0 49 #[true, false, false, false, false, false, false, false, false, false, false, false, false, false, false, false, false, false, false, false, false, false, false, false, false, false, false, false, false, false] rfl HT_.out ?_ (.inl ⟨by rfl, ?_⟩) ?_ ?_ ?_; rotate_left
           ·intro w'; go_simp; with_reducible rfl
           rotate_left
           ·simp only [ap1, ap2, ap3, ap4, i64_w, i32_w]; rfl
           refine px 1 50 #[true, true, false, false, false, false, false, false, false, false, false, false, false, false, false, false, false, false, false, false, false, false, false, false, false, false, false, false, false, false] rfl HT_.out ?_ (.inl ⟨by rfl, ?_⟩) ?_ ?_ ?_; rotate_left
           ·intro w'; go_simp; with_reducible rfl
           rotate_left
           ·simp only [ap1, ap2, ap3, ap4, i64_w, i32_w]; rfl
           refine px 2 51 #[true, true, true, false, false, false, false, false, false, false, false, false, false, false, false, false, false, false, false, false, false, false, false, false, false, false, false, false, false, false] rfl HT_.out ?_ (.inl ⟨by rfl, ?_⟩) ?_ ?_ ?_; rotate_left
           ·intro w'; go_simp; with_reducible rfl
           rotate_left
           ·simp only [ap1, ap2, ap3, ap4, i64_w, i32_w]; rfl
           refine px 3 52 #[true, true, true, true, false, false, false, false, false, false, false, false, false, false, false, false, false, false, false, false, false, false, false, false, false, false, false, false, false, false] rfl HT_.out ?_ (.inl ⟨by rfl, ?_⟩) ?_ ?_ ?_; rotate_left
           ·intro w'; go_simp; with_reducible rfl
           rotate_left
           ·simp only [ap1, ap2, ap3, ap4, i64_w, i32_w]; rfl
           refine pure_ (i := 4) (N := some 53) (v := undef) (a' := ?_) #[true, true, true, true, true, false, false, false, false, false, false, false, false, false, false, false, false, false, false, false, false, false, false, false, false, false, false, false, false, false] rfl rfl (ao HT_.out) (fun _ _ _ h => h) (Or.inr ⟨by rfl, rfl⟩) ?_ ?_; rotate_left
           ·simp only [ap1, ap2, ap3, ap4, i64_w, i32_w]; rfl
           refine pure_ (i := 5) (N := some 54) (v := undef) (a' := ?_) #[true, true, true, true, true, true, false, false, false, false, false, false, false, false, false, false, false, false, false, false, false, false, false, false, false, false, false, false, false, false] rfl rfl (ao HT_.out) (fun _ _ _ h => h) (Or.inr ⟨by rfl, rfl⟩) ?_ ?_; rotate_left
           ·simp only [ap1, ap2, ap3, ap4, i64_w, i32_w]; rfl
           refine pure_ (i := 6) (N := some 55) (v := undef) (a' := ?_) #[true, true, true, true, true, true, true, false, false, false, false, false, false, false, false, false, false, false, false, false, false, false, false, false, false, false, false, false, false, false] rfl rfl (ao HT_.out) (fun _ _ _ h => h) (Or.inr ⟨by rfl, rfl⟩) ?_ ?_; rotate_left
           ·simp only [ap1, ap2, ap3, ap4, i64_w, i32_w]; rfl
           refine pure_ (i := 7) (N := some 56) (v := undef) (a' := ?_) #[true, true, true, true, true, true, true, true, false, false, false, false, false, false, false, false, false, false, false, false, false, false, false, false, false, false, false, false, false, false] rfl rfl (ao HT_.out) (fun _ _ _ h => h) (Or.inr ⟨by rfl, rfl⟩) ?_ ?_; rotate_left
           ·simp only [ap1, ap2, ap3, ap4, i64_w, i32_w]; rfl
           refine pure_ (i := 8) (N := some 57) (v := undef) (a' := ?_) #[true, true, true, true, true, true, true, true, true, false, false, false, false, false, false, false, false, false, false, false, false, false, false, false, false, false, false, false, false, false] rfl rfl (ao HT_.out) (fun _ _ _ h => h) (Or.inr ⟨by rfl, rfl⟩) ?_ ?_; rotate_left
           ·simp only [ap1, ap2, ap3, ap4, i64_w, i32_w]; rfl
           refine pure_ (i := 9) (N := some 58) (v := undef) (a' := ?_) #[true, true, true, true, true, true, true, true, true, true, false, false, false, false, false, false, false, false, false, false, false, false, false, false, false, false, false, false, false, false] rfl rfl (ao HT_.out) (fun _ _ _ h => h) (Or.inr ⟨by rfl, rfl⟩) ?_ ?_; rotate_left
           ·simp only [ap1, ap2, ap3, ap4, i64_w, i32_w]; rfl
           refine pure_ (i := 10) (N := some 59) (v := undef) (a' := ?_) #[true, true, true, true, true, true, true, true, true, true, true, false, false, false, false, false, false, false, false, false, false, false, false, false, false, false, false, false, false, false] rfl rfl (ao HT_.out) (fun _ _ _ h => h) (Or.inr ⟨by rfl, rfl⟩) ?_ ?_; rotate_left
           ·simp only [ap1, ap2, ap3, ap4, i64_w, i32_w]; rfl
           refine pure_ (i := 11) (N := some 60) (v := undef) (a' := ?_) #[true, true, true, true, true, true, true, true, true, true, true, true, false, false, false, false, false, false, false, false, false, false, false, false, false, false, false, false, false, false] rfl rfl (ao HT_.out) (fun _ _ _ h => h) (Or.inr ⟨by rfl, rfl⟩) ?_ ?_; rotate_left
           ·simp only [ap1, ap2, ap3, ap4, i64_w, i32_w]; rfl
           refine pure_ (i := 12) (N := some 61) (v := undef) (a' := ?_) #[true, true, true, true, true, true, true, true, true, true, true, true, true, false, false, false, false, false, false, false, false, false, false, false, false, false, false, false, false, false] rfl rfl (ao HT_.out) (fun _ _ _ h => h) (Or.inr ⟨by rfl, rfl⟩) ?_ ?_; rotate_left
           ·simp only [ap1, ap2, ap3, ap4, i64_w, i32_w]; rfl
           refine pure_ (i := 13) (N := some 62) (v := undef) (a' := ?_) #[true, true, true, true, true, true, true, true, true, true, true, true, true, true, false, false, false, false, false, false, false, false, false, false, false, false, false, false, false, false] rfl rfl (ao HT_.out) (fun _ _ _ h => h) (Or.inr ⟨by rfl, rfl⟩) ?_ ?_; rotate_left
           ·simp only [ap1, ap2, ap3, ap4, i64_w, i32_w]; rfl
           refine pure_ (i := 14) (N := some 63) (v := undef) (a' := ?_) #[true, true, true, true, true, true, true, true, true, true, true, true, true, true, true, false, false, false, false, false, false, false, false, false, false, false, false, false, false, false] rfl rfl (ao HT_.out) (fun _ _ _ h => h) (Or.inr ⟨by rfl, rfl⟩) ?_ ?_; rotate_left
           ·simp only [ap1, ap2, ap3, ap4, i64_w, i32_w]; rfl
           refine pure_ (i := 15) (N := some 64) (v := undef) (a' := ?_) #[true, true, true, true, true, true, true, true, true, true, true, true, true, true, true, true, false, false, false, false, false, false, false, false, false, false, false, false, false, false] rfl rfl (ao HT_.out) (fun _ _ _ h => h) (Or.inr ⟨by rfl, rfl⟩) ?_ ?_; rotate_left
           ·simp only [ap1, ap2, ap3, ap4, i64_w, i32_w]; rfl
           refine pure_ (i := 16) (N := some 65) (v := undef) (a' := ?_) #[true, true, true, true, true, true, true, true, true, true, true, true, true, true, true, true, true, false, false, false, false, false, false, false, false, false, false, false, false, false] rfl rfl (ao HT_.out) (fun _ _ _ h => h) (Or.inr ⟨by rfl, rfl⟩) ?_ ?_; rotate_left
           ·simp only [ap1, ap2, ap3, ap4, i64_w, i32_w]; rfl
           refine pure_ (i := 17) (N := some 66) (v := undef) (a' := ?_) #[true, true, true, true, true, true, true, true, true, true, true, true, true, true, true, true, true, true, false, false, false, false, false, false, false, false, false, false, false, false] rfl rfl (ao HT_.out) (fun _ _ _ h => h) (Or.inr ⟨by rfl, rfl⟩) ?_ ?_; rotate_left
           ·simp only [ap1, ap2, ap3, ap4, i64_w, i32_w]; rfl
           refine pure_ (i := 18) (N := some 67) (v := undef) (a' := ?_) #[true, true, true, true, true, true, true, true, true, true, true, true, true, true, true, true, true, true, true, false, false, false, false, false, false, false, false, false, false, false] rfl rfl (ao HT_.out) (fun _ _ _ h => h) (Or.inr ⟨by rfl, rfl⟩) ?_ ?_; rotate_left
           ·simp only [ap1, ap2, ap3, ap4, i64_w, i32_w]; rfl
           refine px 19 68 #[true, true, true, true, true, true, true, true, true, true, true, true, true, true, true, true, true, true, true, true, false, false, false, false, false, false, false, false, false, false] rfl HT_.out ?_ (.inl ⟨by rfl, ?_⟩) ?_ ?_ ?_; rotate_left
           ·intro w'; go_simp; with_reducible rfl
           rotate_left
           ·simp only [ap1, ap2, ap3, ap4, i64_w, i32_w]; rfl
           refine px 20 69 #[true, true, true, true, true, true, true, true, true, true, true, true, true, true, true, true, true, true, true, true, true, false, false, false, false, false, false, false, false, false] rfl HT_.out ?_ (.inl ⟨by rfl, ?_⟩) ?_ ?_ ?_; rotate_left
           ·intro w'; go_simp; with_reducible rfl
           rotate_left
           ·simp only [ap1, ap2, ap3, ap4, i64_w, i32_w]; rfl
           refine pure_ (i := 21) (N := some 70) (v := undef) (a' := ?_) #[true, true, true, true, true, true, true, true, true, true, true, true, true, true, true, true, true, true, true, true, true, true, false, false, false, false, false, false, false, false] rfl rfl (ao HT_.out) (fun _ _ _ h => h) (Or.inr ⟨by rfl, rfl⟩) ?_ ?_; rotate_left
           ·simp only [ap1, ap2, ap3, ap4, i64_w, i32_w]; rfl
           refine pure_ (i := 22) (N := some 71) (v := undef) (a' := ?_) #[true, true, true, true, true, true, true, true, true, true, true, true, true, true, true, true, true, true, true, true, true, true, true, false, false, false, false, false, false, false] rfl rfl (ao HT_.out) (fun _ _ _ h => h) (Or.inr ⟨by rfl, rfl⟩) ?_ ?_; rotate_left
           ·simp only [ap1, ap2, ap3, ap4, i64_w, i32_w]; rfl
           refine pure_ (i := 23) (N := some 72) (v := undef) (a' := ?_) #[true, true, true, true, true, true, true, true, true, true, true, true, true, true, true, true, true, true, true, true, true, true, true, true, false, false, false, false, false, false] rfl rfl (ao HT_.out) (fun _ _ _ h => h) (Or.inr ⟨by rfl, rfl⟩) ?_ ?_; rotate_left
           ·simp only [ap1, ap2, ap3, ap4, i64_w, i32_w]; rfl
           refine pure_ (i := 24) (N := some 73) (v := undef) (a' := ?_) #[true, true, true, true, true, true, true, true, true, true, true, true, true, true, true, true, true, true, true, true, true, true, true, true, true, false, false, false, false, false] rfl rfl (ao HT_.out) (fun _ _ _ h => h) (Or.inr ⟨by rfl, rfl⟩) ?_ ?_; rotate_left
           ·simp only [ap1, ap2, ap3, ap4, i64_w, i32_w]; rfl
           refine pure_ (i := 25) (N := some 74) (v := undef) (a' := ?_) #[true, true, true, true, true, true, true, true, true, true, true, true, true, true, true, true, true, true, true, true, true, true, true, true, true, true, false, false, false, false] rfl rfl (ao HT_.out) (fun _ _ _ h => h) (Or.inr ⟨by rfl, rfl⟩) ?_ ?_; rotate_left
           ·simp only [ap1, ap2, ap3, ap4, i64_w, i32_w]; rfl
           refine pure_ (i := 26) (N := some 75) (v := undef) (a' := ?_) #[true, true, true, true, true, true, true, true, true, true, true, true, true, true, true, true, true, true, true, true, true, true, true, true, true, true, true, false, false, false] rfl rfl (ao HT_.out) (fun _ _ _ h => h) (Or.inr ⟨by rfl, rfl⟩) ?_ ?_; rotate_left
           ·simp only [ap1, ap2, ap3, ap4, i64_w, i32_w]; rfl
           refine pure_ (i := 27) (N := some 76) (v := undef) (a' := ?_) #[true, true, true, true, true, true, true, true, true, true, true, true, true, true, true, true, true, true, true, true, true, true, true, true, true, true, true, true, false, false] rfl rfl (ao HT_.out) (fun _ _ _ h => h) (Or.inr ⟨by rfl, rfl⟩) ?_ ?_; rotate_left
           ·simp only [ap1, ap2, ap3, ap4, i64_w, i32_w]; rfl
           refine pure_ (i := 28) (N := some 77) (v := undef) (a' := ?_) #[true, true, true, true, true, true, true, true, true, true, true, true, true, true, true, true, true, true, true, true, true, true, true, true, true, true, true, true, true, false] rfl rfl (ao HT_.out) (fun _ _ _ h => h) (Or.inr ⟨by rfl, rfl⟩) ?_ ?_; rotate_left
           ·simp only [ap1, ap2, ap3, ap4, i64_w, i32_w]; rfl
           refine px 29 78 #[true, true, true, true, true, true, true, true, true, true, true, true, true, true, true, true, true, true, true, true, true, true, true, true, true, true, true, true, true, true] rfl HT_.out ?_ (.inl ⟨by rfl, ?_⟩) ?_ ?_ ?_; rotate_left
           ·intro w'; go_simp; with_reducible rfl
           rotate_left
           ·simp only [ap1, ap2, ap3, ap4, i64_w, i32_w]; rfl
           refine done_ (done_of HT_.out (by kernel_rfl)) ?_; try go_wp2
           go_ret
           exact ⟨by first | rfl | (simp [errW_none, errW_some] <;> rfl) | (simp [*, errW_none, errW_some] <;> rfl), by exact vh HB.out⟩
          ·rw [if_neg c10] at H
           have c10b0 : decide (t157 ≤ x10_2) = false := decide_eq_false c10; clear c10; by_cases c12 : 0 ≤ x6_1
           ·rw [if_pos c12] at H
            have c12b0 : decide (0 ≤ x6_1) = true := decide_eq_true c12; clear c12; by_cases c13 : x6_1 < (l0.length : Int)
            ·rw [if_pos c13] at H
             have c13b0 : decide (x6_1 < (l0.length : Int)) = true := decide_eq_true c13; clear c13; by_cases c14 : ((rd_T67 l1 x11_2).f1) = (wrap64 (((rd_T63 l0 x6_1).f0) + (wrap64 (t158 * x10_2))))
             ·rw [if_pos c14] at H
              have c14b0 : (((rd_T67 l1 x11_2).f1) == (wrap64 (((rd_T63 l0 x6_1).f0) + (wrap64 (t158 * x10_2))))) = true := beq_iff_eq.mpr c14; have c14b1 : (((rd_T67 l1 x11_2).f1) != (wrap64 (((rd_T63 l0 x6_1).f0) + (wrap64 (t158 * x10_2))))) = false := bne_eq_false_iff_eq.mpr c14; clear c14; replace H := Option.bind_eq_some_iff.mp H; obtain ⟨t164, A150, H⟩ := H; replace H : (if t164 = true then (spec_l10IsPlan.l1 k2 l0 l1 (wrap64 (x5_1 + t157)) x6_1 t157 t158 (wrap64 (((rd_T67 l1 x11_2).f2) + ((rd_T63 l0 x6_1).f2))) (wrap64 (x10_2 + 1)) (wrap64 (x11_2 + 1))) else (some false)) = some r := H; have A15 := Aside0.mk A150; clear A150; by_cases c16 : t164 = true
              ·subst c16; have H1 : (spec_l10IsPlan.l1 k2 l0 l1 (wrap64 (x5_1 + t157)) x6_1 t157 t158 (wrap64 (((rd_T67 l1 x11_2).f2) + ((rd_T63 l0 x6_1).f2))) (wrap64 (x10_2 + 1)) (wrap64 (x11_2 + 1))) = some r := by rw [if_pos rfl] at H; first | exact H | (simp only [if_true, eq_self] at H ⊢; exact H)
               clear H; have H := H1; clear H1; have H' := Aside0.mk H; clear H; have p160 : 0 ≤ (x11_2 : Int) := of_decide_eq_true va; have q160 : x11_2 < (l1.length : Int) := of_decide_eq_true va; obtain ⟨ad160, e160, hx160_0, hx160_1, hx160_2⟩ := at_T67 HR1.out x11_2 p160 q160; cases e160; (try replace hx160_0 := vl HB.out hx160_0); (try replace hx160_1 := vl HB.out hx160_1); (try replace hx160_2 := vl HB.out hx160_2); replace p160 := eq_true p160; replace q160 := eq_true q160; try go_wp2
               have n0_ := ak (below_drew1 HB.out); clear HB; have HB := n0_; clear n0_; have p161 : 0 ≤ (x11_2 : Int) := of_decide_eq_true va; have q161 : x11_2 < (l1.length : Int) := of_decide_eq_true va; obtain ⟨ad161, e161, hx161_0, hx161_1, hx161_2⟩ := at_T67 HR1.out x11_2 p161 q161; have hw161_2 := hx161_2; have hw161_1 := hx161_1; have hw161_0 := hx161_0; obtain rfl : ad160 = ad161 := (by injection e161); (try replace hx161_0 := vl HB.out hx161_0); (try replace hx161_1 := vl HB.out hx161_1); (try replace hx161_2 := vl HB.out hx161_2); replace p161 := eq_true p161; replace q161 := eq_true q161; have p162 : 0 ≤ (x6_1 : Int) := of_decide_eq_true va; have q162 : x6_1 < (l0.length : Int) := of_decide_eq_true va; obtain ⟨ad162, e162, hx162_0, hx162_1, hx162_2, hx162_3⟩ := at_T63 HR0.out x6_1 p162 q162; have hw162_3 := hx162_3; have hw162_2 := hx162_2; have hw162_1 := hx162_1; have hw162_0 := hx162_0; obtain rfl : ad156 = ad162 := (by injection e162); (try replace hx162_0 := vl HB.out hx162_0); (try replace hx162_1 := vl HB.out hx162_1); (try replace hx162_2 := vl HB.out hx162_2); (try replace hx162_3 := vl HB.out hx162_3); replace p162 := eq_true p162; replace q162 := eq_true q162; have p163 : 0 ≤ (x11_2 : Int) := of_decide_eq_true va; have q163 : x11_2 < (l1.length : Int) := of_decide_eq_true va; obtain ⟨ad163, e163, hx163_0, hx163_1, hx163_2⟩ := at_T67 HR1.out x11_2 p163 q163; have hw163_2 := hx163_2; have hw163_1 := hx163_1; have hw163_0 := hx163_0; obtain rfl : ad160 = ad163 := (by injection e163); (try replace hx163_0 := vl HB.out hx163_0); (try replace hx163_1 := vl HB.out hx163_1); (try replace hx163_2 := vl HB.out hx163_2); replace p163 := eq_true p163; replace q163 := eq_true q163; refine start_ (n := 30) (S := fun w' => w'.cell? (ad160.add ((x11_2).toNat * 3)) = some (.int .i64 ((rd_T67 l1 x11_2).f0)) ∧ w'.cell? ⟨(ad160.add ((x11_2).toNat * 3)).block, (ad160.add ((x11_2).toNat * 3)).off + 1, none⟩ = some (.int .i64 ((rd_T67 l1 x11_2).f1)) ∧ w'.cell? ⟨(ad160.add ((x11_2).toNat * 3)).block, (ad160.add ((x11_2).toNat * 3)).off + 2, none⟩ = some (.int .i64 ((rd_T67 l1 x11_2).f2)) ∧ w'.cell? (ad156.add ((x6_1).toNat * 4)) = some (.int .i64 ((rd_T63 l0 x6_1).f0)) ∧ w'.cell? ⟨(ad156.add ((x6_1).toNat * 4)).block, (ad156.add ((x6_1).toNat * 4)).off + 1, none⟩ = some (.int .i64 ((rd_T63 l0 x6_1).f1)) ∧ w'.cell? ⟨(ad156.add ((x6_1).toNat * 4)).block, (ad156.add ((x6_1).toNat * 4)).off + 2, none⟩ = some (.int .i64 ((rd_T63 l0 x6_1).f2)) ∧ w'.cell? ⟨(ad156.add ((x6_1).toNat * 4)).block, (ad156.add ((x6_1).toNat * 4)).off + 3, none⟩ = some (.int .i64 ((rd_T63 l0 x6_1).f3)) ∧ w'.cell? (ad160.add ((x11_2).toNat * 3)) = some (.int .i64 ((rd_T67 l1 x11_2).f0)) ∧ w'.cell? ⟨(ad160.add ((x11_2).toNat * 3)).block, (ad160.add ((x11_2).toNat * 3)).off + 1, none⟩ = some (.int .i64 ((rd_T67 l1 x11_2).f1)) ∧ w'.cell? ⟨(ad160.add ((x11_2).toNat * 3)).block, (ad160.add ((x11_2).toNat * 3)).off + 2, none⟩ = some (.int .i64 ((rd_T67 l1 x11_2).f2))) (ds := []) #[false, false, false, false, false, false, false, false, false, false, false, false, false, false, false, false, false, false, false, false, false, false, false, false, false, false, false, false, false, false] (by kernel_rfl) rfl rfl ⟨(vl HB.out hw161_0 :), (vl HB.out hw161_1 :), (vl HB.out hw161_2 :), (vl HB.out hw162_0 :), (vl HB.out hw162_1 :), (vl HB.out hw162_2 :), (vl HB.out hw162_3 :), (vl HB.out hw163_0 :), (vl HB.out hw163_1 :), (vl HB.out hw163_2 :)⟩ (fun hHeld => ?_); refine with_tabW spec_l10IsPlan.tab12 spec_l10IsPlan.bits12 (fun HT_ HW_ => ?_); generalize wr.drew = w17 at HB hx161_0 hx161_1 hx161_2 hx162_0 hx162_1 hx162_2 hx162_3 hx163_0 hx163_1 hx163_2 hHeld ⊢
               refine px 0 49 #[true, false, false, false, false, false, false, false, false, false, false, false, false, false, false, false, false, false, false, false, false, false, false, false, false, false, false, false, false, false] rfl HT_.out ?_ (.inl ⟨by rfl, ?_⟩) ?_ ?_ ?_; rotate_left
               ·intro w'; go_simp; with_reducible rfl
               rotate_left
               ·simp only [ap1, ap2, ap3, ap4, i64_w, i32_w]; rfl
               refine px 1 50 #[true, true, false, false, false, false, false, false, false, false, false, false, false, false, false, false, false, false, false, false, false, false, false, false, false, false, false, false, false, false] rfl HT_.out ?_ (.inl ⟨by rfl, ?_⟩) ?_ ?_ ?_; rotate_left
               ·intro w'; go_simp; with_reducible rfl
               rotate_left
               ·simp only [ap1, ap2, ap3, ap4, i64_w, i32_w]; rfl
               refine px 2 51 #[true, true, true, false, false, false, false, false, false, false, false, false, false, false, false, false, false, false, false, false, false, false, false, false, false, false, false, false, false, false] rfl HT_.out ?_ (.inl ⟨by rfl, ?_⟩) ?_ ?_ ?_; rotate_left
               ·intro w'; go_simp; with_reducible rfl
               rotate_left
               ·simp only [ap1, ap2, ap3, ap4, i64_w, i32_w]; rfl
               refine px 3 52 #[true, true, true, true, false, false, false, false, false, false, false, false, false, false, false, false, false, false, false, false, false, false, false, false, false, false, false, false, false, false] rfl HT_.out ?_ (.inl ⟨by rfl, ?_⟩) ?_ ?_ ?_; rotate_left
               ·intro w'; go_simp; with_reducible rfl
               rotate_left
               ·simp only [ap1, ap2, ap3, ap4, i64_w, i32_w]; rfl
               refine px 4 53 #[true, true, true, true, true, false, false, false, false, false, false, false, false, false, false, false, false, false, false, false, false, false, false, false, false, false, false, false, false, false] rfl HT_.out ?_ (.inl ⟨by rfl, ?_⟩) ?_ ?_ ?_; rotate_left
               ·intro w'; go_simp; with_reducible rfl
               rotate_left
               ·simp only [ap1, ap2, ap3, ap4, i64_w, i32_w]; rfl
               refine px 5 54 #[true, true, true, true, true, true, false, false, false, false, false, false, false, false, false, false, false, false, false, false, false, false, false, false, false, false, false, false, false, false] rfl HT_.out ?_ (.inl ⟨by rfl, ?_⟩) ?_ ?_ ?_; rotate_left
               ·intro w'; go_simp; with_reducible rfl
               rotate_left
               ·simp only [ap1, ap2, ap3, ap4, i64_w, i32_w]; rfl
               refine px 6 55 #[true, true, true, true, true, true, true, false, false, false, false, false, false, false, false, false, false, false, false, false, false, false, false, false, false, false, false, false, false, false] rfl HT_.out ?_ (.inl ⟨by rfl, ?_⟩) ?_ ?_ ?_; rotate_left
               ·intro w'; go_simp; with_reducible rfl
               rotate_left
               ·simp only [ap1, ap2, ap3, ap4, i64_w, i32_w]; rfl
               refine px 7 56 #[true, true, true, true, true, true, true, true, false, false, false, false, false, false, false, false, false, false, false, false, false, false, false, false, false, false, false, false, false, false] rfl HT_.out ?_ (.inl ⟨by rfl, ?_⟩) ?_ ?_ ?_; rotate_left
               ·intro w'; go_simp; with_reducible rfl
               rotate_left
               ·simp only [ap1, ap2, ap3, ap4, i64_w, i32_w]; rfl
               refine px 9 58 #[true, true, true, true, true, true, true, true, false, true, false, false, false, false, false, false, false, false, false, false, false, false, false, false, false, false, false, false, false, false] rfl HT_.out ?_ (.inl ⟨by rfl, ?_⟩) ?_ ?_ ?_; rotate_left
               ·intro w'; go_simp; with_reducible rfl
               rotate_left
               ·simp only [ap1, ap2, ap3, ap4, i64_w, i32_w]; rfl
               refine px 10 59 #[true, true, true, true, true, true, true, true, false, true, true, false, false, false, false, false, false, false, false, false, false, false, false, false, false, false, false, false, false, false] rfl HT_.out ?_ (.inl ⟨by rfl, ?_⟩) ?_ ?_ ?_; rotate_left
               ·intro w'; go_simp; with_reducible rfl
               rotate_left
               ·simp only [ap1, ap2, ap3, ap4, i64_w, i32_w]; rfl
               refine px 11 60 #[true, true, true, true, true, true, true, true, false, true, true, true, false, false, false, false, false, false, false, false, false, false, false, false, false, false, false, false, false, false] rfl HT_.out ?_ (.inl ⟨by rfl, ?_⟩) ?_ ?_ ?_; rotate_left
               ·intro w'; go_simp; with_reducible rfl
               rotate_left
               ·simp only [ap1, ap2, ap3, ap4, i64_w, i32_w]; rfl
               refine px 12 61 #[true, true, true, true, true, true, true, true, false, true, true, true, true, false, false, false, false, false, false, false, false, false, false, false, false, false, false, false, false, false] rfl HT_.out ?_ (.inl ⟨by rfl, ?_⟩) ?_ ?_ ?_; rotate_left
               ·intro w'; go_simp; with_reducible rfl
               rotate_left
               ·simp only [ap1, ap2, ap3, ap4, i64_w, i32_w]; rfl
               refine px 14 63 #[true, true, true, true, true, true, true, true, false, true, true, true, true, false, true, false, false, false, false, false, false, false, false, false, false, false, false, false, false, false] rfl HT_.out ?_ (.inl ⟨by rfl, ?_⟩) ?_ ?_ ?_; rotate_left
               ·intro w'; go_simp; with_reducible rfl
               rotate_left
               ·simp only [ap1, ap2, ap3, ap4, i64_w, i32_w]; rfl
               refine px 15 64 #[true, true, true, true, true, true, true, true, false, true, true, true, true, false, true, true, false, false, false, false, false, false, false, false, false, false, false, false, false, false] rfl HT_.out ?_ (.inl ⟨by rfl, ?_⟩) ?_ ?_ ?_; rotate_left
               ·intro w'; go_simp; with_reducible rfl
               rotate_left
               ·simp only [ap1, ap2, ap3, ap4, i64_w, i32_w]; rfl
               refine px 16 65 #[true, true, true, true, true, true, true, true, false, true, true, true, true, false, true, true, true, false, false, false, false, false, false, false, false, false, false, false, false, false] rfl HT_.out ?_ (.inl ⟨by rfl, ?_⟩) ?_ ?_ ?_; rotate_left
               ·intro w'; go_simp; with_reducible rfl
               rotate_left
               ·simp only [ap1, ap2, ap3, ap4, i64_w, i32_w]; rfl
               refine tx 8 57 #[true, true, true, true, true, true, true, true, true, true, true, true, true, false, true, true, true, false, false, false, false, false, false, false, false, false, false, false, false, false] rfl HT_.out HW_.out hHeld ?_ (.inl ⟨by rfl, ?_⟩) ?_ ?_ ?_; rotate_left
               ·rintro w' ⟨s0, s1, s2, s3, s4, s5, s6, s7, s8, s9⟩; go_simp; with_reducible rfl
               rotate_left
               ·simp only [ap1, ap2, ap3, ap4, i64_w, i32_w]; rfl
               refine tx 13 62 #[true, true, true, true, true, true, true, true, true, true, true, true, true, true, true, true, true, false, false, false, false, false, false, false, false, false, false, false, false, false] rfl HT_.out HW_.out hHeld ?_ (.inl ⟨by rfl, ?_⟩) ?_ ?_ ?_; rotate_left
               ·rintro w' ⟨s0, s1, s2, s3, s4, s5, s6, s7, s8, s9⟩; go_simp; with_reducible rfl
               rotate_left
               ·simp only [ap1, ap2, ap3, ap4, i64_w, i32_w]; rfl
               refine px 17 66 #[true, true, true, true, true, true, true, true, true, true, true, true, true, true, true, true, true, true, false, false, false, false, false, false, false, false, false, false, false, false] rfl HT_.out ?_ (.inl ⟨by rfl, ?_⟩) ?_ ?_ ?_; rotate_left
               ·intro w'; go_simp; with_reducible rfl
               rotate_left
               ·simp only [ap1, ap2, ap3, ap4, i64_w, i32_w]; rfl
               refine px 18 67 #[true, true, true, true, true, true, true, true, true, true, true, true, true, true, true, true, true, true, true, false, false, false, false, false, false, false, false, false, false, false] rfl HT_.out ?_ (.inl ⟨by rfl, ?_⟩) ?_ ?_ ?_; rotate_left
               ·intro w'; go_simp; with_reducible rfl
               rotate_left
               ·simp only [ap1, ap2, ap3, ap4, i64_w, i32_w]; rfl
               refine px 19 68 #[true, true, true, true, true, true, true, true, true, true, true, true, true, true, true, true, true, true, true, true, false, false, false, false, false, false, false, false, false, false] rfl HT_.out ?_ (.inl ⟨by rfl, ?_⟩) ?_ ?_ ?_; rotate_left
               ·intro w'; go_simp; with_reducible rfl
               rotate_left
               ·simp only [ap1, ap2, ap3, ap4, i64_w, i32_w]; rfl
               refine px 20 69 #[true, true, true, true, true, true, true, true, true, true, true, true, true, true, true, true, true, true, true, true, true, false, false, false, false, false, false, false, false, false] rfl HT_.out ?_ (.inl ⟨by rfl, ?_⟩) ?_ ?_ ?_; rotate_left
               ·intro w'; go_simp; with_reducible rfl
               rotate_left
               ·simp only [ap1, ap2, ap3, ap4, i64_w, i32_w]; rfl
               refine px 21 70 #[true, true, true, true, true, true, true, true, true, true, true, true, true, true, true, true, true, true, true, true, true, true, false, false, false, false, false, false, false, false] rfl HT_.out ?_ (.inl ⟨by rfl, ?_⟩) ?_ ?_ ?_; rotate_left
               ·intro w'; go_simp; with_reducible rfl
               rotate_left
               ·simp only [ap1, ap2, ap3, ap4, i64_w, i32_w]; rfl
               refine px 22 71 #[true, true, true, true, true, true, true, true, true, true, true, true, true, true, true, true, true, true, true, true, true, true, true, false, false, false, false, false, false, false] rfl HT_.out ?_ (.inl ⟨by rfl, ?_⟩) ?_ ?_ ?_; rotate_left
               ·intro w'; go_simp; with_reducible rfl
               rotate_left
               ·simp only [ap1, ap2, ap3, ap4, i64_w, i32_w]; rfl
               refine px 23 72 #[true, true, true, true, true, true, true, true, true, true, true, true, true, true, true, true, true, true, true, true, true, true, true, true, false, false, false, false, false, false] rfl HT_.out ?_ (.inl ⟨by rfl, ?_⟩) ?_ ?_ ?_; rotate_left
               ·intro w'; go_simp; with_reducible rfl
               rotate_left
               ·simp only [ap1, ap2, ap3, ap4, i64_w, i32_w]; rfl
               refine px 24 73 #[true, true, true, true, true, true, true, true, true, true, true, true, true, true, true, true, true, true, true, true, true, true, true, true, true, false, false, false, false, false] rfl HT_.out ?_ (.inl ⟨by rfl, ?_⟩) ?_ ?_ ?_; rotate_left
               ·intro w'; go_simp; with_reducible rfl
               rotate_left
               ·simp only [ap1, ap2, ap3, ap4, i64_w, i32_w]; rfl
               refine px 26 75 #[true, true, true, true, true, true, true, true, true, true, true, true, true, true, true, true, true, true, true, true, true, true, true, true, true, false, true, false, false, false] rfl HT_.out ?_ (.inl ⟨by rfl, ?_⟩) ?_ ?_ ?_; rotate_left
               ·intro w'; go_simp; with_reducible rfl
               rotate_left
               ·simp only [ap1, ap2, ap3, ap4, i64_w, i32_w]; rfl
               refine tx 25 74 #[true, true, true, true, true, true, true, true, true, true, true, true, true, true, true, true, true, true, true, true, true, true, true, true, true, true, true, false, false, false] rfl HT_.out HW_.out hHeld ?_ (.inl ⟨by rfl, ?_⟩) ?_ ?_ ?_; rotate_left
               ·rintro w' ⟨s0, s1, s2, s3, s4, s5, s6, s7, s8, s9⟩; go_simp; with_reducible rfl
               rotate_left
               ·simp only [ap1, ap2, ap3, ap4, i64_w, i32_w]; rfl
               refine one_ (i := 27) (N := some 76) #[true, true, true, true, true, true, true, true, true, true, true, true, true, true, true, true, true, true, true, true, true, true, true, true, true, true, true, true, false, false] rfl rfl (one_of HT_.out (by kernel_rfl)) (by decide) (fun K hK => ?_); refine goes_ Try.func30 (by kernel_rfl) rfl #[.int .i64 ((rd_T67 l1 x11_2).f2), .int .i64 x9_2, .int .i64 9999] (by rfl) rfl rfl vm ?_; with_reducible refine (spec_l1In.calls ((rd_T67 l1 x11_2).f2) x9_2 9999 true _ A15.out).mono ?_
               rintro e w' ⟨rfl, ⟨nd, rfl⟩⟩; refine ⟨_, rfl, ?_⟩; refine hK.out _ _ ⟨(vl HB.out hw161_0 :), (vl HB.out hw161_1 :), (vl HB.out hw161_2 :), (vl HB.out hw162_0 :), (vl HB.out hw162_1 :), (vl HB.out hw162_2 :), (vl HB.out hw162_3 :), (vl HB.out hw163_0 :), (vl HB.out hw163_1 :), (vl HB.out hw163_2 :)⟩ (fun hHeld => ?_); clear hK K; refine norm_ (a' := ?_) ?_ ?_; rotate_left
               ·show Act.put _ (some 76) _ = _; simp only [ap1, ap2, ap3, ap4, i64_w, i32_w]; rfl
               refine px 28 77 #[true, true, true, true, true, true, true, true, true, true, true, true, true, true, true, true, true, true, true, true, true, true, true, true, true, true, true, true, true, false] rfl HT_.out ?_ (.inl ⟨by rfl, ?_⟩) ?_ ?_ ?_; rotate_left
               ·intro w'; go_simp; with_reducible rfl
               rotate_left
               ·simp only [ap1, ap2, ap3, ap4, i64_w, i32_w]; rfl
               refine px 29 78 #[true, true, true, true, true, true, true, true, true, true, true, true, true, true, true, true, true, true, true, true, true, true, true, true, true, true, true, true, true, true] rfl HT_.out ?_ (.inl ⟨by rfl, ?_⟩) ?_ ?_ ?_; rotate_left
               ·intro w'; go_simp; with_reducible rfl
               rotate_left
               ·simp only [ap1, ap2, ap3, ap4, i64_w, i32_w]; rfl
               refine done_ (done_of HT_.out (by kernel_rfl)) ?_; try go_wp2
               (try (rw [drewN_self w17]; generalize hq_ : World.drewN w17 _ = w17; have n0_ : Aside0 (Below w.heap.size w w17) := ⟨by rw [← hq_]; exact (vh HB.out)⟩; clear HB hq_; have HB := n0_; clear n0_)); have n0_ := ak (below_drew1 HB.out); clear HB; have HB := n0_; clear n0_; have p165 : 0 ≤ (x11_2 : Int) := of_decide_eq_true va; have q165 : x11_2 < (l1.length : Int) := of_decide_eq_true va; obtain ⟨ad165, e165, hx165_0, hx165_1, hx165_2⟩ := at_T67 HR1.out x11_2 p165 q165; have hw165_2 := hx165_2; have hw165_1 := hx165_1; have hw165_0 := hx165_0; obtain rfl : ad160 = ad165 := (by injection e165); (try replace hx165_0 := vl HB.out hx165_0); (try replace hx165_1 := vl HB.out hx165_1); (try replace hx165_2 := vl HB.out hx165_2); replace p165 := eq_true p165; replace q165 := eq_true q165; have p166 : 0 ≤ (x6_1 : Int) := of_decide_eq_true va; have q166 : x6_1 < (l0.length : Int) := of_decide_eq_true va; obtain ⟨ad166, e166, hx166_0, hx166_1, hx166_2, hx166_3⟩ := at_T63 HR0.out x6_1 p166 q166; have hw166_3 := hx166_3; have hw166_2 := hx166_2; have hw166_1 := hx166_1; have hw166_0 := hx166_0; obtain rfl : ad156 = ad166 := (by injection e166); (try replace hx166_0 := vl HB.out hx166_0); (try replace hx166_1 := vl HB.out hx166_1); (try replace hx166_2 := vl HB.out hx166_2); (try replace hx166_3 := vl HB.out hx166_3); replace p166 := eq_true p166; replace q166 := eq_true q166; refine start_ (n := 12) (S := fun w' => w'.cell? (ad160.add ((x11_2).toNat * 3)) = some (.int .i64 ((rd_T67 l1 x11_2).f0)) ∧ w'.cell? ⟨(ad160.add ((x11_2).toNat * 3)).block, (ad160.add ((x11_2).toNat * 3)).off + 1, none⟩ = some (.int .i64 ((rd_T67 l1 x11_2).f1)) ∧ w'.cell? ⟨(ad160.add ((x11_2).toNat * 3)).block, (ad160.add ((x11_2).toNat * 3)).off + 2, none⟩ = some (.int .i64 ((rd_T67 l1 x11_2).f2)) ∧ w'.cell? (ad156.add ((x6_1).toNat * 4)) = some (.int .i64 ((rd_T63 l0 x6_1).f0)) ∧ w'.cell? ⟨(ad156.add ((x6_1).toNat * 4)).block, (ad156.add ((x6_1).toNat * 4)).off + 1, none⟩ = some (.int .i64 ((rd_T63 l0 x6_1).f1)) ∧ w'.cell? ⟨(ad156.add ((x6_1).toNat * 4)).block, (ad156.add ((x6_1).toNat * 4)).off + 2, none⟩ = some (.int .i64 ((rd_T63 l0 x6_1).f2)) ∧ w'.cell? ⟨(ad156.add ((x6_1).toNat * 4)).block, (ad156.add ((x6_1).toNat * 4)).off + 3, none⟩ = some (.int .i64 ((rd_T63 l0 x6_1).f3))) (ds := []) #[false, false, false, false, false, false, false, false, false, false, false, false] (by kernel_rfl) rfl rfl ⟨(vl HB.out hw165_0 :), (vl HB.out hw165_1 :), (vl HB.out hw165_2 :), (vl HB.out hw166_0 :), (vl HB.out hw166_1 :), (vl HB.out hw166_2 :), (vl HB.out hw166_3 :)⟩ (fun hHeld => ?_); refine with_tabW spec_l10IsPlan.tab14 spec_l10IsPlan.bits14 (fun HT_ HW_ => ?_); generalize w17.drew = w18 at HB hx165_0 hx165_1 hx165_2 hx166_0 hx166_1 hx166_2 hx166_3 hHeld ⊢
               refine px 0 79 #[true, false, false, false, false, false, false, false, false, false, false, false] rfl HT_.out ?_ (.inl ⟨by rfl, ?_⟩) ?_ ?_ ?_; rotate_left
               ·intro w'; go_simp; with_reducible rfl
               rotate_left
               ·simp only [ap1, ap2, ap3, ap4, i64_w, i32_w]; rfl
               refine px 1 80 #[true, true, false, false, false, false, false, false, false, false, false, false] rfl HT_.out ?_ (.inl ⟨by rfl, ?_⟩) ?_ ?_ ?_; rotate_left
               ·intro w'; go_simp; with_reducible rfl
               rotate_left
               ·simp only [ap1, ap2, ap3, ap4, i64_w, i32_w]; rfl
               refine px 2 81 #[true, true, true, false, false, false, false, false, false, false, false, false] rfl HT_.out ?_ (.inl ⟨by rfl, ?_⟩) ?_ ?_ ?_; rotate_left
               ·intro w'; go_simp; with_reducible rfl
               rotate_left
               ·simp only [ap1, ap2, ap3, ap4, i64_w, i32_w]; rfl
               refine px 3 82 #[true, true, true, true, false, false, false, false, false, false, false, false] rfl HT_.out ?_ (.inl ⟨by rfl, ?_⟩) ?_ ?_ ?_; rotate_left
               ·intro w'; go_simp; with_reducible rfl
               rotate_left
               ·simp only [ap1, ap2, ap3, ap4, i64_w, i32_w]; rfl
               refine px 5 84 #[true, true, true, true, false, true, false, false, false, false, false, false] rfl HT_.out ?_ (.inl ⟨by rfl, ?_⟩) ?_ ?_ ?_; rotate_left
               ·intro w'; go_simp; with_reducible rfl
               rotate_left
               ·simp only [ap1, ap2, ap3, ap4, i64_w, i32_w]; rfl
               refine px 6 85 #[true, true, true, true, false, true, true, false, false, false, false, false] rfl HT_.out ?_ (.inl ⟨by rfl, ?_⟩) ?_ ?_ ?_; rotate_left
               ·intro w'; go_simp; with_reducible rfl
               rotate_left
               ·simp only [ap1, ap2, ap3, ap4, i64_w, i32_w]; rfl
               refine px 7 86 #[true, true, true, true, false, true, true, true, false, false, false, false] rfl HT_.out ?_ (.inl ⟨by rfl, ?_⟩) ?_ ?_ ?_; rotate_left
               ·intro w'; go_simp; with_reducible rfl
               rotate_left
               ·simp only [ap1, ap2, ap3, ap4, i64_w, i32_w]; rfl
               refine px 8 87 #[true, true, true, true, false, true, true, true, true, false, false, false] rfl HT_.out ?_ (.inl ⟨by rfl, ?_⟩) ?_ ?_ ?_; rotate_left
               ·intro w'; go_simp; with_reducible rfl
               rotate_left
               ·simp only [ap1, ap2, ap3, ap4, i64_w, i32_w]; rfl
               refine tx 4 83 #[true, true, true, true, true, true, true, true, true, false, false, false] rfl HT_.out HW_.out hHeld ?_ (.inl ⟨by rfl, ?_⟩) ?_ ?_ ?_; rotate_left
               ·rintro w' ⟨s0, s1, s2, s3, s4, s5, s6⟩; go_simp; with_reducible rfl
               rotate_left
               ·simp only [ap1, ap2, ap3, ap4, i64_w, i32_w]; rfl
               refine tx 9 88 #[true, true, true, true, true, true, true, true, true, true, false, false] rfl HT_.out HW_.out hHeld ?_ (.inl ⟨by rfl, ?_⟩) ?_ ?_ ?_; rotate_left
               ·rintro w' ⟨s0, s1, s2, s3, s4, s5, s6⟩; go_simp; with_reducible rfl
               rotate_left
               ·simp only [ap1, ap2, ap3, ap4, i64_w, i32_w]; rfl
               refine px 10 89 #[true, true, true, true, true, true, true, true, true, true, true, false] rfl HT_.out ?_ (.inl ⟨by rfl, ?_⟩) ?_ ?_ ?_; rotate_left
               ·intro w'; go_simp; with_reducible rfl
               rotate_left
               ·simp only [ap1, ap2, ap3, ap4, i64_w, i32_w]; rfl
               refine px 11 9 #[true, true, true, true, true, true, true, true, true, true, true, true] rfl HT_.out ?_ (.inl ⟨by rfl, ?_⟩) ?_ ?_ ?_; rotate_left
               ·intro w'; go_simp; with_reducible rfl
               rotate_left
               ·simp only [ap1, ap2, ap3, ap4, i64_w, i32_w]; rfl
               refine done_ (done_of HT_.out (by kernel_rfl)) ?_; try go_wp2
               go_roundg k2
               case measure => have := HK1.out; have := HK2.out; omega
               case rel => exact ⟨(wrap64 (((rd_T67 l1 x11_2).f2) + ((rd_T63 l0 x6_1).f2))), (wrap64 (x10_2 + 1)), (wrap64 (x11_2 + 1)), vq, vq, vq, H', ⟨by have := HK1.out; have := HK2.out; omega⟩, ⟨by exact vh HB.out⟩⟩
              ·replace c16 := Bool.eq_false_iff.mpr c16; subst c16; have H1 : (some false) = some r := by rw [if_neg (show ¬ (false = true) by decide)] at H; first | exact H | (simp only [if_true, eq_self] at H ⊢; exact H)
               clear H; have H := H1; clear H1; obtain rfl := Option.some.inj H; have p160 : 0 ≤ (x11_2 : Int) := of_decide_eq_true va; have q160 : x11_2 < (l1.length : Int) := of_decide_eq_true va; obtain ⟨ad160, e160, hx160_0, hx160_1, hx160_2⟩ := at_T67 HR1.out x11_2 p160 q160; cases e160; (try replace hx160_0 := vl HB.out hx160_0); (try replace hx160_1 := vl HB.out hx160_1); (try replace hx160_2 := vl HB.out hx160_2); replace p160 := eq_true p160; replace q160 := eq_true q160; try go_wp2
               have n0_ := ak (below_drew1 HB.out); clear HB; have HB := n0_; clear n0_; have p161 : 0 ≤ (x11_2 : Int) := of_decide_eq_true va; have q161 : x11_2 < (l1.length : Int) := of_decide_eq_true va; obtain ⟨ad161, e161, hx161_0, hx161_1, hx161_2⟩ := at_T67 HR1.out x11_2 p161 q161; have hw161_2 := hx161_2; have hw161_1 := hx161_1; have hw161_0 := hx161_0; obtain rfl : ad160 = ad161 := (by injection e161); (try replace hx161_0 := vl HB.out hx161_0); (try replace hx161_1 := vl HB.out hx161_1); (try replace hx161_2 := vl HB.out hx161_2); replace p161 := eq_true p161; replace q161 := eq_true q161; have p162 : 0 ≤ (x6_1 : Int) := of_decide_eq_true va; have q162 : x6_1 < (l0.length : Int) := of_decide_eq_true va; obtain ⟨ad162, e162, hx162_0, hx162_1, hx162_2, hx162_3⟩ := at_T63 HR0.out x6_1 p162 q162; have hw162_3 := hx162_3; have hw162_2 := hx162_2; have hw162_1 := hx162_1; have hw162_0 := hx162_0; obtain rfl : ad156 = ad162 := (by injection e162); (try replace hx162_0 := vl HB.out hx162_0); (try replace hx162_1 := vl HB.out hx162_1); (try replace hx162_2 := vl HB.out hx162_2); (try replace hx162_3 := vl HB.out hx162_3); replace p162 := eq_true p162; replace q162 := eq_true q162; have p163 : 0 ≤ (x11_2 : Int) := of_decide_eq_true va; have q163 : x11_2 < (l1.length : Int) := of_decide_eq_true va; obtain ⟨ad163, e163, hx163_0, hx163_1, hx163_2⟩ := at_T67 HR1.out x11_2 p163 q163; have hw163_2 := hx163_2; have hw163_1 := hx163_1; have hw163_0 := hx163_0; obtain rfl : ad160 = ad163 := (by injection e163); (try replace hx163_0 := vl HB.out hx163_0); (try replace hx163_1 := vl HB.out hx163_1); (try replace hx163_2 := vl HB.out hx163_2); replace p163 := eq_true p163; replace q163 := eq_true q163; refine start_ (n := 30) (S := fun w' => w'.cell? (ad160.add ((x11_2).toNat * 3)) = some (.int .i64 ((rd_T67 l1 x11_2).f0)) ∧ w'.cell? ⟨(ad160.add ((x11_2).toNat * 3)).block, (ad160.add ((x11_2).toNat * 3)).off + 1, none⟩ = some (.int .i64 ((rd_T67 l1 x11_2).f1)) ∧ w'.cell? ⟨(ad160.add ((x11_2).toNat * 3)).block, (ad160.add ((x11_2).toNat * 3)).off + 2, none⟩ = some (.int .i64 ((rd_T67 l1 x11_2).f2)) ∧ w'.cell? (ad156.add ((x6_1).toNat * 4)) = some (.int .i64 ((rd_T63 l0 x6_1).f0)) ∧ w'.cell? ⟨(ad156.add ((x6_1).toNat * 4)).block, (ad156.add ((x6_1).toNat * 4)).off + 1, none⟩ = some (.int .i64 ((rd_T63 l0 x6_1).f1)) ∧ w'.cell? ⟨(ad156.add ((x6_1).toNat * 4)).block, (ad156.add ((x6_1).toNat * 4)).off + 2, none⟩ = some (.int .i64 ((rd_T63 l0 x6_1).f2)) ∧ w'.cell? ⟨(ad156.add ((x6_1).toNat * 4)).block, (ad156.add ((x6_1).toNat * 4)).off + 3, none⟩ = some (.int .i64 ((rd_T63 l0 x6_1).f3)) ∧ w'.cell? (ad160.add ((x11_2).toNat * 3)) = some (.int .i64 ((rd_T67 l1 x11_2).f0)) ∧ w'.cell? ⟨(ad160.add ((x11_2).toNat * 3)).block, (ad160.add ((x11_2).toNat * 3)).off + 1, none⟩ = some (.int .i64 ((rd_T67 l1 x11_2).f1)) ∧ w'.cell? ⟨(ad160.add ((x11_2).toNat * 3)).block, (ad160.add ((x11_2).toNat * 3)).off + 2, none⟩ = some (.int .i64 ((rd_T67 l1 x11_2).f2))) (ds := []) #[false, false, false, false, false, false, false, false, false, false, false, false, false, false, false, false, false, false, false, false, false, false, false, false, false, false, false, false, false, false] (by kernel_rfl) rfl rfl ⟨(vl HB.out hw161_0 :), (vl HB.out hw161_1 :), (vl HB.out hw161_2 :), (vl HB.out hw162_0 :), (vl HB.out hw162_1 :), (vl HB.out hw162_2 :), (vl HB.out hw162_3 :), (vl HB.out hw163_0 :), (vl HB.out hw163_1 :), (vl HB.out hw163_2 :)⟩ (fun hHeld => ?_); refine with_tabW spec_l10IsPlan.tab12 spec_l10IsPlan.bits12 (fun HT_ HW_ => ?_); generalize wr.drew = w19 at HB hx161_0 hx161_1 hx161_2 hx162_0 hx162_1 hx162_2 hx162_3 hx163_0 hx163_1 hx163_2 hHeld ⊢
               refine px 0 49 #[true, false, false, false, false, false, false, false, false, false, false, false, false, false, false, false, false, false, false, false, false, false, false, false, false, false, false, false, false, false] rfl HT_.out ?_ (.inl ⟨by rfl, ?_⟩) ?_ ?_ ?_; rotate_left
               ·intro w'; go_simp; with_reducible rfl
               rotate_left
               ·simp only [ap1, ap2, ap3, ap4, i64_w, i32_w]; rfl
               refine px 1 50 #[true, true, false, false, false, false, false, false, false, false, false, false, false, false, false, false, false, false, false, false, false, false, false, false, false, false, false, false, false, false] rfl HT_.out ?_ (.inl ⟨by rfl, ?_⟩) ?_ ?_ ?_; rotate_left
               ·intro w'; go_simp; with_reducible rfl
               rotate_left
               ·simp only [ap1, ap2, ap3, ap4, i64_w, i32_w]; rfl
               refine px 2 51 #[true, true, true, false, false, false, false, false, false, false, false, false, false, false, false, false, false, false, false, false, false, false, false, false, false, false, false, false, false, false] rfl HT_.out ?_ (.inl ⟨by rfl, ?_⟩) ?_ ?_ ?_; rotate_left
               ·intro w'; go_simp; with_reducible rfl
               rotate_left
               ·simp only [ap1, ap2, ap3, ap4, i64_w, i32_w]; rfl
               refine px 3 52 #[true, true, true, true, false, false, false, false, false, false, false, false, false, false, false, false, false, false, false, false, false, false, false, false, false, false, false, false, false, false] rfl HT_.out ?_ (.inl ⟨by rfl, ?_⟩) ?_ ?_ ?_; rotate_left
               ·intro w'; go_simp; with_reducible rfl
               rotate_left
               ·simp only [ap1, ap2, ap3, ap4, i64_w, i32_w]; rfl
               refine px 4 53 #[true, true, true, true, true, false, false, false, false, false, false, false, false, false, false, false, false, false, false, false, false, false, false, false, false, false, false, false, false, false] rfl HT_.out ?_ (.inl ⟨by rfl, ?_⟩) ?_ ?_ ?_; rotate_left
               ·intro w'; go_simp; with_reducible rfl
               rotate_left
               ·simp only [ap1, ap2, ap3, ap4, i64_w, i32_w]; rfl
               refine px 5 54 #[true, true, true, true, true, true, false, false, false, false, false, false, false, false, false, false, false, false, false, false, false, false, false, false, false, false, false, false, false, false] rfl HT_.out ?_ (.inl ⟨by rfl, ?_⟩) ?_ ?_ ?_; rotate_left
               ·intro w'; go_simp; with_reducible rfl
               rotate_left
               ·simp only [ap1, ap2, ap3, ap4, i64_w, i32_w]; rfl
               refine px 6 55 #[true, true, true, true, true, true, true, false, false, false, false, false, false, false, false, false, false, false, false, false, false, false, false, false, false, false, false, false, false, false] rfl HT_.out ?_ (.inl ⟨by rfl, ?_⟩) ?_ ?_ ?_; rotate_left
               ·intro w'; go_simp; with_reducible rfl
               rotate_left
               ·simp only [ap1, ap2, ap3, ap4, i64_w, i32_w]; rfl
               refine px 7 56 #[true, true, true, true, true, true, true, true, false, false, false, false, false, false, false, false, false, false, false, false, false, false, false, false, false, false, false, false, false, false] rfl HT_.out ?_ (.inl ⟨by rfl, ?_⟩) ?_ ?_ ?_; rotate_left
               ·intro w'; go_simp; with_reducible rfl
               rotate_left
               ·simp only [ap1, ap2, ap3, ap4, i64_w, i32_w]; rfl
               refine px 9 58 #[true, true, true, true, true, true, true, true, false, true, false, false, false, false, false, false, false, false, false, false, false, false, false, false, false, false, false, false, false, false] rfl HT_.out ?_ (.inl ⟨by rfl, ?_⟩) ?_ ?_ ?_; rotate_left
               ·intro w'; go_simp; with_reducible rfl
               rotate_left
               ·simp only [ap1, ap2, ap3, ap4, i64_w, i32_w]; rfl
               refine px 10 59 #[true, true, true, true, true, true, true, true, false, true, true, false, false, false, false, false, false, false, false, false, false, false, false, false, false, false, false, false, false, false] rfl HT_.out ?_ (.inl ⟨by rfl, ?_⟩) ?_ ?_ ?_; rotate_left
               ·intro w'; go_simp; with_reducible rfl
               rotate_left
               ·simp only [ap1, ap2, ap3, ap4, i64_w, i32_w]; rfl
               refine px 11 60 #[true, true, true, true, true, true, true, true, false, true, true, true, false, false, false, false, false, false, false, false, false, false, false, false, false, false, false, false, false, false] rfl HT_.out ?_ (.inl ⟨by rfl, ?_⟩) ?_ ?_ ?_; rotate_left
               ·intro w'; go_simp; with_reducible rfl
               rotate_left
               ·simp only [ap1, ap2, ap3, ap4, i64_w, i32_w]; rfl
               refine px 12 61 #[true, true, true, true, true, true, true, true, false, true, true, true, true, false, false, false, false, false, false, false, false, false, false, false, false, false, false, false, false, false] rfl HT_.out ?_ (.inl ⟨by rfl, ?_⟩) ?_ ?_ ?_; rotate_left
               ·intro w'; go_simp; with_reducible rfl
               rotate_left
               ·simp only [ap1, ap2, ap3, ap4, i64_w, i32_w]; rfl
               refine px 14 63 #[true, true, true, true, true, true, true, true, false, true, true, true, true, false, true, false, false, false, false, false, false, false, false, false, false, false, false, false, false, false] rfl HT_.out ?_ (.inl ⟨by rfl, ?_⟩) ?_ ?_ ?_; rotate_left
               ·intro w'; go_simp; with_reducible rfl
               rotate_left
               ·simp only [ap1, ap2, ap3, ap4, i64_w, i32_w]; rfl
               refine px 15 64 #[true, true, true, true, true, true, true, true, false, true, true, true, true, false, true, true, false, false, false, false, false, false, false, false, false, false, false, false, false, false] rfl HT_.out ?_ (.inl ⟨by rfl, ?_⟩) ?_ ?_ ?_; rotate_left
               ·intro w'; go_simp; with_reducible rfl
               rotate_left
               ·simp only [ap1, ap2, ap3, ap4, i64_w, i32_w]; rfl
               refine px 16 65 #[true, true, true, true, true, true, true, true, false, true, true, true, true, false, true, true, true, false, false, false, false, false, false, false, false, false, false, false, false, false] rfl HT_.out ?_ (.inl ⟨by rfl, ?_⟩) ?_ ?_ ?_; rotate_left
               ·intro w'; go_simp; with_reducible rfl
               rotate_left
               ·simp only [ap1, ap2, ap3, ap4, i64_w, i32_w]; rfl
               refine tx 8 57 #[true, true, true, true, true, true, true, true, true, true, true, true, true, false, true, true, true, false, false, false, false, false, false, false, false, false, false, false, false, false] rfl HT_.out HW_.out hHeld ?_ (.inl ⟨by rfl, ?_⟩) ?_ ?_ ?_; rotate_left
               ·rintro w' ⟨s0, s1, s2, s3, s4, s5, s6, s7, s8, s9⟩; go_simp; with_reducible rfl
               rotate_left
               ·simp only [ap1, ap2, ap3, ap4, i64_w, i32_w]; rfl
               refine tx 13 62 #[true, true, true, true, true, true, true, true, true, true, true, true, true, true, true, true, true, false, false, false, false, false, false, false, false, false, false, false, false, false] rfl HT_.out HW_.out hHeld ?_ (.inl ⟨by rfl, ?_⟩) ?_ ?_ ?_; rotate_left
               ·rintro w' ⟨s0, s1, s2, s3, s4, s5, s6, s7, s8, s9⟩; go_simp; with_reducible rfl
               rotate_left
               ·simp only [ap1, ap2, ap3, ap4, i64_w, i32_w]; rfl
               refine px 17 66 #[true, true, true, true, true, true, true, true, true, true, true, true, true, true, true, true, true, true, false, false, false, false, false, false, false, false, false, false, false, false] rfl HT_.out ?_ (.inl ⟨by rfl, ?_⟩) ?_ ?_ ?_; rotate_left
               ·intro w'; go_simp; with_reducible rfl
               rotate_left
               ·simp only [ap1, ap2, ap3, ap4, i64_w, i32_w]; rfl
               refine px 18 67 #[true, true, true, true, true, true, true, true, true, true, true, true, true, true, true, true, true, true, true, false, false, false, false, false, false, false, false, false, false, false] rfl HT_.out ?_ (.inl ⟨by rfl, ?_⟩) ?_ ?_ ?_; rotate_left
               ·intro w'; go_simp; with_reducible rfl
               rotate_left
               ·simp only [ap1, ap2, ap3, ap4, i64_w, i32_w]; rfl
               refine px 19 68 #[true, true, true, true, true, true, true, true, true, true, true, true, true, true, true, true, true, true, true, true, false, false, false, false, false, false, false, false, false, false] rfl HT_.out ?_ (.inl ⟨by rfl, ?_⟩) ?_ ?_ ?_; rotate_left
               ·intro w'; go_simp; with_reducible rfl
               rotate_left
               ·simp only [ap1, ap2, ap3, ap4, i64_w, i32_w]; rfl
               refine px 20 69 #[true, true, true, true, true, true, true, true, true, true, true, true, true, true, true, true, true, true, true, true, true, false, false, false, false, false, false, false, false, false] rfl HT_.out ?_ (.inl ⟨by rfl, ?_⟩) ?_ ?_ ?_; rotate_left
               ·intro w'; go_simp; with_reducible rfl
               rotate_left
               ·simp only [ap1, ap2, ap3, ap4, i64_w, i32_w]; rfl
               refine px 21 70 #[true, true, true, true, true, true, true, true, true, true, true, true, true, true, true, true, true, true, true, true, true, true, false, false, false, false, false, false, false, false] rfl HT_.out ?_ (.inl ⟨by rfl, ?_⟩) ?_ ?_ ?_; rotate_left
               ·intro w'; go_simp; with_reducible rfl
               rotate_left
               ·simp only [ap1, ap2, ap3, ap4, i64_w, i32_w]; rfl
               refine px 22 71 #[true, true, true, true, true, true, true, true, true, true, true, true, true, true, true, true, true, true, true, true, true, true, true, false, false, false, false, false, false, false] rfl HT_.out ?_ (.inl ⟨by rfl, ?_⟩) ?_ ?_ ?_; rotate_left
               ·intro w'; go_simp; with_reducible rfl
               rotate_left
               ·simp only [ap1, ap2, ap3, ap4, i64_w, i32_w]; rfl
               refine px 23 72 #[true, true, true, true, true, true, true, true, true, true, true, true, true, true, true, true, true, true, true, true, true, true, true, true, false, false, false, false, false, false] rfl HT_.out ?_ (.inl ⟨by rfl, ?_⟩) ?_ ?_ ?_; rotate_left
               ·intro w'; go_simp; with_reducible rfl
               rotate_left
               ·simp only [ap1, ap2, ap3, ap4, i64_w, i32_w]; rfl
               refine px 24 73 #[true, true, true, true, true, true, true, true, true, true, true, true, true, true, true, true, true, true, true, true, true, true, true, true, true, false, false, false, false, false] rfl HT_.out ?_ (.inl ⟨by rfl, ?_⟩) ?_ ?_ ?_; rotate_left
               ·intro w'; go_simp; with_reducible rfl
               rotate_left
               ·simp only [ap1, ap2, ap3, ap4, i64_w, i32_w]; rfl
               refine px 26 75 #[true, true, true, true, true, true, true, true, true, true, true, true, true, true, true, true, true, true, true, true, true, true, true, true, true, false, true, false, false, false] rfl HT_.out ?_ (.inl ⟨by rfl, ?_⟩) ?_ ?_ ?_; rotate_left
               ·intro w'; go_simp; with_reducible rfl
               rotate_left
               ·simp only [ap1, ap2, ap3, ap4, i64_w, i32_w]; rfl
               refine tx 25 74 #[true, true, true, true, true, true, true, true, true, true, true, true, true, true, true, true, true, true, true, true, true, true, true, true, true, true, true, false, false, false] rfl HT_.out HW_.out hHeld ?_ (.inl ⟨by rfl, ?_⟩) ?_ ?_ ?_; rotate_left
               ·rintro w' ⟨s0, s1, s2, s3, s4, s5, s6, s7, s8, s9⟩; go_simp; with_reducible rfl
               rotate_left
               ·simp only [ap1, ap2, ap3, ap4, i64_w, i32_w]; rfl
               refine one_ (i := 27) (N := some 76) #[true, true, true, true, true, true, true, true, true, true, true, true, true, true, true, true, true, true, true, true, true, true, true, true, true, true, true, true, false, false] rfl rfl (one_of HT_.out (by kernel_rfl)) (by decide) (fun K hK => ?_); refine goes_ Try.func30 (by kernel_rfl) rfl #[.int .i64 ((rd_T67 l1 x11_2).f2), .int .i64 x9_2, .int .i64 9999] (by rfl) rfl rfl vm ?_; with_reducible refine (spec_l1In.calls ((rd_T67 l1 x11_2).f2) x9_2 9999 false _ A15.out).mono ?_
               rintro e w' ⟨rfl, ⟨nd, rfl⟩⟩; refine ⟨_, rfl, ?_⟩; refine hK.out _ _ ⟨(vl HB.out hw161_0 :), (vl HB.out hw161_1 :), (vl HB.out hw161_2 :), (vl HB.out hw162_0 :), (vl HB.out hw162_1 :), (vl HB.out hw162_2 :), (vl HB.out hw162_3 :), (vl HB.out hw163_0 :), (vl HB.out hw163_1 :), (vl HB.out hw163_2 :)⟩ (fun hHeld => ?_); clear hK K; refine norm_ (a' := ?_) ?_ ?_; rotate_left
               ·show Act.put _ (some 76) _ = _; simp only [ap1, ap2, ap3, ap4, i64_w, i32_w]; rfl
               refine px 28 77 #[true, true, true, true, true, true, true, true, true, true, true, true, true, true, true, true, true, true, true, true, true, true, true, true, true, true, true, true, true, false] rfl HT_.out ?_ (.inl ⟨by rfl, ?_⟩) ?_ ?_ ?_; rotate_left
               ·intro w'; go_simp; with_reducible rfl
               rotate_left
               ·simp only [ap1, ap2, ap3, ap4, i64_w, i32_w]; rfl
               refine px 29 78 #[true, true, true, true, true, true, true, true, true, true, true, true, true, true, true, true, true, true, true, true, true, true, true, true, true, true, true, true, true, true] rfl HT_.out ?_ (.inl ⟨by rfl, ?_⟩) ?_ ?_ ?_; rotate_left
               ·intro w'; go_simp; with_reducible rfl
               rotate_left
               ·simp only [ap1, ap2, ap3, ap4, i64_w, i32_w]; rfl
               refine done_ (done_of HT_.out (by kernel_rfl)) ?_; try go_wp2
               go_ret
               exact ⟨by first | rfl | (simp [errW_none, errW_some] <;> rfl) | (simp [*, errW_none, errW_some] <;> rfl), by exact vh HB.out⟩
             ·rw [if_neg c14] at H
              have c14b0 : (((rd_T67 l1 x11_2).f1) == (wrap64 (((rd_T63 l0 x6_1).f0) + (wrap64 (t158 * x10_2))))) = false := beq_eq_false_iff_ne.mpr c14; have c14b1 : (((rd_T67 l1 x11_2).f1) != (wrap64 (((rd_T63 l0 x6_1).f0) + (wrap64 (t158 * x10_2))))) = true := bne_iff_ne.mpr c14; obtain rfl := Option.some.inj H; have p160 : 0 ≤ (x11_2 : Int) := of_decide_eq_true va; have q160 : x11_2 < (l1.length : Int) := of_decide_eq_true va; obtain ⟨ad160, e160, hx160_0, hx160_1, hx160_2⟩ := at_T67 HR1.out x11_2 p160 q160; cases e160; (try replace hx160_0 := vl HB.out hx160_0); (try replace hx160_1 := vl HB.out hx160_1); (try replace hx160_2 := vl HB.out hx160_2); replace p160 := eq_true p160; replace q160 := eq_true q160; try go_wp2
              have n0_ := ak (below_drew1 HB.out); clear HB; have HB := n0_; clear n0_; have p161 : 0 ≤ (x11_2 : Int) := of_decide_eq_true va; have q161 : x11_2 < (l1.length : Int) := of_decide_eq_true va; obtain ⟨ad161, e161, hx161_0, hx161_1, hx161_2⟩ := at_T67 HR1.out x11_2 p161 q161; have hw161_2 := hx161_2; have hw161_1 := hx161_1; have hw161_0 := hx161_0; obtain rfl : ad160 = ad161 := (by injection e161); (try replace hx161_0 := vl HB.out hx161_0); (try replace hx161_1 := vl HB.out hx161_1); (try replace hx161_2 := vl HB.out hx161_2); replace p161 := eq_true p161; replace q161 := eq_true q161; have p162 : 0 ≤ (x6_1 : Int) := of_decide_eq_true va; have q162 : x6_1 < (l0.length : Int) := of_decide_eq_true va; obtain ⟨ad162, e162, hx162_0, hx162_1, hx162_2, hx162_3⟩ := at_T63 HR0.out x6_1 p162 q162; have hw162_3 := hx162_3; have hw162_2 := hx162_2; have hw162_1 := hx162_1; have hw162_0 := hx162_0; obtain rfl : ad156 = ad162 := (by injection e162); (try replace hx162_0 := vl HB.out hx162_0); (try replace hx162_1 := vl HB.out hx162_1); (try replace hx162_2 := vl HB.out hx162_2); (try replace hx162_3 := vl HB.out hx162_3); replace p162 := eq_true p162; replace q162 := eq_true q162; refine start_ (n := 30) (S := fun w' => w'.cell? (ad160.add ((x11_2).toNat * 3)) = some (.int .i64 ((rd_T67 l1 x11_2).f0)) ∧ w'.cell? ⟨(ad160.add ((x11_2).toNat * 3)).block, (ad160.add ((x11_2).toNat * 3)).off + 1, none⟩ = some (.int .i64 ((rd_T67 l1 x11_2).f1)) ∧ w'.cell? ⟨(ad160.add ((x11_2).toNat * 3)).block, (ad160.add ((x11_2).toNat * 3)).off + 2, none⟩ = some (.int .i64 ((rd_T67 l1 x11_2).f2)) ∧ w'.cell? (ad156.add ((x6_1).toNat * 4)) = some (.int .i64 ((rd_T63 l0 x6_1).f0)) ∧ w'.cell? ⟨(ad156.add ((x6_1).toNat * 4)).block, (ad156.add ((x6_1).toNat * 4)).off + 1, none⟩ = some (.int .i64 ((rd_T63 l0 x6_1).f1)) ∧ w'.cell? ⟨(ad156.add ((x6_1).toNat * 4)).block, (ad156.add ((x6_1).toNat * 4)).off + 2, none⟩ = some (.int .i64 ((rd_T63 l0 x6_1).f2)) ∧ w'.cell? ⟨(ad156.add ((x6_1).toNat * 4)).block, (ad156.add ((x6_1).toNat * 4)).off + 3, none⟩ = some (.int .i64 ((rd_T63 l0 x6_1).f3))) (ds := []) #[false, false, false, false, false, false, false, false, false, false, false, false, false, false, false, false, false, false, false, false, false, false, false, false, false, false, false, false, false, false] (by kernel_rfl) rfl rfl ⟨(vl HB.out hw161_0 :), (vl HB.out hw161_1 :), (vl HB.out hw161_2 :), (vl HB.out hw162_0 :), (vl HB.out hw162_1 :), (vl HB.out hw162_2 :), (vl HB.out hw162_3 :)⟩ (fun hHeld => ?_); refine with_tabW spec_l10IsPlan.tab12 spec_l10IsPlan.bits12 (fun HT_ HW_ => ?_); generalize wr.drew = w20 at HB hx161_0 hx161_1 hx161_2 hx162_0 hx162_1 hx162_2 hx162_3 hHeld ⊢
              refine px 0 49 #[true, false, false, false, false, false, false, false, false, false, false, false, false, false, false, false, false, false, false, false, false, false, false, false, false, false, false, false, false, false] rfl HT_.out ?_ (.inl ⟨by rfl, ?_⟩) ?_ ?_ ?_; rotate_left
              ·intro w'; go_simp; with_reducible rfl
              rotate_left
              ·simp only [ap1, ap2, ap3, ap4, i64_w, i32_w]; rfl
              refine px 1 50 #[true, true, false, false, false, false, false, false, false, false, false, false, false, false, false, false, false, false, false, false, false, false, false, false, false, false, false, false, false, false] rfl HT_.out ?_ (.inl ⟨by rfl, ?_⟩) ?_ ?_ ?_; rotate_left
              ·intro w'; go_simp; with_reducible rfl
              rotate_left
              ·simp only [ap1, ap2, ap3, ap4, i64_w, i32_w]; rfl
              refine px 2 51 #[true, true, true, false, false, false, false, false, false, false, false, false, false, false, false, false, false, false, false, false, false, false, false, false, false, false, false, false, false, false] rfl HT_.out ?_ (.inl ⟨by rfl, ?_⟩) ?_ ?_ ?_; rotate_left
              ·intro w'; go_simp; with_reducible rfl
              rotate_left
              ·simp only [ap1, ap2, ap3, ap4, i64_w, i32_w]; rfl
              refine px 3 52 #[true, true, true, true, false, false, false, false, false, false, false, false, false, false, false, false, false, false, false, false, false, false, false, false, false, false, false, false, false, false] rfl HT_.out ?_ (.inl ⟨by rfl, ?_⟩) ?_ ?_ ?_; rotate_left
              ·intro w'; go_simp; with_reducible rfl
              rotate_left
              ·simp only [ap1, ap2, ap3, ap4, i64_w, i32_w]; rfl
              refine px 4 53 #[true, true, true, true, true, false, false, false, false, false, false, false, false, false, false, false, false, false, false, false, false, false, false, false, false, false, false, false, false, false] rfl HT_.out ?_ (.inl ⟨by rfl, ?_⟩) ?_ ?_ ?_; rotate_left
              ·intro w'; go_simp; with_reducible rfl
              rotate_left
              ·simp only [ap1, ap2, ap3, ap4, i64_w, i32_w]; rfl
              refine px 5 54 #[true, true, true, true, true, true, false, false, false, false, false, false, false, false, false, false, false, false, false, false, false, false, false, false, false, false, false, false, false, false] rfl HT_.out ?_ (.inl ⟨by rfl, ?_⟩) ?_ ?_ ?_; rotate_left
              ·intro w'; go_simp; with_reducible rfl
              rotate_left
              ·simp only [ap1, ap2, ap3, ap4, i64_w, i32_w]; rfl
              refine px 6 55 #[true, true, true, true, true, true, true, false, false, false, false, false, false, false, false, false, false, false, false, false, false, false, false, false, false, false, false, false, false, false] rfl HT_.out ?_ (.inl ⟨by rfl, ?_⟩) ?_ ?_ ?_; rotate_left
              ·intro w'; go_simp; with_reducible rfl
              rotate_left
              ·simp only [ap1, ap2, ap3, ap4, i64_w, i32_w]; rfl
              refine px 7 56 #[true, true, true, true, true, true, true, true, false, false, false, false, false, false, false, false, false, false, false, false, false, false, false, false, false, false, false, false, false, false] rfl HT_.out ?_ (.inl ⟨by rfl, ?_⟩) ?_ ?_ ?_; rotate_left
              ·intro w'; go_simp; with_reducible rfl
              rotate_left
              ·simp only [ap1, ap2, ap3, ap4, i64_w, i32_w]; rfl
              refine px 9 58 #[true, true, true, true, true, true, true, true, false, true, false, false, false, false, false, false, false, false, false, false, false, false, false, false, false, false, false, false, false, false] rfl HT_.out ?_ (.inl ⟨by rfl, ?_⟩) ?_ ?_ ?_; rotate_left
              ·intro w'; go_simp; with_reducible rfl
              rotate_left
              ·simp only [ap1, ap2, ap3, ap4, i64_w, i32_w]; rfl
              refine px 10 59 #[true, true, true, true, true, true, true, true, false, true, true, false, false, false, false, false, false, false, false, false, false, false, false, false, false, false, false, false, false, false] rfl HT_.out ?_ (.inl ⟨by rfl, ?_⟩) ?_ ?_ ?_; rotate_left
              ·intro w'; go_simp; with_reducible rfl
              rotate_left
              ·simp only [ap1, ap2, ap3, ap4, i64_w, i32_w]; rfl
              refine px 11 60 #[true, true, true, true, true, true, true, true, false, true, true, true, false, false, false, false, false, false, false, false, false, false, false, false, false, false, false, false, false, false] rfl HT_.out ?_ (.inl ⟨by rfl, ?_⟩) ?_ ?_ ?_; rotate_left
              ·intro w'; go_simp; with_reducible rfl
              rotate_left
              ·simp only [ap1, ap2, ap3, ap4, i64_w, i32_w]; rfl
              refine px 12 61 #[true, true, true, true, true, true, true, true, false, true, true, true, true, false, false, false, false, false, false, false, false, false, false, false, false, false, false, false, false, false] rfl HT_.out ?_ (.inl ⟨by rfl, ?_⟩) ?_ ?_ ?_; rotate_left
              ·intro w'; go_simp; with_reducible rfl
              rotate_left
              ·simp only [ap1, ap2, ap3, ap4, i64_w, i32_w]; rfl
              refine px 14 63 #[true, true, true, true, true, true, true, true, false, true, true, true, true, false, true, false, false, false, false, false, false, false, false, false, false, false, false, false, false, false] rfl HT_.out ?_ (.inl ⟨by rfl, ?_⟩) ?_ ?_ ?_; rotate_left
              ·intro w'; go_simp; with_reducible rfl
              rotate_left
              ·simp only [ap1, ap2, ap3, ap4, i64_w, i32_w]; rfl
              refine px 15 64 #[true, true, true, true, true, true, true, true, false, true, true, true, true, false, true, true, false, false, false, false, false, false, false, false, false, false, false, false, false, false] rfl HT_.out ?_ (.inl ⟨by rfl, ?_⟩) ?_ ?_ ?_; rotate_left
              ·intro w'; go_simp; with_reducible rfl
              rotate_left
              ·simp only [ap1, ap2, ap3, ap4, i64_w, i32_w]; rfl
              refine px 16 65 #[true, true, true, true, true, true, true, true, false, true, true, true, true, false, true, true, true, false, false, false, false, false, false, false, false, false, false, false, false, false] rfl HT_.out ?_ (.inl ⟨by rfl, ?_⟩) ?_ ?_ ?_; rotate_left
              ·intro w'; go_simp; with_reducible rfl
              rotate_left
              ·simp only [ap1, ap2, ap3, ap4, i64_w, i32_w]; rfl
              refine tx 8 57 #[true, true, true, true, true, true, true, true, true, true, true, true, true, false, true, true, true, false, false, false, false, false, false, false, false, false, false, false, false, false] rfl HT_.out HW_.out hHeld ?_ (.inl ⟨by rfl, ?_⟩) ?_ ?_ ?_; rotate_left
              ·rintro w' ⟨s0, s1, s2, s3, s4, s5, s6⟩; go_simp; with_reducible rfl
              rotate_left
              ·simp only [ap1, ap2, ap3, ap4, i64_w, i32_w]; rfl
              refine tx 13 62 #[true, true, true, true, true, true, true, true, true, true, true, true, true, true, true, true, true, false, false, false, false, false, false, false, false, false, false, false, false, false] rfl HT_.out HW_.out hHeld ?_ (.inl ⟨by rfl, ?_⟩) ?_ ?_ ?_; rotate_left
              ·rintro w' ⟨s0, s1, s2, s3, s4, s5, s6⟩; go_simp; with_reducible rfl
              rotate_left
              ·simp only [ap1, ap2, ap3, ap4, i64_w, i32_w]; rfl
              refine px 17 66 #[true, true, true, true, true, true, true, true, true, true, true, true, true, true, true, true, true, true, false, false, false, false, false, false, false, false, false, false, false, false] rfl HT_.out ?_ (.inl ⟨by rfl, ?_⟩) ?_ ?_ ?_; rotate_left
              ·intro w'; go_simp; with_reducible rfl
              rotate_left
              ·simp only [ap1, ap2, ap3, ap4, i64_w, i32_w]; rfl
              refine px 18 67 #[true, true, true, true, true, true, true, true, true, true, true, true, true, true, true, true, true, true, true, false, false, false, false, false, false, false, false, false, false, false] rfl HT_.out ?_ (.inl ⟨by rfl, ?_⟩) ?_ ?_ ?_; rotate_left
              ·intro w'; go_simp; with_reducible rfl
              rotate_left
              ·simp only [ap1, ap2, ap3, ap4, i64_w, i32_w]; rfl
              refine px 19 68 #[true, true, true, true, true, true, true, true, true, true, true, true, true, true, true, true, true, true, true, true, false, false, false, false, false, false, false, false, false, false] rfl HT_.out ?_ (.inl ⟨by rfl, ?_⟩) ?_ ?_ ?_; rotate_left
              ·intro w'; go_simp; with_reducible rfl
              rotate_left
              ·simp only [ap1, ap2, ap3, ap4, i64_w, i32_w]; rfl
              refine px 20 69 #[true, true, true, true, true, true, true, true, true, true, true, true, true, true, true, true, true, true, true, true, true, false, false, false, false, false, false, false, false, false] rfl HT_.out ?_ (.inl ⟨by rfl, ?_⟩) ?_ ?_ ?_; rotate_left
              ·intro w'; go_simp; with_reducible rfl
              rotate_left
              ·simp only [ap1, ap2, ap3, ap4, i64_w, i32_w]; rfl
              refine pure_ (i := 21) (N := some 70) (v := undef) (a' := ?_) #[true, true, true, true, true, true, true, true, true, true, true, true, true, true, true, true, true, true, true, true, true, true, false, false, false, false, false, false, false, false] rfl rfl (ao HT_.out) (fun _ _ _ h => h) (Or.inr ⟨by rfl, rfl⟩) ?_ ?_; rotate_left
              ·simp only [ap1, ap2, ap3, ap4, i64_w, i32_w]; rfl
              refine pure_ (i := 22) (N := some 71) (v := undef) (a' := ?_) #[true, true, true, true, true, true, true, true, true, true, true, true, true, true, true, true, true, true, true, true, true, true, true, false, false, false, false, false, false, false] rfl rfl (ao HT_.out) (fun _ _ _ h => h) (Or.inr ⟨by rfl, rfl⟩) ?_ ?_; rotate_left
              ·simp only [ap1, ap2, ap3, ap4, i64_w, i32_w]; rfl
              refine pure_ (i := 23) (N := some 72) (v := undef) (a' := ?_) #[true, true, true, true, true, true, true, true, true, true, true, true, true, true, true, true, true, true, true, true, true, true, true, true, false, false, false, false, false, false] rfl rfl (ao HT_.out) (fun _ _ _ h => h) (Or.inr ⟨by rfl, rfl⟩) ?_ ?_; rotate_left
              ·simp only [ap1, ap2, ap3, ap4, i64_w, i32_w]; rfl
              refine pure_ (i := 24) (N := some 73) (v := undef) (a' := ?_) #[true, true, true, true, true, true, true, true, true, true, true, true, true, true, true, true, true, true, true, true, true, true, true, true, true, false, false, false, false, false] rfl rfl (ao HT_.out) (fun _ _ _ h => h) (Or.inr ⟨by rfl, rfl⟩) ?_ ?_; rotate_left
              ·simp only [ap1, ap2, ap3, ap4, i64_w, i32_w]; rfl
              refine pure_ (i := 25) (N := some 74) (v := undef) (a' := ?_) #[true, true, true, true, true, true, true, true, true, true, true, true, true, true, true, true, true, true, true, true, true, true, true, true, true, true, false, false, false, false] rfl rfl (ao HT_.out) (fun _ _ _ h => h) (Or.inr ⟨by rfl, rfl⟩) ?_ ?_; rotate_left
              ·simp only [ap1, ap2, ap3, ap4, i64_w, i32_w]; rfl
              refine pure_ (i := 26) (N := some 75) (v := undef) (a' := ?_) #[true, true, true, true, true, true, true, true, true, true, true, true, true, true, true, true, true, true, true, true, true, true, true, true, true, true, true, false, false, false] rfl rfl (ao HT_.out) (fun _ _ _ h => h) (Or.inr ⟨by rfl, rfl⟩) ?_ ?_; rotate_left
              ·simp only [ap1, ap2, ap3, ap4, i64_w, i32_w]; rfl
              refine pure_ (i := 27) (N := some 76) (v := undef) (a' := ?_) #[true, true, true, true, true, true, true, true, true, true, true, true, true, true, true, true, true, true, true, true, true, true, true, true, true, true, true, true, false, false] rfl rfl (ao HT_.out) (fun _ _ _ h => h) (Or.inr ⟨by rfl, rfl⟩) ?_ ?_; rotate_left
              ·simp only [ap1, ap2, ap3, ap4, i64_w, i32_w]; rfl
              refine pure_ (i := 28) (N := some 77) (v := undef) (a' := ?_) #[true, true, true, true, true, true, true, true, true, true, true, true, true, true, true, true, true, true, true, true, true, true, true, true, true, true, true, true, true, false] rfl rfl (ao HT_.out) (fun _ _ _ h => h) (Or.inr ⟨by rfl, rfl⟩) ?_ ?_; rotate_left
              ·simp only [ap1, ap2, ap3, ap4, i64_w, i32_w]; rfl
              refine px 29 78 #[true, true, true, true, true, true, true, true, true, true, true, true, true, true, true, true, true, true, true, true, true, true, true, true, true, true, true, true, true, true] rfl HT_.out ?_ (.inl ⟨by rfl, ?_⟩) ?_ ?_ ?_; rotate_left
              ·intro w'; go_simp; with_reducible rfl
              rotate_left
              ·simp only [ap1, ap2, ap3, ap4, i64_w, i32_w]; rfl
              refine done_ (done_of HT_.out (by kernel_rfl)) ?_; try go_wp2
              go_ret
              exact ⟨by first | rfl | (simp [errW_none, errW_some] <;> rfl) | (simp [*, errW_none, errW_some] <;> rfl), by exact vh HB.out⟩
            ·rw [if_neg c13] at H
             exact absurd H (by simp)
           ·rw [if_neg c12] at H
            exact absurd H (by simp)
         ·rw [if_neg c9] at H
          have c9b0 : (((rd_T67 l1 x11_2).f0) == x6_1) = false := beq_eq_false_iff_ne.mpr c9; have c9b1 : (((rd_T67 l1 x11_2).f0) != x6_1) = true := bne_iff_ne.mpr c9; have H' := Aside0.mk H; clear H; have p160 : 0 ≤ (x11_2 : Int) := of_decide_eq_true va; have q160 : x11_2 < (l1.length : Int) := of_decide_eq_true va; obtain ⟨ad160, e160, hx160_0, hx160_1, hx160_2⟩ := at_T67 HR1.out x11_2 p160 q160; cases e160; (try replace hx160_0 := vl HB.out hx160_0); (try replace hx160_1 := vl HB.out hx160_1); (try replace hx160_2 := vl HB.out hx160_2); replace p160 := eq_true p160; replace q160 := eq_true q160; go_wp2
          go_roundg k2
          case measure => have := HK1.out; have := HK2.out; omega
          case rel => exact ⟨(x9_2), (x10_2), (wrap64 (x11_2 + 1)), (by first | rfl | (simp; done) | (simp [*]; done)), (by first | rfl | (simp; done) | (simp [*]; done)), vq, H', ⟨by have := HK1.out; have := HK2.out; omega⟩, ⟨by exact vh HB.out⟩⟩
        ·rw [if_neg c8] at H
         exact absurd H (by simp)
       ·rw [if_neg c7] at H
        have c7b0 : decide (x11_2 < (l1.length : Int)) = false := decide_eq_false c7; clear c7; by_cases c21 : x10_2 = t157
        ·rw [if_pos c21] at H
         have c21b0 : (x10_2 == t157) = true := beq_iff_eq.mpr c21; have c21b1 : (x10_2 != t157) = false := bne_eq_false_iff_eq.mpr c21; clear c21; have H' := Aside0.mk H; clear H; go_wp2
         go_roundg k2
         case measure => have := HK1.out; have := HK2.out; omega
         case rel => exact ⟨((wrap64 (x5_1 + t157))), (wrap64 (x6_1 + 1)), vq, vq, H', ⟨by have := HK1.out; have := HK2.out; omega⟩, ⟨by exact vh HB.out⟩⟩
        ·rw [if_neg c21] at H
         have c21b0 : (x10_2 == t157) = false := beq_eq_false_iff_ne.mpr c21; have c21b1 : (x10_2 != t157) = true := bne_iff_ne.mpr c21; obtain rfl := Option.some.inj H; go_wp2
         go_ret
         exact ⟨by first | rfl | (simp [errW_none, errW_some] <;> rfl) | (simp [*, errW_none, errW_some] <;> rfl), by exact vh HB.out⟩
    ·rw [if_neg c4] at H
     exact absurd H (by simp)
   ·rw [if_neg c3] at H
    have c3b0 : decide (x6_1 < (l0.length : Int)) = false := decide_eq_false c3; clear c3; by_cases c22 : (l1.length : Int) = x5_1
    ·rw [if_pos c22] at H
     have c22b0 : ((l1.length : Int) == x5_1) = true := beq_iff_eq.mpr c22; have c22b1 : ((l1.length : Int) != x5_1) = false := bne_eq_false_iff_eq.mpr c22; clear c22; have H' := Aside0.mk H; clear H; go_wp2
     go_loopg [12] k1 (fun kq v12 w' => ∃ (x12_2 : Int), v12 = .int .i64 x12_2 ∧ Aside0 (spec_l10IsPlan.l2 kq l0 l1 x12_2 = some r) ∧ Aside0 (kq ≤ k1) ∧ Aside0 (Below w.heap.size w w'))
     case atStart => exact ⟨(0), (by first | rfl | (simp; done) | (simp [*]; done)), H', ⟨Nat.le_refl _⟩, ⟨by exact vh HB.out⟩⟩
     case round =>
      clear H'; try clear c1
      try clear p1
      try clear q1
      try clear hx1
      try clear c2
      try clear p2
      try clear c3
      try clear c3b0
      try clear c4
      try clear p6
      try clear c7
      try clear c7b0
      try clear c8
      try clear c9
      try clear c9b0
      try clear c9b1
      try clear c12
      try clear c13
      try clear c14
      try clear c14b0
      try clear c14b1
      try clear p16
      try clear q16
      try clear hx16
      try clear c21
      try clear c21b0
      try clear c21b1
      try clear c22
      try clear c22b0
      try clear c22b1
      try clear hx160_0
      try clear hx160_1
      try clear hx160_2
      try clear hx161_0
      try clear hx161_1
      try clear hx161_2
      try clear hx162_0
      try clear hx162_1
      try clear hx162_2
      try clear hx162_3
      try clear hx163_0
      try clear hx163_1
      try clear hx163_2
      try clear p160
      try clear p161
      try clear p162
      try clear p163
      try clear q160
      try clear q161
      try clear q162
      try clear q163
      obtain ⟨x12_2, rfl, HA, HK2, HB⟩ := hrel; cases gk with
      | zero => exact absurd HA.out (by simp [spec_l10IsPlan.l2])
      | succ k2 =>
       have H := HA.out; clear HA; simp only [spec_l10IsPlan.l2] at H
       by_cases c23 : x12_2 < (l1.length : Int)
       ·rw [if_pos c23] at H
        have c23b0 : decide (x12_2 < (l1.length : Int)) = true := decide_eq_true c23; clear c23; have H' := Aside0.mk H; clear H; go_wp2
        go_loopg [13] k2 (fun kq v13 w' => ∃ (x13_3 : Int), v13 = .int .i64 x13_3 ∧ Aside0 (spec_l10IsPlan.l3 kq l0 l1 x12_2 x13_3 = some r) ∧ Aside0 (kq ≤ k2) ∧ Aside0 (Below w.heap.size w w'))
        case atStart => exact ⟨(0), (by first | rfl | (simp; done) | (simp [*]; done)), H', ⟨Nat.le_refl _⟩, ⟨by exact vh HB.out⟩⟩
        case round =>
         clear H'; try clear c1
         try clear p1
         try clear q1
         try clear hx1
         try clear c2
         try clear p2
         try clear c3
         try clear c3b0
         try clear c4
         try clear p6
         try clear c7
         try clear c7b0
         try clear c8
         try clear c9
         try clear c9b0
         try clear c9b1
         try clear c12
         try clear c13
         try clear c14
         try clear c14b0
         try clear c14b1
         try clear p16
         try clear q16
         try clear hx16
         try clear c21
         try clear c21b0
         try clear c21b1
         try clear c22
         try clear c22b0
         try clear c22b1
         try clear c23
         try clear c23b0
         try clear hx160_0
         try clear hx160_1
         try clear hx160_2
         try clear hx161_0
         try clear hx161_1
         try clear hx161_2
         try clear hx162_0
         try clear hx162_1
         try clear hx162_2
         try clear hx162_3
         try clear hx163_0
         try clear hx163_1
         try clear hx163_2
         try clear p1
         try clear p16
         try clear p160
         try clear p161
         try clear p162
         try clear p163
         try clear p2
         try clear p6
         try clear q1
         try clear q16
         try clear q160
         try clear q161
         try clear q162
         try clear q163
         obtain ⟨x13_3, rfl, HA, HK3, HB⟩ := hrel; cases gk with
         | zero => exact absurd HA.out (by simp [spec_l10IsPlan.l3])
         | succ k3 =>
          have H := HA.out; clear HA; simp only [spec_l10IsPlan.l3] at H
          by_cases c24 : x13_3 < x12_2
          ·rw [if_pos c24] at H
           have c24b0 : decide (x13_3 < x12_2) = true := decide_eq_true c24; clear c24; by_cases c25 : 0 ≤ x13_3
           ·rw [if_pos c25] at H
            have c25b0 : decide (0 ≤ x13_3) = true := decide_eq_true c25; clear c25; by_cases c26 : x13_3 < (l1.length : Int)
            ·rw [if_pos c26] at H
             have c26b0 : decide (x13_3 < (l1.length : Int)) = true := decide_eq_true c26; clear c26; by_cases c27 : 0 ≤ x12_2
             ·rw [if_pos c27] at H
              have c27b0 : decide (0 ≤ x12_2) = true := decide_eq_true c27; clear c27; by_cases c28 : x12_2 < (l1.length : Int)
              ·rw [if_pos c28] at H
               have c28b0 : decide (x12_2 < (l1.length : Int)) = true := decide_eq_true c28; clear c28; replace H := Option.bind_eq_some_iff.mp H; obtain ⟨t169, A290, H⟩ := H; replace H : (if t169 = true then (some false) else (spec_l10IsPlan.l3 k3 l0 l1 x12_2 (wrap64 (x13_3 + 1)))) = some r := H; have A29 := Aside0.mk A290; clear A290; by_cases c30 : t169 = true
               ·subst c30; have H1 : (some false) = some r := by rw [if_pos rfl] at H; first | exact H | (simp only [if_true, eq_self] at H ⊢; exact H)
                clear H; have H := H1; clear H1; obtain rfl := Option.some.inj H; try go_wp2
                have n0_ := ak (below_drew1 HB.out); clear HB; have HB := n0_; clear n0_; have p167 : 0 ≤ (x13_3 : Int) := of_decide_eq_true va; have q167 : x13_3 < (l1.length : Int) := of_decide_eq_true va; obtain ⟨ad167, e167, hx167_0, hx167_1, hx167_2⟩ := at_T67 HR1.out x13_3 p167 q167; have hw167_2 := hx167_2; have hw167_1 := hx167_1; have hw167_0 := hx167_0; cases e167; (try replace hx167_0 := vl HB.out hx167_0); (try replace hx167_1 := vl HB.out hx167_1); (try replace hx167_2 := vl HB.out hx167_2); replace p167 := eq_true p167; replace q167 := eq_true q167; have p168 : 0 ≤ (x12_2 : Int) := of_decide_eq_true va; have q168 : x12_2 < (l1.length : Int) := of_decide_eq_true va; obtain ⟨ad168, e168, hx168_0, hx168_1, hx168_2⟩ := at_T67 HR1.out x12_2 p168 q168; have hw168_2 := hx168_2; have hw168_1 := hx168_1; have hw168_0 := hx168_0; obtain rfl : ad167 = ad168 := (by injection e168); (try replace hx168_0 := vl HB.out hx168_0); (try replace hx168_1 := vl HB.out hx168_1); (try replace hx168_2 := vl HB.out hx168_2); replace p168 := eq_true p168; replace q168 := eq_true q168; refine start_ (n := 10) (S := fun w' => w'.cell? (ad167.add ((x13_3).toNat * 3)) = some (.int .i64 ((rd_T67 l1 x13_3).f0)) ∧ w'.cell? ⟨(ad167.add ((x13_3).toNat * 3)).block, (ad167.add ((x13_3).toNat * 3)).off + 1, none⟩ = some (.int .i64 ((rd_T67 l1 x13_3).f1)) ∧ w'.cell? ⟨(ad167.add ((x13_3).toNat * 3)).block, (ad167.add ((x13_3).toNat * 3)).off + 2, none⟩ = some (.int .i64 ((rd_T67 l1 x13_3).f2)) ∧ w'.cell? (ad167.add ((x12_2).toNat * 3)) = some (.int .i64 ((rd_T67 l1 x12_2).f0)) ∧ w'.cell? ⟨(ad167.add ((x12_2).toNat * 3)).block, (ad167.add ((x12_2).toNat * 3)).off + 1, none⟩ = some (.int .i64 ((rd_T67 l1 x12_2).f1)) ∧ w'.cell? ⟨(ad167.add ((x12_2).toNat * 3)).block, (ad167.add ((x12_2).toNat * 3)).off + 2, none⟩ = some (.int .i64 ((rd_T67 l1 x12_2).f2))) (ds := []) #[false, false, false, false, false, false, false, false, false, false] (by kernel_rfl) rfl rfl ⟨(vl HB.out hw167_0 :), (vl HB.out hw167_1 :), (vl HB.out hw167_2 :), (vl HB.out hw168_0 :), (vl HB.out hw168_1 :), (vl HB.out hw168_2 :)⟩ (fun hHeld => ?_); refine with_tabW spec_l10IsPlan.tab26 spec_l10IsPlan.bits26 (fun HT_ HW_ => ?_); generalize wr.drew = w31 at HB hx167_0 hx167_1 hx167_2 hx168_0 hx168_1 hx168_2 hHeld ⊢
                refine px 0 110 #[true, false, false, false, false, false, false, false, false, false] rfl HT_.out ?_ (.inl ⟨by rfl, ?_⟩) ?_ ?_ ?_; rotate_left
                ·intro w'; go_simp; with_reducible rfl
                rotate_left
                ·simp only [ap1, ap2, ap3, ap4, i64_w, i32_w]; rfl
                refine px 1 111 #[true, true, false, false, false, false, false, false, false, false] rfl HT_.out ?_ (.inl ⟨by rfl, ?_⟩) ?_ ?_ ?_; rotate_left
                ·intro w'; go_simp; with_reducible rfl
                rotate_left
                ·simp only [ap1, ap2, ap3, ap4, i64_w, i32_w]; rfl
                refine px 2 112 #[true, true, true, false, false, false, false, false, false, false] rfl HT_.out ?_ (.inl ⟨by rfl, ?_⟩) ?_ ?_ ?_; rotate_left
                ·intro w'; go_simp; with_reducible rfl
                rotate_left
                ·simp only [ap1, ap2, ap3, ap4, i64_w, i32_w]; rfl
                refine px 3 113 #[true, true, true, true, false, false, false, false, false, false] rfl HT_.out ?_ (.inl ⟨by rfl, ?_⟩) ?_ ?_ ?_; rotate_left
                ·intro w'; go_simp; with_reducible rfl
                rotate_left
                ·simp only [ap1, ap2, ap3, ap4, i64_w, i32_w]; rfl
                refine px 5 115 #[true, true, true, true, false, true, false, false, false, false] rfl HT_.out ?_ (.inl ⟨by rfl, ?_⟩) ?_ ?_ ?_; rotate_left
                ·intro w'; go_simp; with_reducible rfl
                rotate_left
                ·simp only [ap1, ap2, ap3, ap4, i64_w, i32_w]; rfl
                refine px 6 116 #[true, true, true, true, false, true, true, false, false, false] rfl HT_.out ?_ (.inl ⟨by rfl, ?_⟩) ?_ ?_ ?_; rotate_left
                ·intro w'; go_simp; with_reducible rfl
                rotate_left
                ·simp only [ap1, ap2, ap3, ap4, i64_w, i32_w]; rfl
                refine px 7 117 #[true, true, true, true, false, true, true, true, false, false] rfl HT_.out ?_ (.inl ⟨by rfl, ?_⟩) ?_ ?_ ?_; rotate_left
                ·intro w'; go_simp; with_reducible rfl
                rotate_left
                ·simp only [ap1, ap2, ap3, ap4, i64_w, i32_w]; rfl
                refine tx 4 114 #[true, true, true, true, true, true, true, true, false, false] rfl HT_.out HW_.out hHeld ?_ (.inl ⟨by rfl, ?_⟩) ?_ ?_ ?_; rotate_left
                ·rintro w' ⟨s0, s1, s2, s3, s4, s5⟩; go_simp; with_reducible rfl
                rotate_left
                ·simp only [ap1, ap2, ap3, ap4, i64_w, i32_w]; rfl
                refine tx 8 118 #[true, true, true, true, true, true, true, true, true, false] rfl HT_.out HW_.out hHeld ?_ (.inl ⟨by rfl, ?_⟩) ?_ ?_ ?_; rotate_left
                ·rintro w' ⟨s0, s1, s2, s3, s4, s5⟩; go_simp; with_reducible rfl
                rotate_left
                ·simp only [ap1, ap2, ap3, ap4, i64_w, i32_w]; rfl
                refine one_ (i := 9) (N := some 119) #[true, true, true, true, true, true, true, true, true, true] rfl rfl (one_of HT_.out (by kernel_rfl)) (by decide) (fun K hK => ?_); refine goes_ Try.func61 (by kernel_rfl) rfl #[.slice A0 l0.length c0, .agg #[.int .i64 ((rd_T67 l1 x13_3).f0), .int .i64 ((rd_T67 l1 x13_3).f1), .int .i64 ((rd_T67 l1 x13_3).f2)], .agg #[.int .i64 ((rd_T67 l1 x12_2).f0), .int .i64 ((rd_T67 l1 x12_2).f1), .int .i64 ((rd_T67 l1 x12_2).f2)]] (by rfl) rfl rfl vm ?_; with_reducible refine (spec_l10Clash.calls k3 _ _ l0 ((rd_T67 l1 x13_3).f0) ((rd_T67 l1 x13_3).f1) ((rd_T67 l1 x13_3).f2) ((rd_T67 l1 x12_2).f0) ((rd_T67 l1 x12_2).f1) ((rd_T67 l1 x12_2).f2) true _ ?side1 ?side2 A29.out).mono ?_
                (case side1 => exact vc HR0.out HB.out)
                (case side2 => exact HC0.out)
                rintro e w32 ⟨rfl, hb⟩; refine ⟨_, rfl, ?_⟩; have n0_ := ak (below_step (vh HB.out) hb); clear HB; have HB := n0_; clear n0_; (try clear hb); (try clear hb2); (try clear hk); (try clear hi); refine hK.out _ _ ⟨(vl HB.out hw167_0 :), (vl HB.out hw167_1 :), (vl HB.out hw167_2 :), (vl HB.out hw168_0 :), (vl HB.out hw168_1 :), (vl HB.out hw168_2 :)⟩ (fun hHeld => ?_); clear hK K; refine norm_ (a' := ?_) ?_ ?_; rotate_left
                ·show Act.put _ (some 119) _ = _; simp only [ap1, ap2, ap3, ap4, i64_w, i32_w]; rfl
                refine done_ (done_of HT_.out (by kernel_rfl)) ?_; try go_wp2
                go_ret
                exact ⟨by first | rfl | (simp [errW_none, errW_some] <;> rfl) | (simp [*, errW_none, errW_some] <;> rfl), by exact vh HB.out⟩
               ·replace c30 := Bool.eq_false_iff.mpr c30; subst c30; have H1 : (spec_l10IsPlan.l3 k3 l0 l1 x12_2 (wrap64 (x13_3 + 1))) = some r := by rw [if_neg (show ¬ (false = true) by decide)] at H; first | exact H | (simp only [if_true, eq_self] at H ⊢; exact H)
                clear H; have H := H1; clear H1; have H' := Aside0.mk H; clear H; try go_wp2
                have n0_ := ak (below_drew1 HB.out); clear HB; have HB := n0_; clear n0_; have p167 : 0 ≤ (x13_3 : Int) := of_decide_eq_true va; have q167 : x13_3 < (l1.length : Int) := of_decide_eq_true va; obtain ⟨ad167, e167, hx167_0, hx167_1, hx167_2⟩ := at_T67 HR1.out x13_3 p167 q167; have hw167_2 := hx167_2; have hw167_1 := hx167_1; have hw167_0 := hx167_0; cases e167; (try replace hx167_0 := vl HB.out hx167_0); (try replace hx167_1 := vl HB.out hx167_1); (try replace hx167_2 := vl HB.out hx167_2); replace p167 := eq_true p167; replace q167 := eq_true q167; have p168 : 0 ≤ (x12_2 : Int) := of_decide_eq_true va; have q168 : x12_2 < (l1.length : Int) := of_decide_eq_true va; obtain ⟨ad168, e168, hx168_0, hx168_1, hx168_2⟩ := at_T67 HR1.out x12_2 p168 q168; have hw168_2 := hx168_2; have hw168_1 := hx168_1; have hw168_0 := hx168_0; obtain rfl : ad167 = ad168 := (by injection e168); (try replace hx168_0 := vl HB.out hx168_0); (try replace hx168_1 := vl HB.out hx168_1); (try replace hx168_2 := vl HB.out hx168_2); replace p168 := eq_true p168; replace q168 := eq_true q168; refine start_ (n := 10) (S := fun w' => w'.cell? (ad167.add ((x13_3).toNat * 3)) = some (.int .i64 ((rd_T67 l1 x13_3).f0)) ∧ w'.cell? ⟨(ad167.add ((x13_3).toNat * 3)).block, (ad167.add ((x13_3).toNat * 3)).off + 1, none⟩ = some (.int .i64 ((rd_T67 l1 x13_3).f1)) ∧ w'.cell? ⟨(ad167.add ((x13_3).toNat * 3)).block, (ad167.add ((x13_3).toNat * 3)).off + 2, none⟩ = some (.int .i64 ((rd_T67 l1 x13_3).f2)) ∧ w'.cell? (ad167.add ((x12_2).toNat * 3)) = some (.int .i64 ((rd_T67 l1 x12_2).f0)) ∧ w'.cell? ⟨(ad167.add ((x12_2).toNat * 3)).block, (ad167.add ((x12_2).toNat * 3)).off + 1, none⟩ = some (.int .i64 ((rd_T67 l1 x12_2).f1)) ∧ w'.cell? ⟨(ad167.add ((x12_2).toNat * 3)).block, (ad167.add ((x12_2).toNat * 3)).off + 2, none⟩ = some (.int .i64 ((rd_T67 l1 x12_2).f2))) (ds := []) #[false, false, false, false, false, false, false, false, false, false] (by kernel_rfl) rfl rfl ⟨(vl HB.out hw167_0 :), (vl HB.out hw167_1 :), (vl HB.out hw167_2 :), (vl HB.out hw168_0 :), (vl HB.out hw168_1 :), (vl HB.out hw168_2 :)⟩ (fun hHeld => ?_); refine with_tabW spec_l10IsPlan.tab26 spec_l10IsPlan.bits26 (fun HT_ HW_ => ?_); generalize wr.drew = w33 at HB hx167_0 hx167_1 hx167_2 hx168_0 hx168_1 hx168_2 hHeld ⊢
                refine px 0 110 #[true, false, false, false, false, false, false, false, false, false] rfl HT_.out ?_ (.inl ⟨by rfl, ?_⟩) ?_ ?_ ?_; rotate_left
                ·intro w'; go_simp; with_reducible rfl
                rotate_left
                ·simp only [ap1, ap2, ap3, ap4, i64_w, i32_w]; rfl
                refine px 1 111 #[true, true, false, false, false, false, false, false, false, false] rfl HT_.out ?_ (.inl ⟨by rfl, ?_⟩) ?_ ?_ ?_; rotate_left
                ·intro w'; go_simp; with_reducible rfl
                rotate_left
                ·simp only [ap1, ap2, ap3, ap4, i64_w, i32_w]; rfl
                refine px 2 112 #[true, true, true, false, false, false, false, false, false, false] rfl HT_.out ?_ (.inl ⟨by rfl, ?_⟩) ?_ ?_ ?_; rotate_left
                ·intro w'; go_simp; with_reducible rfl
                rotate_left
                ·simp only [ap1, ap2, ap3, ap4, i64_w, i32_w]; rfl
                refine px 3 113 #[true, true, true, true, false, false, false, false, false, false] rfl HT_.out ?_ (.inl ⟨by rfl, ?_⟩) ?_ ?_ ?_; rotate_left
                ·intro w'; go_simp; with_reducible rfl
                rotate_left
                ·simp only [ap1, ap2, ap3, ap4, i64_w, i32_w]; rfl
                refine px 5 115 #[true, true, true, true, false, true, false, false, false, false] rfl HT_.out ?_ (.inl ⟨by rfl, ?_⟩) ?_ ?_ ?_; rotate_left
                ·intro w'; go_simp; with_reducible rfl
                rotate_left
                ·simp only [ap1, ap2, ap3, ap4, i64_w, i32_w]; rfl
                refine px 6 116 #[true, true, true, true, false, true, true, false, false, false] rfl HT_.out ?_ (.inl ⟨by rfl, ?_⟩) ?_ ?_ ?_; rotate_left
                ·intro w'; go_simp; with_reducible rfl
                rotate_left
                ·simp only [ap1, ap2, ap3, ap4, i64_w, i32_w]; rfl
                refine px 7 117 #[true, true, true, true, false, true, true, true, false, false] rfl HT_.out ?_ (.inl ⟨by rfl, ?_⟩) ?_ ?_ ?_; rotate_left
                ·intro w'; go_simp; with_reducible rfl
                rotate_left
                ·simp only [ap1, ap2, ap3, ap4, i64_w, i32_w]; rfl
                refine tx 4 114 #[true, true, true, true, true, true, true, true, false, false] rfl HT_.out HW_.out hHeld ?_ (.inl ⟨by rfl, ?_⟩) ?_ ?_ ?_; rotate_left
                ·rintro w' ⟨s0, s1, s2, s3, s4, s5⟩; go_simp; with_reducible rfl
                rotate_left
                ·simp only [ap1, ap2, ap3, ap4, i64_w, i32_w]; rfl
                refine tx 8 118 #[true, true, true, true, true, true, true, true, true, false] rfl HT_.out HW_.out hHeld ?_ (.inl ⟨by rfl, ?_⟩) ?_ ?_ ?_; rotate_left
                ·rintro w' ⟨s0, s1, s2, s3, s4, s5⟩; go_simp; with_reducible rfl
                rotate_left
                ·simp only [ap1, ap2, ap3, ap4, i64_w, i32_w]; rfl
                refine one_ (i := 9) (N := some 119) #[true, true, true, true, true, true, true, true, true, true] rfl rfl (one_of HT_.out (by kernel_rfl)) (by decide) (fun K hK => ?_); refine goes_ Try.func61 (by kernel_rfl) rfl #[.slice A0 l0.length c0, .agg #[.int .i64 ((rd_T67 l1 x13_3).f0), .int .i64 ((rd_T67 l1 x13_3).f1), .int .i64 ((rd_T67 l1 x13_3).f2)], .agg #[.int .i64 ((rd_T67 l1 x12_2).f0), .int .i64 ((rd_T67 l1 x12_2).f1), .int .i64 ((rd_T67 l1 x12_2).f2)]] (by rfl) rfl rfl vm ?_; with_reducible refine (spec_l10Clash.calls k3 _ _ l0 ((rd_T67 l1 x13_3).f0) ((rd_T67 l1 x13_3).f1) ((rd_T67 l1 x13_3).f2) ((rd_T67 l1 x12_2).f0) ((rd_T67 l1 x12_2).f1) ((rd_T67 l1 x12_2).f2) false _ ?side1 ?side2 A29.out).mono ?_
                (case side1 => exact vc HR0.out HB.out)
                (case side2 => exact HC0.out)
                rintro e w34 ⟨rfl, hb⟩; refine ⟨_, rfl, ?_⟩; have n0_ := ak (below_step (vh HB.out) hb); clear HB; have HB := n0_; clear n0_; (try clear hb); (try clear hb2); (try clear hk); (try clear hi); refine hK.out _ _ ⟨(vl HB.out hw167_0 :), (vl HB.out hw167_1 :), (vl HB.out hw167_2 :), (vl HB.out hw168_0 :), (vl HB.out hw168_1 :), (vl HB.out hw168_2 :)⟩ (fun hHeld => ?_); clear hK K; refine norm_ (a' := ?_) ?_ ?_; rotate_left
                ·show Act.put _ (some 119) _ = _; simp only [ap1, ap2, ap3, ap4, i64_w, i32_w]; rfl
                refine done_ (done_of HT_.out (by kernel_rfl)) ?_; try go_wp2
                go_roundg k3
                case measure => have := HK1.out; have := HK2.out; have := HK3.out; omega
                case rel => exact ⟨(wrap64 (x13_3 + 1)), vq, H', ⟨by have := HK1.out; have := HK2.out; have := HK3.out; omega⟩, ⟨by exact vh HB.out⟩⟩
              ·rw [if_neg c28] at H
               exact absurd H (by simp)
             ·rw [if_neg c27] at H
              exact absurd H (by simp)
            ·rw [if_neg c26] at H
             exact absurd H (by simp)
           ·rw [if_neg c25] at H
            exact absurd H (by simp)
          ·rw [if_neg c24] at H
           have c24b0 : decide (x13_3 < x12_2) = false := decide_eq_false c24; clear c24; by_cases c35 : x12_2 > 0
           ·rw [if_pos c35] at H
            have c35b0 : decide (0 < x12_2) = true := decide_eq_true c35; clear c35; obtain ⟨ji36, hji36⟩ : ∃ j_ : Int, (wrap64 (x12_2 - 1)) = j_ := ⟨_, rfl⟩; replace H : (if 0 ≤ (ji36) then (if (ji36) < (l1.length : Int) then (if 0 ≤ x12_2 then (if x12_2 < (l1.length : Int) then ((spec_l10Before.f ((rd_T67 l1 (ji36)).f0) ((rd_T67 l1 (ji36)).f1) ((rd_T67 l1 (ji36)).f2) ((rd_T67 l1 x12_2).f0) ((rd_T67 l1 x12_2).f1) ((rd_T67 l1 x12_2).f2)).bind fun t172 => (if t172 = true then (spec_l10IsPlan.l2 k3 l0 l1 (wrap64 (x12_2 + 1))) else (some false))) else (none)) else (none)) else (none)) else (none)) = some r := by first | (rw [hji36] at H; exact H) | (simp only [hji36] at H ⊢; exact H)
            have hji36w : (IntKind.i64.wrap (x12_2 - 1)) = ji36 := (i64_w _).trans hji36; by_cases c37 : 0 ≤ (ji36)
            ·rw [if_pos c37] at H
             have c37b0 : decide (0 ≤ (ji36)) = true := decide_eq_true c37; clear c37; by_cases c38 : (ji36) < (l1.length : Int)
             ·rw [if_pos c38] at H
              have c38b0 : decide ((ji36) < (l1.length : Int)) = true := decide_eq_true c38; clear c38; by_cases c39 : 0 ≤ x12_2
              ·rw [if_pos c39] at H
               have c39b0 : decide (0 ≤ x12_2) = true := decide_eq_true c39; clear c39; by_cases c40 : x12_2 < (l1.length : Int)
               ·rw [if_pos c40] at H
                have c40b0 : decide (x12_2 < (l1.length : Int)) = true := decide_eq_true c40; clear c40; replace H := Option.bind_eq_some_iff.mp H; obtain ⟨t172, A410, H⟩ := H; replace H : (if t172 = true then (spec_l10IsPlan.l2 k3 l0 l1 (wrap64 (x12_2 + 1))) else (some false)) = some r := H; have A41 := Aside0.mk A410; clear A410; by_cases c42 : t172 = true
                ·subst c42; have H1 : (spec_l10IsPlan.l2 k3 l0 l1 (wrap64 (x12_2 + 1))) = some r := by rw [if_pos rfl] at H; first | exact H | (simp only [if_true, eq_self] at H ⊢; exact H)
                 clear H; have H := H1; clear H1; have H' := Aside0.mk H; clear H; try go_wp2
                 have n0_ := ak (below_drew1 HB.out); clear HB; have HB := n0_; clear n0_; have p170 : 0 ≤ ((ji36) : Int) := of_decide_eq_true va; have q170 : (ji36) < (l1.length : Int) := of_decide_eq_true va; obtain ⟨ad170, e170, hx170_0, hx170_1, hx170_2⟩ := at_T67 HR1.out (ji36) p170 q170; have hw170_2 := hx170_2; have hw170_1 := hx170_1; have hw170_0 := hx170_0; cases e170; (try replace hx170_0 := vl HB.out hx170_0); (try replace hx170_1 := vl HB.out hx170_1); (try replace hx170_2 := vl HB.out hx170_2); replace p170 := eq_true p170; replace q170 := eq_true q170; have p171 : 0 ≤ (x12_2 : Int) := of_decide_eq_true va; have q171 : x12_2 < (l1.length : Int) := of_decide_eq_true va; obtain ⟨ad171, e171, hx171_0, hx171_1, hx171_2⟩ := at_T67 HR1.out x12_2 p171 q171; have hw171_2 := hx171_2; have hw171_1 := hx171_1; have hw171_0 := hx171_0; obtain rfl : ad170 = ad171 := (by injection e171); (try replace hx171_0 := vl HB.out hx171_0); (try replace hx171_1 := vl HB.out hx171_1); (try replace hx171_2 := vl HB.out hx171_2); replace p171 := eq_true p171; replace q171 := eq_true q171; refine start_ (n := 15) (S := fun w' => w'.cell? (ad170.add (((ji36)).toNat * 3)) = some (.int .i64 ((rd_T67 l1 (ji36)).f0)) ∧ w'.cell? ⟨(ad170.add (((ji36)).toNat * 3)).block, (ad170.add (((ji36)).toNat * 3)).off + 1, none⟩ = some (.int .i64 ((rd_T67 l1 (ji36)).f1)) ∧ w'.cell? ⟨(ad170.add (((ji36)).toNat * 3)).block, (ad170.add (((ji36)).toNat * 3)).off + 2, none⟩ = some (.int .i64 ((rd_T67 l1 (ji36)).f2)) ∧ w'.cell? (ad170.add ((x12_2).toNat * 3)) = some (.int .i64 ((rd_T67 l1 x12_2).f0)) ∧ w'.cell? ⟨(ad170.add ((x12_2).toNat * 3)).block, (ad170.add ((x12_2).toNat * 3)).off + 1, none⟩ = some (.int .i64 ((rd_T67 l1 x12_2).f1)) ∧ w'.cell? ⟨(ad170.add ((x12_2).toNat * 3)).block, (ad170.add ((x12_2).toNat * 3)).off + 2, none⟩ = some (.int .i64 ((rd_T67 l1 x12_2).f2))) (ds := []) #[false, false, false, false, false, false, false, false, false, false, false, false, false, false, false] (by kernel_rfl) rfl rfl ⟨(vl HB.out hw170_0 :), (vl HB.out hw170_1 :), (vl HB.out hw170_2 :), (vl HB.out hw171_0 :), (vl HB.out hw171_1 :), (vl HB.out hw171_2 :)⟩ (fun hHeld => ?_); refine with_tabW spec_l10IsPlan.tab28 spec_l10IsPlan.bits28 (fun HT_ HW_ => ?_); generalize wr.drew = w43 at HB hx170_0 hx170_1 hx170_2 hx171_0 hx171_1 hx171_2 hHeld ⊢
                 refine px 0 120 #[true, false, false, false, false, false, false, false, false, false, false, false, false, false, false] rfl HT_.out ?_ (.inl ⟨by rfl, ?_⟩) ?_ ?_ ?_; rotate_left
                 ·intro w'; go_simp; with_reducible rfl
                 rotate_left
                 ·simp only [ap1, ap2, ap3, ap4, i64_w, i32_w]; rfl
                 refine px 1 121 #[true, true, false, false, false, false, false, false, false, false, false, false, false, false, false] rfl HT_.out ?_ (.inl ⟨by rfl, ?_⟩) ?_ ?_ ?_; rotate_left
                 ·intro w'; go_simp; with_reducible rfl
                 rotate_left
                 ·simp only [ap1, ap2, ap3, ap4, i64_w, i32_w]; rfl
                 refine px 2 122 #[true, true, true, false, false, false, false, false, false, false, false, false, false, false, false] rfl HT_.out ?_ (.inl ⟨by rfl, ?_⟩) ?_ ?_ ?_; rotate_left
                 ·intro w'; go_simp; with_reducible rfl
                 rotate_left
                 ·simp only [ap1, ap2, ap3, ap4, i64_w, i32_w]; rfl
                 refine px 3 123 #[true, true, true, true, false, false, false, false, false, false, false, false, false, false, false] rfl HT_.out ?_ (.inl ⟨by rfl, ?_⟩) ?_ ?_ ?_; rotate_left
                 ·intro w'; go_simp; with_reducible rfl
                 rotate_left
                 ·simp only [ap1, ap2, ap3, ap4, i64_w, i32_w]; rfl
                 refine px 4 124 #[true, true, true, true, true, false, false, false, false, false, false, false, false, false, false] rfl HT_.out ?_ (.inl ⟨by rfl, ?_⟩) ?_ ?_ ?_; rotate_left
                 ·intro w'; go_simp; with_reducible rfl
                 rotate_left
                 ·simp only [ap1, ap2, ap3, ap4, i64_w, i32_w]; rfl
                 refine px 5 125 #[true, true, true, true, true, true, false, false, false, false, false, false, false, false, false] rfl HT_.out ?_ (.inl ⟨by rfl, ?_⟩) ?_ ?_ ?_; rotate_left
                 ·intro w'; go_simp; with_reducible rfl
                 rotate_left
                 ·simp only [ap1, ap2, ap3, ap4, i64_w, i32_w]; rfl
                 refine px 6 126 #[true, true, true, true, true, true, true, false, false, false, false, false, false, false, false] rfl HT_.out ?_ (.inl ⟨by rfl, ?_⟩) ?_ ?_ ?_; rotate_left
                 ·intro w'; go_simp; with_reducible rfl
                 rotate_left
                 ·simp only [ap1, ap2, ap3, ap4, i64_w, i32_w]; rfl
                 refine px 8 128 #[true, true, true, true, true, true, true, false, true, false, false, false, false, false, false] rfl HT_.out ?_ (.inl ⟨by rfl, ?_⟩) ?_ ?_ ?_; rotate_left
                 ·intro w'; go_simp; with_reducible rfl
                 rotate_left
                 ·simp only [ap1, ap2, ap3, ap4, i64_w, i32_w]; rfl
                 refine px 9 129 #[true, true, true, true, true, true, true, false, true, true, false, false, false, false, false] rfl HT_.out ?_ (.inl ⟨by rfl, ?_⟩) ?_ ?_ ?_; rotate_left
                 ·intro w'; go_simp; with_reducible rfl
                 rotate_left
                 ·simp only [ap1, ap2, ap3, ap4, i64_w, i32_w]; rfl
                 refine px 10 130 #[true, true, true, true, true, true, true, false, true, true, true, false, false, false, false] rfl HT_.out ?_ (.inl ⟨by rfl, ?_⟩) ?_ ?_ ?_; rotate_left
                 ·intro w'; go_simp; with_reducible rfl
                 rotate_left
                 ·simp only [ap1, ap2, ap3, ap4, i64_w, i32_w]; rfl
                 refine tx 7 127 #[true, true, true, true, true, true, true, true, true, true, true, false, false, false, false] rfl HT_.out HW_.out hHeld ?_ (.inl ⟨by rfl, ?_⟩) ?_ ?_ ?_; rotate_left
                 ·rintro w' ⟨s0, s1, s2, s3, s4, s5⟩; go_simp; with_reducible rfl
                 rotate_left
                 ·simp only [ap1, ap2, ap3, ap4, i64_w, i32_w]; rfl
                 refine tx 11 131 #[true, true, true, true, true, true, true, true, true, true, true, true, false, false, false] rfl HT_.out HW_.out hHeld ?_ (.inl ⟨by rfl, ?_⟩) ?_ ?_ ?_; rotate_left
                 ·rintro w' ⟨s0, s1, s2, s3, s4, s5⟩; go_simp; with_reducible rfl
                 rotate_left
                 ·simp only [ap1, ap2, ap3, ap4, i64_w, i32_w]; rfl
                 refine one_ (i := 12) (N := some 132) #[true, true, true, true, true, true, true, true, true, true, true, true, true, false, false] rfl rfl (one_of HT_.out (by kernel_rfl)) (by decide) (fun K hK => ?_); refine goes_ Try.func62 (by kernel_rfl) rfl #[.agg #[.int .i64 ((rd_T67 l1 (ji36)).f0), .int .i64 ((rd_T67 l1 (ji36)).f1), .int .i64 ((rd_T67 l1 (ji36)).f2)], .agg #[.int .i64 ((rd_T67 l1 x12_2).f0), .int .i64 ((rd_T67 l1 x12_2).f1), .int .i64 ((rd_T67 l1 x12_2).f2)]] (by rfl) rfl rfl (by (try simp only [List.map_toArray, List.map_cons, List.map_nil]); first | done | (simp only [hji36]; rfl) | rfl | (simp only [List.length_drop, List.length_take]; rfl)) ?_; with_reducible refine (spec_l10Before.calls ((rd_T67 l1 (ji36)).f0) ((rd_T67 l1 (ji36)).f1) ((rd_T67 l1 (ji36)).f2) ((rd_T67 l1 x12_2).f0) ((rd_T67 l1 x12_2).f1) ((rd_T67 l1 x12_2).f2) true _ A41.out).mono ?_
                 rintro e w44 ⟨rfl, hb⟩; refine ⟨_, rfl, ?_⟩; have n0_ := ak (below_step (vh HB.out) hb); clear HB; have HB := n0_; clear n0_; (try clear hb); (try clear hb2); (try clear hk); (try clear hi); refine hK.out _ _ ⟨(vl HB.out hw170_0 :), (vl HB.out hw170_1 :), (vl HB.out hw170_2 :), (vl HB.out hw171_0 :), (vl HB.out hw171_1 :), (vl HB.out hw171_2 :)⟩ (fun hHeld => ?_); clear hK K; refine norm_ (a' := ?_) ?_ ?_; rotate_left
                 ·show Act.put _ (some 132) _ = _; simp only [ap1, ap2, ap3, ap4, i64_w, i32_w]; rfl
                 refine px 13 133 #[true, true, true, true, true, true, true, true, true, true, true, true, true, true, false] rfl HT_.out ?_ (.inl ⟨by rfl, ?_⟩) ?_ ?_ ?_; rotate_left
                 ·intro w'; go_simp; with_reducible rfl
                 rotate_left
                 ·simp only [ap1, ap2, ap3, ap4, i64_w, i32_w]; rfl
                 refine px 14 134 #[true, true, true, true, true, true, true, true, true, true, true, true, true, true, true] rfl HT_.out ?_ (.inl ⟨by rfl, ?_⟩) ?_ ?_ ?_; rotate_left
                 ·intro w'; go_simp; with_reducible rfl
                 rotate_left
                 ·simp only [ap1, ap2, ap3, ap4, i64_w, i32_w]; rfl
                 refine done_ (done_of HT_.out (by kernel_rfl)) ?_; try go_wp2
                 go_roundg k3
                 case measure => have := HK1.out; have := HK2.out; have := HK3.out; omega
                 case rel => exact ⟨(wrap64 (x12_2 + 1)), vq, H', ⟨by have := HK1.out; have := HK2.out; have := HK3.out; omega⟩, ⟨by exact vh HB.out⟩⟩
                ·replace c42 := Bool.eq_false_iff.mpr c42; subst c42; have H1 : (some false) = some r := by rw [if_neg (show ¬ (false = true) by decide)] at H; first | exact H | (simp only [if_true, eq_self] at H ⊢; exact H)
                 clear H; have H := H1; clear H1; obtain rfl := Option.some.inj H; try go_wp2
                 have n0_ := ak (below_drew1 HB.out); clear HB; have HB := n0_; clear n0_; have p170 : 0 ≤ ((ji36) : Int) := of_decide_eq_true va; have q170 : (ji36) < (l1.length : Int) := of_decide_eq_true va; obtain ⟨ad170, e170, hx170_0, hx170_1, hx170_2⟩ := at_T67 HR1.out (ji36) p170 q170; have hw170_2 := hx170_2; have hw170_1 := hx170_1; have hw170_0 := hx170_0; cases e170; (try replace hx170_0 := vl HB.out hx170_0); (try replace hx170_1 := vl HB.out hx170_1); (try replace hx170_2 := vl HB.out hx170_2); replace p170 := eq_true p170; replace q170 := eq_true q170; have p171 : 0 ≤ (x12_2 : Int) := of_decide_eq_true va; have q171 : x12_2 < (l1.length : Int) := of_decide_eq_true va; obtain ⟨ad171, e171, hx171_0, hx171_1, hx171_2⟩ := at_T67 HR1.out x12_2 p171 q171; have hw171_2 := hx171_2; have hw171_1 := hx171_1; have hw171_0 := hx171_0; obtain rfl : ad170 = ad171 := (by injection e171); (try replace hx171_0 := vl HB.out hx171_0); (try replace hx171_1 := vl HB.out hx171_1); (try replace hx171_2 := vl HB.out hx171_2); replace p171 := eq_true p171; replace q171 := eq_true q171; refine start_ (n := 15) (S := fun w' => w'.cell? (ad170.add (((ji36)).toNat * 3)) = some (.int .i64 ((rd_T67 l1 (ji36)).f0)) ∧ w'.cell? ⟨(ad170.add (((ji36)).toNat * 3)).block, (ad170.add (((ji36)).toNat * 3)).off + 1, none⟩ = some (.int .i64 ((rd_T67 l1 (ji36)).f1)) ∧ w'.cell? ⟨(ad170.add (((ji36)).toNat * 3)).block, (ad170.add (((ji36)).toNat * 3)).off + 2, none⟩ = some (.int .i64 ((rd_T67 l1 (ji36)).f2)) ∧ w'.cell? (ad170.add ((x12_2).toNat * 3)) = some (.int .i64 ((rd_T67 l1 x12_2).f0)) ∧ w'.cell? ⟨(ad170.add ((x12_2).toNat * 3)).block, (ad170.add ((x12_2).toNat * 3)).off + 1, none⟩ = some (.int .i64 ((rd_T67 l1 x12_2).f1)) ∧ w'.cell? ⟨(ad170.add ((x12_2).toNat * 3)).block, (ad170.add ((x12_2).toNat * 3)).off + 2, none⟩ = some (.int .i64 ((rd_T67 l1 x12_2).f2))) (ds := []) #[false, false, false, false, false, false, false, false, false, false, false, false, false, false, false] (by kernel_rfl) rfl rfl ⟨(vl HB.out hw170_0 :), (vl HB.out hw170_1 :), (vl HB.out hw170_2 :), (vl HB.out hw171_0 :), (vl HB.out hw171_1 :), (vl HB.out hw171_2 :)⟩ (fun hHeld => ?_); refine with_tabW spec_l10IsPlan.tab28 spec_l10IsPlan.bits28 (fun HT_ HW_ => ?_); generalize wr.drew = w45 at HB hx170_0 hx170_1 hx170_2 hx171_0 hx171_1 hx171_2 hHeld ⊢
                 refine px 0 120 #[true, false, false, false, false, false, false, false, false, false, false, false, false, false, false] rfl HT_.out ?_ (.inl ⟨by rfl, ?_⟩) ?_ ?_ ?_; rotate_left
                 ·intro w'; go_simp; with_reducible rfl
                 rotate_left
                 ·simp only [ap1, ap2, ap3, ap4, i64_w, i32_w]; rfl
                 refine px 1 121 #[true, true, false, false, false, false, false, false, false, false, false, false, false, false, false] rfl HT_.out ?_ (.inl ⟨by rfl, ?_⟩) ?_ ?_ ?_; rotate_left
                 ·intro w'; go_simp; with_reducible rfl
                 rotate_left
                 ·simp only [ap1, ap2, ap3, ap4, i64_w, i32_w]; rfl
                 refine px 2 122 #[true, true, true, false, false, false, false, false, false, false, false, false, false, false, false] rfl HT_.out ?_ (.inl ⟨by rfl, ?_⟩) ?_ ?_ ?_; rotate_left
                 ·intro w'; go_simp; with_reducible rfl
                 rotate_left
                 ·simp only [ap1, ap2, ap3, ap4, i64_w, i32_w]; rfl
                 refine px 3 123 #[true, true, true, true, false, false, false, false, false, false, false, false, false, false, false] rfl HT_.out ?_ (.inl ⟨by rfl, ?_⟩) ?_ ?_ ?_; rotate_left
                 ·intro w'; go_simp; with_reducible rfl
                 rotate_left
                 ·simp only [ap1, ap2, ap3, ap4, i64_w, i32_w]; rfl
                 refine px 4 124 #[true, true, true, true, true, false, false, false, false, false, false, false, false, false, false] rfl HT_.out ?_ (.inl ⟨by rfl, ?_⟩) ?_ ?_ ?_; rotate_left
                 ·intro w'; go_simp; with_reducible rfl
                 rotate_left
                 ·simp only [ap1, ap2, ap3, ap4, i64_w, i32_w]; rfl
                 refine px 5 125 #[true, true, true, true, true, true, false, false, false, false, false, false, false, false, false] rfl HT_.out ?_ (.inl ⟨by rfl, ?_⟩) ?_ ?_ ?_; rotate_left
                 ·intro w'; go_simp; with_reducible rfl
                 rotate_left
                 ·simp only [ap1, ap2, ap3, ap4, i64_w, i32_w]; rfl
                 refine px 6 126 #[true, true, true, true, true, true, true, false, false, false, false, false, false, false, false] rfl HT_.out ?_ (.inl ⟨by rfl, ?_⟩) ?_ ?_ ?_; rotate_left
                 ·intro w'; go_simp; with_reducible rfl
                 rotate_left
                 ·simp only [ap1, ap2, ap3, ap4, i64_w, i32_w]; rfl
                 refine px 8 128 #[true, true, true, true, true, true, true, false, true, false, false, false, false, false, false] rfl HT_.out ?_ (.inl ⟨by rfl, ?_⟩) ?_ ?_ ?_; rotate_left
                 ·intro w'; go_simp; with_reducible rfl
                 rotate_left
                 ·simp only [ap1, ap2, ap3, ap4, i64_w, i32_w]; rfl
                 refine px 9 129 #[true, true, true, true, true, true, true, false, true, true, false, false, false, false, false] rfl HT_.out ?_ (.inl ⟨by rfl, ?_⟩) ?_ ?_ ?_; rotate_left
                 ·intro w'; go_simp; with_reducible rfl
                 rotate_left
                 ·simp only [ap1, ap2, ap3, ap4, i64_w, i32_w]; rfl
                 refine px 10 130 #[true, true, true, true, true, true, true, false, true, true, true, false, false, false, false] rfl HT_.out ?_ (.inl ⟨by rfl, ?_⟩) ?_ ?_ ?_; rotate_left
                 ·intro w'; go_simp; with_reducible rfl
                 rotate_left
                 ·simp only [ap1, ap2, ap3, ap4, i64_w, i32_w]; rfl
                 refine tx 7 127 #[true, true, true, true, true, true, true, true, true, true, true, false, false, false, false] rfl HT_.out HW_.out hHeld ?_ (.inl ⟨by rfl, ?_⟩) ?_ ?_ ?_; rotate_left
                 ·rintro w' ⟨s0, s1, s2, s3, s4, s5⟩; go_simp; with_reducible rfl
                 rotate_left
                 ·simp only [ap1, ap2, ap3, ap4, i64_w, i32_w]; rfl
                 refine tx 11 131 #[true, true, true, true, true, true, true, true, true, true, true, true, false, false, false] rfl HT_.out HW_.out hHeld ?_ (.inl ⟨by rfl, ?_⟩) ?_ ?_ ?_; rotate_left
                 ·rintro w' ⟨s0, s1, s2, s3, s4, s5⟩; go_simp; with_reducible rfl
                 rotate_left
                 ·simp only [ap1, ap2, ap3, ap4, i64_w, i32_w]; rfl
                 refine one_ (i := 12) (N := some 132) #[true, true, true, true, true, true, true, true, true, true, true, true, true, false, false] rfl rfl (one_of HT_.out (by kernel_rfl)) (by decide) (fun K hK => ?_); refine goes_ Try.func62 (by kernel_rfl) rfl #[.agg #[.int .i64 ((rd_T67 l1 (ji36)).f0), .int .i64 ((rd_T67 l1 (ji36)).f1), .int .i64 ((rd_T67 l1 (ji36)).f2)], .agg #[.int .i64 ((rd_T67 l1 x12_2).f0), .int .i64 ((rd_T67 l1 x12_2).f1), .int .i64 ((rd_T67 l1 x12_2).f2)]] (by rfl) rfl rfl (by (try simp only [List.map_toArray, List.map_cons, List.map_nil]); first | done | (simp only [hji36]; rfl) | rfl | (simp only [List.length_drop, List.length_take]; rfl)) ?_; with_reducible refine (spec_l10Before.calls ((rd_T67 l1 (ji36)).f0) ((rd_T67 l1 (ji36)).f1) ((rd_T67 l1 (ji36)).f2) ((rd_T67 l1 x12_2).f0) ((rd_T67 l1 x12_2).f1) ((rd_T67 l1 x12_2).f2) false _ A41.out).mono ?_
                 rintro e w46 ⟨rfl, hb⟩; refine ⟨_, rfl, ?_⟩; have n0_ := ak (below_step (vh HB.out) hb); clear HB; have HB := n0_; clear n0_; (try clear hb); (try clear hb2); (try clear hk); (try clear hi); refine hK.out _ _ ⟨(vl HB.out hw170_0 :), (vl HB.out hw170_1 :), (vl HB.out hw170_2 :), (vl HB.out hw171_0 :), (vl HB.out hw171_1 :), (vl HB.out hw171_2 :)⟩ (fun hHeld => ?_); clear hK K; refine norm_ (a' := ?_) ?_ ?_; rotate_left
                 ·show Act.put _ (some 132) _ = _; simp only [ap1, ap2, ap3, ap4, i64_w, i32_w]; rfl
                 refine px 13 133 #[true, true, true, true, true, true, true, true, true, true, true, true, true, true, false] rfl HT_.out ?_ (.inl ⟨by rfl, ?_⟩) ?_ ?_ ?_; rotate_left
                 ·intro w'; go_simp; with_reducible rfl
                 rotate_left
                 ·simp only [ap1, ap2, ap3, ap4, i64_w, i32_w]; rfl
                 refine px 14 134 #[true, true, true, true, true, true, true, true, true, true, true, true, true, true, true] rfl HT_.out ?_ (.inl ⟨by rfl, ?_⟩) ?_ ?_ ?_; rotate_left
                 ·intro w'; go_simp; with_reducible rfl
                 rotate_left
                 ·simp only [ap1, ap2, ap3, ap4, i64_w, i32_w]; rfl
                 refine done_ (done_of HT_.out (by kernel_rfl)) ?_; try go_wp2
                 go_ret
                 exact ⟨by first | rfl | (simp [errW_none, errW_some] <;> rfl) | (simp only [← hji36]; first | rfl | (simp [errW_none, errW_some] <;> rfl)) | (simp [*, errW_none, errW_some] <;> rfl), by exact vh HB.out⟩
               ·rw [if_neg c40] at H
                exact absurd H (by simp)
              ·rw [if_neg c39] at H
               exact absurd H (by simp)
             ·rw [if_neg c38] at H
              exact absurd H (by simp)
            ·rw [if_neg c37] at H
             exact absurd H (by simp)
           ·rw [if_neg c35] at H
            have c35b0 : decide (0 < x12_2) = false := decide_eq_false c35; clear c35; have H' := Aside0.mk H; clear H; try go_wp2
            have n0_ := ak (below_drew1 HB.out); clear HB; have HB := n0_; clear n0_; refine start_ (n := 15) (S := fun w' => True) (ds := []) #[false, false, false, false, false, false, false, false, false, false, false, false, false, false, false] (by kernel_rfl) rfl rfl trivial (fun hHeld => ?_); refine with_tabW spec_l10IsPlan.tab28 spec_l10IsPlan.bits28 (fun HT_ HW_ => ?_); generalize wr.drew = w47 at HB hHeld ⊢
            refine px 0 120 #[true, false, false, false, false, false, false, false, false, false, false, false, false, false, false] rfl HT_.out ?_ (.inl ⟨by rfl, ?_⟩) ?_ ?_ ?_; rotate_left
            ·intro w'; go_simp; with_reducible rfl
            rotate_left
            ·simp only [ap1, ap2, ap3, ap4, i64_w, i32_w]; rfl
            refine px 1 121 #[true, true, false, false, false, false, false, false, false, false, false, false, false, false, false] rfl HT_.out ?_ (.inl ⟨by rfl, ?_⟩) ?_ ?_ ?_; rotate_left
            ·intro w'; go_simp; with_reducible rfl
            rotate_left
            ·simp only [ap1, ap2, ap3, ap4, i64_w, i32_w]; rfl
            refine px 2 122 #[true, true, true, false, false, false, false, false, false, false, false, false, false, false, false] rfl HT_.out ?_ (.inl ⟨by rfl, ?_⟩) ?_ ?_ ?_; rotate_left
            ·intro w'; go_simp; with_reducible rfl
            rotate_left
            ·simp only [ap1, ap2, ap3, ap4, i64_w, i32_w]; rfl
            refine pure_ (i := 3) (N := some 123) (v := undef) (a' := ?_) #[true, true, true, true, false, false, false, false, false, false, false, false, false, false, false] rfl rfl (ao HT_.out) (fun _ _ _ h => h) (Or.inr ⟨by rfl, rfl⟩) ?_ ?_; rotate_left
            ·simp only [ap1, ap2, ap3, ap4, i64_w, i32_w]; rfl
            refine pure_ (i := 4) (N := some 124) (v := undef) (a' := ?_) #[true, true, true, true, true, false, false, false, false, false, false, false, false, false, false] rfl rfl (ao HT_.out) (fun _ _ _ h => h) (Or.inr ⟨by rfl, rfl⟩) ?_ ?_; rotate_left
            ·simp only [ap1, ap2, ap3, ap4, i64_w, i32_w]; rfl
            refine pure_ (i := 5) (N := some 125) (v := undef) (a' := ?_) #[true, true, true, true, true, true, false, false, false, false, false, false, false, false, false] rfl rfl (ao HT_.out) (fun _ _ _ h => h) (Or.inr ⟨by rfl, rfl⟩) ?_ ?_; rotate_left
            ·simp only [ap1, ap2, ap3, ap4, i64_w, i32_w]; rfl
            refine pure_ (i := 6) (N := some 126) (v := undef) (a' := ?_) #[true, true, true, true, true, true, true, false, false, false, false, false, false, false, false] rfl rfl (ao HT_.out) (fun _ _ _ h => h) (Or.inr ⟨by rfl, rfl⟩) ?_ ?_; rotate_left
            ·simp only [ap1, ap2, ap3, ap4, i64_w, i32_w]; rfl
            refine pure_ (i := 7) (N := some 127) (v := undef) (a' := ?_) #[true, true, true, true, true, true, true, true, false, false, false, false, false, false, false] rfl rfl (ao HT_.out) (fun _ _ _ h => h) (Or.inr ⟨by rfl, rfl⟩) ?_ ?_; rotate_left
            ·simp only [ap1, ap2, ap3, ap4, i64_w, i32_w]; rfl
            refine pure_ (i := 8) (N := some 128) (v := undef) (a' := ?_) #[true, true, true, true, true, true, true, true, true, false, false, false, false, false, false] rfl rfl (ao HT_.out) (fun _ _ _ h => h) (Or.inr ⟨by rfl, rfl⟩) ?_ ?_; rotate_left
            ·simp only [ap1, ap2, ap3, ap4, i64_w, i32_w]; rfl
            refine pure_ (i := 9) (N := some 129) (v := undef) (a' := ?_) #[true, true, true, true, true, true, true, true, true, true, false, false, false, false, false] rfl rfl (ao HT_.out) (fun _ _ _ h => h) (Or.inr ⟨by rfl, rfl⟩) ?_ ?_; rotate_left
            ·simp only [ap1, ap2, ap3, ap4, i64_w, i32_w]; rfl
            refine pure_ (i := 10) (N := some 130) (v := undef) (a' := ?_) #[true, true, true, true, true, true, true, true, true, true, true, false, false, false, false] rfl rfl (ao HT_.out) (fun _ _ _ h => h) (Or.inr ⟨by rfl, rfl⟩) ?_ ?_; rotate_left
            ·simp only [ap1, ap2, ap3, ap4, i64_w, i32_w]; rfl
            refine pure_ (i := 11) (N := some 131) (v := undef) (a' := ?_) #[true, true, true, true, true, true, true, true, true, true, true, true, false, false, false] rfl rfl (ao HT_.out) (fun _ _ _ h => h) (Or.inr ⟨by rfl, rfl⟩) ?_ ?_; rotate_left
            ·simp only [ap1, ap2, ap3, ap4, i64_w, i32_w]; rfl
            refine pure_ (i := 12) (N := some 132) (v := undef) (a' := ?_) #[true, true, true, true, true, true, true, true, true, true, true, true, true, false, false] rfl rfl (ao HT_.out) (fun _ _ _ h => h) (Or.inr ⟨by rfl, rfl⟩) ?_ ?_; rotate_left
            ·simp only [ap1, ap2, ap3, ap4, i64_w, i32_w]; rfl
            refine pure_ (i := 13) (N := some 133) (v := undef) (a' := ?_) #[true, true, true, true, true, true, true, true, true, true, true, true, true, true, false] rfl rfl (ao HT_.out) (fun _ _ _ h => h) (Or.inr ⟨by rfl, rfl⟩) ?_ ?_; rotate_left
            ·simp only [ap1, ap2, ap3, ap4, i64_w, i32_w]; rfl
            refine px 14 134 #[true, true, true, true, true, true, true, true, true, true, true, true, true, true, true] rfl HT_.out ?_ (.inl ⟨by rfl, ?_⟩) ?_ ?_ ?_; rotate_left
            ·intro w'; go_simp; with_reducible rfl
            rotate_left
            ·simp only [ap1, ap2, ap3, ap4, i64_w, i32_w]; rfl
            refine done_ (done_of HT_.out (by kernel_rfl)) ?_; try go_wp2
            go_roundg k3
            case measure => have := HK1.out; have := HK2.out; have := HK3.out; omega
            case rel => exact ⟨(wrap64 (x12_2 + 1)), vq, H', ⟨by have := HK1.out; have := HK2.out; have := HK3.out; omega⟩, ⟨by exact vh HB.out⟩⟩
       ·rw [if_neg c23] at H
        have c23b0 : decide (x12_2 < (l1.length : Int)) = false := decide_eq_false c23; clear c23; obtain rfl := Option.some.inj H; go_wp2
        go_ret
        exact ⟨by first | rfl | (simp [errW_none, errW_some] <;> rfl) | (simp [*, errW_none, errW_some] <;> rfl), by exact vh HB.out⟩
    ·rw [if_neg c22] at H
     have c22b0 : ((l1.length : Int) == x5_1) = false := beq_eq_false_iff_ne.mpr c22; have c22b1 : ((l1.length : Int) != x5_1) = true := bne_iff_ne.mpr c22; obtain rfl := Option.some.inj H; go_wp2
     go_ret
     exact ⟨by first | rfl | (simp [errW_none, errW_some] <;> rfl) | (simp [*, errW_none, errW_some] <;> rfl), by exact vh HB.out⟩

end Go.Proofs.Ytlgmccliclmbaaa.PFnExactWaitsOf
