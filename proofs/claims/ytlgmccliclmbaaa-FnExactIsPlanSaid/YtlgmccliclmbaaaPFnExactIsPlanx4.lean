-- Written by a program of this session (the kit's print with this session's additions, wip/tools): Lean checks it. (pressed)
import Derived.Test.YtlgmccliclmbaaaAbbr
import Derived.Test.YtlgmccliclmbaaaPFnExactIsPlanx0
import Derived.Test.YtlgmccliclmbaaaPFnExactIsPlanx1
import Derived.Test.YtlgmccliclmbaaaPFnExactIsPlanx2
import Derived.Test.YtlgmccliclmbaaaPFnExactIsPlanx3
namespace Go.Proofs.Ytlgmccliclmbaaa.PFnExactIsPlan
open Go.RowKit Go.Proofs.YtlgmccliclmbaaaW.PrintWords Go.Proofs.YtlgmccliclmbaaaW.PrintLast Go.Proofs.YtlgmccliclmbaaaW.PrintMore
attribute [local go_sem] max2_int min2_int max_two min_two max_three min_three max_four min_four   -- for this text's walks alone
set_option linter.unusedVariables false
set_option linter.unusedSimpArgs false

/-! ### spec_l10IsPlan: function 45 -/
mutual
def spec_l10IsPlan.l0 : Nat → List (S63) → List (S67) → Int → Int → Option (Bool)
 | 0, _, _, _, _ => none
 | k + 1, x0, x1, x5, x6 => if x6 < (x0.length : Int) then (if 0 ≤ x6 then ((spec_l10Steps.f ((rd_T63 x0 x6).f0) ((rd_T63 x0 x6).f1) ((rd_T63 x0 x6).f2) ((rd_T63 x0 x6).f3)).bind fun bt124 => (spec_l10IsPlan.l1 k x0 x1 (wrap64 (x5 + bt124.1)) x6 bt124.1 bt124.2 ((rd_T63 x0 x6).f3) 0 0)) else (none)) else (if (x1.length : Int) = x5 then (spec_l10IsPlan.l2 k x0 x1 0) else (some false))
def spec_l10IsPlan.l1 : Nat → List (S63) → List (S67) → Int → Int → Int → Int → Int → Int → Int → Option (Bool)
 | 0, _, _, _, _, _, _, _, _, _ => none
 | k + 1, x0, x1, x5, x6, x7, x8, x9, x10, x11 => if x11 < (x1.length : Int) then (if 0 ≤ x11 then (if ((rd_T67 x1 x11).f0) = x6 then (if x10 ≥ x7 then (some false) else (if 0 ≤ x6 then (if x6 < (x0.length : Int) then (if ((rd_T67 x1 x11).f1) = (wrap64 (((rd_T63 x0 x6).f0) + (wrap64 (x8 * x10)))) then ((spec_l1In.f ((rd_T67 x1 x11).f2) x9 9999).bind fun t131 => (if t131 = true then (spec_l10IsPlan.l1 k x0 x1 x5 x6 x7 x8 (wrap64 (((rd_T67 x1 x11).f2) + ((rd_T63 x0 x6).f2))) (wrap64 (x10 + 1)) (wrap64 (x11 + 1))) else (some false))) else (some false)) else (none)) else (none))) else (spec_l10IsPlan.l1 k x0 x1 x5 x6 x7 x8 x9 x10 (wrap64 (x11 + 1)))) else (none)) else (if x10 = x7 then (spec_l10IsPlan.l0 k x0 x1 x5 (wrap64 (x6 + 1))) else (some false))
def spec_l10IsPlan.l2 : Nat → List (S63) → List (S67) → Int → Option (Bool)
 | 0, _, _, _ => none
 | k + 1, x0, x1, x12 => if x12 < (x1.length : Int) then (spec_l10IsPlan.l3 k x0 x1 x12 0) else (some true)
def spec_l10IsPlan.l3 : Nat → List (S63) → List (S67) → Int → Int → Option (Bool)
 | 0, _, _, _, _ => none
 | k + 1, x0, x1, x12, x13 => if x13 < x12 then (if 0 ≤ x13 then (if x13 < (x1.length : Int) then (if 0 ≤ x12 then (if x12 < (x1.length : Int) then ((spec_l10Clash.f k x0 ((rd_T67 x1 x13).f0) ((rd_T67 x1 x13).f1) ((rd_T67 x1 x13).f2) ((rd_T67 x1 x12).f0) ((rd_T67 x1 x12).f1) ((rd_T67 x1 x12).f2)).bind fun t136 => (if t136 = true then (some false) else (spec_l10IsPlan.l3 k x0 x1 x12 (wrap64 (x13 + 1))))) else (none)) else (none)) else (none)) else (none)) else (if x12 > 0 then (if 0 ≤ (wrap64 (x12 - 1)) then (if (wrap64 (x12 - 1)) < (x1.length : Int) then (if 0 ≤ x12 then (if x12 < (x1.length : Int) then ((spec_l10Before.f ((rd_T67 x1 (wrap64 (x12 - 1))).f0) ((rd_T67 x1 (wrap64 (x12 - 1))).f1) ((rd_T67 x1 (wrap64 (x12 - 1))).f2) ((rd_T67 x1 x12).f0) ((rd_T67 x1 x12).f1) ((rd_T67 x1 x12).f2)).bind fun t139 => (if t139 = true then (spec_l10IsPlan.l2 k x0 x1 (wrap64 (x12 + 1))) else (some false))) else (none)) else (none)) else (none)) else (none)) else (spec_l10IsPlan.l2 k x0 x1 (wrap64 (x12 + 1))))
end
def spec_l10IsPlan.f (k : Nat) (l0 : List (S63)) (l1 : List (S67)) : Option (Bool) := spec_l10IsPlan.l0 k l0 l1 0 0
theorem spec_l10IsPlan.mono_l : ∀ k, (∀ y0 y1 y2 y3, LeO (spec_l10IsPlan.l0 k y0 y1 y2 y3) (spec_l10IsPlan.l0 (k + 1) y0 y1 y2 y3)) ∧ (∀ y0 y1 y2 y3 y4 y5 y6 y7 y8, LeO (spec_l10IsPlan.l1 k y0 y1 y2 y3 y4 y5 y6 y7 y8) (spec_l10IsPlan.l1 (k + 1) y0 y1 y2 y3 y4 y5 y6 y7 y8)) ∧ (∀ y0 y1 y2, LeO (spec_l10IsPlan.l2 k y0 y1 y2) (spec_l10IsPlan.l2 (k + 1) y0 y1 y2)) ∧ (∀ y0 y1 y2 y3, LeO (spec_l10IsPlan.l3 k y0 y1 y2 y3) (spec_l10IsPlan.l3 (k + 1) y0 y1 y2 y3))
 | 0 => ⟨fun _ _ _ _ r h => by simp [spec_l10IsPlan.l0] at h, fun _ _ _ _ _ _ _ _ _ r h => by simp [spec_l10IsPlan.l1] at h, fun _ _ _ r h => by simp [spec_l10IsPlan.l2] at h, fun _ _ _ _ r h => by simp [spec_l10IsPlan.l3] at h⟩
 | k + 1 => by
  obtain ⟨ih0, ih1, ih2, ih3⟩ := spec_l10IsPlan.mono_l k; refine ⟨?_, ?_, ?_, ?_⟩
  ·intro y0 y1 y2 y3; unfold spec_l10IsPlan.l0
   repeat' first
   | (with_reducible exact ih0 _ _ _ _)
   | (with_reducible exact ih1 _ _ _ _ _ _ _ _ _)
   | (with_reducible exact ih2 _ _ _)
   | (with_reducible exact ih3 _ _ _ _)
   | (with_reducible exact spec_l10Clash.mono _ _ _ _ _ _ _ _)
   | (with_reducible exact LeO.refl _)
   | (with_reducible exact LeO.none _)
   | (with_reducible refine LeO.ite ?_ ?_)
   | (with_reducible refine LeO.bind ?_ (fun _ => ?_))
   | exact ih0 _ _ _ _
   | exact ih1 _ _ _ _ _ _ _ _ _
   | exact ih2 _ _ _
   | exact ih3 _ _ _ _
   | exact spec_l10Clash.mono _ _ _ _ _ _ _ _
   | exact LeO.none _
   | refine LeO.ite ?_ ?_
   | refine LeO.bind ?_ (fun _ => ?_)
  ·intro y0 y1 y2 y3 y4 y5 y6 y7 y8; unfold spec_l10IsPlan.l1
   repeat' first
   | (with_reducible exact ih0 _ _ _ _)
   | (with_reducible exact ih1 _ _ _ _ _ _ _ _ _)
   | (with_reducible exact ih2 _ _ _)
   | (with_reducible exact ih3 _ _ _ _)
   | (with_reducible exact spec_l10Clash.mono _ _ _ _ _ _ _ _)
   | (with_reducible exact LeO.refl _)
   | (with_reducible exact LeO.none _)
   | (with_reducible refine LeO.ite ?_ ?_)
   | (with_reducible refine LeO.bind ?_ (fun _ => ?_))
   | exact ih0 _ _ _ _
   | exact ih1 _ _ _ _ _ _ _ _ _
   | exact ih2 _ _ _
   | exact ih3 _ _ _ _
   | exact spec_l10Clash.mono _ _ _ _ _ _ _ _
   | exact LeO.none _
   | refine LeO.ite ?_ ?_
   | refine LeO.bind ?_ (fun _ => ?_)
  ·intro y0 y1 y2; unfold spec_l10IsPlan.l2
   repeat' first
   | (with_reducible exact ih0 _ _ _ _)
   | (with_reducible exact ih1 _ _ _ _ _ _ _ _ _)
   | (with_reducible exact ih2 _ _ _)
   | (with_reducible exact ih3 _ _ _ _)
   | (with_reducible exact spec_l10Clash.mono _ _ _ _ _ _ _ _)
   | (with_reducible exact LeO.refl _)
   | (with_reducible exact LeO.none _)
   | (with_reducible refine LeO.ite ?_ ?_)
   | (with_reducible refine LeO.bind ?_ (fun _ => ?_))
   | exact ih0 _ _ _ _
   | exact ih1 _ _ _ _ _ _ _ _ _
   | exact ih2 _ _ _
   | exact ih3 _ _ _ _
   | exact spec_l10Clash.mono _ _ _ _ _ _ _ _
   | exact LeO.none _
   | refine LeO.ite ?_ ?_
   | refine LeO.bind ?_ (fun _ => ?_)
  ·intro y0 y1 y2 y3; unfold spec_l10IsPlan.l3
   repeat' first
   | (with_reducible exact ih0 _ _ _ _)
   | (with_reducible exact ih1 _ _ _ _ _ _ _ _ _)
   | (with_reducible exact ih2 _ _ _)
   | (with_reducible exact ih3 _ _ _ _)
   | (with_reducible exact spec_l10Clash.mono _ _ _ _ _ _ _ _)
   | (with_reducible exact LeO.refl _)
   | (with_reducible exact LeO.none _)
   | (with_reducible refine LeO.ite ?_ ?_)
   | (with_reducible refine LeO.bind ?_ (fun _ => ?_))
   | exact ih0 _ _ _ _
   | exact ih1 _ _ _ _ _ _ _ _ _
   | exact ih2 _ _ _
   | exact ih3 _ _ _ _
   | exact spec_l10Clash.mono _ _ _ _ _ _ _ _
   | exact LeO.none _
   | refine LeO.ite ?_ ?_
   | refine LeO.bind ?_ (fun _ => ?_)
theorem spec_l10IsPlan.mono : ∀ a0 a1 k, LeO (spec_l10IsPlan.f k a0 a1) (spec_l10IsPlan.f (k + 1) a0 a1) := by
 intro a0 a1 k; obtain ⟨ih0, ih1, ih2, ih3⟩ := spec_l10IsPlan.mono_l k; unfold spec_l10IsPlan.f
 repeat' first
   | (with_reducible exact ih0 _ _ _ _)
   | (with_reducible exact ih1 _ _ _ _ _ _ _ _ _)
   | (with_reducible exact ih2 _ _ _)
   | (with_reducible exact ih3 _ _ _ _)
   | (with_reducible exact spec_l10Clash.mono _ _ _ _ _ _ _ _)
   | (with_reducible exact LeO.refl _)
   | (with_reducible exact LeO.none _)
   | (with_reducible refine LeO.ite ?_ ?_)
   | (with_reducible refine LeO.bind ?_ (fun _ => ?_))
   | exact ih0 _ _ _ _
   | exact ih1 _ _ _ _ _ _ _ _ _
   | exact ih2 _ _ _
   | exact ih3 _ _ _ _
   | exact spec_l10Clash.mono _ _ _ _ _ _ _ _
   | exact LeO.none _
   | refine LeO.ite ?_ ?_
   | refine LeO.bind ?_ (fun _ => ?_)
def spec_l10IsPlan.T12 : Bool × List (List Nat × List Nat) := (true, [([], []), ([], []), ([0, 1], [0, 1]), ([2], [2]), ([3], [3]), ([3], [3]), ([4, 5, 3], [3, 4, 5]), ([6, 3], [3, 6]), ([7, 3], [3, 7]), ([3], [3]), ([3], [3]), ([9, 10, 3], [3, 9, 10]), ([11, 3], [3, 11]), ([12, 3], [3, 12]), ([3], [3]), ([3], [3]), ([14, 15, 3], [3, 14, 15]), ([13, 16, 3], [3, 13, 16]), ([8, 17, 3], [3, 8, 17]), ([3, 18], [3, 18]), ([19, 3], [19]), ([20], [20]), ([20], [20]), ([21, 22, 20], [20, 21, 22]), ([23, 20], [20, 23]), ([24, 20], [20, 24]), ([20], [20]), ([25, 26, 20, 20], [20, 25, 26]), ([27, 20], [20, 27]), ([20, 28], [20, 28])])
def spec_l10IsPlan.B12 : List Nat := [0, 0, 3, 7, 15, 15, 63, 127, 255, 15, 15, 1551, 3599, 7695, 15, 15, 49167, 130575, 262143, 524287, 1048575, 2097151, 2097151, 8388607, 16777215, 33554431, 2097151, 134217727, 268435455, 536870911]
theorem spec_l10IsPlan.tab12 : rtab .any (opsOf Try.f45 12) = spec_l10IsPlan.T12 := by kernel_rfl
theorem spec_l10IsPlan.bits12 : waitsOk spec_l10IsPlan.T12.2 spec_l10IsPlan.B12 = true := by kernel_rfl
def spec_l10IsPlan.T14 : Bool × List (List Nat × List Nat) := (true, [([], []), ([], []), ([0, 1], [0, 1]), ([2], [2]), ([3], [3]), ([], []), ([], []), ([5, 6], [5, 6]), ([7], [7]), ([8], [8]), ([4, 9], [4, 9]), ([10, 0, 1, 2, 3, 4, 5, 6, 7, 8, 9, 10], [10])])
def spec_l10IsPlan.B14 : List Nat := [0, 0, 3, 7, 15, 0, 0, 96, 224, 480, 1023, 2047]
theorem spec_l10IsPlan.tab14 : rtab .any (opsOf Try.f45 14) = spec_l10IsPlan.T14 := by kernel_rfl
theorem spec_l10IsPlan.bits14 : waitsOk spec_l10IsPlan.T14.2 spec_l10IsPlan.B14 = true := by kernel_rfl
def spec_l10IsPlan.T26 : Bool × List (List Nat × List Nat) := (true, [([], []), ([], []), ([], []), ([1, 2], [1, 2]), ([3], [3]), ([], []), ([], []), ([5, 6], [5, 6]), ([7], [7]), ([0, 4, 8], [0, 4, 8])])
def spec_l10IsPlan.B26 : List Nat := [0, 0, 0, 6, 14, 0, 0, 96, 224, 511]
theorem spec_l10IsPlan.tab26 : rtab .any (opsOf Try.f45 26) = spec_l10IsPlan.T26 := by kernel_rfl
theorem spec_l10IsPlan.bits26 : waitsOk spec_l10IsPlan.T26.2 spec_l10IsPlan.B26 = true := by kernel_rfl
def spec_l10IsPlan.T28 : Bool × List (List Nat × List Nat) := (true, [([], []), ([0], [0]), ([1], [1]), ([2], [2]), ([2], [2]), ([4, 2], [2, 4]), ([3, 5, 2], [2, 3, 5]), ([6, 2], [2, 6]), ([2], [2]), ([2], [2]), ([8, 9, 2], [2, 8, 9]), ([10, 2], [2, 10]), ([7, 11, 2, 2], [2, 7, 11]), ([12, 2], [2, 12]), ([2, 13], [2, 13])])
def spec_l10IsPlan.B28 : List Nat := [0, 1, 3, 7, 7, 23, 63, 127, 7, 7, 775, 1799, 4095, 8191, 16383]
theorem spec_l10IsPlan.tab28 : rtab .any (opsOf Try.f45 28) = spec_l10IsPlan.T28 := by kernel_rfl
theorem spec_l10IsPlan.bits28 : waitsOk spec_l10IsPlan.T28.2 spec_l10IsPlan.B28 = true := by kernel_rfl
set_option maxHeartbeats 8000000 in
set_option maxRecDepth 100000 in
theorem spec_l10IsPlan.calls (k : Nat) (A0 : Option Addr) (c0 : Nat) (l0 : List (S63)) (A1 : Option Addr) (c1 : Nat) (l1 : List (S67)) (r : Bool) (w : World) (hr0 : Kd.C k63 w A0 l0.length l0) (hc0 : l0.length ≤ c0) (hr1 : Kd.C k67 w A1 l1.length l1) (hc1 : l1.length ≤ c1) (h : spec_l10IsPlan.f k l0 l1 = some r) :
  Calls Try.prog 45 #[.slice A0 l0.length c0, .slice A1 l1.length c1] w fun e w' => e = .returned (.bool r) ∧ Below w.heap.size w w' := by
 have hu63 := Try.underlying63; have hu67 := Try.underlying67; have HR0 := Aside0.mk hr0; have HC0 := Aside0.mk hc0; clear hr0 hc0; have HR1 := Aside0.mk hr1; have HC1 := Aside0.mk hc1; clear hr1 hc1; have HB := ak (Below.refl w.heap.size w); have H : (spec_l10IsPlan.l0 k l0 l1 0 0) = some r := h; clear h; have H' := Aside0.mk H; clear H; go_enter Try.func45, Try.ntmps45
 go_wp2
 go_loopg [5, 6] k (fun kq v5 v6 w' => ∃ (x5_1 : Int) (x6_1 : Int), v5 = .int .i64 x5_1 ∧ v6 = .int .i64 x6_1 ∧ Aside0 (spec_l10IsPlan.l0 kq l0 l1 x5_1 x6_1 = some r) ∧ Aside0 (kq ≤ k) ∧ Aside0 (Below w.heap.size w w'))
 case atStart => exact ⟨(0), (0), (by first | rfl | (simp; done) | (simp [*]; done)), (by first | rfl | (simp; done) | (simp [*]; done)), H', ⟨Nat.le_refl _⟩, ⟨by exact vh HB.out⟩⟩
 case round =>
  clear H'; try clear c1
  try clear p2
  obtain ⟨x5_1, x6_1, rfl, rfl, HA, HK1, HB⟩ := hrel; cases gk with
  | zero => exact absurd HA.out (by simp [spec_l10IsPlan.l0])
  | succ k1 =>
   have H := HA.out; clear HA; simp only [spec_l10IsPlan.l0] at H
   by_cases c3 : x6_1 < (l0.length : Int)
   ·rw [if_pos c3] at H
    have c3b0 : decide (x6_1 < (l0.length : Int)) = true := decide_eq_true c3; clear c3; by_cases c4 : 0 ≤ x6_1
    ·rw [if_pos c4] at H
     have c4b0 : decide (0 ≤ x6_1) = true := decide_eq_true c4; clear c4; replace H := Option.bind_eq_some_iff.mp H; obtain ⟨⟨t124, t125⟩, A50, H⟩ := H; replace H : (spec_l10IsPlan.l1 k1 l0 l1 (wrap64 (x5_1 + t124)) x6_1 t124 t125 ((rd_T63 l0 x6_1).f3) 0 0) = some r := H; have A5 := Aside0.mk A50; clear A50; have H' := Aside0.mk H; clear H; have p123 : 0 ≤ (x6_1 : Int) := of_decide_eq_true va; have q123 : x6_1 < (l0.length : Int) := of_decide_eq_true va; obtain ⟨ad123, e123, hx123_0, hx123_1, hx123_2, hx123_3⟩ := at_T63 HR0.out x6_1 p123 q123; cases e123; (try replace hx123_0 := vl HB.out hx123_0); (try replace hx123_1 := vl HB.out hx123_1); (try replace hx123_2 := vl HB.out hx123_2); (try replace hx123_3 := vl HB.out hx123_3); replace p123 := eq_true p123; replace q123 := eq_true q123; go_wp2_with (first | ((with_reducible refine gate_callee (f := 55) rfl ?_); refine goesL_ (some 25) rfl rfl Try.func55 (by kernel_rfl) rfl #[.agg #[.int .i64 ((rd_T63 l0 x6_1).f0), .int .i64 ((rd_T63 l0 x6_1).f1), .int .i64 ((rd_T63 l0 x6_1).f2), .int .i64 ((rd_T63 l0 x6_1).f3)]] rfl vm ?_; (with_reducible refine (spec_l10Steps.calls ((rd_T63 l0 x6_1).f0) ((rd_T63 l0 x6_1).f1) ((rd_T63 l0 x6_1).f2) ((rd_T63 l0 x6_1).f3) t124 t125 _ A5.out).mono ?_); rintro e w6 ⟨rfl, hb⟩; refine ⟨_, rfl, ?_⟩; have n0_ := ak (below_step (vh HB.out) hb); clear HB; have HB := n0_; clear n0_; (try clear hb); (try clear hb2); (try clear hk); (try clear hi); have p126 : 0 ≤ (x6_1 : Int) := of_decide_eq_true va; have q126 : x6_1 < (l0.length : Int) := of_decide_eq_true va; obtain ⟨ad126, e126, hx126_0, hx126_1, hx126_2, hx126_3⟩ := at_T63 HR0.out x6_1 p126 q126; obtain rfl : ad123 = ad126 := (by injection e126); (try replace hx126_0 := vl HB.out hx126_0); (try replace hx126_1 := vl HB.out hx126_1); (try replace hx126_2 := vl HB.out hx126_2); (try replace hx126_3 := vl HB.out hx126_3); replace p126 := eq_true p126; replace q126 := eq_true q126))
     go_loopg [9, 10, 11] k1 (fun kq v9 v10 v11 w' => ∃ (x9_2 : Int) (x10_2 : Int) (x11_2 : Int), v9 = .int .i64 x9_2 ∧ v10 = .int .i64 x10_2 ∧ v11 = .int .i64 x11_2 ∧ Aside0 (spec_l10IsPlan.l1 kq l0 l1 (wrap64 (x5_1 + t124)) x6_1 t124 t125 x9_2 x10_2 x11_2 = some r) ∧ Aside0 (kq ≤ k1) ∧ Aside0 (Below w.heap.size w w'))
     case atStart => exact ⟨((rd_T63 l0 x6_1).f3), (0), (0), (by first | rfl | (simp; done) | (simp [*]; done)), (by first | rfl | (simp; done) | (simp [*]; done)), (by first | rfl | (simp; done) | (simp [*]; done)), H', ⟨Nat.le_refl _⟩, ⟨by exact vh HB.out⟩⟩
     case round =>
      clear H'; try clear c1
      try clear p1
      try clear q1
      try clear hx1
      try clear p2
      try clear c3
      try clear c3b0
      try clear c4
      try clear c4b0
      try clear c5
      try clear p6
      try clear hx123_0
      try clear hx123_1
      try clear hx123_2
      try clear hx123_3
      try clear hx126_0
      try clear hx126_1
      try clear hx126_2
      try clear hx126_3
      try clear p123
      try clear p126
      try clear p2
      try clear q123
      try clear q126
      obtain ⟨x9_2, x10_2, x11_2, rfl, rfl, rfl, HA, HK2, HB⟩ := hrel; cases gk with
      | zero => exact absurd HA.out (by simp [spec_l10IsPlan.l1])
      | succ k2 =>
       have H := HA.out; clear HA; simp only [spec_l10IsPlan.l1] at H
       by_cases c7 : x11_2 < (l1.length : Int)
       ·rw [if_pos c7] at H
        have c7b0 : decide (x11_2 < (l1.length : Int)) = true := decide_eq_true c7; clear c7; by_cases c8 : 0 ≤ x11_2
        ·rw [if_pos c8] at H
         have c8b0 : decide (0 ≤ x11_2) = true := decide_eq_true c8; clear c8; by_cases c9 : ((rd_T67 l1 x11_2).f0) = x6_1
         ·rw [if_pos c9] at H
          have c9b0 : (((rd_T67 l1 x11_2).f0) == x6_1) = true := beq_iff_eq.mpr c9; have c9b1 : (((rd_T67 l1 x11_2).f0) != x6_1) = false := bne_eq_false_iff_eq.mpr c9; clear c9; by_cases c10 : x10_2 ≥ t124
          ·rw [if_pos c10] at H
           have c10b0 : decide (t124 ≤ x10_2) = true := decide_eq_true c10; clear c10; obtain rfl := Option.some.inj H; have p127 : 0 ≤ (x11_2 : Int) := of_decide_eq_true va; have q127 : x11_2 < (l1.length : Int) := of_decide_eq_true va; obtain ⟨ad127, e127, hx127_0, hx127_1, hx127_2⟩ := at_T67 HR1.out x11_2 p127 q127; cases e127; (try replace hx127_0 := vl HB.out hx127_0); (try replace hx127_1 := vl HB.out hx127_1); (try replace hx127_2 := vl HB.out hx127_2); replace p127 := eq_true p127; replace q127 := eq_true q127; try go_wp2
           have n0_ := ak (below_drew1 HB.out); clear HB; have HB := n0_; clear n0_; refine start_ (n := 30) (S := fun w' => True) (ds := []) #[false, false, false, false, false, false, false, false, false, false, false, false, false, false, false, false, false, false, false, false, false, false, false, false, false, false, false, false, false, false] (by kernel_rfl) rfl rfl trivial (fun hHeld => ?_); refine with_tabW spec_l10IsPlan.tab12 spec_l10IsPlan.bits12 (fun HT_ HW_ => ?_); generalize wr.drew = w11 at HB hHeld ⊢
           refine px 0 49 #[true, false, false, false, false, false, false, false, false, false, false, false, false, false, false, false, false, false, false, false, false, false, false, false, false, false, false, false, false, false] rfl HT_.out ?_ (.inl ⟨by rfl, ?_⟩) ?_ ?_ ?_; rotate_left
           ·intro w'; go_simp; with_reducible rfl
           rotate_left
           ·simp only [ap1, ap2, ap3, ap4, i64_w, i32_w]; rfl
           refine px 1 50 #[true, true, false, false, false, false, false, false, false, false, false, false, false, false, false, false, false, false, false, false, false, false, false, false, false, false, false, false, false, false] rfl HT_.out ?_ (.inl ⟨by rfl, ?_⟩) ?_ ?_ ?_; rotate_left
           ·intro w'; go_simp; with_reducible rfl
           rotate_left
           ·simp only [ap1, ap2, ap3, ap4, i64_w, i32_w]; rfl
           refine px 2 51 #[true, true, true, false, false, false, false, false, false, false, false, false, false, false, false, false, false, false, false, false, false, false, false, false, false, false, false, false, false, false] rfl HT_.out ?_ (.inl ⟨by rfl, ?_⟩) ?_ ?_ ?_; rotate_left
           ·intro w'; go_simp; with_reducible rfl
           rotate_left
           ·simp only [ap1, ap2, ap3, ap4, i64_w, i32_w]; rfl
           refine px 3 52 #[true, true, true, true, false, false, false, false, false, false, false, false, false, false, false, false, false, false, false, false, false, false, false, false, false, false, false, false, false, false] rfl HT_.out ?_ (.inl ⟨by rfl, ?_⟩) ?_ ?_ ?_; rotate_left
           ·intro w'; go_simp; with_reducible rfl
           rotate_left
           ·simp only [ap1, ap2, ap3, ap4, i64_w, i32_w]; rfl
           refine pure_ (i := 4) (N := some 53) (v := undef) (a' := ?_) #[true, true, true, true, true, false, false, false, false, false, false, false, false, false, false, false, false, false, false, false, false, false, false, false, false, false, false, false, false, false] rfl rfl (ao HT_.out) (fun _ _ _ h => h) (Or.inr ⟨by rfl, rfl⟩) ?_ ?_; rotate_left
           ·simp only [ap1, ap2, ap3, ap4, i64_w, i32_w]; rfl
           refine pure_ (i := 5) (N := some 54) (v := undef) (a' := ?_) #[true, true, true, true, true, true, false, false, false, false, false, false, false, false, false, false, false, false, false, false, false, false, false, false, false, false, false, false, false, false] rfl rfl (ao HT_.out) (fun _ _ _ h => h) (Or.inr ⟨by rfl, rfl⟩) ?_ ?_; rotate_left
           ·simp only [ap1, ap2, ap3, ap4, i64_w, i32_w]; rfl
           refine pure_ (i := 6) (N := some 55) (v := undef) (a' := ?_) #[true, true, true, true, true, true, true, false, false, false, false, false, false, false, false, false, false, false, false, false, false, false, false, false, false, false, false, false, false, false] rfl rfl (ao HT_.out) (fun _ _ _ h => h) (Or.inr ⟨by rfl, rfl⟩) ?_ ?_; rotate_left
           ·simp only [ap1, ap2, ap3, ap4, i64_w, i32_w]; rfl
           refine pure_ (i := 7) (N := some 56) (v := undef) (a' := ?_) #[true, true, true, true, true, true, true, true, false, false, false, false, false, false, false, false, false, false, false, false, false, false, false, false, false, false, false, false, false, false] rfl rfl (ao HT_.out) (fun _ _ _ h => h) (Or.inr ⟨by rfl, rfl⟩) ?_ ?_; rotate_left
           ·simp only [ap1, ap2, ap3, ap4, i64_w, i32_w]; rfl
           refine pure_ (i := 8) (N := some 57) (v := undef) (a' := ?_) #[true, true, true, true, true, true, true, true, true, false, false, false, false, false, false, false, false, false, false, false, false, false, false, false, false, false, false, false, false, false] rfl rfl (ao HT_.out) (fun _ _ _ h => h) (Or.inr ⟨by rfl, rfl⟩) ?_ ?_; rotate_left
           ·simp only [ap1, ap2, ap3, ap4, i64_w, i32_w]; rfl
           refine pure_ (i := 9) (N := some 58) (v := undef) (a' := ?_) #[true, true, true, true, true, true, true, true, true, true, false, false, false, false, false, false, false, false, false, false, false, false, false, false, false, false, false, false, false, false] rfl rfl (ao HT_.out) (fun _ _ _ h => h) (Or.inr ⟨by rfl, rfl⟩) ?_ ?_; rotate_left
           ·simp only [ap1, ap2, ap3, ap4, i64_w, i32_w]; rfl
           refine pure_ (i := 10) (N := some 59) (v := undef) (a' := ?_) #[true, true, true, true, true, true, true, true, true, true, true, false, false, false, false, false, false, false, false, false, false, false, false, false, false, false, false, false, false, false] rfl rfl (ao HT_.out) (fun _ _ _ h => h) (Or.inr ⟨by rfl, rfl⟩) ?_ ?_; rotate_left
           ·simp only [ap1, ap2, ap3, ap4, i64_w, i32_w]; rfl
           refine pure_ (i := 11) (N := some 60) (v := undef) (a' := ?_) #[true, true, true, true, true, true, true, true, true, true, true, true, false, false, false, false, false, false, false, false, false, false, false, false, false, false, false, false, false, false] rfl rfl (ao HT_.out) (fun _ _ _ h => h) (Or.inr ⟨by rfl, rfl⟩) ?_ ?_; rotate_left
           ·simp only [ap1, ap2, ap3, ap4, i64_w, i32_w]; rfl
           refine pure_ (i := 12) (N := some 61) (v := undef) (a' := ?_) #[true, true, true, true, true, true, true, true, true, true, true, true, true, false, false, false, false, false, false, false, false, false, false, false, false, false, false, false, false, false] rfl rfl (ao HT_.out) (fun _ _ _ h => h) (Or.inr ⟨by rfl, rfl⟩) ?_ ?_; rotate_left
           ·simp only [ap1, ap2, ap3, ap4, i64_w, i32_w]; rfl
           refine pure_ (i := 13) (N := some 62) (v := undef) (a' := ?_) #[true, true, true, true, true, true, true, true, true, true, true, true, true, true, false, false, false, false, false, false, false, false, false, false, false, false, false, false, false, false] rfl rfl (ao HT_.out) (fun _ _ _ h => h) (Or.inr ⟨by rfl, rfl⟩) ?_ ?_; rotate_left
           ·simp only [ap1, ap2, ap3, ap4, i64_w, i32_w]; rfl
           refine pure_ (i := 14) (N := some 63) (v := undef) (a' := ?_) #[true, true, true, true, true, true, true, true, true, true, true, true, true, true, true, false, false, false, false, false, false, false, false, false, false, false, false, false, false, false] rfl rfl (ao HT_.out) (fun _ _ _ h => h) (Or.inr ⟨by rfl, rfl⟩) ?_ ?_; rotate_left
           ·simp only [ap1, ap2, ap3, ap4, i64_w, i32_w]; rfl
           refine pure_ (i := 15) (N := some 64) (v := undef) (a' := ?_) #[true, true, true, true, true, true, true, true, true, true, true, true, true, true, true, true, false, false, false, false, false, false, false, false, false, false, false, false, false, false] rfl rfl (ao HT_.out) (fun _ _ _ h => h) (Or.inr ⟨by rfl, rfl⟩) ?_ ?_; rotate_left
           ·simp only [ap1, ap2, ap3, ap4, i64_w, i32_w]; rfl
           refine pure_ (i := 16) (N := some 65) (v := undef) (a' := ?_) #[true, true, true, true, true, true, true, true, true, true, true, true, true, true, true, true, true, false, false, false, false, false, false, false, false, false, false, false, false, false] rfl rfl (ao HT_.out) (fun _ _ _ h => h) (Or.inr ⟨by rfl, rfl⟩) ?_ ?_; rotate_left
           ·simp only [ap1, ap2, ap3, ap4, i64_w, i32_w]; rfl
           refine pure_ (i := 17) (N := some 66) (v := undef) (a' := ?_) #[true, true, true, true, true, true, true, true, true, true, true, true, true, true, true, true, true, true, false, false, false, false, false, false, false, false, false, false, false, false] rfl rfl (ao HT_.out) (fun _ _ _ h => h) (Or.inr ⟨by rfl, rfl⟩) ?_ ?_; rotate_left
           ·simp only [ap1, ap2, ap3, ap4, i64_w, i32_w]; rfl
           refine pure_ (i := 18) (N := some 67) (v := undef) (a' := ?_) #[true, true, true, true, true, true, true, true, true, true, true, true, true, true, true, true, true, true, true, false, false, false, false, false, false, false, false, false, false, false] rfl rfl (ao HT_.out) (fun _ _ _ h => h) (Or.inr ⟨by rfl, rfl⟩) ?_ ?_; rotate_left
           ·simp only [ap1, ap2, ap3, ap4, i64_w, i32_w]; rfl
           refine px 19 68 #[true, true, true, true, true, true, true, true, true, true, true, true, true, true, true, true, true, true, true, true, false, false, false, false, false, false, false, false, false, false] rfl HT_.out ?_ (.inl ⟨by rfl, ?_⟩) ?_ ?_ ?_; rotate_left
           ·intro w'; go_simp; with_reducible rfl
           rotate_left
           ·simp only [ap1, ap2, ap3, ap4, i64_w, i32_w]; rfl
           refine px 20 69 #[true, true, true, true, true, true, true, true, true, true, true, true, true, true, true, true, true, true, true, true, true, false, false, false, false, false, false, false, false, false] rfl HT_.out ?_ (.inl ⟨by rfl, ?_⟩) ?_ ?_ ?_; rotate_left
           ·intro w'; go_simp; with_reducible rfl
           rotate_left
           ·simp only [ap1, ap2, ap3, ap4, i64_w, i32_w]; rfl
           refine pure_ (i := 21) (N := some 70) (v := undef) (a' := ?_) #[true, true, true, true, true, true, true, true, true, true, true, true, true, true, true, true, true, true, true, true, true, true, false, false, false, false, false, false, false, false] rfl rfl (ao HT_.out) (fun _ _ _ h => h) (Or.inr ⟨by rfl, rfl⟩) ?_ ?_; rotate_left
           ·simp only [ap1, ap2, ap3, ap4, i64_w, i32_w]; rfl
           refine pure_ (i := 22) (N := some 71) (v := undef) (a' := ?_) #[true, true, true, true, true, true, true, true, true, true, true, true, true, true, true, true, true, true, true, true, true, true, true, false, false, false, false, false, false, false] rfl rfl (ao HT_.out) (fun _ _ _ h => h) (Or.inr ⟨by rfl, rfl⟩) ?_ ?_; rotate_left
           ·simp only [ap1, ap2, ap3, ap4, i64_w, i32_w]; rfl
           refine pure_ (i := 23) (N := some 72) (v := undef) (a' := ?_) #[true, true, true, true, true, true, true, true, true, true, true, true, true, true, true, true, true, true, true, true, true, true, true, true, false, false, false, false, false, false] rfl rfl (ao HT_.out) (fun _ _ _ h => h) (Or.inr ⟨by rfl, rfl⟩) ?_ ?_; rotate_left
           ·simp only [ap1, ap2, ap3, ap4, i64_w, i32_w]; rfl
           refine pure_ (i := 24) (N := some 73) (v := undef) (a' := ?_) #[true, true, true, true, true, true, true, true, true, true, true, true, true, true, true, true, true, true, true, true, true, true, true, true, true, false, false, false, false, false] rfl rfl (ao HT_.out) (fun _ _ _ h => h) (Or.inr ⟨by rfl, rfl⟩) ?_ ?_; rotate_left
           ·simp only [ap1, ap2, ap3, ap4, i64_w, i32_w]; rfl
           refine pure_ (i := 25) (N := some 74) (v := undef) (a' := ?_) #[true, true, true, true, true, true, true, true, true, true, true, true, true, true, true, true, true, true, true, true, true, true, true, true, true, true, false, false, false, false] rfl rfl (ao HT_.out) (fun _ _ _ h => h) (Or.inr ⟨by rfl, rfl⟩) ?_ ?_; rotate_left
           ·simp only [ap1, ap2, ap3, ap4, i64_w, i32_w]; rfl
           refine pure_ (i := 26) (N := some 75) (v := undef) (a' := ?_) #[true, true, true, true, true, true, true, true, true, true, true, true, true, true, true, true, true, true, true, true, true, true, true, true, true, true, true, false, false, false] rfl rfl (ao HT_.out) (fun _ _ _ h => h) (Or.inr ⟨by rfl, rfl⟩) ?_ ?_; rotate_left
           ·simp only [ap1, ap2, ap3, ap4, i64_w, i32_w]; rfl
           refine pure_ (i := 27) (N := some 76) (v := undef) (a' := ?_) #[true, true, true, true, true, true, true, true, true, true, true, true, true, true, true, true, true, true, true, true, true, true, true, true, true, true, true, true, false, false] rfl rfl (ao HT_.out) (fun _ _ _ h => h) (Or.inr ⟨by rfl, rfl⟩) ?_ ?_; rotate_left
           ·simp only [ap1, ap2, ap3, ap4, i64_w, i32_w]; rfl
           refine pure_ (i := 28) (N := some 77) (v := undef) (a' := ?_) #[true, true, true, true, true, true, true, true, true, true, true, true, true, true, true, true, true, true, true, true, true, true, true, true, true, true, true, true, true, false] rfl rfl (ao HT_.out) (fun _ _ _ h => h) (Or.inr ⟨by rfl, rfl⟩) ?_ ?_; rotate_left
           ·simp only [ap1, ap2, ap3, ap4, i64_w, i32_w]; rfl
           refine px 29 78 #[true, true, true, true, true, true, true, true, true, true, true, true, true, true, true, true, true, true, true, true, true, true, true, true, true, true, true, true, true, true] rfl HT_.out ?_ (.inl ⟨by rfl, ?_⟩) ?_ ?_ ?_; rotate_left
           ·intro w'; go_simp; with_reducible rfl
           rotate_left
           ·simp only [ap1, ap2, ap3, ap4, i64_w, i32_w]; rfl
           refine done_ (done_of HT_.out (by kernel_rfl)) ?_; try go_wp2
           go_ret
           exact ⟨by first | rfl | (simp [errW_none, errW_some] <;> rfl) | (simp [*, errW_none, errW_some] <;> rfl), by exact vh HB.out⟩
          ·rw [if_neg c10] at H
           have c10b0 : decide (t124 ≤ x10_2) = false := decide_eq_false c10; clear c10; by_cases c12 : 0 ≤ x6_1
           ·rw [if_pos c12] at H
            have c12b0 : decide (0 ≤ x6_1) = true := decide_eq_true c12; clear c12; by_cases c13 : x6_1 < (l0.length : Int)
            ·rw [if_pos c13] at H
             have c13b0 : decide (x6_1 < (l0.length : Int)) = true := decide_eq_true c13; clear c13; by_cases c14 : ((rd_T67 l1 x11_2).f1) = (wrap64 (((rd_T63 l0 x6_1).f0) + (wrap64 (t125 * x10_2))))
             ·rw [if_pos c14] at H
              have c14b0 : (((rd_T67 l1 x11_2).f1) == (wrap64 (((rd_T63 l0 x6_1).f0) + (wrap64 (t125 * x10_2))))) = true := beq_iff_eq.mpr c14; have c14b1 : (((rd_T67 l1 x11_2).f1) != (wrap64 (((rd_T63 l0 x6_1).f0) + (wrap64 (t125 * x10_2))))) = false := bne_eq_false_iff_eq.mpr c14; clear c14; replace H := Option.bind_eq_some_iff.mp H; obtain ⟨t131, A150, H⟩ := H; replace H : (if t131 = true then (spec_l10IsPlan.l1 k2 l0 l1 (wrap64 (x5_1 + t124)) x6_1 t124 t125 (wrap64 (((rd_T67 l1 x11_2).f2) + ((rd_T63 l0 x6_1).f2))) (wrap64 (x10_2 + 1)) (wrap64 (x11_2 + 1))) else (some false)) = some r := H; have A15 := Aside0.mk A150; clear A150; by_cases c16 : t131 = true
              ·subst c16; have H1 : (spec_l10IsPlan.l1 k2 l0 l1 (wrap64 (x5_1 + t124)) x6_1 t124 t125 (wrap64 (((rd_T67 l1 x11_2).f2) + ((rd_T63 l0 x6_1).f2))) (wrap64 (x10_2 + 1)) (wrap64 (x11_2 + 1))) = some r := by rw [if_pos rfl] at H; first | exact H | (simp only [if_true, eq_self] at H ⊢; exact H)
               clear H; have H := H1; clear H1; have H' := Aside0.mk H; clear H; have p127 : 0 ≤ (x11_2 : Int) := of_decide_eq_true va; have q127 : x11_2 < (l1.length : Int) := of_decide_eq_true va; obtain ⟨ad127, e127, hx127_0, hx127_1, hx127_2⟩ := at_T67 HR1.out x11_2 p127 q127; cases e127; (try replace hx127_0 := vl HB.out hx127_0); (try replace hx127_1 := vl HB.out hx127_1); (try replace hx127_2 := vl HB.out hx127_2); replace p127 := eq_true p127; replace q127 := eq_true q127; try go_wp2
               have n0_ := ak (below_drew1 HB.out); clear HB; have HB := n0_; clear n0_; have p128 : 0 ≤ (x11_2 : Int) := of_decide_eq_true va; have q128 : x11_2 < (l1.length : Int) := of_decide_eq_true va; obtain ⟨ad128, e128, hx128_0, hx128_1, hx128_2⟩ := at_T67 HR1.out x11_2 p128 q128; have hw128_2 := hx128_2; have hw128_1 := hx128_1; have hw128_0 := hx128_0; obtain rfl : ad127 = ad128 := (by injection e128); (try replace hx128_0 := vl HB.out hx128_0); (try replace hx128_1 := vl HB.out hx128_1); (try replace hx128_2 := vl HB.out hx128_2); replace p128 := eq_true p128; replace q128 := eq_true q128; have p129 : 0 ≤ (x6_1 : Int) := of_decide_eq_true va; have q129 : x6_1 < (l0.length : Int) := of_decide_eq_true va; obtain ⟨ad129, e129, hx129_0, hx129_1, hx129_2, hx129_3⟩ := at_T63 HR0.out x6_1 p129 q129; have hw129_3 := hx129_3; have hw129_2 := hx129_2; have hw129_1 := hx129_1; have hw129_0 := hx129_0; obtain rfl : ad123 = ad129 := (by injection e129); (try replace hx129_0 := vl HB.out hx129_0); (try replace hx129_1 := vl HB.out hx129_1); (try replace hx129_2 := vl HB.out hx129_2); (try replace hx129_3 := vl HB.out hx129_3); replace p129 := eq_true p129; replace q129 := eq_true q129; have p130 : 0 ≤ (x11_2 : Int) := of_decide_eq_true va; have q130 : x11_2 < (l1.length : Int) := of_decide_eq_true va; obtain ⟨ad130, e130, hx130_0, hx130_1, hx130_2⟩ := at_T67 HR1.out x11_2 p130 q130; have hw130_2 := hx130_2; have hw130_1 := hx130_1; have hw130_0 := hx130_0; obtain rfl : ad127 = ad130 := (by injection e130); (try replace hx130_0 := vl HB.out hx130_0); (try replace hx130_1 := vl HB.out hx130_1); (try replace hx130_2 := vl HB.out hx130_2); replace p130 := eq_true p130; replace q130 := eq_true q130; refine start_ (n := 30) (S := fun w' => w'.cell? (ad127.add ((x11_2).toNat * 3)) = some (.int .i64 ((rd_T67 l1 x11_2).f0)) ∧ w'.cell? ⟨(ad127.add ((x11_2).toNat * 3)).block, (ad127.add ((x11_2).toNat * 3)).off + 1, none⟩ = some (.int .i64 ((rd_T67 l1 x11_2).f1)) ∧ w'.cell? ⟨(ad127.add ((x11_2).toNat * 3)).block, (ad127.add ((x11_2).toNat * 3)).off + 2, none⟩ = some (.int .i64 ((rd_T67 l1 x11_2).f2)) ∧ w'.cell? (ad123.add ((x6_1).toNat * 4)) = some (.int .i64 ((rd_T63 l0 x6_1).f0)) ∧ w'.cell? ⟨(ad123.add ((x6_1).toNat * 4)).block, (ad123.add ((x6_1).toNat * 4)).off + 1, none⟩ = some (.int .i64 ((rd_T63 l0 x6_1).f1)) ∧ w'.cell? ⟨(ad123.add ((x6_1).toNat * 4)).block, (ad123.add ((x6_1).toNat * 4)).off + 2, none⟩ = some (.int .i64 ((rd_T63 l0 x6_1).f2)) ∧ w'.cell? ⟨(ad123.add ((x6_1).toNat * 4)).block, (ad123.add ((x6_1).toNat * 4)).off + 3, none⟩ = some (.int .i64 ((rd_T63 l0 x6_1).f3)) ∧ w'.cell? (ad127.add ((x11_2).toNat * 3)) = some (.int .i64 ((rd_T67 l1 x11_2).f0)) ∧ w'.cell? ⟨(ad127.add ((x11_2).toNat * 3)).block, (ad127.add ((x11_2).toNat * 3)).off + 1, none⟩ = some (.int .i64 ((rd_T67 l1 x11_2).f1)) ∧ w'.cell? ⟨(ad127.add ((x11_2).toNat * 3)).block, (ad127.add ((x11_2).toNat * 3)).off + 2, none⟩ = some (.int .i64 ((rd_T67 l1 x11_2).f2))) (ds := []) #[false, false, false, false, false, false, false, false, false, false, false, false, false, false, false, false, false, false, false, false, false, false, false, false, false, false, false, false, false, false] (by kernel_rfl) rfl rfl ⟨(vl HB.out hw128_0 :), (vl HB.out hw128_1 :), (vl HB.out hw128_2 :), (vl HB.out hw129_0 :), (vl HB.out hw129_1 :), (vl HB.out hw129_2 :), (vl HB.out hw129_3 :), (vl HB.out hw130_0 :), (vl HB.out hw130_1 :), (vl HB.out hw130_2 :)⟩ (fun hHeld => ?_); refine with_tabW spec_l10IsPlan.tab12 spec_l10IsPlan.bits12 (fun HT_ HW_ => ?_); generalize wr.drew = w17 at HB hx128_0 hx128_1 hx128_2 hx129_0 hx129_1 hx129_2 hx129_3 hx130_0 hx130_1 hx130_2 hHeld ⊢
               refine px 0 49 #[true, false, false, false, false, false, false, false, false, false, false, false, false, false, false, false, false, false, false, false, false, false, false, false, false, false, false, false, false, false] rfl HT_.out ?_ (.inl ⟨by rfl, ?_⟩) ?_ ?_ ?_; rotate_left
               ·intro w'; go_simp; with_reducible rfl
               rotate_left
               ·simp only [ap1, ap2, ap3, ap4, i64_w, i32_w]; rfl
               refine px 1 50 #[true, true, false, false, false, false, false, false, false, false, false, false, false, false, false, false, false, false, false, false, false, false, false, false, false, false, false, false, false, false] rfl HT_.out ?_ (.inl ⟨by rfl, ?_⟩) ?_ ?_ ?_; rotate_left
               ·intro w'; go_simp; with_reducible rfl
               rotate_left
               ·simp only [ap1, ap2, ap3, ap4, i64_w, i32_w]; rfl
               refine px 2 51 #[true, true, true, false, false, false, false, false, false, false, false, false, false, false, false, false, false, false, false, false, false, false, false, false, false, false, false, false, false, false] rfl HT_.out ?_ (.inl ⟨by rfl, ?_⟩) ?_ ?_ ?_; rotate_left
               ·intro w'; go_simp; with_reducible rfl
               rotate_left
               ·simp only [ap1, ap2, ap3, ap4, i64_w, i32_w]; rfl
               refine px 3 52 #[true, true, true, true, false, false, false, false, false, false, false, false, false, false, false, false, false, false, false, false, false, false, false, false, false, false, false, false, false, false] rfl HT_.out ?_ (.inl ⟨by rfl, ?_⟩) ?_ ?_ ?_; rotate_left
               ·intro w'; go_simp; with_reducible rfl
               rotate_left
               ·simp only [ap1, ap2, ap3, ap4, i64_w, i32_w]; rfl
               refine px 4 53 #[true, true, true, true, true, false, false, false, false, false, false, false, false, false, false, false, false, false, false, false, false, false, false, false, false, false, false, false, false, false] rfl HT_.out ?_ (.inl ⟨by rfl, ?_⟩) ?_ ?_ ?_; rotate_left
               ·intro w'; go_simp; with_reducible rfl
               rotate_left
               ·simp only [ap1, ap2, ap3, ap4, i64_w, i32_w]; rfl
               refine px 5 54 #[true, true, true, true, true, true, false, false, false, false, false, false, false, false, false, false, false, false, false, false, false, false, false, false, false, false, false, false, false, false] rfl HT_.out ?_ (.inl ⟨by rfl, ?_⟩) ?_ ?_ ?_; rotate_left
               ·intro w'; go_simp; with_reducible rfl
               rotate_left
               ·simp only [ap1, ap2, ap3, ap4, i64_w, i32_w]; rfl
               refine px 6 55 #[true, true, true, true, true, true, true, false, false, false, false, false, false, false, false, false, false, false, false, false, false, false, false, false, false, false, false, false, false, false] rfl HT_.out ?_ (.inl ⟨by rfl, ?_⟩) ?_ ?_ ?_; rotate_left
               ·intro w'; go_simp; with_reducible rfl
               rotate_left
               ·simp only [ap1, ap2, ap3, ap4, i64_w, i32_w]; rfl
               refine px 7 56 #[true, true, true, true, true, true, true, true, false, false, false, false, false, false, false, false, false, false, false, false, false, false, false, false, false, false, false, false, false, false] rfl HT_.out ?_ (.inl ⟨by rfl, ?_⟩) ?_ ?_ ?_; rotate_left
               ·intro w'; go_simp; with_reducible rfl
               rotate_left
               ·simp only [ap1, ap2, ap3, ap4, i64_w, i32_w]; rfl
               refine px 9 58 #[true, true, true, true, true, true, true, true, false, true, false, false, false, false, false, false, false, false, false, false, false, false, false, false, false, false, false, false, false, false] rfl HT_.out ?_ (.inl ⟨by rfl, ?_⟩) ?_ ?_ ?_; rotate_left
               ·intro w'; go_simp; with_reducible rfl
               rotate_left
               ·simp only [ap1, ap2, ap3, ap4, i64_w, i32_w]; rfl
               refine px 10 59 #[true, true, true, true, true, true, true, true, false, true, true, false, false, false, false, false, false, false, false, false, false, false, false, false, false, false, false, false, false, false] rfl HT_.out ?_ (.inl ⟨by rfl, ?_⟩) ?_ ?_ ?_; rotate_left
               ·intro w'; go_simp; with_reducible rfl
               rotate_left
               ·simp only [ap1, ap2, ap3, ap4, i64_w, i32_w]; rfl
               refine px 11 60 #[true, true, true, true, true, true, true, true, false, true, true, true, false, false, false, false, false, false, false, false, false, false, false, false, false, false, false, false, false, false] rfl HT_.out ?_ (.inl ⟨by rfl, ?_⟩) ?_ ?_ ?_; rotate_left
               ·intro w'; go_simp; with_reducible rfl
               rotate_left
               ·simp only [ap1, ap2, ap3, ap4, i64_w, i32_w]; rfl
               refine px 12 61 #[true, true, true, true, true, true, true, true, false, true, true, true, true, false, false, false, false, false, false, false, false, false, false, false, false, false, false, false, false, false] rfl HT_.out ?_ (.inl ⟨by rfl, ?_⟩) ?_ ?_ ?_; rotate_left
               ·intro w'; go_simp; with_reducible rfl
               rotate_left
               ·simp only [ap1, ap2, ap3, ap4, i64_w, i32_w]; rfl
               refine px 14 63 #[true, true, true, true, true, true, true, true, false, true, true, true, true, false, true, false, false, false, false, false, false, false, false, false, false, false, false, false, false, false] rfl HT_.out ?_ (.inl ⟨by rfl, ?_⟩) ?_ ?_ ?_; rotate_left
               ·intro w'; go_simp; with_reducible rfl
               rotate_left
               ·simp only [ap1, ap2, ap3, ap4, i64_w, i32_w]; rfl
               refine px 15 64 #[true, true, true, true, true, true, true, true, false, true, true, true, true, false, true, true, false, false, false, false, false, false, false, false, false, false, false, false, false, false] rfl HT_.out ?_ (.inl ⟨by rfl, ?_⟩) ?_ ?_ ?_; rotate_left
               ·intro w'; go_simp; with_reducible rfl
               rotate_left
               ·simp only [ap1, ap2, ap3, ap4, i64_w, i32_w]; rfl
               refine px 16 65 #[true, true, true, true, true, true, true, true, false, true, true, true, true, false, true, true, true, false, false, false, false, false, false, false, false, false, false, false, false, false] rfl HT_.out ?_ (.inl ⟨by rfl, ?_⟩) ?_ ?_ ?_; rotate_left
               ·intro w'; go_simp; with_reducible rfl
               rotate_left
               ·simp only [ap1, ap2, ap3, ap4, i64_w, i32_w]; rfl
               refine tx 8 57 #[true, true, true, true, true, true, true, true, true, true, true, true, true, false, true, true, true, false, false, false, false, false, false, false, false, false, false, false, false, false] rfl HT_.out HW_.out hHeld ?_ (.inl ⟨by rfl, ?_⟩) ?_ ?_ ?_; rotate_left
               ·rintro w' ⟨s0, s1, s2, s3, s4, s5, s6, s7, s8, s9⟩; go_simp; with_reducible rfl
               rotate_left
               ·simp only [ap1, ap2, ap3, ap4, i64_w, i32_w]; rfl
               refine tx 13 62 #[true, true, true, true, true, true, true, true, true, true, true, true, true, true, true, true, true, false, false, false, false, false, false, false, false, false, false, false, false, false] rfl HT_.out HW_.out hHeld ?_ (.inl ⟨by rfl, ?_⟩) ?_ ?_ ?_; rotate_left
               ·rintro w' ⟨s0, s1, s2, s3, s4, s5, s6, s7, s8, s9⟩; go_simp; with_reducible rfl
               rotate_left
               ·simp only [ap1, ap2, ap3, ap4, i64_w, i32_w]; rfl
               refine px 17 66 #[true, true, true, true, true, true, true, true, true, true, true, true, true, true, true, true, true, true, false, false, false, false, false, false, false, false, false, false, false, false] rfl HT_.out ?_ (.inl ⟨by rfl, ?_⟩) ?_ ?_ ?_; rotate_left
               ·intro w'; go_simp; with_reducible rfl
               rotate_left
               ·simp only [ap1, ap2, ap3, ap4, i64_w, i32_w]; rfl
               refine px 18 67 #[true, true, true, true, true, true, true, true, true, true, true, true, true, true, true, true, true, true, true, false, false, false, false, false, false, false, false, false, false, false] rfl HT_.out ?_ (.inl ⟨by rfl, ?_⟩) ?_ ?_ ?_; rotate_left
               ·intro w'; go_simp; with_reducible rfl
               rotate_left
               ·simp only [ap1, ap2, ap3, ap4, i64_w, i32_w]; rfl
               refine px 19 68 #[true, true, true, true, true, true, true, true, true, true, true, true, true, true, true, true, true, true, true, true, false, false, false, false, false, false, false, false, false, false] rfl HT_.out ?_ (.inl ⟨by rfl, ?_⟩) ?_ ?_ ?_; rotate_left
               ·intro w'; go_simp; with_reducible rfl
               rotate_left
               ·simp only [ap1, ap2, ap3, ap4, i64_w, i32_w]; rfl
               refine px 20 69 #[true, true, true, true, true, true, true, true, true, true, true, true, true, true, true, true, true, true, true, true, true, false, false, false, false, false, false, false, false, false] rfl HT_.out ?_ (.inl ⟨by rfl, ?_⟩) ?_ ?_ ?_; rotate_left
               ·intro w'; go_simp; with_reducible rfl
               rotate_left
               ·simp only [ap1, ap2, ap3, ap4, i64_w, i32_w]; rfl
               refine px 21 70 #[true, true, true, true, true, true, true, true, true, true, true, true, true, true, true, true, true, true, true, true, true, true, false, false, false, false, false, false, false, false] rfl HT_.out ?_ (.inl ⟨by rfl, ?_⟩) ?_ ?_ ?_; rotate_left
               ·intro w'; go_simp; with_reducible rfl
               rotate_left
               ·simp only [ap1, ap2, ap3, ap4, i64_w, i32_w]; rfl
               refine px 22 71 #[true, true, true, true, true, true, true, true, true, true, true, true, true, true, true, true, true, true, true, true, true, true, true, false, false, false, false, false, false, false] rfl HT_.out ?_ (.inl ⟨by rfl, ?_⟩) ?_ ?_ ?_; rotate_left
               ·intro w'; go_simp; with_reducible rfl
               rotate_left
               ·simp only [ap1, ap2, ap3, ap4, i64_w, i32_w]; rfl
               refine px 23 72 #[true, true, true, true, true, true, true, true, true, true, true, true, true, true, true, true, true, true, true, true, true, true, true, true, false, false, false, false, false, false] rfl HT_.out ?_ (.inl ⟨by rfl, ?_⟩) ?_ ?_ ?_; rotate_left
               ·intro w'; go_simp; with_reducible rfl
               rotate_left
               ·simp only [ap1, ap2, ap3, ap4, i64_w, i32_w]; rfl
               refine px 24 73 #[true, true, true, true, true, true, true, true, true, true, true, true, true, true, true, true, true, true, true, true, true, true, true, true, true, false, false, false, false, false] rfl HT_.out ?_ (.inl ⟨by rfl, ?_⟩) ?_ ?_ ?_; rotate_left
               ·intro w'; go_simp; with_reducible rfl
               rotate_left
               ·simp only [ap1, ap2, ap3, ap4, i64_w, i32_w]; rfl
               refine px 26 75 #[true, true, true, true, true, true, true, true, true, true, true, true, true, true, true, true, true, true, true, true, true, true, true, true, true, false, true, false, false, false] rfl HT_.out ?_ (.inl ⟨by rfl, ?_⟩) ?_ ?_ ?_; rotate_left
               ·intro w'; go_simp; with_reducible rfl
               rotate_left
               ·simp only [ap1, ap2, ap3, ap4, i64_w, i32_w]; rfl
               refine tx 25 74 #[true, true, true, true, true, true, true, true, true, true, true, true, true, true, true, true, true, true, true, true, true, true, true, true, true, true, true, false, false, false] rfl HT_.out HW_.out hHeld ?_ (.inl ⟨by rfl, ?_⟩) ?_ ?_ ?_; rotate_left
               ·rintro w' ⟨s0, s1, s2, s3, s4, s5, s6, s7, s8, s9⟩; go_simp; with_reducible rfl
               rotate_left
               ·simp only [ap1, ap2, ap3, ap4, i64_w, i32_w]; rfl
               refine one_ (i := 27) (N := some 76) #[true, true, true, true, true, true, true, true, true, true, true, true, true, true, true, true, true, true, true, true, true, true, true, true, true, true, true, true, false, false] rfl rfl (one_of HT_.out (by kernel_rfl)) (by decide) (fun K hK => ?_); refine goes_ Try.func30 (by kernel_rfl) rfl #[.int .i64 ((rd_T67 l1 x11_2).f2), .int .i64 x9_2, .int .i64 9999] (by rfl) rfl rfl vm ?_; with_reducible refine (spec_l1In.calls ((rd_T67 l1 x11_2).f2) x9_2 9999 true _ A15.out).mono ?_
               rintro e w' ⟨rfl, ⟨nd, rfl⟩⟩; refine ⟨_, rfl, ?_⟩; refine hK.out _ _ ⟨(vl HB.out hw128_0 :), (vl HB.out hw128_1 :), (vl HB.out hw128_2 :), (vl HB.out hw129_0 :), (vl HB.out hw129_1 :), (vl HB.out hw129_2 :), (vl HB.out hw129_3 :), (vl HB.out hw130_0 :), (vl HB.out hw130_1 :), (vl HB.out hw130_2 :)⟩ (fun hHeld => ?_); clear hK K; refine norm_ (a' := ?_) ?_ ?_; rotate_left
               ·show Act.put _ (some 76) _ = _; simp only [ap1, ap2, ap3, ap4, i64_w, i32_w]; rfl
               refine px 28 77 #[true, true, true, true, true, true, true, true, true, true, true, true, true, true, true, true, true, true, true, true, true, true, true, true, true, true, true, true, true, false] rfl HT_.out ?_ (.inl ⟨by rfl, ?_⟩) ?_ ?_ ?_; rotate_left
               ·intro w'; go_simp; with_reducible rfl
               rotate_left
               ·simp only [ap1, ap2, ap3, ap4, i64_w, i32_w]; rfl
               refine px 29 78 #[true, true, true, true, true, true, true, true, true, true, true, true, true, true, true, true, true, true, true, true, true, true, true, true, true, true, true, true, true, true] rfl HT_.out ?_ (.inl ⟨by rfl, ?_⟩) ?_ ?_ ?_; rotate_left
               ·intro w'; go_simp; with_reducible rfl
               rotate_left
               ·simp only [ap1, ap2, ap3, ap4, i64_w, i32_w]; rfl
               refine done_ (done_of HT_.out (by kernel_rfl)) ?_; try go_wp2
               (try (rw [drewN_self w17]; generalize hq_ : World.drewN w17 _ = w17; have n0_ : Aside0 (Below w.heap.size w w17) := ⟨by rw [← hq_]; exact (vh HB.out)⟩; clear HB hq_; have HB := n0_; clear n0_)); have n0_ := ak (below_drew1 HB.out); clear HB; have HB := n0_; clear n0_; have p132 : 0 ≤ (x11_2 : Int) := of_decide_eq_true va; have q132 : x11_2 < (l1.length : Int) := of_decide_eq_true va; obtain ⟨ad132, e132, hx132_0, hx132_1, hx132_2⟩ := at_T67 HR1.out x11_2 p132 q132; have hw132_2 := hx132_2; have hw132_1 := hx132_1; have hw132_0 := hx132_0; obtain rfl : ad127 = ad132 := (by injection e132); (try replace hx132_0 := vl HB.out hx132_0); (try replace hx132_1 := vl HB.out hx132_1); (try replace hx132_2 := vl HB.out hx132_2); replace p132 := eq_true p132; replace q132 := eq_true q132; have p133 : 0 ≤ (x6_1 : Int) := of_decide_eq_true va; have q133 : x6_1 < (l0.length : Int) := of_decide_eq_true va; obtain ⟨ad133, e133, hx133_0, hx133_1, hx133_2, hx133_3⟩ := at_T63 HR0.out x6_1 p133 q133; have hw133_3 := hx133_3; have hw133_2 := hx133_2; have hw133_1 := hx133_1; have hw133_0 := hx133_0; obtain rfl : ad123 = ad133 := (by injection e133); (try replace hx133_0 := vl HB.out hx133_0); (try replace hx133_1 := vl HB.out hx133_1); (try replace hx133_2 := vl HB.out hx133_2); (try replace hx133_3 := vl HB.out hx133_3); replace p133 := eq_true p133; replace q133 := eq_true q133; refine start_ (n := 12) (S := fun w' => w'.cell? (ad127.add ((x11_2).toNat * 3)) = some (.int .i64 ((rd_T67 l1 x11_2).f0)) ∧ w'.cell? ⟨(ad127.add ((x11_2).toNat * 3)).block, (ad127.add ((x11_2).toNat * 3)).off + 1, none⟩ = some (.int .i64 ((rd_T67 l1 x11_2).f1)) ∧ w'.cell? ⟨(ad127.add ((x11_2).toNat * 3)).block, (ad127.add ((x11_2).toNat * 3)).off + 2, none⟩ = some (.int .i64 ((rd_T67 l1 x11_2).f2)) ∧ w'.cell? (ad123.add ((x6_1).toNat * 4)) = some (.int .i64 ((rd_T63 l0 x6_1).f0)) ∧ w'.cell? ⟨(ad123.add ((x6_1).toNat * 4)).block, (ad123.add ((x6_1).toNat * 4)).off + 1, none⟩ = some (.int .i64 ((rd_T63 l0 x6_1).f1)) ∧ w'.cell? ⟨(ad123.add ((x6_1).toNat * 4)).block, (ad123.add ((x6_1).toNat * 4)).off + 2, none⟩ = some (.int .i64 ((rd_T63 l0 x6_1).f2)) ∧ w'.cell? ⟨(ad123.add ((x6_1).toNat * 4)).block, (ad123.add ((x6_1).toNat * 4)).off + 3, none⟩ = some (.int .i64 ((rd_T63 l0 x6_1).f3))) (ds := []) #[false, false, false, false, false, false, false, false, false, false, false, false] (by kernel_rfl) rfl rfl ⟨(vl HB.out hw132_0 :), (vl HB.out hw132_1 :), (vl HB.out hw132_2 :), (vl HB.out hw133_0 :), (vl HB.out hw133_1 :), (vl HB.out hw133_2 :), (vl HB.out hw133_3 :)⟩ (fun hHeld => ?_); refine with_tabW spec_l10IsPlan.tab14 spec_l10IsPlan.bits14 (fun HT_ HW_ => ?_); generalize w17.drew = w18 at HB hx132_0 hx132_1 hx132_2 hx133_0 hx133_1 hx133_2 hx133_3 hHeld ⊢
               refine px 0 79 #[true, false, false, false, false, false, false, false, false, false, false, false] rfl HT_.out ?_ (.inl ⟨by rfl, ?_⟩) ?_ ?_ ?_; rotate_left
               ·intro w'; go_simp; with_reducible rfl
               rotate_left
               ·simp only [ap1, ap2, ap3, ap4, i64_w, i32_w]; rfl
               refine px 1 80 #[true, true, false, false, false, false, false, false, false, false, false, false] rfl HT_.out ?_ (.inl ⟨by rfl, ?_⟩) ?_ ?_ ?_; rotate_left
               ·intro w'; go_simp; with_reducible rfl
               rotate_left
               ·simp only [ap1, ap2, ap3, ap4, i64_w, i32_w]; rfl
               refine px 2 81 #[true, true, true, false, false, false, false, false, false, false, false, false] rfl HT_.out ?_ (.inl ⟨by rfl, ?_⟩) ?_ ?_ ?_; rotate_left
               ·intro w'; go_simp; with_reducible rfl
               rotate_left
               ·simp only [ap1, ap2, ap3, ap4, i64_w, i32_w]; rfl
               refine px 3 82 #[true, true, true, true, false, false, false, false, false, false, false, false] rfl HT_.out ?_ (.inl ⟨by rfl, ?_⟩) ?_ ?_ ?_; rotate_left
               ·intro w'; go_simp; with_reducible rfl
               rotate_left
               ·simp only [ap1, ap2, ap3, ap4, i64_w, i32_w]; rfl
               refine px 5 84 #[true, true, true, true, false, true, false, false, false, false, false, false] rfl HT_.out ?_ (.inl ⟨by rfl, ?_⟩) ?_ ?_ ?_; rotate_left
               ·intro w'; go_simp; with_reducible rfl
               rotate_left
               ·simp only [ap1, ap2, ap3, ap4, i64_w, i32_w]; rfl
               refine px 6 85 #[true, true, true, true, false, true, true, false, false, false, false, false] rfl HT_.out ?_ (.inl ⟨by rfl, ?_⟩) ?_ ?_ ?_; rotate_left
               ·intro w'; go_simp; with_reducible rfl
               rotate_left
               ·simp only [ap1, ap2, ap3, ap4, i64_w, i32_w]; rfl
               refine px 7 86 #[true, true, true, true, false, true, true, true, false, false, false, false] rfl HT_.out ?_ (.inl ⟨by rfl, ?_⟩) ?_ ?_ ?_; rotate_left
               ·intro w'; go_simp; with_reducible rfl
               rotate_left
               ·simp only [ap1, ap2, ap3, ap4, i64_w, i32_w]; rfl
               refine px 8 87 #[true, true, true, true, false, true, true, true, true, false, false, false] rfl HT_.out ?_ (.inl ⟨by rfl, ?_⟩) ?_ ?_ ?_; rotate_left
               ·intro w'; go_simp; with_reducible rfl
               rotate_left
               ·simp only [ap1, ap2, ap3, ap4, i64_w, i32_w]; rfl
               refine tx 4 83 #[true, true, true, true, true, true, true, true, true, false, false, false] rfl HT_.out HW_.out hHeld ?_ (.inl ⟨by rfl, ?_⟩) ?_ ?_ ?_; rotate_left
               ·rintro w' ⟨s0, s1, s2, s3, s4, s5, s6⟩; go_simp; with_reducible rfl
               rotate_left
               ·simp only [ap1, ap2, ap3, ap4, i64_w, i32_w]; rfl
               refine tx 9 88 #[true, true, true, true, true, true, true, true, true, true, false, false] rfl HT_.out HW_.out hHeld ?_ (.inl ⟨by rfl, ?_⟩) ?_ ?_ ?_; rotate_left
               ·rintro w' ⟨s0, s1, s2, s3, s4, s5, s6⟩; go_simp; with_reducible rfl
               rotate_left
               ·simp only [ap1, ap2, ap3, ap4, i64_w, i32_w]; rfl
               refine px 10 89 #[true, true, true, true, true, true, true, true, true, true, true, false] rfl HT_.out ?_ (.inl ⟨by rfl, ?_⟩) ?_ ?_ ?_; rotate_left
               ·intro w'; go_simp; with_reducible rfl
               rotate_left
               ·simp only [ap1, ap2, ap3, ap4, i64_w, i32_w]; rfl
               refine px 11 9 #[true, true, true, true, true, true, true, true, true, true, true, true] rfl HT_.out ?_ (.inl ⟨by rfl, ?_⟩) ?_ ?_ ?_; rotate_left
               ·intro w'; go_simp; with_reducible rfl
               rotate_left
               ·simp only [ap1, ap2, ap3, ap4, i64_w, i32_w]; rfl
               refine done_ (done_of HT_.out (by kernel_rfl)) ?_; try go_wp2
               go_roundg k2
               case measure => have := HK1.out; have := HK2.out; omega
               case rel => exact ⟨(wrap64 (((rd_T67 l1 x11_2).f2) + ((rd_T63 l0 x6_1).f2))), (wrap64 (x10_2 + 1)), (wrap64 (x11_2 + 1)), vq, vq, vq, H', ⟨by have := HK1.out; have := HK2.out; omega⟩, ⟨by exact vh HB.out⟩⟩
              ·replace c16 := Bool.eq_false_iff.mpr c16; subst c16; have H1 : (some false) = some r := by rw [if_neg (show ¬ (false = true) by decide)] at H; first | exact H | (simp only [if_true, eq_self] at H ⊢; exact H)
               clear H; have H := H1; clear H1; obtain rfl := Option.some.inj H; have p127 : 0 ≤ (x11_2 : Int) := of_decide_eq_true va; have q127 : x11_2 < (l1.length : Int) := of_decide_eq_true va; obtain ⟨ad127, e127, hx127_0, hx127_1, hx127_2⟩ := at_T67 HR1.out x11_2 p127 q127; cases e127; (try replace hx127_0 := vl HB.out hx127_0); (try replace hx127_1 := vl HB.out hx127_1); (try replace hx127_2 := vl HB.out hx127_2); replace p127 := eq_true p127; replace q127 := eq_true q127; try go_wp2
               have n0_ := ak (below_drew1 HB.out); clear HB; have HB := n0_; clear n0_; have p128 : 0 ≤ (x11_2 : Int) := of_decide_eq_true va; have q128 : x11_2 < (l1.length : Int) := of_decide_eq_true va; obtain ⟨ad128, e128, hx128_0, hx128_1, hx128_2⟩ := at_T67 HR1.out x11_2 p128 q128; have hw128_2 := hx128_2; have hw128_1 := hx128_1; have hw128_0 := hx128_0; obtain rfl : ad127 = ad128 := (by injection e128); (try replace hx128_0 := vl HB.out hx128_0); (try replace hx128_1 := vl HB.out hx128_1); (try replace hx128_2 := vl HB.out hx128_2); replace p128 := eq_true p128; replace q128 := eq_true q128; have p129 : 0 ≤ (x6_1 : Int) := of_decide_eq_true va; have q129 : x6_1 < (l0.length : Int) := of_decide_eq_true va; obtain ⟨ad129, e129, hx129_0, hx129_1, hx129_2, hx129_3⟩ := at_T63 HR0.out x6_1 p129 q129; have hw129_3 := hx129_3; have hw129_2 := hx129_2; have hw129_1 := hx129_1; have hw129_0 := hx129_0; obtain rfl : ad123 = ad129 := (by injection e129); (try replace hx129_0 := vl HB.out hx129_0); (try replace hx129_1 := vl HB.out hx129_1); (try replace hx129_2 := vl HB.out hx129_2); (try replace hx129_3 := vl HB.out hx129_3); replace p129 := eq_true p129; replace q129 := eq_true q129; have p130 : 0 ≤ (x11_2 : Int) := of_decide_eq_true va; have q130 : x11_2 < (l1.length : Int) := of_decide_eq_true va; obtain ⟨ad130, e130, hx130_0, hx130_1, hx130_2⟩ := at_T67 HR1.out x11_2 p130 q130; have hw130_2 := hx130_2; have hw130_1 := hx130_1; have hw130_0 := hx130_0; obtain rfl : ad127 = ad130 := (by injection e130); (try replace hx130_0 := vl HB.out hx130_0); (try replace hx130_1 := vl HB.out hx130_1); (try replace hx130_2 := vl HB.out hx130_2); replace p130 := eq_true p130; replace q130 := eq_true q130; refine start_ (n := 30) (S := fun w' => w'.cell? (ad127.add ((x11_2).toNat * 3)) = some (.int .i64 ((rd_T67 l1 x11_2).f0)) ∧ w'.cell? ⟨(ad127.add ((x11_2).toNat * 3)).block, (ad127.add ((x11_2).toNat * 3)).off + 1, none⟩ = some (.int .i64 ((rd_T67 l1 x11_2).f1)) ∧ w'.cell? ⟨(ad127.add ((x11_2).toNat * 3)).block, (ad127.add ((x11_2).toNat * 3)).off + 2, none⟩ = some (.int .i64 ((rd_T67 l1 x11_2).f2)) ∧ w'.cell? (ad123.add ((x6_1).toNat * 4)) = some (.int .i64 ((rd_T63 l0 x6_1).f0)) ∧ w'.cell? ⟨(ad123.add ((x6_1).toNat * 4)).block, (ad123.add ((x6_1).toNat * 4)).off + 1, none⟩ = some (.int .i64 ((rd_T63 l0 x6_1).f1)) ∧ w'.cell? ⟨(ad123.add ((x6_1).toNat * 4)).block, (ad123.add ((x6_1).toNat * 4)).off + 2, none⟩ = some (.int .i64 ((rd_T63 l0 x6_1).f2)) ∧ w'.cell? ⟨(ad123.add ((x6_1).toNat * 4)).block, (ad123.add ((x6_1).toNat * 4)).off + 3, none⟩ = some (.int .i64 ((rd_T63 l0 x6_1).f3)) ∧ w'.cell? (ad127.add ((x11_2).toNat * 3)) = some (.int .i64 ((rd_T67 l1 x11_2).f0)) ∧ w'.cell? ⟨(ad127.add ((x11_2).toNat * 3)).block, (ad127.add ((x11_2).toNat * 3)).off + 1, none⟩ = some (.int .i64 ((rd_T67 l1 x11_2).f1)) ∧ w'.cell? ⟨(ad127.add ((x11_2).toNat * 3)).block, (ad127.add ((x11_2).toNat * 3)).off + 2, none⟩ = some (.int .i64 ((rd_T67 l1 x11_2).f2))) (ds := []) #[false, false, false, false, false, false, false, false, false, false, false, false, false, false, false, false, false, false, false, false, false, false, false, false, false, false, false, false, false, false] (by kernel_rfl) rfl rfl ⟨(vl HB.out hw128_0 :), (vl HB.out hw128_1 :), (vl HB.out hw128_2 :), (vl HB.out hw129_0 :), (vl HB.out hw129_1 :), (vl HB.out hw129_2 :), (vl HB.out hw129_3 :), (vl HB.out hw130_0 :), (vl HB.out hw130_1 :), (vl HB.out hw130_2 :)⟩ (fun hHeld => ?_); refine with_tabW spec_l10IsPlan.tab12 spec_l10IsPlan.bits12 (fun HT_ HW_ => ?_); generalize wr.drew = w19 at HB hx128_0 hx128_1 hx128_2 hx129_0 hx129_1 hx129_2 hx129_3 hx130_0 hx130_1 hx130_2 hHeld ⊢
               refine px 0 49 #[true, false, false, false, false, false, false, false, false, false, false, false, false, false, false, false, false, false, false, false, false, false, false, false, false, false, false, false, false, false] rfl HT_.out ?_ (.inl ⟨by rfl, ?_⟩) ?_ ?_ ?_; rotate_left
               ·intro w'; go_simp; with_reducible rfl
               rotate_left
               ·simp only [ap1, ap2, ap3, ap4, i64_w, i32_w]; rfl
               refine px 1 50 #[true, true, false, false, false, false, false, false, false, false, false, false, false, false, false, false, false, false, false, false, false, false, false, false, false, false, false, false, false, false] rfl HT_.out ?_ (.inl ⟨by rfl, ?_⟩) ?_ ?_ ?_; rotate_left
               ·intro w'; go_simp; with_reducible rfl
               rotate_left
               ·simp only [ap1, ap2, ap3, ap4, i64_w, i32_w]; rfl
               refine px 2 51 #[true, true, true, false, false, false, false, false, false, false, false, false, false, false, false, false, false, false, false, false, false, false, false, false, false, false, false, false, false, false] rfl HT_.out ?_ (.inl ⟨by rfl, ?_⟩) ?_ ?_ ?_; rotate_left
               ·intro w'; go_simp; with_reducible rfl
               rotate_left
               ·simp only [ap1, ap2, ap3, ap4, i64_w, i32_w]; rfl
               refine px 3 52 #[true, true, true, true, false, false, false, false, false, false, false, false, false, false, false, false, false, false, false, false, false, false, false, false, false, false, false, false, false, false] rfl HT_.out ?_ (.inl ⟨by rfl, ?_⟩) ?_ ?_ ?_; rotate_left
               ·intro w'; go_simp; with_reducible rfl
               rotate_left
               ·simp only [ap1, ap2, ap3, ap4, i64_w, i32_w]; rfl
               refine px 4 53 #[true, true, true, true, true, false, false, false, false, false, false, false, false, false, false, false, false, false, false, false, false, false, false, false, false, false, false, false, false, false] rfl HT_.out ?_ (.inl ⟨by rfl, ?_⟩) ?_ ?_ ?_; rotate_left
               ·intro w'; go_simp; with_reducible rfl
               rotate_left
               ·simp only [ap1, ap2, ap3, ap4, i64_w, i32_w]; rfl
               refine px 5 54 #[true, true, true, true, true, true, false, false, false, false, false, false, false, false, false, false, false, false, false, false, false, false, false, false, false, false, false, false, false, false] rfl HT_.out ?_ (.inl ⟨by rfl, ?_⟩) ?_ ?_ ?_; rotate_left
               ·intro w'; go_simp; with_reducible rfl
               rotate_left
               ·simp only [ap1, ap2, ap3, ap4, i64_w, i32_w]; rfl
               refine px 6 55 #[true, true, true, true, true, true, true, false, false, false, false, false, false, false, false, false, false, false, false, false, false, false, false, false, false, false, false, false, false, false] rfl HT_.out ?_ (.inl ⟨by rfl, ?_⟩) ?_ ?_ ?_; rotate_left
               ·intro w'; go_simp; with_reducible rfl
               rotate_left
               ·simp only [ap1, ap2, ap3, ap4, i64_w, i32_w]; rfl
               refine px 7 56 #[true, true, true, true, true, true, true, true, false, false, false, false, false, false, false, false, false, false, false, false, false, false, false, false, false, false, false, false, false, false] rfl HT_.out ?_ (.inl ⟨by rfl, ?_⟩) ?_ ?_ ?_; rotate_left
               ·intro w'; go_simp; with_reducible rfl
               rotate_left
               ·simp only [ap1, ap2, ap3, ap4, i64_w, i32_w]; rfl
               refine px 9 58 #[true, true, true, true, true, true, true, true, false, true, false, false, false, false, false, false, false, false, false, false, false, false, false, false, false, false, false, false, false, false] rfl HT_.out ?_ (.inl ⟨by rfl, ?_⟩) ?_ ?_ ?_; rotate_left
               ·intro w'; go_simp; with_reducible rfl
               rotate_left
               ·simp only [ap1, ap2, ap3, ap4, i64_w, i32_w]; rfl
               refine px 10 59 #[true, true, true, true, true, true, true, true, false, true, true, false, false, false, false, false, false, false, false, false, false, false, false, false, false, false, false, false, false, false] rfl HT_.out ?_ (.inl ⟨by rfl, ?_⟩) ?_ ?_ ?_; rotate_left
               ·intro w'; go_simp; with_reducible rfl
               rotate_left
               ·simp only [ap1, ap2, ap3, ap4, i64_w, i32_w]; rfl
               refine px 11 60 #[true, true, true, true, true, true, true, true, false, true, true, true, false, false, false, false, false, false, false, false, false, false, false, false, false, false, false, false, false, false] rfl HT_.out ?_ (.inl ⟨by rfl, ?_⟩) ?_ ?_ ?_; rotate_left
               ·intro w'; go_simp; with_reducible rfl
               rotate_left
               ·simp only [ap1, ap2, ap3, ap4, i64_w, i32_w]; rfl
               refine px 12 61 #[true, true, true, true, true, true, true, true, false, true, true, true, true, false, false, false, false, false, false, false, false, false, false, false, false, false, false, false, false, false] rfl HT_.out ?_ (.inl ⟨by rfl, ?_⟩) ?_ ?_ ?_; rotate_left
               ·intro w'; go_simp; with_reducible rfl
               rotate_left
               ·simp only [ap1, ap2, ap3, ap4, i64_w, i32_w]; rfl
               refine px 14 63 #[true, true, true, true, true, true, true, true, false, true, true, true, true, false, true, false, false, false, false, false, false, false, false, false, false, false, false, false, false, false] rfl HT_.out ?_ (.inl ⟨by rfl, ?_⟩) ?_ ?_ ?_; rotate_left
               ·intro w'; go_simp; with_reducible rfl
               rotate_left
               ·simp only [ap1, ap2, ap3, ap4, i64_w, i32_w]; rfl
               refine px 15 64 #[true, true, true, true, true, true, true, true, false, true, true, true, true, false, true, true, false, false, false, false, false, false, false, false, false, false, false, false, false, false] rfl HT_.out ?_ (.inl ⟨by rfl, ?_⟩) ?_ ?_ ?_; rotate_left
               ·intro w'; go_simp; with_reducible rfl
               rotate_left
               ·simp only [ap1, ap2, ap3, ap4, i64_w, i32_w]; rfl
               refine px 16 65 #[true, true, true, true, true, true, true, true, false, true, true, true, true, false, true, true, true, false, false, false, false, false, false, false, false, false, false, false, false, false] rfl HT_.out ?_ (.inl ⟨by rfl, ?_⟩) ?_ ?_ ?_; rotate_left
               ·intro w'; go_simp; with_reducible rfl
               rotate_left
               ·simp only [ap1, ap2, ap3, ap4, i64_w, i32_w]; rfl
               refine tx 8 57 #[true, true, true, true, true, true, true, true, true, true, true, true, true, false, true, true, true, false, false, false, false, false, false, false, false, false, false, false, false, false] rfl HT_.out HW_.out hHeld ?_ (.inl ⟨by rfl, ?_⟩) ?_ ?_ ?_; rotate_left
               ·rintro w' ⟨s0, s1, s2, s3, s4, s5, s6, s7, s8, s9⟩; go_simp; with_reducible rfl
               rotate_left
               ·simp only [ap1, ap2, ap3, ap4, i64_w, i32_w]; rfl
               refine tx 13 62 #[true, true, true, true, true, true, true, true, true, true, true, true, true, true, true, true, true, false, false, false, false, false, false, false, false, false, false, false, false, false] rfl HT_.out HW_.out hHeld ?_ (.inl ⟨by rfl, ?_⟩) ?_ ?_ ?_; rotate_left
               ·rintro w' ⟨s0, s1, s2, s3, s4, s5, s6, s7, s8, s9⟩; go_simp; with_reducible rfl
               rotate_left
               ·simp only [ap1, ap2, ap3, ap4, i64_w, i32_w]; rfl
               refine px 17 66 #[true, true, true, true, true, true, true, true, true, true, true, true, true, true, true, true, true, true, false, false, false, false, false, false, false, false, false, false, false, false] rfl HT_.out ?_ (.inl ⟨by rfl, ?_⟩) ?_ ?_ ?_; rotate_left
               ·intro w'; go_simp; with_reducible rfl
               rotate_left
               ·simp only [ap1, ap2, ap3, ap4, i64_w, i32_w]; rfl
               refine px 18 67 #[true, true, true, true, true, true, true, true, true, true, true, true, true, true, true, true, true, true, true, false, false, false, false, false, false, false, false, false, false, false] rfl HT_.out ?_ (.inl ⟨by rfl, ?_⟩) ?_ ?_ ?_; rotate_left
               ·intro w'; go_simp; with_reducible rfl
               rotate_left
               ·simp only [ap1, ap2, ap3, ap4, i64_w, i32_w]; rfl
               refine px 19 68 #[true, true, true, true, true, true, true, true, true, true, true, true, true, true, true, true, true, true, true, true, false, false, false, false, false, false, false, false, false, false] rfl HT_.out ?_ (.inl ⟨by rfl, ?_⟩) ?_ ?_ ?_; rotate_left
               ·intro w'; go_simp; with_reducible rfl
               rotate_left
               ·simp only [ap1, ap2, ap3, ap4, i64_w, i32_w]; rfl
               refine px 20 69 #[true, true, true, true, true, true, true, true, true, true, true, true, true, true, true, true, true, true, true, true, true, false, false, false, false, false, false, false, false, false] rfl HT_.out ?_ (.inl ⟨by rfl, ?_⟩) ?_ ?_ ?_; rotate_left
               ·intro w'; go_simp; with_reducible rfl
               rotate_left
               ·simp only [ap1, ap2, ap3, ap4, i64_w, i32_w]; rfl
               refine px 21 70 #[true, true, true, true, true, true, true, true, true, true, true, true, true, true, true, true, true, true, true, true, true, true, false, false, false, false, false, false, false, false] rfl HT_.out ?_ (.inl ⟨by rfl, ?_⟩) ?_ ?_ ?_; rotate_left
               ·intro w'; go_simp; with_reducible rfl
               rotate_left
               ·simp only [ap1, ap2, ap3, ap4, i64_w, i32_w]; rfl
               refine px 22 71 #[true, true, true, true, true, true, true, true, true, true, true, true, true, true, true, true, true, true, true, true, true, true, true, false, false, false, false, false, false, false] rfl HT_.out ?_ (.inl ⟨by rfl, ?_⟩) ?_ ?_ ?_; rotate_left
               ·intro w'; go_simp; with_reducible rfl
               rotate_left
               ·simp only [ap1, ap2, ap3, ap4, i64_w, i32_w]; rfl
               refine px 23 72 #[true, true, true, true, true, true, true, true, true, true, true, true, true, true, true, true, true, true, true, true, true, true, true, true, false, false, false, false, false, false] rfl HT_.out ?_ (.inl ⟨by rfl, ?_⟩) ?_ ?_ ?_; rotate_left
               ·intro w'; go_simp; with_reducible rfl
               rotate_left
               ·simp only [ap1, ap2, ap3, ap4, i64_w, i32_w]; rfl
               refine px 24 73 #[true, true, true, true, true, true, true, true, true, true, true, true, true, true, true, true, true, true, true, true, true, true, true, true, true, false, false, false, false, false] rfl HT_.out ?_ (.inl ⟨by rfl, ?_⟩) ?_ ?_ ?_; rotate_left
               ·intro w'; go_simp; with_reducible rfl
               rotate_left
               ·simp only [ap1, ap2, ap3, ap4, i64_w, i32_w]; rfl
               refine px 26 75 #[true, true, true, true, true, true, true, true, true, true, true, true, true, true, true, true, true, true, true, true, true, true, true, true, true, false, true, false, false, false] rfl HT_.out ?_ (.inl ⟨by rfl, ?_⟩) ?_ ?_ ?_; rotate_left
               ·intro w'; go_simp; with_reducible rfl
               rotate_left
               ·simp only [ap1, ap2, ap3, ap4, i64_w, i32_w]; rfl
               refine tx 25 74 #[true, true, true, true, true, true, true, true, true, true, true, true, true, true, true, true, true, true, true, true, true, true, true, true, true, true, true, false, false, false] rfl HT_.out HW_.out hHeld ?_ (.inl ⟨by rfl, ?_⟩) ?_ ?_ ?_; rotate_left
               ·rintro w' ⟨s0, s1, s2, s3, s4, s5, s6, s7, s8, s9⟩; go_simp; with_reducible rfl
               rotate_left
               ·simp only [ap1, ap2, ap3, ap4, i64_w, i32_w]; rfl
               refine one_ (i := 27) (N := some 76) #[true, true, true, true, true, true, true, true, true, true, true, true, true, true, true, true, true, true, true, true, true, true, true, true, true, true, true, true, false, false] rfl rfl (one_of HT_.out (by kernel_rfl)) (by decide) (fun K hK => ?_); refine goes_ Try.func30 (by kernel_rfl) rfl #[.int .i64 ((rd_T67 l1 x11_2).f2), .int .i64 x9_2, .int .i64 9999] (by rfl) rfl rfl vm ?_; with_reducible refine (spec_l1In.calls ((rd_T67 l1 x11_2).f2) x9_2 9999 false _ A15.out).mono ?_
               rintro e w' ⟨rfl, ⟨nd, rfl⟩⟩; refine ⟨_, rfl, ?_⟩; refine hK.out _ _ ⟨(vl HB.out hw128_0 :), (vl HB.out hw128_1 :), (vl HB.out hw128_2 :), (vl HB.out hw129_0 :), (vl HB.out hw129_1 :), (vl HB.out hw129_2 :), (vl HB.out hw129_3 :), (vl HB.out hw130_0 :), (vl HB.out hw130_1 :), (vl HB.out hw130_2 :)⟩ (fun hHeld => ?_); clear hK K; refine norm_ (a' := ?_) ?_ ?_; rotate_left
               ·show Act.put _ (some 76) _ = _; simp only [ap1, ap2, ap3, ap4, i64_w, i32_w]; rfl
               refine px 28 77 #[true, true, true, true, true, true, true, true, true, true, true, true, true, true, true, true, true, true, true, true, true, true, true, true, true, true, true, true, true, false] rfl HT_.out ?_ (.inl ⟨by rfl, ?_⟩) ?_ ?_ ?_; rotate_left
               ·intro w'; go_simp; with_reducible rfl
               rotate_left
               ·simp only [ap1, ap2, ap3, ap4, i64_w, i32_w]; rfl
               refine px 29 78 #[true, true, true, true, true, true, true, true, true, true, true, true, true, true, true, true, true, true, true, true, true, true, true, true, true, true, true, true, true, true] rfl HT_.out ?_ (.inl ⟨by rfl, ?_⟩) ?_ ?_ ?_; rotate_left
               ·intro w'; go_simp; with_reducible rfl
               rotate_left
               ·simp only [ap1, ap2, ap3, ap4, i64_w, i32_w]; rfl
               refine done_ (done_of HT_.out (by kernel_rfl)) ?_; try go_wp2
               go_ret
               exact ⟨by first | rfl | (simp [errW_none, errW_some] <;> rfl) | (simp [*, errW_none, errW_some] <;> rfl), by exact vh HB.out⟩
             ·rw [if_neg c14] at H
              have c14b0 : (((rd_T67 l1 x11_2).f1) == (wrap64 (((rd_T63 l0 x6_1).f0) + (wrap64 (t125 * x10_2))))) = false := beq_eq_false_iff_ne.mpr c14; have c14b1 : (((rd_T67 l1 x11_2).f1) != (wrap64 (((rd_T63 l0 x6_1).f0) + (wrap64 (t125 * x10_2))))) = true := bne_iff_ne.mpr c14; obtain rfl := Option.some.inj H; have p127 : 0 ≤ (x11_2 : Int) := of_decide_eq_true va; have q127 : x11_2 < (l1.length : Int) := of_decide_eq_true va; obtain ⟨ad127, e127, hx127_0, hx127_1, hx127_2⟩ := at_T67 HR1.out x11_2 p127 q127; cases e127; (try replace hx127_0 := vl HB.out hx127_0); (try replace hx127_1 := vl HB.out hx127_1); (try replace hx127_2 := vl HB.out hx127_2); replace p127 := eq_true p127; replace q127 := eq_true q127; try go_wp2
              have n0_ := ak (below_drew1 HB.out); clear HB; have HB := n0_; clear n0_; have p128 : 0 ≤ (x11_2 : Int) := of_decide_eq_true va; have q128 : x11_2 < (l1.length : Int) := of_decide_eq_true va; obtain ⟨ad128, e128, hx128_0, hx128_1, hx128_2⟩ := at_T67 HR1.out x11_2 p128 q128; have hw128_2 := hx128_2; have hw128_1 := hx128_1; have hw128_0 := hx128_0; obtain rfl : ad127 = ad128 := (by injection e128); (try replace hx128_0 := vl HB.out hx128_0); (try replace hx128_1 := vl HB.out hx128_1); (try replace hx128_2 := vl HB.out hx128_2); replace p128 := eq_true p128; replace q128 := eq_true q128; have p129 : 0 ≤ (x6_1 : Int) := of_decide_eq_true va; have q129 : x6_1 < (l0.length : Int) := of_decide_eq_true va; obtain ⟨ad129, e129, hx129_0, hx129_1, hx129_2, hx129_3⟩ := at_T63 HR0.out x6_1 p129 q129; have hw129_3 := hx129_3; have hw129_2 := hx129_2; have hw129_1 := hx129_1; have hw129_0 := hx129_0; obtain rfl : ad123 = ad129 := (by injection e129); (try replace hx129_0 := vl HB.out hx129_0); (try replace hx129_1 := vl HB.out hx129_1); (try replace hx129_2 := vl HB.out hx129_2); (try replace hx129_3 := vl HB.out hx129_3); replace p129 := eq_true p129; replace q129 := eq_true q129; refine start_ (n := 30) (S := fun w' => w'.cell? (ad127.add ((x11_2).toNat * 3)) = some (.int .i64 ((rd_T67 l1 x11_2).f0)) ∧ w'.cell? ⟨(ad127.add ((x11_2).toNat * 3)).block, (ad127.add ((x11_2).toNat * 3)).off + 1, none⟩ = some (.int .i64 ((rd_T67 l1 x11_2).f1)) ∧ w'.cell? ⟨(ad127.add ((x11_2).toNat * 3)).block, (ad127.add ((x11_2).toNat * 3)).off + 2, none⟩ = some (.int .i64 ((rd_T67 l1 x11_2).f2)) ∧ w'.cell? (ad123.add ((x6_1).toNat * 4)) = some (.int .i64 ((rd_T63 l0 x6_1).f0)) ∧ w'.cell? ⟨(ad123.add ((x6_1).toNat * 4)).block, (ad123.add ((x6_1).toNat * 4)).off + 1, none⟩ = some (.int .i64 ((rd_T63 l0 x6_1).f1)) ∧ w'.cell? ⟨(ad123.add ((x6_1).toNat * 4)).block, (ad123.add ((x6_1).toNat * 4)).off + 2, none⟩ = some (.int .i64 ((rd_T63 l0 x6_1).f2)) ∧ w'.cell? ⟨(ad123.add ((x6_1).toNat * 4)).block, (ad123.add ((x6_1).toNat * 4)).off + 3, none⟩ = some (.int .i64 ((rd_T63 l0 x6_1).f3))) (ds := []) #[false, false, false, false, false, false, false, false, false, false, false, false, false, false, false, false, false, false, false, false, false, false, false, false, false, false, false, false, false, false] (by kernel_rfl) rfl rfl ⟨(vl HB.out hw128_0 :), (vl HB.out hw128_1 :), (vl HB.out hw128_2 :), (vl HB.out hw129_0 :), (vl HB.out hw129_1 :), (vl HB.out hw129_2 :), (vl HB.out hw129_3 :)⟩ (fun hHeld => ?_); refine with_tabW spec_l10IsPlan.tab12 spec_l10IsPlan.bits12 (fun HT_ HW_ => ?_); generalize wr.drew = w20 at HB hx128_0 hx128_1 hx128_2 hx129_0 hx129_1 hx129_2 hx129_3 hHeld ⊢
              refine px 0 49 #[true, false, false, false, false, false, false, false, false, false, false, false, false, false, false, false, false, false, false, false, false, false, false, false, false, false, false, false, false, false] rfl HT_.out ?_ (.inl ⟨by rfl, ?_⟩) ?_ ?_ ?_; rotate_left
              ·intro w'; go_simp; with_reducible rfl
              rotate_left
              ·simp only [ap1, ap2, ap3, ap4, i64_w, i32_w]; rfl
              refine px 1 50 #[true, true, false, false, false, false, false, false, false, false, false, false, false, false, false, false, false, false, false, false, false, false, false, false, false, false, false, false, false, false] rfl HT_.out ?_ (.inl ⟨by rfl, ?_⟩) ?_ ?_ ?_; rotate_left
              ·intro w'; go_simp; with_reducible rfl
              rotate_left
              ·simp only [ap1, ap2, ap3, ap4, i64_w, i32_w]; rfl
              refine px 2 51 #[true, true, true, false, false, false, false, false, false, false, false, false, false, false, false, false, false, false, false, false, false, false, false, false, false, false, false, false, false, false] rfl HT_.out ?_ (.inl ⟨by rfl, ?_⟩) ?_ ?_ ?_; rotate_left
              ·intro w'; go_simp; with_reducible rfl
              rotate_left
              ·simp only [ap1, ap2, ap3, ap4, i64_w, i32_w]; rfl
              refine px 3 52 #[true, true, true, true, false, false, false, false, false, false, false, false, false, false, false, false, false, false, false, false, false, false, false, false, false, false, false, false, false, false] rfl HT_.out ?_ (.inl ⟨by rfl, ?_⟩) ?_ ?_ ?_; rotate_left
              ·intro w'; go_simp; with_reducible rfl
              rotate_left
              ·simp only [ap1, ap2, ap3, ap4, i64_w, i32_w]; rfl
              refine px 4 53 #[true, true, true, true, true, false, false, false, false, false, false, false, false, false, false, false, false, false, false, false, false, false, false, false, false, false, false, false, false, false] rfl HT_.out ?_ (.inl ⟨by rfl, ?_⟩) ?_ ?_ ?_; rotate_left
              ·intro w'; go_simp; with_reducible rfl
              rotate_left
              ·simp only [ap1, ap2, ap3, ap4, i64_w, i32_w]; rfl
              refine px 5 54 #[true, true, true, true, true, true, false, false, false, false, false, false, false, false, false, false, false, false, false, false, false, false, false, false, false, false, false, false, false, false] rfl HT_.out ?_ (.inl ⟨by rfl, ?_⟩) ?_ ?_ ?_; rotate_left
              ·intro w'; go_simp; with_reducible rfl
              rotate_left
              ·simp only [ap1, ap2, ap3, ap4, i64_w, i32_w]; rfl
              refine px 6 55 #[true, true, true, true, true, true, true, false, false, false, false, false, false, false, false, false, false, false, false, false, false, false, false, false, false, false, false, false, false, false] rfl HT_.out ?_ (.inl ⟨by rfl, ?_⟩) ?_ ?_ ?_; rotate_left
              ·intro w'; go_simp; with_reducible rfl
              rotate_left
              ·simp only [ap1, ap2, ap3, ap4, i64_w, i32_w]; rfl
              refine px 7 56 #[true, true, true, true, true, true, true, true, false, false, false, false, false, false, false, false, false, false, false, false, false, false, false, false, false, false, false, false, false, false] rfl HT_.out ?_ (.inl ⟨by rfl, ?_⟩) ?_ ?_ ?_; rotate_left
              ·intro w'; go_simp; with_reducible rfl
              rotate_left
              ·simp only [ap1, ap2, ap3, ap4, i64_w, i32_w]; rfl
              refine px 9 58 #[true, true, true, true, true, true, true, true, false, true, false, false, false, false, false, false, false, false, false, false, false, false, false, false, false, false, false, false, false, false] rfl HT_.out ?_ (.inl ⟨by rfl, ?_⟩) ?_ ?_ ?_; rotate_left
              ·intro w'; go_simp; with_reducible rfl
              rotate_left
              ·simp only [ap1, ap2, ap3, ap4, i64_w, i32_w]; rfl
              refine px 10 59 #[true, true, true, true, true, true, true, true, false, true, true, false, false, false, false, false, false, false, false, false, false, false, false, false, false, false, false, false, false, false] rfl HT_.out ?_ (.inl ⟨by rfl, ?_⟩) ?_ ?_ ?_; rotate_left
              ·intro w'; go_simp; with_reducible rfl
              rotate_left
              ·simp only [ap1, ap2, ap3, ap4, i64_w, i32_w]; rfl
              refine px 11 60 #[true, true, true, true, true, true, true, true, false, true, true, true, false, false, false, false, false, false, false, false, false, false, false, false, false, false, false, false, false, false] rfl HT_.out ?_ (.inl ⟨by rfl, ?_⟩) ?_ ?_ ?_; rotate_left
              ·intro w'; go_simp; with_reducible rfl
              rotate_left
              ·simp only [ap1, ap2, ap3, ap4, i64_w, i32_w]; rfl
              refine px 12 61 #[true, true, true, true, true, true, true, true, false, true, true, true, true, false, false, false, false, false, false, false, false, false, false, false, false, false, false, false, false, false] rfl HT_.out ?_ (.inl ⟨by rfl, ?_⟩) ?_ ?_ ?_; rotate_left
              ·intro w'; go_simp; with_reducible rfl
              rotate_left
              ·simp only [ap1, ap2, ap3, ap4, i64_w, i32_w]; rfl
              refine px 14 63 #[true, true, true, true, true, true, true, true, false, true, true, true, true, false, true, false, false, false, false, false, false, false, false, false, false, false, false, false, false, false] rfl HT_.out ?_ (.inl ⟨by rfl, ?_⟩) ?_ ?_ ?_; rotate_left
              ·intro w'; go_simp; with_reducible rfl
              rotate_left
              ·simp only [ap1, ap2, ap3, ap4, i64_w, i32_w]; rfl
              refine px 15 64 #[true, true, true, true, true, true, true, true, false, true, true, true, true, false, true, true, false, false, false, false, false, false, false, false, false, false, false, false, false, false] rfl HT_.out ?_ (.inl ⟨by rfl, ?_⟩) ?_ ?_ ?_; rotate_left
              ·intro w'; go_simp; with_reducible rfl
              rotate_left
              ·simp only [ap1, ap2, ap3, ap4, i64_w, i32_w]; rfl
              refine px 16 65 #[true, true, true, true, true, true, true, true, false, true, true, true, true, false, true, true, true, false, false, false, false, false, false, false, false, false, false, false, false, false] rfl HT_.out ?_ (.inl ⟨by rfl, ?_⟩) ?_ ?_ ?_; rotate_left
              ·intro w'; go_simp; with_reducible rfl
              rotate_left
              ·simp only [ap1, ap2, ap3, ap4, i64_w, i32_w]; rfl
              refine tx 8 57 #[true, true, true, true, true, true, true, true, true, true, true, true, true, false, true, true, true, false, false, false, false, false, false, false, false, false, false, false, false, false] rfl HT_.out HW_.out hHeld ?_ (.inl ⟨by rfl, ?_⟩) ?_ ?_ ?_; rotate_left
              ·rintro w' ⟨s0, s1, s2, s3, s4, s5, s6⟩; go_simp; with_reducible rfl
              rotate_left
              ·simp only [ap1, ap2, ap3, ap4, i64_w, i32_w]; rfl
              refine tx 13 62 #[true, true, true, true, true, true, true, true, true, true, true, true, true, true, true, true, true, false, false, false, false, false, false, false, false, false, false, false, false, false] rfl HT_.out HW_.out hHeld ?_ (.inl ⟨by rfl, ?_⟩) ?_ ?_ ?_; rotate_left
              ·rintro w' ⟨s0, s1, s2, s3, s4, s5, s6⟩; go_simp; with_reducible rfl
              rotate_left
              ·simp only [ap1, ap2, ap3, ap4, i64_w, i32_w]; rfl
              refine px 17 66 #[true, true, true, true, true, true, true, true, true, true, true, true, true, true, true, true, true, true, false, false, false, false, false, false, false, false, false, false, false, false] rfl HT_.out ?_ (.inl ⟨by rfl, ?_⟩) ?_ ?_ ?_; rotate_left
              ·intro w'; go_simp; with_reducible rfl
              rotate_left
              ·simp only [ap1, ap2, ap3, ap4, i64_w, i32_w]; rfl
              refine px 18 67 #[true, true, true, true, true, true, true, true, true, true, true, true, true, true, true, true, true, true, true, false, false, false, false, false, false, false, false, false, false, false] rfl HT_.out ?_ (.inl ⟨by rfl, ?_⟩) ?_ ?_ ?_; rotate_left
              ·intro w'; go_simp; with_reducible rfl
              rotate_left
              ·simp only [ap1, ap2, ap3, ap4, i64_w, i32_w]; rfl
              refine px 19 68 #[true, true, true, true, true, true, true, true, true, true, true, true, true, true, true, true, true, true, true, true, false, false, false, false, false, false, false, false, false, false] rfl HT_.out ?_ (.inl ⟨by rfl, ?_⟩) ?_ ?_ ?_; rotate_left
              ·intro w'; go_simp; with_reducible rfl
              rotate_left
              ·simp only [ap1, ap2, ap3, ap4, i64_w, i32_w]; rfl
              refine px 20 69 #[true, true, true, true, true, true, true, true, true, true, true, true, true, true, true, true, true, true, true, true, true, false, false, false, false, false, false, false, false, false] rfl HT_.out ?_ (.inl ⟨by rfl, ?_⟩) ?_ ?_ ?_; rotate_left
              ·intro w'; go_simp; with_reducible rfl
              rotate_left
              ·simp only [ap1, ap2, ap3, ap4, i64_w, i32_w]; rfl
              refine pure_ (i := 21) (N := some 70) (v := undef) (a' := ?_) #[true, true, true, true, true, true, true, true, true, true, true, true, true, true, true, true, true, true, true, true, true, true, false, false, false, false, false, false, false, false] rfl rfl (ao HT_.out) (fun _ _ _ h => h) (Or.inr ⟨by rfl, rfl⟩) ?_ ?_; rotate_left
              ·simp only [ap1, ap2, ap3, ap4, i64_w, i32_w]; rfl
              refine pure_ (i := 22) (N := some 71) (v := undef) (a' := ?_) #[true, true, true, true, true, true, true, true, true, true, true, true, true, true, true, true, true, true, true, true, true, true, true, false, false, false, false, false, false, false] rfl rfl (ao HT_.out) (fun _ _ _ h => h) (Or.inr ⟨by rfl, rfl⟩) ?_ ?_; rotate_left
              ·simp only [ap1, ap2, ap3, ap4, i64_w, i32_w]; rfl
              refine pure_ (i := 23) (N := some 72) (v := undef) (a' := ?_) #[true, true, true, true, true, true, true, true, true, true, true, true, true, true, true, true, true, true, true, true, true, true, true, true, false, false, false, false, false, false] rfl rfl (ao HT_.out) (fun _ _ _ h => h) (Or.inr ⟨by rfl, rfl⟩) ?_ ?_; rotate_left
              ·simp only [ap1, ap2, ap3, ap4, i64_w, i32_w]; rfl
              refine pure_ (i := 24) (N := some 73) (v := undef) (a' := ?_) #[true, true, true, true, true, true, true, true, true, true, true, true, true, true, true, true, true, true, true, true, true, true, true, true, true, false, false, false, false, false] rfl rfl (ao HT_.out) (fun _ _ _ h => h) (Or.inr ⟨by rfl, rfl⟩) ?_ ?_; rotate_left
              ·simp only [ap1, ap2, ap3, ap4, i64_w, i32_w]; rfl
              refine pure_ (i := 25) (N := some 74) (v := undef) (a' := ?_) #[true, true, true, true, true, true, true, true, true, true, true, true, true, true, true, true, true, true, true, true, true, true, true, true, true, true, false, false, false, false] rfl rfl (ao HT_.out) (fun _ _ _ h => h) (Or.inr ⟨by rfl, rfl⟩) ?_ ?_; rotate_left
              ·simp only [ap1, ap2, ap3, ap4, i64_w, i32_w]; rfl
              refine pure_ (i := 26) (N := some 75) (v := undef) (a' := ?_) #[true, true, true, true, true, true, true, true, true, true, true, true, true, true, true, true, true, true, true, true, true, true, true, true, true, true, true, false, false, false] rfl rfl (ao HT_.out) (fun _ _ _ h => h) (Or.inr ⟨by rfl, rfl⟩) ?_ ?_; rotate_left
              ·simp only [ap1, ap2, ap3, ap4, i64_w, i32_w]; rfl
              refine pure_ (i := 27) (N := some 76) (v := undef) (a' := ?_) #[true, true, true, true, true, true, true, true, true, true, true, true, true, true, true, true, true, true, true, true, true, true, true, true, true, true, true, true, false, false] rfl rfl (ao HT_.out) (fun _ _ _ h => h) (Or.inr ⟨by rfl, rfl⟩) ?_ ?_; rotate_left
              ·simp only [ap1, ap2, ap3, ap4, i64_w, i32_w]; rfl
              refine pure_ (i := 28) (N := some 77) (v := undef) (a' := ?_) #[true, true, true, true, true, true, true, true, true, true, true, true, true, true, true, true, true, true, true, true, true, true, true, true, true, true, true, true, true, false] rfl rfl (ao HT_.out) (fun _ _ _ h => h) (Or.inr ⟨by rfl, rfl⟩) ?_ ?_; rotate_left
              ·simp only [ap1, ap2, ap3, ap4, i64_w, i32_w]; rfl
              refine px 29 78 #[true, true, true, true, true, true, true, true, true, true, true, true, true, true, true, true, true, true, true, true, true, true, true, true, true, true, true, true, true, true] rfl HT_.out ?_ (.inl ⟨by rfl, ?_⟩) ?_ ?_ ?_; rotate_left
              ·intro w'; go_simp; with_reducible rfl
              rotate_left
              ·simp only [ap1, ap2, ap3, ap4, i64_w, i32_w]; rfl
              refine done_ (done_of HT_.out (by kernel_rfl)) ?_; try go_wp2
              go_ret
              exact ⟨by first | rfl | (simp [errW_none, errW_some] <;> rfl) | (simp [*, errW_none, errW_some] <;> rfl), by exact vh HB.out⟩
            ·rw [if_neg c13] at H
             exact absurd H (by simp)
           ·rw [if_neg c12] at H
            exact absurd H (by simp)
         ·rw [if_neg c9] at H
          have c9b0 : (((rd_T67 l1 x11_2).f0) == x6_1) = false := beq_eq_false_iff_ne.mpr c9; have c9b1 : (((rd_T67 l1 x11_2).f0) != x6_1) = true := bne_iff_ne.mpr c9; have H' := Aside0.mk H; clear H; have p127 : 0 ≤ (x11_2 : Int) := of_decide_eq_true va; have q127 : x11_2 < (l1.length : Int) := of_decide_eq_true va; obtain ⟨ad127, e127, hx127_0, hx127_1, hx127_2⟩ := at_T67 HR1.out x11_2 p127 q127; cases e127; (try replace hx127_0 := vl HB.out hx127_0); (try replace hx127_1 := vl HB.out hx127_1); (try replace hx127_2 := vl HB.out hx127_2); replace p127 := eq_true p127; replace q127 := eq_true q127; go_wp2
          go_roundg k2
          case measure => have := HK1.out; have := HK2.out; omega
          case rel => exact ⟨(x9_2), (x10_2), (wrap64 (x11_2 + 1)), (by first | rfl | (simp; done) | (simp [*]; done)), (by first | rfl | (simp; done) | (simp [*]; done)), vq, H', ⟨by have := HK1.out; have := HK2.out; omega⟩, ⟨by exact vh HB.out⟩⟩
        ·rw [if_neg c8] at H
         exact absurd H (by simp)
       ·rw [if_neg c7] at H
        have c7b0 : decide (x11_2 < (l1.length : Int)) = false := decide_eq_false c7; clear c7; by_cases c21 : x10_2 = t124
        ·rw [if_pos c21] at H
         have c21b0 : (x10_2 == t124) = true := beq_iff_eq.mpr c21; have c21b1 : (x10_2 != t124) = false := bne_eq_false_iff_eq.mpr c21; clear c21; have H' := Aside0.mk H; clear H; go_wp2
         go_roundg k2
         case measure => have := HK1.out; have := HK2.out; omega
         case rel => exact ⟨((wrap64 (x5_1 + t124))), (wrap64 (x6_1 + 1)), vq, vq, H', ⟨by have := HK1.out; have := HK2.out; omega⟩, ⟨by exact vh HB.out⟩⟩
        ·rw [if_neg c21] at H
         have c21b0 : (x10_2 == t124) = false := beq_eq_false_iff_ne.mpr c21; have c21b1 : (x10_2 != t124) = true := bne_iff_ne.mpr c21; obtain rfl := Option.some.inj H; go_wp2
         go_ret
         exact ⟨by first | rfl | (simp [errW_none, errW_some] <;> rfl) | (simp [*, errW_none, errW_some] <;> rfl), by exact vh HB.out⟩
    ·rw [if_neg c4] at H
     exact absurd H (by simp)
   ·rw [if_neg c3] at H
    have c3b0 : decide (x6_1 < (l0.length : Int)) = false := decide_eq_false c3; clear c3; by_cases c22 : (l1.length : Int) = x5_1
    ·rw [if_pos c22] at H
     have c22b0 : ((l1.length : Int) == x5_1) = true := beq_iff_eq.mpr c22; have c22b1 : ((l1.length : Int) != x5_1) = false := bne_eq_false_iff_eq.mpr c22; clear c22; have H' := Aside0.mk H; clear H; go_wp2
     go_loopg [12] k1 (fun kq v12 w' => ∃ (x12_2 : Int), v12 = .int .i64 x12_2 ∧ Aside0 (spec_l10IsPlan.l2 kq l0 l1 x12_2 = some r) ∧ Aside0 (kq ≤ k1) ∧ Aside0 (Below w.heap.size w w'))
     case atStart => exact ⟨(0), (by first | rfl | (simp; done) | (simp [*]; done)), H', ⟨Nat.le_refl _⟩, ⟨by exact vh HB.out⟩⟩
     case round =>
      clear H'; try clear c1
      try clear p1
      try clear q1
      try clear hx1
      try clear c2
      try clear p2
      try clear c3
      try clear c3b0
      try clear c4
      try clear p6
      try clear c7
      try clear c7b0
      try clear c8
      try clear c9
      try clear c9b0
      try clear c9b1
      try clear c12
      try clear p12
      try clear q12
      try clear hx12
      try clear c13
      try clear p13
      try clear q13
      try clear hx13
      try clear c14
      try clear c14b0
      try clear c14b1
      try clear c21
      try clear c21b0
      try clear c21b1
      try clear c22
      try clear c22b0
      try clear c22b1
      try clear hx127_0
      try clear hx127_1
      try clear hx127_2
      try clear hx128_0
      try clear hx128_1
      try clear hx128_2
      try clear hx129_0
      try clear hx129_1
      try clear hx129_2
      try clear hx129_3
      try clear hx130_0
      try clear hx130_1
      try clear hx130_2
      try clear p127
      try clear p128
      try clear p129
      try clear p130
      try clear q127
      try clear q128
      try clear q129
      try clear q130
      obtain ⟨x12_2, rfl, HA, HK2, HB⟩ := hrel; cases gk with
      | zero => exact absurd HA.out (by simp [spec_l10IsPlan.l2])
      | succ k2 =>
       have H := HA.out; clear HA; simp only [spec_l10IsPlan.l2] at H
       by_cases c23 : x12_2 < (l1.length : Int)
       ·rw [if_pos c23] at H
        have c23b0 : decide (x12_2 < (l1.length : Int)) = true := decide_eq_true c23; clear c23; have H' := Aside0.mk H; clear H; go_wp2
        go_loopg [13] k2 (fun kq v13 w' => ∃ (x13_3 : Int), v13 = .int .i64 x13_3 ∧ Aside0 (spec_l10IsPlan.l3 kq l0 l1 x12_2 x13_3 = some r) ∧ Aside0 (kq ≤ k2) ∧ Aside0 (Below w.heap.size w w'))
        case atStart => exact ⟨(0), (by first | rfl | (simp; done) | (simp [*]; done)), H', ⟨Nat.le_refl _⟩, ⟨by exact vh HB.out⟩⟩
        case round =>
         clear H'; try clear c1
         try clear p1
         try clear q1
         try clear hx1
         try clear c2
         try clear p2
         try clear c3
         try clear c3b0
         try clear c4
         try clear p6
         try clear c7
         try clear c7b0
         try clear c8
         try clear c9
         try clear c9b0
         try clear c9b1
         try clear c12
         try clear p12
         try clear q12
         try clear hx12
         try clear c13
         try clear p13
         try clear q13
         try clear hx13
         try clear c14
         try clear c14b0
         try clear c14b1
         try clear c21
         try clear c21b0
         try clear c21b1
         try clear c22
         try clear c22b0
         try clear c22b1
         try clear c23
         try clear c23b0
         try clear hx127_0
         try clear hx127_1
         try clear hx127_2
         try clear hx128_0
         try clear hx128_1
         try clear hx128_2
         try clear hx129_0
         try clear hx129_1
         try clear hx129_2
         try clear hx129_3
         try clear hx130_0
         try clear hx130_1
         try clear hx130_2
         try clear p1
         try clear p12
         try clear p127
         try clear p128
         try clear p129
         try clear p13
         try clear p130
         try clear p2
         try clear p6
         try clear q1
         try clear q12
         try clear q127
         try clear q128
         try clear q129
         try clear q13
         try clear q130
         obtain ⟨x13_3, rfl, HA, HK3, HB⟩ := hrel; cases gk with
         | zero => exact absurd HA.out (by simp [spec_l10IsPlan.l3])
         | succ k3 =>
          have H := HA.out; clear HA; simp only [spec_l10IsPlan.l3] at H
          by_cases c24 : x13_3 < x12_2
          ·rw [if_pos c24] at H
           have c24b0 : decide (x13_3 < x12_2) = true := decide_eq_true c24; clear c24; by_cases c25 : 0 ≤ x13_3
           ·rw [if_pos c25] at H
            have c25b0 : decide (0 ≤ x13_3) = true := decide_eq_true c25; clear c25; by_cases c26 : x13_3 < (l1.length : Int)
            ·rw [if_pos c26] at H
             have c26b0 : decide (x13_3 < (l1.length : Int)) = true := decide_eq_true c26; clear c26; by_cases c27 : 0 ≤ x12_2
             ·rw [if_pos c27] at H
              have c27b0 : decide (0 ≤ x12_2) = true := decide_eq_true c27; clear c27; by_cases c28 : x12_2 < (l1.length : Int)
              ·rw [if_pos c28] at H
               have c28b0 : decide (x12_2 < (l1.length : Int)) = true := decide_eq_true c28; clear c28; replace H := Option.bind_eq_some_iff.mp H; obtain ⟨t136, A290, H⟩ := H; replace H : (if t136 = true then (some false) else (spec_l10IsPlan.l3 k3 l0 l1 x12_2 (wrap64 (x13_3 + 1)))) = some r := H; have A29 := Aside0.mk A290; clear A290; by_cases c30 : t136 = true
               ·subst c30; have H1 : (some false) = some r := by rw [if_pos rfl] at H; first | exact H | (simp only [if_true, eq_self] at H ⊢; exact H)
                clear H; have H := H1; clear H1; obtain rfl := Option.some.inj H; try go_wp2
                have n0_ := ak (below_drew1 HB.out); clear HB; have HB := n0_; clear n0_; have p134 : 0 ≤ (x13_3 : Int) := of_decide_eq_true va; have q134 : x13_3 < (l1.length : Int) := of_decide_eq_true va; obtain ⟨ad134, e134, hx134_0, hx134_1, hx134_2⟩ := at_T67 HR1.out x13_3 p134 q134; have hw134_2 := hx134_2; have hw134_1 := hx134_1; have hw134_0 := hx134_0; cases e134; (try replace hx134_0 := vl HB.out hx134_0); (try replace hx134_1 := vl HB.out hx134_1); (try replace hx134_2 := vl HB.out hx134_2); replace p134 := eq_true p134; replace q134 := eq_true q134; have p135 : 0 ≤ (x12_2 : Int) := of_decide_eq_true va; have q135 : x12_2 < (l1.length : Int) := of_decide_eq_true va; obtain ⟨ad135, e135, hx135_0, hx135_1, hx135_2⟩ := at_T67 HR1.out x12_2 p135 q135; have hw135_2 := hx135_2; have hw135_1 := hx135_1; have hw135_0 := hx135_0; obtain rfl : ad134 = ad135 := (by injection e135); (try replace hx135_0 := vl HB.out hx135_0); (try replace hx135_1 := vl HB.out hx135_1); (try replace hx135_2 := vl HB.out hx135_2); replace p135 := eq_true p135; replace q135 := eq_true q135; refine start_ (n := 10) (S := fun w' => w'.cell? (ad134.add ((x13_3).toNat * 3)) = some (.int .i64 ((rd_T67 l1 x13_3).f0)) ∧ w'.cell? ⟨(ad134.add ((x13_3).toNat * 3)).block, (ad134.add ((x13_3).toNat * 3)).off + 1, none⟩ = some (.int .i64 ((rd_T67 l1 x13_3).f1)) ∧ w'.cell? ⟨(ad134.add ((x13_3).toNat * 3)).block, (ad134.add ((x13_3).toNat * 3)).off + 2, none⟩ = some (.int .i64 ((rd_T67 l1 x13_3).f2)) ∧ w'.cell? (ad134.add ((x12_2).toNat * 3)) = some (.int .i64 ((rd_T67 l1 x12_2).f0)) ∧ w'.cell? ⟨(ad134.add ((x12_2).toNat * 3)).block, (ad134.add ((x12_2).toNat * 3)).off + 1, none⟩ = some (.int .i64 ((rd_T67 l1 x12_2).f1)) ∧ w'.cell? ⟨(ad134.add ((x12_2).toNat * 3)).block, (ad134.add ((x12_2).toNat * 3)).off + 2, none⟩ = some (.int .i64 ((rd_T67 l1 x12_2).f2))) (ds := []) #[false, false, false, false, false, false, false, false, false, false] (by kernel_rfl) rfl rfl ⟨(vl HB.out hw134_0 :), (vl HB.out hw134_1 :), (vl HB.out hw134_2 :), (vl HB.out hw135_0 :), (vl HB.out hw135_1 :), (vl HB.out hw135_2 :)⟩ (fun hHeld => ?_); refine with_tabW spec_l10IsPlan.tab26 spec_l10IsPlan.bits26 (fun HT_ HW_ => ?_); generalize wr.drew = w31 at HB hx134_0 hx134_1 hx134_2 hx135_0 hx135_1 hx135_2 hHeld ⊢
                refine px 0 110 #[true, false, false, false, false, false, false, false, false, false] rfl HT_.out ?_ (.inl ⟨by rfl, ?_⟩) ?_ ?_ ?_; rotate_left
                ·intro w'; go_simp; with_reducible rfl
                rotate_left
                ·simp only [ap1, ap2, ap3, ap4, i64_w, i32_w]; rfl
                refine px 1 111 #[true, true, false, false, false, false, false, false, false, false] rfl HT_.out ?_ (.inl ⟨by rfl, ?_⟩) ?_ ?_ ?_; rotate_left
                ·intro w'; go_simp; with_reducible rfl
                rotate_left
                ·simp only [ap1, ap2, ap3, ap4, i64_w, i32_w]; rfl
                refine px 2 112 #[true, true, true, false, false, false, false, false, false, false] rfl HT_.out ?_ (.inl ⟨by rfl, ?_⟩) ?_ ?_ ?_; rotate_left
                ·intro w'; go_simp; with_reducible rfl
                rotate_left
                ·simp only [ap1, ap2, ap3, ap4, i64_w, i32_w]; rfl
                refine px 3 113 #[true, true, true, true, false, false, false, false, false, false] rfl HT_.out ?_ (.inl ⟨by rfl, ?_⟩) ?_ ?_ ?_; rotate_left
                ·intro w'; go_simp; with_reducible rfl
                rotate_left
                ·simp only [ap1, ap2, ap3, ap4, i64_w, i32_w]; rfl
                refine px 5 115 #[true, true, true, true, false, true, false, false, false, false] rfl HT_.out ?_ (.inl ⟨by rfl, ?_⟩) ?_ ?_ ?_; rotate_left
                ·intro w'; go_simp; with_reducible rfl
                rotate_left
                ·simp only [ap1, ap2, ap3, ap4, i64_w, i32_w]; rfl
                refine px 6 116 #[true, true, true, true, false, true, true, false, false, false] rfl HT_.out ?_ (.inl ⟨by rfl, ?_⟩) ?_ ?_ ?_; rotate_left
                ·intro w'; go_simp; with_reducible rfl
                rotate_left
                ·simp only [ap1, ap2, ap3, ap4, i64_w, i32_w]; rfl
                refine px 7 117 #[true, true, true, true, false, true, true, true, false, false] rfl HT_.out ?_ (.inl ⟨by rfl, ?_⟩) ?_ ?_ ?_; rotate_left
                ·intro w'; go_simp; with_reducible rfl
                rotate_left
                ·simp only [ap1, ap2, ap3, ap4, i64_w, i32_w]; rfl
                refine tx 4 114 #[true, true, true, true, true, true, true, true, false, false] rfl HT_.out HW_.out hHeld ?_ (.inl ⟨by rfl, ?_⟩) ?_ ?_ ?_; rotate_left
                ·rintro w' ⟨s0, s1, s2, s3, s4, s5⟩; go_simp; with_reducible rfl
                rotate_left
                ·simp only [ap1, ap2, ap3, ap4, i64_w, i32_w]; rfl
                refine tx 8 118 #[true, true, true, true, true, true, true, true, true, false] rfl HT_.out HW_.out hHeld ?_ (.inl ⟨by rfl, ?_⟩) ?_ ?_ ?_; rotate_left
                ·rintro w' ⟨s0, s1, s2, s3, s4, s5⟩; go_simp; with_reducible rfl
                rotate_left
                ·simp only [ap1, ap2, ap3, ap4, i64_w, i32_w]; rfl
                refine one_ (i := 9) (N := some 119) #[true, true, true, true, true, true, true, true, true, true] rfl rfl (one_of HT_.out (by kernel_rfl)) (by decide) (fun K hK => ?_); refine goes_ Try.func61 (by kernel_rfl) rfl #[.slice A0 l0.length c0, .agg #[.int .i64 ((rd_T67 l1 x13_3).f0), .int .i64 ((rd_T67 l1 x13_3).f1), .int .i64 ((rd_T67 l1 x13_3).f2)], .agg #[.int .i64 ((rd_T67 l1 x12_2).f0), .int .i64 ((rd_T67 l1 x12_2).f1), .int .i64 ((rd_T67 l1 x12_2).f2)]] (by rfl) rfl rfl vm ?_; with_reducible refine (spec_l10Clash.calls k3 _ _ l0 ((rd_T67 l1 x13_3).f0) ((rd_T67 l1 x13_3).f1) ((rd_T67 l1 x13_3).f2) ((rd_T67 l1 x12_2).f0) ((rd_T67 l1 x12_2).f1) ((rd_T67 l1 x12_2).f2) true _ ?side1 ?side2 A29.out).mono ?_
                (case side1 => exact vc HR0.out HB.out)
                (case side2 => exact HC0.out)
                rintro e w32 ⟨rfl, hb⟩; refine ⟨_, rfl, ?_⟩; have n0_ := ak (below_step (vh HB.out) hb); clear HB; have HB := n0_; clear n0_; (try clear hb); (try clear hb2); (try clear hk); (try clear hi); refine hK.out _ _ ⟨(vl HB.out hw134_0 :), (vl HB.out hw134_1 :), (vl HB.out hw134_2 :), (vl HB.out hw135_0 :), (vl HB.out hw135_1 :), (vl HB.out hw135_2 :)⟩ (fun hHeld => ?_); clear hK K; refine norm_ (a' := ?_) ?_ ?_; rotate_left
                ·show Act.put _ (some 119) _ = _; simp only [ap1, ap2, ap3, ap4, i64_w, i32_w]; rfl
                refine done_ (done_of HT_.out (by kernel_rfl)) ?_; try go_wp2
                go_ret
                exact ⟨by first | rfl | (simp [errW_none, errW_some] <;> rfl) | (simp [*, errW_none, errW_some] <;> rfl), by exact vh HB.out⟩
               ·replace c30 := Bool.eq_false_iff.mpr c30; subst c30; have H1 : (spec_l10IsPlan.l3 k3 l0 l1 x12_2 (wrap64 (x13_3 + 1))) = some r := by rw [if_neg (show ¬ (false = true) by decide)] at H; first | exact H | (simp only [if_true, eq_self] at H ⊢; exact H)
                clear H; have H := H1; clear H1; have H' := Aside0.mk H; clear H; try go_wp2
                have n0_ := ak (below_drew1 HB.out); clear HB; have HB := n0_; clear n0_; have p134 : 0 ≤ (x13_3 : Int) := of_decide_eq_true va; have q134 : x13_3 < (l1.length : Int) := of_decide_eq_true va; obtain ⟨ad134, e134, hx134_0, hx134_1, hx134_2⟩ := at_T67 HR1.out x13_3 p134 q134; have hw134_2 := hx134_2; have hw134_1 := hx134_1; have hw134_0 := hx134_0; cases e134; (try replace hx134_0 := vl HB.out hx134_0); (try replace hx134_1 := vl HB.out hx134_1); (try replace hx134_2 := vl HB.out hx134_2); replace p134 := eq_true p134; replace q134 := eq_true q134; have p135 : 0 ≤ (x12_2 : Int) := of_decide_eq_true va; have q135 : x12_2 < (l1.length : Int) := of_decide_eq_true va; obtain ⟨ad135, e135, hx135_0, hx135_1, hx135_2⟩ := at_T67 HR1.out x12_2 p135 q135; have hw135_2 := hx135_2; have hw135_1 := hx135_1; have hw135_0 := hx135_0; obtain rfl : ad134 = ad135 := (by injection e135); (try replace hx135_0 := vl HB.out hx135_0); (try replace hx135_1 := vl HB.out hx135_1); (try replace hx135_2 := vl HB.out hx135_2); replace p135 := eq_true p135; replace q135 := eq_true q135; refine start_ (n := 10) (S := fun w' => w'.cell? (ad134.add ((x13_3).toNat * 3)) = some (.int .i64 ((rd_T67 l1 x13_3).f0)) ∧ w'.cell? ⟨(ad134.add ((x13_3).toNat * 3)).block, (ad134.add ((x13_3).toNat * 3)).off + 1, none⟩ = some (.int .i64 ((rd_T67 l1 x13_3).f1)) ∧ w'.cell? ⟨(ad134.add ((x13_3).toNat * 3)).block, (ad134.add ((x13_3).toNat * 3)).off + 2, none⟩ = some (.int .i64 ((rd_T67 l1 x13_3).f2)) ∧ w'.cell? (ad134.add ((x12_2).toNat * 3)) = some (.int .i64 ((rd_T67 l1 x12_2).f0)) ∧ w'.cell? ⟨(ad134.add ((x12_2).toNat * 3)).block, (ad134.add ((x12_2).toNat * 3)).off + 1, none⟩ = some (.int .i64 ((rd_T67 l1 x12_2).f1)) ∧ w'.cell? ⟨(ad134.add ((x12_2).toNat * 3)).block, (ad134.add ((x12_2).toNat * 3)).off + 2, none⟩ = some (.int .i64 ((rd_T67 l1 x12_2).f2))) (ds := []) #[false, false, false, false, false, false, false, false, false, false] (by kernel_rfl) rfl rfl ⟨(vl HB.out hw134_0 :), (vl HB.out hw134_1 :), (vl HB.out hw134_2 :), (vl HB.out hw135_0 :), (vl HB.out hw135_1 :), (vl HB.out hw135_2 :)⟩ (fun hHeld => ?_); refine with_tabW spec_l10IsPlan.tab26 spec_l10IsPlan.bits26 (fun HT_ HW_ => ?_); generalize wr.drew = w33 at HB hx134_0 hx134_1 hx134_2 hx135_0 hx135_1 hx135_2 hHeld ⊢
                refine px 0 110 #[true, false, false, false, false, false, false, false, false, false] rfl HT_.out ?_ (.inl ⟨by rfl, ?_⟩) ?_ ?_ ?_; rotate_left
                ·intro w'; go_simp; with_reducible rfl
                rotate_left
                ·simp only [ap1, ap2, ap3, ap4, i64_w, i32_w]; rfl
                refine px 1 111 #[true, true, false, false, false, false, false, false, false, false] rfl HT_.out ?_ (.inl ⟨by rfl, ?_⟩) ?_ ?_ ?_; rotate_left
                ·intro w'; go_simp; with_reducible rfl
                rotate_left
                ·simp only [ap1, ap2, ap3, ap4, i64_w, i32_w]; rfl
                refine px 2 112 #[true, true, true, false, false, false, false, false, false, false] rfl HT_.out ?_ (.inl ⟨by rfl, ?_⟩) ?_ ?_ ?_; rotate_left
                ·intro w'; go_simp; with_reducible rfl
                rotate_left
                ·simp only [ap1, ap2, ap3, ap4, i64_w, i32_w]; rfl
                refine px 3 113 #[true, true, true, true, false, false, false, false, false, false] rfl HT_.out ?_ (.inl ⟨by rfl, ?_⟩) ?_ ?_ ?_; rotate_left
                ·intro w'; go_simp; with_reducible rfl
                rotate_left
                ·simp only [ap1, ap2, ap3, ap4, i64_w, i32_w]; rfl
                refine px 5 115 #[true, true, true, true, false, true, false, false, false, false] rfl HT_.out ?_ (.inl ⟨by rfl, ?_⟩) ?_ ?_ ?_; rotate_left
                ·intro w'; go_simp; with_reducible rfl
                rotate_left
                ·simp only [ap1, ap2, ap3, ap4, i64_w, i32_w]; rfl
                refine px 6 116 #[true, true, true, true, false, true, true, false, false, false] rfl HT_.out ?_ (.inl ⟨by rfl, ?_⟩) ?_ ?_ ?_; rotate_left
                ·intro w'; go_simp; with_reducible rfl
                rotate_left
                ·simp only [ap1, ap2, ap3, ap4, i64_w, i32_w]; rfl
                refine px 7 117 #[true, true, true, true, false, true, true, true, false, false] rfl HT_.out ?_ (.inl ⟨by rfl, ?_⟩) ?_ ?_ ?_; rotate_left
                ·intro w'; go_simp; with_reducible rfl
                rotate_left
                ·simp only [ap1, ap2, ap3, ap4, i64_w, i32_w]; rfl
                refine tx 4 114 #[true, true, true, true, true, true, true, true, false, false] rfl HT_.out HW_.out hHeld ?_ (.inl ⟨by rfl, ?_⟩) ?_ ?_ ?_; rotate_left
                ·rintro w' ⟨s0, s1, s2, s3, s4, s5⟩; go_simp; with_reducible rfl
                rotate_left
                ·simp only [ap1, ap2, ap3, ap4, i64_w, i32_w]; rfl
                refine tx 8 118 #[true, true, true, true, true, true, true, true, true, false] rfl HT_.out HW_.out hHeld ?_ (.inl ⟨by rfl, ?_⟩) ?_ ?_ ?_; rotate_left
                ·rintro w' ⟨s0, s1, s2, s3, s4, s5⟩; go_simp; with_reducible rfl
                rotate_left
                ·simp only [ap1, ap2, ap3, ap4, i64_w, i32_w]; rfl
                refine one_ (i := 9) (N := some 119) #[true, true, true, true, true, true, true, true, true, true] rfl rfl (one_of HT_.out (by kernel_rfl)) (by decide) (fun K hK => ?_); refine goes_ Try.func61 (by kernel_rfl) rfl #[.slice A0 l0.length c0, .agg #[.int .i64 ((rd_T67 l1 x13_3).f0), .int .i64 ((rd_T67 l1 x13_3).f1), .int .i64 ((rd_T67 l1 x13_3).f2)], .agg #[.int .i64 ((rd_T67 l1 x12_2).f0), .int .i64 ((rd_T67 l1 x12_2).f1), .int .i64 ((rd_T67 l1 x12_2).f2)]] (by rfl) rfl rfl vm ?_; with_reducible refine (spec_l10Clash.calls k3 _ _ l0 ((rd_T67 l1 x13_3).f0) ((rd_T67 l1 x13_3).f1) ((rd_T67 l1 x13_3).f2) ((rd_T67 l1 x12_2).f0) ((rd_T67 l1 x12_2).f1) ((rd_T67 l1 x12_2).f2) false _ ?side1 ?side2 A29.out).mono ?_
                (case side1 => exact vc HR0.out HB.out)
                (case side2 => exact HC0.out)
                rintro e w34 ⟨rfl, hb⟩; refine ⟨_, rfl, ?_⟩; have n0_ := ak (below_step (vh HB.out) hb); clear HB; have HB := n0_; clear n0_; (try clear hb); (try clear hb2); (try clear hk); (try clear hi); refine hK.out _ _ ⟨(vl HB.out hw134_0 :), (vl HB.out hw134_1 :), (vl HB.out hw134_2 :), (vl HB.out hw135_0 :), (vl HB.out hw135_1 :), (vl HB.out hw135_2 :)⟩ (fun hHeld => ?_); clear hK K; refine norm_ (a' := ?_) ?_ ?_; rotate_left
                ·show Act.put _ (some 119) _ = _; simp only [ap1, ap2, ap3, ap4, i64_w, i32_w]; rfl
                refine done_ (done_of HT_.out (by kernel_rfl)) ?_; try go_wp2
                go_roundg k3
                case measure => have := HK1.out; have := HK2.out; have := HK3.out; omega
                case rel => exact ⟨(wrap64 (x13_3 + 1)), vq, H', ⟨by have := HK1.out; have := HK2.out; have := HK3.out; omega⟩, ⟨by exact vh HB.out⟩⟩
              ·rw [if_neg c28] at H
               exact absurd H (by simp)
             ·rw [if_neg c27] at H
              exact absurd H (by simp)
            ·rw [if_neg c26] at H
             exact absurd H (by simp)
           ·rw [if_neg c25] at H
            exact absurd H (by simp)
          ·rw [if_neg c24] at H
           have c24b0 : decide (x13_3 < x12_2) = false := decide_eq_false c24; clear c24; by_cases c35 : x12_2 > 0
           ·rw [if_pos c35] at H
            have c35b0 : decide (0 < x12_2) = true := decide_eq_true c35; clear c35; obtain ⟨ji36, hji36⟩ : ∃ j_ : Int, (wrap64 (x12_2 - 1)) = j_ := ⟨_, rfl⟩; replace H : (if 0 ≤ (ji36) then (if (ji36) < (l1.length : Int) then (if 0 ≤ x12_2 then (if x12_2 < (l1.length : Int) then ((spec_l10Before.f ((rd_T67 l1 (ji36)).f0) ((rd_T67 l1 (ji36)).f1) ((rd_T67 l1 (ji36)).f2) ((rd_T67 l1 x12_2).f0) ((rd_T67 l1 x12_2).f1) ((rd_T67 l1 x12_2).f2)).bind fun t139 => (if t139 = true then (spec_l10IsPlan.l2 k3 l0 l1 (wrap64 (x12_2 + 1))) else (some false))) else (none)) else (none)) else (none)) else (none)) = some r := by first | (rw [hji36] at H; exact H) | (simp only [hji36] at H ⊢; exact H)
            have hji36w : (IntKind.i64.wrap (x12_2 - 1)) = ji36 := (i64_w _).trans hji36; by_cases c37 : 0 ≤ (ji36)
            ·rw [if_pos c37] at H
             have c37b0 : decide (0 ≤ (ji36)) = true := decide_eq_true c37; clear c37; by_cases c38 : (ji36) < (l1.length : Int)
             ·rw [if_pos c38] at H
              have c38b0 : decide ((ji36) < (l1.length : Int)) = true := decide_eq_true c38; clear c38; by_cases c39 : 0 ≤ x12_2
              ·rw [if_pos c39] at H
               have c39b0 : decide (0 ≤ x12_2) = true := decide_eq_true c39; clear c39; by_cases c40 : x12_2 < (l1.length : Int)
               ·rw [if_pos c40] at H
                have c40b0 : decide (x12_2 < (l1.length : Int)) = true := decide_eq_true c40; clear c40; replace H := Option.bind_eq_some_iff.mp H; obtain ⟨t139, A410, H⟩ := H; replace H : (if t139 = true then (spec_l10IsPlan.l2 k3 l0 l1 (wrap64 (x12_2 + 1))) else (some false)) = some r := H; have A41 := Aside0.mk A410; clear A410; by_cases c42 : t139 = true
                ·subst c42; have H1 : (spec_l10IsPlan.l2 k3 l0 l1 (wrap64 (x12_2 + 1))) = some r := by rw [if_pos rfl] at H; first | exact H | (simp only [if_true, eq_self] at H ⊢; exact H)
                 clear H; have H := H1; clear H1; have H' := Aside0.mk H; clear H; try go_wp2
                 have n0_ := ak (below_drew1 HB.out); clear HB; have HB := n0_; clear n0_; have p137 : 0 ≤ ((ji36) : Int) := of_decide_eq_true va; have q137 : (ji36) < (l1.length : Int) := of_decide_eq_true va; obtain ⟨ad137, e137, hx137_0, hx137_1, hx137_2⟩ := at_T67 HR1.out (ji36) p137 q137; have hw137_2 := hx137_2; have hw137_1 := hx137_1; have hw137_0 := hx137_0; cases e137; (try replace hx137_0 := vl HB.out hx137_0); (try replace hx137_1 := vl HB.out hx137_1); (try replace hx137_2 := vl HB.out hx137_2); replace p137 := eq_true p137; replace q137 := eq_true q137; have p138 : 0 ≤ (x12_2 : Int) := of_decide_eq_true va; have q138 : x12_2 < (l1.length : Int) := of_decide_eq_true va; obtain ⟨ad138, e138, hx138_0, hx138_1, hx138_2⟩ := at_T67 HR1.out x12_2 p138 q138; have hw138_2 := hx138_2; have hw138_1 := hx138_1; have hw138_0 := hx138_0; obtain rfl : ad137 = ad138 := (by injection e138); (try replace hx138_0 := vl HB.out hx138_0); (try replace hx138_1 := vl HB.out hx138_1); (try replace hx138_2 := vl HB.out hx138_2); replace p138 := eq_true p138; replace q138 := eq_true q138; refine start_ (n := 15) (S := fun w' => w'.cell? (ad137.add (((ji36)).toNat * 3)) = some (.int .i64 ((rd_T67 l1 (ji36)).f0)) ∧ w'.cell? ⟨(ad137.add (((ji36)).toNat * 3)).block, (ad137.add (((ji36)).toNat * 3)).off + 1, none⟩ = some (.int .i64 ((rd_T67 l1 (ji36)).f1)) ∧ w'.cell? ⟨(ad137.add (((ji36)).toNat * 3)).block, (ad137.add (((ji36)).toNat * 3)).off + 2, none⟩ = some (.int .i64 ((rd_T67 l1 (ji36)).f2)) ∧ w'.cell? (ad137.add ((x12_2).toNat * 3)) = some (.int .i64 ((rd_T67 l1 x12_2).f0)) ∧ w'.cell? ⟨(ad137.add ((x12_2).toNat * 3)).block, (ad137.add ((x12_2).toNat * 3)).off + 1, none⟩ = some (.int .i64 ((rd_T67 l1 x12_2).f1)) ∧ w'.cell? ⟨(ad137.add ((x12_2).toNat * 3)).block, (ad137.add ((x12_2).toNat * 3)).off + 2, none⟩ = some (.int .i64 ((rd_T67 l1 x12_2).f2))) (ds := []) #[false, false, false, false, false, false, false, false, false, false, false, false, false, false, false] (by kernel_rfl) rfl rfl ⟨(vl HB.out hw137_0 :), (vl HB.out hw137_1 :), (vl HB.out hw137_2 :), (vl HB.out hw138_0 :), (vl HB.out hw138_1 :), (vl HB.out hw138_2 :)⟩ (fun hHeld => ?_); refine with_tabW spec_l10IsPlan.tab28 spec_l10IsPlan.bits28 (fun HT_ HW_ => ?_); generalize wr.drew = w43 at HB hx137_0 hx137_1 hx137_2 hx138_0 hx138_1 hx138_2 hHeld ⊢
                 refine px 0 120 #[true, false, false, false, false, false, false, false, false, false, false, false, false, false, false] rfl HT_.out ?_ (.inl ⟨by rfl, ?_⟩) ?_ ?_ ?_; rotate_left
                 ·intro w'; go_simp; with_reducible rfl
                 rotate_left
                 ·simp only [ap1, ap2, ap3, ap4, i64_w, i32_w]; rfl
                 refine px 1 121 #[true, true, false, false, false, false, false, false, false, false, false, false, false, false, false] rfl HT_.out ?_ (.inl ⟨by rfl, ?_⟩) ?_ ?_ ?_; rotate_left
                 ·intro w'; go_simp; with_reducible rfl
                 rotate_left
                 ·simp only [ap1, ap2, ap3, ap4, i64_w, i32_w]; rfl
                 refine px 2 122 #[true, true, true, false, false, false, false, false, false, false, false, false, false, false, false] rfl HT_.out ?_ (.inl ⟨by rfl, ?_⟩) ?_ ?_ ?_; rotate_left
                 ·intro w'; go_simp; with_reducible rfl
                 rotate_left
                 ·simp only [ap1, ap2, ap3, ap4, i64_w, i32_w]; rfl
                 refine px 3 123 #[true, true, true, true, false, false, false, false, false, false, false, false, false, false, false] rfl HT_.out ?_ (.inl ⟨by rfl, ?_⟩) ?_ ?_ ?_; rotate_left
                 ·intro w'; go_simp; with_reducible rfl
                 rotate_left
                 ·simp only [ap1, ap2, ap3, ap4, i64_w, i32_w]; rfl
                 refine px 4 124 #[true, true, true, true, true, false, false, false, false, false, false, false, false, false, false] rfl HT_.out ?_ (.inl ⟨by rfl, ?_⟩) ?_ ?_ ?_; rotate_left
                 ·intro w'; go_simp; with_reducible rfl
                 rotate_left
                 ·simp only [ap1, ap2, ap3, ap4, i64_w, i32_w]; rfl
                 refine px 5 125 #[true, true, true, true, true, true, false, false, false, false, false, false, false, false, false] rfl HT_.out ?_ (.inl ⟨by rfl, ?_⟩) ?_ ?_ ?_; rotate_left
                 ·intro w'; go_simp; with_reducible rfl
                 rotate_left
                 ·simp only [ap1, ap2, ap3, ap4, i64_w, i32_w]; rfl
                 refine px 6 126 #[true, true, true, true, true, true, true, false, false, false, false, false, false, false, false] rfl HT_.out ?_ (.inl ⟨by rfl, ?_⟩) ?_ ?_ ?_; rotate_left
                 ·intro w'; go_simp; with_reducible rfl
                 rotate_left
                 ·simp only [ap1, ap2, ap3, ap4, i64_w, i32_w]; rfl
                 refine px 8 128 #[true, true, true, true, true, true, true, false, true, false, false, false, false, false, false] rfl HT_.out ?_ (.inl ⟨by rfl, ?_⟩) ?_ ?_ ?_; rotate_left
                 ·intro w'; go_simp; with_reducible rfl
                 rotate_left
                 ·simp only [ap1, ap2, ap3, ap4, i64_w, i32_w]; rfl
                 refine px 9 129 #[true, true, true, true, true, true, true, false, true, true, false, false, false, false, false] rfl HT_.out ?_ (.inl ⟨by rfl, ?_⟩) ?_ ?_ ?_; rotate_left
                 ·intro w'; go_simp; with_reducible rfl
                 rotate_left
                 ·simp only [ap1, ap2, ap3, ap4, i64_w, i32_w]; rfl
                 refine px 10 130 #[true, true, true, true, true, true, true, false, true, true, true, false, false, false, false] rfl HT_.out ?_ (.inl ⟨by rfl, ?_⟩) ?_ ?_ ?_; rotate_left
                 ·intro w'; go_simp; with_reducible rfl
                 rotate_left
                 ·simp only [ap1, ap2, ap3, ap4, i64_w, i32_w]; rfl
                 refine tx 7 127 #[true, true, true, true, true, true, true, true, true, true, true, false, false, false, false] rfl HT_.out HW_.out hHeld ?_ (.inl ⟨by rfl, ?_⟩) ?_ ?_ ?_; rotate_left
                 ·rintro w' ⟨s0, s1, s2, s3, s4, s5⟩; go_simp; with_reducible rfl
                 rotate_left
                 ·simp only [ap1, ap2, ap3, ap4, i64_w, i32_w]; rfl
                 refine tx 11 131 #[true, true, true, true, true, true, true, true, true, true, true, true, false, false, false] rfl HT_.out HW_.out hHeld ?_ (.inl ⟨by rfl, ?_⟩) ?_ ?_ ?_; rotate_left
                 ·rintro w' ⟨s0, s1, s2, s3, s4, s5⟩; go_simp; with_reducible rfl
                 rotate_left
                 ·simp only [ap1, ap2, ap3, ap4, i64_w, i32_w]; rfl
                 refine one_ (i := 12) (N := some 132) #[true, true, true, true, true, true, true, true, true, true, true, true, true, false, false] rfl rfl (one_of HT_.out (by kernel_rfl)) (by decide) (fun K hK => ?_); refine goes_ Try.func62 (by kernel_rfl) rfl #[.agg #[.int .i64 ((rd_T67 l1 (ji36)).f0), .int .i64 ((rd_T67 l1 (ji36)).f1), .int .i64 ((rd_T67 l1 (ji36)).f2)], .agg #[.int .i64 ((rd_T67 l1 x12_2).f0), .int .i64 ((rd_T67 l1 x12_2).f1), .int .i64 ((rd_T67 l1 x12_2).f2)]] (by rfl) rfl rfl (by (try simp only [List.map_toArray, List.map_cons, List.map_nil]); first | done | (simp only [hji36]; rfl) | rfl | (simp only [List.length_drop, List.length_take]; rfl)) ?_; with_reducible refine (spec_l10Before.calls ((rd_T67 l1 (ji36)).f0) ((rd_T67 l1 (ji36)).f1) ((rd_T67 l1 (ji36)).f2) ((rd_T67 l1 x12_2).f0) ((rd_T67 l1 x12_2).f1) ((rd_T67 l1 x12_2).f2) true _ A41.out).mono ?_
                 rintro e w44 ⟨rfl, hb⟩; refine ⟨_, rfl, ?_⟩; have n0_ := ak (below_step (vh HB.out) hb); clear HB; have HB := n0_; clear n0_; (try clear hb); (try clear hb2); (try clear hk); (try clear hi); refine hK.out _ _ ⟨(vl HB.out hw137_0 :), (vl HB.out hw137_1 :), (vl HB.out hw137_2 :), (vl HB.out hw138_0 :), (vl HB.out hw138_1 :), (vl HB.out hw138_2 :)⟩ (fun hHeld => ?_); clear hK K; refine norm_ (a' := ?_) ?_ ?_; rotate_left
                 ·show Act.put _ (some 132) _ = _; simp only [ap1, ap2, ap3, ap4, i64_w, i32_w]; rfl
                 refine px 13 133 #[true, true, true, true, true, true, true, true, true, true, true, true, true, true, false] rfl HT_.out ?_ (.inl ⟨by rfl, ?_⟩) ?_ ?_ ?_; rotate_left
                 ·intro w'; go_simp; with_reducible rfl
                 rotate_left
                 ·simp only [ap1, ap2, ap3, ap4, i64_w, i32_w]; rfl
                 refine px 14 134 #[true, true, true, true, true, true, true, true, true, true, true, true, true, true, true] rfl HT_.out ?_ (.inl ⟨by rfl, ?_⟩) ?_ ?_ ?_; rotate_left
                 ·intro w'; go_simp; with_reducible rfl
                 rotate_left
                 ·simp only [ap1, ap2, ap3, ap4, i64_w, i32_w]; rfl
                 refine done_ (done_of HT_.out (by kernel_rfl)) ?_; try go_wp2
                 go_roundg k3
                 case measure => have := HK1.out; have := HK2.out; have := HK3.out; omega
                 case rel => exact ⟨(wrap64 (x12_2 + 1)), vq, H', ⟨by have := HK1.out; have := HK2.out; have := HK3.out; omega⟩, ⟨by exact vh HB.out⟩⟩
                ·replace c42 := Bool.eq_false_iff.mpr c42; subst c42; have H1 : (some false) = some r := by rw [if_neg (show ¬ (false = true) by decide)] at H; first | exact H | (simp only [if_true, eq_self] at H ⊢; exact H)
                 clear H; have H := H1; clear H1; obtain rfl := Option.some.inj H; try go_wp2
                 have n0_ := ak (below_drew1 HB.out); clear HB; have HB := n0_; clear n0_; have p137 : 0 ≤ ((ji36) : Int) := of_decide_eq_true va; have q137 : (ji36) < (l1.length : Int) := of_decide_eq_true va; obtain ⟨ad137, e137, hx137_0, hx137_1, hx137_2⟩ := at_T67 HR1.out (ji36) p137 q137; have hw137_2 := hx137_2; have hw137_1 := hx137_1; have hw137_0 := hx137_0; cases e137; (try replace hx137_0 := vl HB.out hx137_0); (try replace hx137_1 := vl HB.out hx137_1); (try replace hx137_2 := vl HB.out hx137_2); replace p137 := eq_true p137; replace q137 := eq_true q137; have p138 : 0 ≤ (x12_2 : Int) := of_decide_eq_true va; have q138 : x12_2 < (l1.length : Int) := of_decide_eq_true va; obtain ⟨ad138, e138, hx138_0, hx138_1, hx138_2⟩ := at_T67 HR1.out x12_2 p138 q138; have hw138_2 := hx138_2; have hw138_1 := hx138_1; have hw138_0 := hx138_0; obtain rfl : ad137 = ad138 := (by injection e138); (try replace hx138_0 := vl HB.out hx138_0); (try replace hx138_1 := vl HB.out hx138_1); (try replace hx138_2 := vl HB.out hx138_2); replace p138 := eq_true p138; replace q138 := eq_true q138; refine start_ (n := 15) (S := fun w' => w'.cell? (ad137.add (((ji36)).toNat * 3)) = some (.int .i64 ((rd_T67 l1 (ji36)).f0)) ∧ w'.cell? ⟨(ad137.add (((ji36)).toNat * 3)).block, (ad137.add (((ji36)).toNat * 3)).off + 1, none⟩ = some (.int .i64 ((rd_T67 l1 (ji36)).f1)) ∧ w'.cell? ⟨(ad137.add (((ji36)).toNat * 3)).block, (ad137.add (((ji36)).toNat * 3)).off + 2, none⟩ = some (.int .i64 ((rd_T67 l1 (ji36)).f2)) ∧ w'.cell? (ad137.add ((x12_2).toNat * 3)) = some (.int .i64 ((rd_T67 l1 x12_2).f0)) ∧ w'.cell? ⟨(ad137.add ((x12_2).toNat * 3)).block, (ad137.add ((x12_2).toNat * 3)).off + 1, none⟩ = some (.int .i64 ((rd_T67 l1 x12_2).f1)) ∧ w'.cell? ⟨(ad137.add ((x12_2).toNat * 3)).block, (ad137.add ((x12_2).toNat * 3)).off + 2, none⟩ = some (.int .i64 ((rd_T67 l1 x12_2).f2))) (ds := []) #[false, false, false, false, false, false, false, false, false, false, false, false, false, false, false] (by kernel_rfl) rfl rfl ⟨(vl HB.out hw137_0 :), (vl HB.out hw137_1 :), (vl HB.out hw137_2 :), (vl HB.out hw138_0 :), (vl HB.out hw138_1 :), (vl HB.out hw138_2 :)⟩ (fun hHeld => ?_); refine with_tabW spec_l10IsPlan.tab28 spec_l10IsPlan.bits28 (fun HT_ HW_ => ?_); generalize wr.drew = w45 at HB hx137_0 hx137_1 hx137_2 hx138_0 hx138_1 hx138_2 hHeld ⊢
                 refine px 0 120 #[true, false, false, false, false, false, false, false, false, false, false, false, false, false, false] rfl HT_.out ?_ (.inl ⟨by rfl, ?_⟩) ?_ ?_ ?_; rotate_left
                 ·intro w'; go_simp; with_reducible rfl
                 rotate_left
                 ·simp only [ap1, ap2, ap3, ap4, i64_w, i32_w]; rfl
                 refine px 1 121 #[true, true, false, false, false, false, false, false, false, false, false, false, false, false, false] rfl HT_.out ?_ (.inl ⟨by rfl, ?_⟩) ?_ ?_ ?_; rotate_left
                 ·intro w'; go_simp; with_reducible rfl
                 rotate_left
                 ·simp only [ap1, ap2, ap3, ap4, i64_w, i32_w]; rfl
                 refine px 2 122 #[true, true, true, false, false, false, false, false, false, false, false, false, false, false, false] rfl HT_.out ?_ (.inl ⟨by rfl, ?_⟩) ?_ ?_ ?_; rotate_left
                 ·intro w'; go_simp; with_reducible rfl
                 rotate_left
                 ·simp only [ap1, ap2, ap3, ap4, i64_w, i32_w]; rfl
                 refine px 3 123 #[true, true, true, true, false, false, false, false, false, false, false, false, false, false, false] rfl HT_.out ?_ (.inl ⟨by rfl, ?_⟩) ?_ ?_ ?_; rotate_left
                 ·intro w'; go_simp; with_reducible rfl
                 rotate_left
                 ·simp only [ap1, ap2, ap3, ap4, i64_w, i32_w]; rfl
                 refine px 4 124 #[true, true, true, true, true, false, false, false, false, false, false, false, false, false, false] rfl HT_.out ?_ (.inl ⟨by rfl, ?_⟩) ?_ ?_ ?_; rotate_left
                 ·intro w'; go_simp; with_reducible rfl
                 rotate_left
                 ·simp only [ap1, ap2, ap3, ap4, i64_w, i32_w]; rfl
                 refine px 5 125 #[true, true, true, true, true, true, false, false, false, false, false, false, false, false, false] rfl HT_.out ?_ (.inl ⟨by rfl, ?_⟩) ?_ ?_ ?_; rotate_left
                 ·intro w'; go_simp; with_reducible rfl
                 rotate_left
                 ·simp only [ap1, ap2, ap3, ap4, i64_w, i32_w]; rfl
                 refine px 6 126 #[true, true, true, true, true, true, true, false, false, false, false, false, false, false, false] rfl HT_.out ?_ (.inl ⟨by rfl, ?_⟩) ?_ ?_ ?_; rotate_left
                 ·intro w'; go_simp; with_reducible rfl
                 rotate_left
                 ·simp only [ap1, ap2, ap3, ap4, i64_w, i32_w]; rfl
                 refine px 8 128 #[true, true, true, true, true, true, true, false, true, false, false, false, false, false, false] rfl HT_.out ?_ (.inl ⟨by rfl, ?_⟩) ?_ ?_ ?_; rotate_left
                 ·intro w'; go_simp; with_reducible rfl
                 rotate_left
                 ·simp only [ap1, ap2, ap3, ap4, i64_w, i32_w]; rfl
                 refine px 9 129 #[true, true, true, true, true, true, true, false, true, true, false, false, false, false, false] rfl HT_.out ?_ (.inl ⟨by rfl, ?_⟩) ?_ ?_ ?_; rotate_left
                 ·intro w'; go_simp; with_reducible rfl
                 rotate_left
                 ·simp only [ap1, ap2, ap3, ap4, i64_w, i32_w]; rfl
                 refine px 10 130 #[true, true, true, true, true, true, true, false, true, true, true, false, false, false, false] rfl HT_.out ?_ (.inl ⟨by rfl, ?_⟩) ?_ ?_ ?_; rotate_left
                 ·intro w'; go_simp; with_reducible rfl
                 rotate_left
                 ·simp only [ap1, ap2, ap3, ap4, i64_w, i32_w]; rfl
                 refine tx 7 127 #[true, true, true, true, true, true, true, true, true, true, true, false, false, false, false] rfl HT_.out HW_.out hHeld ?_ (.inl ⟨by rfl, ?_⟩) ?_ ?_ ?_; rotate_left
                 ·rintro w' ⟨s0, s1, s2, s3, s4, s5⟩; go_simp; with_reducible rfl
                 rotate_left
                 ·simp only [ap1, ap2, ap3, ap4, i64_w, i32_w]; rfl
                 refine tx 11 131 #[true, true, true, true, true, true, true, true, true, true, true, true, false, false, false] rfl HT_.out HW_.out hHeld ?_ (.inl ⟨by rfl, ?_⟩) ?_ ?_ ?_; rotate_left
                 ·rintro w' ⟨s0, s1, s2, s3, s4, s5⟩; go_simp; with_reducible rfl
                 rotate_left
                 ·simp only [ap1, ap2, ap3, ap4, i64_w, i32_w]; rfl
                 refine one_ (i := 12) (N := some 132) #[true, true, true, true, true, true, true, true, true, true, true, true, true, false, false] rfl rfl (one_of HT_.out (by kernel_rfl)) (by decide) (fun K hK => ?_); refine goes_ Try.func62 (by kernel_rfl) rfl #[.agg #[.int .i64 ((rd_T67 l1 (ji36)).f0), .int .i64 ((rd_T67 l1 (ji36)).f1), .int .i64 ((rd_T67 l1 (ji36)).f2)], .agg #[.int .i64 ((rd_T67 l1 x12_2).f0), .int .i64 ((rd_T67 l1 x12_2).f1), .int .i64 ((rd_T67 l1 x12_2).f2)]] (by rfl) rfl rfl (by (try simp only [List.map_toArray, List.map_cons, List.map_nil]); first | done | (simp only [hji36]; rfl) | rfl | (simp only [List.length_drop, List.length_take]; rfl)) ?_; with_reducible refine (spec_l10Before.calls ((rd_T67 l1 (ji36)).f0) ((rd_T67 l1 (ji36)).f1) ((rd_T67 l1 (ji36)).f2) ((rd_T67 l1 x12_2).f0) ((rd_T67 l1 x12_2).f1) ((rd_T67 l1 x12_2).f2) false _ A41.out).mono ?_
                 rintro e w46 ⟨rfl, hb⟩; refine ⟨_, rfl, ?_⟩; have n0_ := ak (below_step (vh HB.out) hb); clear HB; have HB := n0_; clear n0_; (try clear hb); (try clear hb2); (try clear hk); (try clear hi); refine hK.out _ _ ⟨(vl HB.out hw137_0 :), (vl HB.out hw137_1 :), (vl HB.out hw137_2 :), (vl HB.out hw138_0 :), (vl HB.out hw138_1 :), (vl HB.out hw138_2 :)⟩ (fun hHeld => ?_); clear hK K; refine norm_ (a' := ?_) ?_ ?_; rotate_left
                 ·show Act.put _ (some 132) _ = _; simp only [ap1, ap2, ap3, ap4, i64_w, i32_w]; rfl
                 refine px 13 133 #[true, true, true, true, true, true, true, true, true, true, true, true, true, true, false] rfl HT_.out ?_ (.inl ⟨by rfl, ?_⟩) ?_ ?_ ?_; rotate_left
                 ·intro w'; go_simp; with_reducible rfl
                 rotate_left
                 ·simp only [ap1, ap2, ap3, ap4, i64_w, i32_w]; rfl
                 refine px 14 134 #[true, true, true, true, true, true, true, true, true, true, true, true, true, true, true] rfl HT_.out ?_ (.inl ⟨by rfl, ?_⟩) ?_ ?_ ?_; rotate_left
                 ·intro w'; go_simp; with_reducible rfl
                 rotate_left
                 ·simp only [ap1, ap2, ap3, ap4, i64_w, i32_w]; rfl
                 refine done_ (done_of HT_.out (by kernel_rfl)) ?_; try go_wp2
                 go_ret
                 exact ⟨by first | rfl | (simp [errW_none, errW_some] <;> rfl) | (simp only [← hji36]; first | rfl | (simp [errW_none, errW_some] <;> rfl)) | (simp [*, errW_none, errW_some] <;> rfl), by exact vh HB.out⟩
               ·rw [if_neg c40] at H
                exact absurd H (by simp)
              ·rw [if_neg c39] at H
               exact absurd H (by simp)
             ·rw [if_neg c38] at H
              exact absurd H (by simp)
            ·rw [if_neg c37] at H
             exact absurd H (by simp)
           ·rw [if_neg c35] at H
            have c35b0 : decide (0 < x12_2) = false := decide_eq_false c35; clear c35; have H' := Aside0.mk H; clear H; try go_wp2
            have n0_ := ak (below_drew1 HB.out); clear HB; have HB := n0_; clear n0_; refine start_ (n := 15) (S := fun w' => True) (ds := []) #[false, false, false, false, false, false, false, false, false, false, false, false, false, false, false] (by kernel_rfl) rfl rfl trivial (fun hHeld => ?_); refine with_tabW spec_l10IsPlan.tab28 spec_l10IsPlan.bits28 (fun HT_ HW_ => ?_); generalize wr.drew = w47 at HB hHeld ⊢
            refine px 0 120 #[true, false, false, false, false, false, false, false, false, false, false, false, false, false, false] rfl HT_.out ?_ (.inl ⟨by rfl, ?_⟩) ?_ ?_ ?_; rotate_left
            ·intro w'; go_simp; with_reducible rfl
            rotate_left
            ·simp only [ap1, ap2, ap3, ap4, i64_w, i32_w]; rfl
            refine px 1 121 #[true, true, false, false, false, false, false, false, false, false, false, false, false, false, false] rfl HT_.out ?_ (.inl ⟨by rfl, ?_⟩) ?_ ?_ ?_; rotate_left
            ·intro w'; go_simp; with_reducible rfl
            rotate_left
            ·simp only [ap1, ap2, ap3, ap4, i64_w, i32_w]; rfl
            refine px 2 122 #[true, true, true, false, false, false, false, false, false, false, false, false, false, false, false] rfl HT_.out ?_ (.inl ⟨by rfl, ?_⟩) ?_ ?_ ?_; rotate_left
            ·intro w'; go_simp; with_reducible rfl
            rotate_left
            ·simp only [ap1, ap2, ap3, ap4, i64_w, i32_w]; rfl
            refine pure_ (i := 3) (N := some 123) (v := undef) (a' := ?_) #[true, true, true, true, false, false, false, false, false, false, false, false, false, false, false] rfl rfl (ao HT_.out) (fun _ _ _ h => h) (Or.inr ⟨by rfl, rfl⟩) ?_ ?_; rotate_left
            ·simp only [ap1, ap2, ap3, ap4, i64_w, i32_w]; rfl
            refine pure_ (i := 4) (N := some 124) (v := undef) (a' := ?_) #[true, true, true, true, true, false, false, false, false, false, false, false, false, false, false] rfl rfl (ao HT_.out) (fun _ _ _ h => h) (Or.inr ⟨by rfl, rfl⟩) ?_ ?_; rotate_left
            ·simp only [ap1, ap2, ap3, ap4, i64_w, i32_w]; rfl
            refine pure_ (i := 5) (N := some 125) (v := undef) (a' := ?_) #[true, true, true, true, true, true, false, false, false, false, false, false, false, false, false] rfl rfl (ao HT_.out) (fun _ _ _ h => h) (Or.inr ⟨by rfl, rfl⟩) ?_ ?_; rotate_left
            ·simp only [ap1, ap2, ap3, ap4, i64_w, i32_w]; rfl
            refine pure_ (i := 6) (N := some 126) (v := undef) (a' := ?_) #[true, true, true, true, true, true, true, false, false, false, false, false, false, false, false] rfl rfl (ao HT_.out) (fun _ _ _ h => h) (Or.inr ⟨by rfl, rfl⟩) ?_ ?_; rotate_left
            ·simp only [ap1, ap2, ap3, ap4, i64_w, i32_w]; rfl
            refine pure_ (i := 7) (N := some 127) (v := undef) (a' := ?_) #[true, true, true, true, true, true, true, true, false, false, false, false, false, false, false] rfl rfl (ao HT_.out) (fun _ _ _ h => h) (Or.inr ⟨by rfl, rfl⟩) ?_ ?_; rotate_left
            ·simp only [ap1, ap2, ap3, ap4, i64_w, i32_w]; rfl
            refine pure_ (i := 8) (N := some 128) (v := undef) (a' := ?_) #[true, true, true, true, true, true, true, true, true, false, false, false, false, false, false] rfl rfl (ao HT_.out) (fun _ _ _ h => h) (Or.inr ⟨by rfl, rfl⟩) ?_ ?_; rotate_left
            ·simp only [ap1, ap2, ap3, ap4, i64_w, i32_w]; rfl
            refine pure_ (i := 9) (N := some 129) (v := undef) (a' := ?_) #[true, true, true, true, true, true, true, true, true, true, false, false, false, false, false] rfl rfl (ao HT_.out) (fun _ _ _ h => h) (Or.inr ⟨by rfl, rfl⟩) ?_ ?_; rotate_left
            ·simp only [ap1, ap2, ap3, ap4, i64_w, i32_w]; rfl
            refine pure_ (i := 10) (N := some 130) (v := undef) (a' := ?_) #[true, true, true, true, true, true, true, true, true, true, true, false, false, false, false] rfl rfl (ao HT_.out) (fun _ _ _ h => h) (Or.inr ⟨by rfl, rfl⟩) ?_ ?_; rotate_left
            ·simp only [ap1, ap2, ap3, ap4, i64_w, i32_w]; rfl
            refine pure_ (i := 11) (N := some 131) (v := undef) (a' := ?_) #[true, true, true, true, true, true, true, true, true, true, true, true, false, false, false] rfl rfl (ao HT_.out) (fun _ _ _ h => h) (Or.inr ⟨by rfl, rfl⟩) ?_ ?_; rotate_left
            ·simp only [ap1, ap2, ap3, ap4, i64_w, i32_w]; rfl
            refine pure_ (i := 12) (N := some 132) (v := undef) (a' := ?_) #[true, true, true, true, true, true, true, true, true, true, true, true, true, false, false] rfl rfl (ao HT_.out) (fun _ _ _ h => h) (Or.inr ⟨by rfl, rfl⟩) ?_ ?_; rotate_left
            ·simp only [ap1, ap2, ap3, ap4, i64_w, i32_w]; rfl
            refine pure_ (i := 13) (N := some 133) (v := undef) (a' := ?_) #[true, true, true, true, true, true, true, true, true, true, true, true, true, true, false] rfl rfl (ao HT_.out) (fun _ _ _ h => h) (Or.inr ⟨by rfl, rfl⟩) ?_ ?_; rotate_left
            ·simp only [ap1, ap2, ap3, ap4, i64_w, i32_w]; rfl
            refine px 14 134 #[true, true, true, true, true, true, true, true, true, true, true, true, true, true, true] rfl HT_.out ?_ (.inl ⟨by rfl, ?_⟩) ?_ ?_ ?_; rotate_left
            ·intro w'; go_simp; with_reducible rfl
            rotate_left
            ·simp only [ap1, ap2, ap3, ap4, i64_w, i32_w]; rfl
            refine done_ (done_of HT_.out (by kernel_rfl)) ?_; try go_wp2
            go_roundg k3
            case measure => have := HK1.out; have := HK2.out; have := HK3.out; omega
            case rel => exact ⟨(wrap64 (x12_2 + 1)), vq, H', ⟨by have := HK1.out; have := HK2.out; have := HK3.out; omega⟩, ⟨by exact vh HB.out⟩⟩
       ·rw [if_neg c23] at H
        have c23b0 : decide (x12_2 < (l1.length : Int)) = false := decide_eq_false c23; clear c23; obtain rfl := Option.some.inj H; go_wp2
        go_ret
        exact ⟨by first | rfl | (simp [errW_none, errW_some] <;> rfl) | (simp [*, errW_none, errW_some] <;> rfl), by exact vh HB.out⟩
    ·rw [if_neg c22] at H
     have c22b0 : ((l1.length : Int) == x5_1) = false := beq_eq_false_iff_ne.mpr c22; have c22b1 : ((l1.length : Int) != x5_1) = true := bne_iff_ne.mpr c22; obtain rfl := Option.some.inj H; go_wp2
     go_ret
     exact ⟨by first | rfl | (simp [errW_none, errW_some] <;> rfl) | (simp [*, errW_none, errW_some] <;> rfl), by exact vh HB.out⟩

end Go.Proofs.Ytlgmccliclmbaaa.PFnExactIsPlan
