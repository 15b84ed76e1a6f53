-- Written by a program of this session (the kit's print with this session's additions, wip/tools): Lean checks it. (pressed)
import Derived.Test.YtlgmccliclmbaaaAbbr
import Derived.Test.YtlgmccliclmbaaaPFnExactEndOfx0
import Derived.Test.YtlgmccliclmbaaaPFnExactEndOfx2
import Derived.Test.YtlgmccliclmbaaaPFnExactEndOfx5
namespace Go.Proofs.Ytlgmccliclmbaaa.PFnExactEndOf
open Go.RowKit Go.Proofs.YtlgmccliclmbaaaW.PrintWords Go.Proofs.YtlgmccliclmbaaaW.PrintLast Go.Proofs.YtlgmccliclmbaaaW.PrintMore
attribute [local go_sem] max2_int min2_int max_two min_two max_three min_three max_four min_four   -- for this text's walks alone
set_option linter.unusedVariables false
set_option linter.unusedSimpArgs false

/-! ### spec_l1Most: function 57 -/
def spec_l1Most.f (a0 : Int) (a1 : Int) : Option (Int) := if a0 > a1 then (some a0) else (some a1)
set_option maxHeartbeats 8000000 in
set_option maxRecDepth 100000 in
theorem spec_l1Most.calls (a0 : Int) (a1 : Int) (r : Int) (w : World) (h : spec_l1Most.f a0 a1 = some r) :
  Calls Try.prog 57 #[.int .i64 a0, .int .i64 a1] w fun e w' => e = .returned (.int .i64 r) ∧ Drawn0 w w' := by
 have H : (if a0 > a1 then (some a0) else (some a1)) = some r := h; clear h; by_cases c3 : a0 > a1
 ·rw [if_pos c3] at H
  have c3b0 : decide (a1 < a0) = true := decide_eq_true c3; clear c3; obtain rfl := Option.some.inj H; go_enter Try.func57, Try.ntmps57
  go_wp2
  go_ret
  exact ⟨by first | rfl | (simp; done) | (simp [*]; done), by repeat (first | exact Drawn0.refl _ | apply Drawn0.step)⟩
 ·rw [if_neg c3] at H
  have c3b0 : decide (a1 < a0) = false := decide_eq_false c3; clear c3; obtain rfl := Option.some.inj H; go_enter Try.func57, Try.ntmps57
  go_wp2
  go_ret
  exact ⟨by first | rfl | (simp; done) | (simp [*]; done), by repeat (first | exact Drawn0.refl _ | apply Drawn0.step)⟩

/-! ### spec_l10End: function 52 -/
def spec_l10End.l0 : Nat → List (S63) → List (S67) → Int → Int → Option (Int)
 | 0, _, _, _, _ => none
 | k + 1, x0, x1, x5, x6 => if x6 < (x1.length : Int) then (if 0 ≤ x6 then (if 0 ≤ ((rd_T67 x1 x6).f0) then (if ((rd_T67 x1 x6).f0) < (x0.length : Int) then ((spec_l1Most.f x5 (wrap64 (((rd_T67 x1 x6).f2) + ((rd_T63 x0 ((rd_T67 x1 x6).f0)).f2)))).bind fun t176 => (spec_l10End.l0 k x0 x1 t176 (wrap64 (x6 + 1)))) else (none)) else (none)) else (none)) else (some x5)
def spec_l10End.f (k : Nat) (l0 : List (S63)) (l1 : List (S67)) : Option (Int) := spec_l10End.l0 k l0 l1 0 0
theorem spec_l10End.mono_l : ∀ k, (∀ y0 y1 y2 y3, LeO (spec_l10End.l0 k y0 y1 y2 y3) (spec_l10End.l0 (k + 1) y0 y1 y2 y3))
 | 0 => fun _ _ _ _ r h => by simp [spec_l10End.l0] at h
 | k + 1 => by
  have ih0 := spec_l10End.mono_l k
  ·intro y0 y1 y2 y3; unfold spec_l10End.l0
   repeat' first
   | (with_reducible exact ih0 _ _ _ _)
   | (with_reducible exact LeO.refl _)
   | (with_reducible exact LeO.none _)
   | (with_reducible refine LeO.ite ?_ ?_)
   | (with_reducible refine LeO.bind ?_ (fun _ => ?_))
   | exact ih0 _ _ _ _
   | exact LeO.none _
   | refine LeO.ite ?_ ?_
   | refine LeO.bind ?_ (fun _ => ?_)
theorem spec_l10End.mono : ∀ a0 a1 k, LeO (spec_l10End.f k a0 a1) (spec_l10End.f (k + 1) a0 a1) := by
 intro a0 a1 k; have ih0 := spec_l10End.mono_l k; unfold spec_l10End.f
 repeat' first
   | (with_reducible exact ih0 _ _ _ _)
   | (with_reducible exact LeO.refl _)
   | (with_reducible exact LeO.none _)
   | (with_reducible refine LeO.ite ?_ ?_)
   | (with_reducible refine LeO.bind ?_ (fun _ => ?_))
   | exact ih0 _ _ _ _
   | exact LeO.none _
   | refine LeO.ite ?_ ?_
   | refine LeO.bind ?_ (fun _ => ?_)
set_option maxHeartbeats 8000000 in
set_option maxRecDepth 100000 in
theorem spec_l10End.calls (k : Nat) (A0 : Option Addr) (c0 : Nat) (l0 : List (S63)) (A1 : Option Addr) (c1 : Nat) (l1 : List (S67)) (r : Int) (w : World) (hr0 : Kd.C k63 w A0 l0.length l0) (hc0 : l0.length ≤ c0) (hr1 : Kd.C k67 w A1 l1.length l1) (hc1 : l1.length ≤ c1) (h : spec_l10End.f k l0 l1 = some r) :
  Calls Try.prog 52 #[.slice A0 l0.length c0, .slice A1 l1.length c1] w fun e w' => e = .returned (.int .i64 r) ∧ Drawn0 w w' := by
 have HR0 := Aside0.mk hr0; have HC0 := Aside0.mk hc0; clear hr0 hc0; have HR1 := Aside0.mk hr1; have HC1 := Aside0.mk hc1; clear hr1 hc1; have H : (spec_l10End.l0 k l0 l1 0 0) = some r := h; clear h; have H' := Aside0.mk H; clear H; go_enter Try.func52, Try.ntmps52
 go_wp2
 repeat (go_quiet (fail); try go_wp2)
 go_loopg [5, 6] k (fun kq v5 v6 w' => ∃ (x5_1 : Int) (x6_1 : Int), v5 = .int .i64 x5_1 ∧ v6 = .int .i64 x6_1 ∧ Aside0 (spec_l10End.l0 kq l0 l1 x5_1 x6_1 = some r) ∧ Aside0 (kq ≤ k) ∧ Drawn0 w w')
 case atStart => exact ⟨(0), (0), (by first | rfl | (simp; done) | (simp [*]; done)), (by first | rfl | (simp; done) | (simp [*]; done)), H', ⟨Nat.le_refl _⟩, by repeat (first | exact Drawn0.refl _ | apply Drawn0.step)⟩
 case round =>
  clear H'; try clear c1
  try clear p2
  obtain ⟨x5_1, x6_1, rfl, rfl, HA, HK1, ⟨m1, rfl⟩⟩ := hrel; cases gk with
  | zero => exact absurd HA.out (by simp [spec_l10End.l0])
  | succ k1 =>
   have H := HA.out; clear HA; simp only [spec_l10End.l0] at H
   by_cases c3 : x6_1 < (l1.length : Int)
   ·rw [if_pos c3] at H
    have c3b0 : decide (x6_1 < (l1.length : Int)) = true := decide_eq_true c3; clear c3; by_cases c4 : 0 ≤ x6_1
    ·rw [if_pos c4] at H
     have c4b0 : decide (0 ≤ x6_1) = true := decide_eq_true c4; clear c4; by_cases c5 : 0 ≤ ((rd_T67 l1 x6_1).f0)
     ·rw [if_pos c5] at H
      have c5b0 : decide (0 ≤ ((rd_T67 l1 x6_1).f0)) = true := decide_eq_true c5; clear c5; by_cases c6 : ((rd_T67 l1 x6_1).f0) < (l0.length : Int)
      ·rw [if_pos c6] at H
       have c6b0 : decide (((rd_T67 l1 x6_1).f0) < (l0.length : Int)) = true := decide_eq_true c6; clear c6; replace H := Option.bind_eq_some_iff.mp H; obtain ⟨t176, A70, H⟩ := H; replace H : (spec_l10End.l0 k1 l0 l1 t176 (wrap64 (x6_1 + 1))) = some r := H; have A7 := Aside0.mk A70; clear A70; have H' := Aside0.mk H; clear H; have p173 : 0 ≤ (x6_1 : Int) := of_decide_eq_true va; have q173 : x6_1 < (l1.length : Int) := of_decide_eq_true va; obtain ⟨ad173, e173, hx173_0, hx173_1, hx173_2⟩ := at_T67 HR1.out x6_1 p173 q173; cases e173; replace p173 := eq_true p173; replace q173 := eq_true q173; have p174 : 0 ≤ (x6_1 : Int) := of_decide_eq_true va; have q174 : x6_1 < (l1.length : Int) := of_decide_eq_true va; obtain ⟨ad174, e174, hx174_0, hx174_1, hx174_2⟩ := at_T67 HR1.out x6_1 p174 q174; obtain rfl : ad173 = ad174 := (by injection e174); replace p174 := eq_true p174; replace q174 := eq_true q174; have p175 : 0 ≤ (((rd_T67 l1 x6_1).f0) : Int) := of_decide_eq_true va; have q175 : ((rd_T67 l1 x6_1).f0) < (l0.length : Int) := of_decide_eq_true va; obtain ⟨ad175, e175, hx175_0, hx175_1, hx175_2, hx175_3⟩ := at_T63 HR0.out ((rd_T67 l1 x6_1).f0) p175 q175; cases e175; replace p175 := eq_true p175; replace q175 := eq_true q175; go_wp2_with (first | (go_at_call 57; (with_reducible refine (spec_l1Most.calls x5_1 (wrap64 (((rd_T67 l1 x6_1).f2) + ((rd_T63 l0 ((rd_T67 l1 x6_1).f0)).f2))) t176 _ A7.out).mono ?_); rintro e w' ⟨rfl, ⟨nd, rfl⟩⟩; (try first | exact ⟨rfl, _, World.drewN_drewN _ _ _⟩ | exact ⟨rfl, _, Eq.trans (World.drewN_drewN _ _ _) (congrArg (World.drewN _) (Nat.add_assoc _ _ _))⟩)))
       repeat (go_quiet (first | (go_at_call 57; (with_reducible refine (spec_l1Most.calls x5_1 (wrap64 (((rd_T67 l1 x6_1).f2) + ((rd_T63 l0 ((rd_T67 l1 x6_1).f0)).f2))) t176 _ A7.out).mono ?_); rintro e w' ⟨rfl, ⟨nd, rfl⟩⟩; (try first | exact ⟨rfl, _, World.drewN_drewN _ _ _⟩ | exact ⟨rfl, _, Eq.trans (World.drewN_drewN _ _ _) (congrArg (World.drewN _) (Nat.add_assoc _ _ _))⟩))); try go_wp2_with (first | (go_at_call 57; (with_reducible refine (spec_l1Most.calls x5_1 (wrap64 (((rd_T67 l1 x6_1).f2) + ((rd_T63 l0 ((rd_T67 l1 x6_1).f0)).f2))) t176 _ A7.out).mono ?_); rintro e w' ⟨rfl, ⟨nd, rfl⟩⟩; (try first | exact ⟨rfl, _, World.drewN_drewN _ _ _⟩ | exact ⟨rfl, _, Eq.trans (World.drewN_drewN _ _ _) (congrArg (World.drewN _) (Nat.add_assoc _ _ _))⟩))))
       go_roundg k1
       case measure => have := HK1.out; omega
       case rel => exact ⟨(t176), (wrap64 (x6_1 + 1)), (by first | rfl | (simp; done) | (simp [*]; done)), vq, H', ⟨by have := HK1.out; omega⟩, by repeat (first | exact Drawn0.refl _ | apply Drawn0.step)⟩
      ·rw [if_neg c6] at H
       exact absurd H (by simp)
     ·rw [if_neg c5] at H
      exact absurd H (by simp)
    ·rw [if_neg c4] at H
     exact absurd H (by simp)
   ·rw [if_neg c3] at H
    have c3b0 : decide (x6_1 < (l1.length : Int)) = false := decide_eq_false c3; clear c3; obtain rfl := Option.some.inj H; go_wp2
    repeat (go_quiet (fail); try go_wp2)
    go_ret
    exact ⟨by first | rfl | (simp; done) | (simp [*]; done), by repeat (first | exact Drawn0.refl _ | apply Drawn0.step)⟩

/-! ### spec_EndOf: function 20 -/
def spec_EndOf.f (k : Nat) (a0 : Int) (l1 : List (S63)) (l2 : List (S67)) : Option (Int × Bool) := (spec_l10Good.f k a0 l1).bind fun t177 => (if t177 = true then ((spec_l10IsPlan.f k l1 l2).bind fun t178 => (if t178 = true then ((spec_l10End.f k l1 l2).bind fun t179 => (some (t179, true))) else (some (0, false)))) else (some (0, false)))
theorem spec_EndOf.mono : ∀ a0 a1 a2 k, LeO (spec_EndOf.f k a0 a1 a2) (spec_EndOf.f (k + 1) a0 a1 a2) := by
 intro a0 a1 a2 k; unfold spec_EndOf.f
 repeat' first
   | (with_reducible exact spec_l10End.mono _ _ _)
   | (with_reducible exact spec_l10Good.mono _ _ _)
   | (with_reducible exact spec_l10IsPlan.mono _ _ _)
   | (with_reducible exact LeO.refl _)
   | (with_reducible exact LeO.none _)
   | (with_reducible refine LeO.ite ?_ ?_)
   | (with_reducible refine LeO.bind ?_ (fun _ => ?_))
   | exact spec_l10End.mono _ _ _
   | exact spec_l10Good.mono _ _ _
   | exact spec_l10IsPlan.mono _ _ _
   | exact LeO.none _
   | refine LeO.ite ?_ ?_
   | refine LeO.bind ?_ (fun _ => ?_)
set_option maxHeartbeats 8000000 in
set_option maxRecDepth 100000 in
theorem spec_EndOf.calls (k : Nat) (a0 : Int) (A1 : Option Addr) (c1 : Nat) (l1 : List (S63)) (A2 : Option Addr) (c2 : Nat) (l2 : List (S67)) (r1 : Int) (r2 : Bool) (w : World) (hr1 : Kd.C k63 w A1 l1.length l1) (hc1 : l1.length ≤ c1) (hr2 : Kd.C k67 w A2 l2.length l2) (hc2 : l2.length ≤ c2) (h : spec_EndOf.f k a0 l1 l2 = some (r1, r2)) :
  Calls Try.prog 20 #[.int .i64 a0, .slice A1 l1.length c1, .slice A2 l2.length c2] w fun e w' => e = .returned (.tuple #[.int .i64 r1, .bool r2]) ∧ Below w.heap.size w w' := by
 have HR1 := Aside0.mk hr1; have HC1 := Aside0.mk hc1; clear hr1 hc1; have HR2 := Aside0.mk hr2; have HC2 := Aside0.mk hc2; clear hr2 hc2; have HB := ak (Below.refl w.heap.size w); have H : ((spec_l10Good.f k a0 l1).bind fun t177 => (if t177 = true then ((spec_l10IsPlan.f k l1 l2).bind fun t178 => (if t178 = true then ((spec_l10End.f k l1 l2).bind fun t179 => (some (t179, true))) else (some (0, false)))) else (some (0, false)))) = some (r1, r2) := h; clear h; replace H := Option.bind_eq_some_iff.mp H; obtain ⟨t177, A40, H⟩ := H; replace H : (if t177 = true then ((spec_l10IsPlan.f k l1 l2).bind fun t178 => (if t178 = true then ((spec_l10End.f k l1 l2).bind fun t179 => (some (t179, true))) else (some (0, false)))) else (some (0, false))) = some (r1, r2) := H; have A4 := Aside0.mk A40; clear A40; by_cases c5 : t177 = true
 ·subst c5; have H1 : ((spec_l10IsPlan.f k l1 l2).bind fun t178 => (if t178 = true then ((spec_l10End.f k l1 l2).bind fun t179 => (some (t179, true))) else (some (0, false)))) = some (r1, r2) := by rw [if_pos rfl] at H; first | exact H | (simp only [if_true, eq_self] at H ⊢; exact H)
  clear H; have H := H1; clear H1; replace H := Option.bind_eq_some_iff.mp H; obtain ⟨t178, A60, H⟩ := H; replace H : (if t178 = true then ((spec_l10End.f k l1 l2).bind fun t179 => (some (t179, true))) else (some (0, false))) = some (r1, r2) := H; have A6 := Aside0.mk A60; clear A60; by_cases c7 : t178 = true
  ·subst c7; have H1 : ((spec_l10End.f k l1 l2).bind fun t179 => (some (t179, true))) = some (r1, r2) := by rw [if_pos rfl] at H; first | exact H | (simp only [if_true, eq_self] at H ⊢; exact H)
   clear H; have H := H1; clear H1; replace H := Option.bind_eq_some_iff.mp H; obtain ⟨t179, A80, H⟩ := H; replace H : (some (t179, true)) = some (r1, r2) := H; have A8 := Aside0.mk A80; clear A80; simp only [Option.some.injEq, Prod.mk.injEq] at H
   obtain ⟨rfl, rfl⟩ := H; go_enter Try.func20, Try.ntmps20
   go_wp2_with (first | ((with_reducible refine gate_callee (f := 44) rfl ?_); refine goesL_ (some 10) rfl rfl Try.func44 (by kernel_rfl) rfl #[.int .i64 a0, .slice A1 l1.length c1] rfl vm ?_; (with_reducible refine (spec_l10Good.calls k a0 _ _ l1 true _ ?side1 ?side2 A4.out).mono ?_); (case side1 => repeat (first | exact HR1.out | (with_reducible refine Kd.C_alloc ?_ _) | (with_reducible refine Kd.C_drewN ?_ _) | (with_reducible refine Kd.C_drew ?_))); (case side2 => exact HC1.out); rintro e w9 ⟨rfl, hb⟩; refine ⟨_, rfl, ?_⟩; have n0_ := ak (below_step (vh HB.out) hb); clear HB; have HB := n0_; clear n0_; (try clear hb); (try clear hb2); (try clear hk); (try clear hi)) | (go_at_call 45; (with_reducible refine (spec_l10IsPlan.calls k _ _ l1 _ _ l2 true _ ?side1 ?side2 ?side3 ?side4 A6.out).mono ?_); (case side1 => exact vc HR1.out HB.out); (case side2 => exact HC1.out); (case side3 => exact vc HR2.out HB.out); (case side4 => exact HC2.out); rintro e w10 ⟨rfl, hb⟩; have n0_ := ak (below_step (vh HB.out) hb); clear HB; have HB := n0_; clear n0_; (try clear hb); (try clear hb2); (try clear hk); (try clear hi)) | ((with_reducible refine gate_callee (f := 52) rfl ?_); refine goesL_ (some 20) rfl rfl Try.func52 (by kernel_rfl) rfl #[.slice A1 l1.length c1, .slice A2 l2.length c2] rfl vm ?_; (with_reducible refine (spec_l10End.calls k _ _ l1 _ _ l2 t179 _ ?side1 ?side2 ?side3 ?side4 A8.out).mono ?_); (case side1 => exact vc HR1.out HB.out); (case side2 => exact HC1.out); (case side3 => exact vc HR2.out HB.out); (case side4 => exact HC2.out); rintro e w' ⟨rfl, ⟨nd, rfl⟩⟩; refine ⟨_, rfl, ?_⟩))
   go_ret2
   exact ⟨by first | rfl | (simp [errW_none, errW_some] <;> rfl) | (simp [*, errW_none, errW_some] <;> rfl), by exact vh HB.out⟩
  ·replace c7 := Bool.eq_false_iff.mpr c7; subst c7; have H1 : (some (0, false)) = some (r1, r2) := by rw [if_neg (show ¬ (false = true) by decide)] at H; first | exact H | (simp only [if_true, eq_self] at H ⊢; exact H)
   clear H; have H := H1; clear H1; simp only [Option.some.injEq, Prod.mk.injEq] at H
   obtain ⟨rfl, rfl⟩ := H; go_enter Try.func20, Try.ntmps20
   go_wp2_with (first | ((with_reducible refine gate_callee (f := 44) rfl ?_); refine goesL_ (some 10) rfl rfl Try.func44 (by kernel_rfl) rfl #[.int .i64 a0, .slice A1 l1.length c1] rfl vm ?_; (with_reducible refine (spec_l10Good.calls k a0 _ _ l1 true _ ?side1 ?side2 A4.out).mono ?_); (case side1 => repeat (first | exact HR1.out | (with_reducible refine Kd.C_alloc ?_ _) | (with_reducible refine Kd.C_drewN ?_ _) | (with_reducible refine Kd.C_drew ?_))); (case side2 => exact HC1.out); rintro e w11 ⟨rfl, hb⟩; refine ⟨_, rfl, ?_⟩; have n0_ := ak (below_step (vh HB.out) hb); clear HB; have HB := n0_; clear n0_; (try clear hb); (try clear hb2); (try clear hk); (try clear hi)) | (go_at_call 45; (with_reducible refine (spec_l10IsPlan.calls k _ _ l1 _ _ l2 false _ ?side1 ?side2 ?side3 ?side4 A6.out).mono ?_); (case side1 => exact vc HR1.out HB.out); (case side2 => exact HC1.out); (case side3 => exact vc HR2.out HB.out); (case side4 => exact HC2.out); rintro e w12 ⟨rfl, hb⟩; have n0_ := ak (below_step (vh HB.out) hb); clear HB; have HB := n0_; clear n0_; (try clear hb); (try clear hb2); (try clear hk); (try clear hi)))
   go_ret2
   exact ⟨by first | rfl | (simp [errW_none, errW_some] <;> rfl) | (simp [*, errW_none, errW_some] <;> rfl), by exact vh HB.out⟩
 ·replace c5 := Bool.eq_false_iff.mpr c5; subst c5; have H1 : (some (0, false)) = some (r1, r2) := by rw [if_neg (show ¬ (false = true) by decide)] at H; first | exact H | (simp only [if_true, eq_self] at H ⊢; exact H)
  clear H; have H := H1; clear H1; simp only [Option.some.injEq, Prod.mk.injEq] at H
  obtain ⟨rfl, rfl⟩ := H; go_enter Try.func20, Try.ntmps20
  go_wp2_with (first | ((with_reducible refine gate_callee (f := 44) rfl ?_); refine goesL_ (some 10) rfl rfl Try.func44 (by kernel_rfl) rfl #[.int .i64 a0, .slice A1 l1.length c1] rfl vm ?_; (with_reducible refine (spec_l10Good.calls k a0 _ _ l1 false _ ?side1 ?side2 A4.out).mono ?_); (case side1 => repeat (first | exact HR1.out | (with_reducible refine Kd.C_alloc ?_ _) | (with_reducible refine Kd.C_drewN ?_ _) | (with_reducible refine Kd.C_drew ?_))); (case side2 => exact HC1.out); rintro e w13 ⟨rfl, hb⟩; refine ⟨_, rfl, ?_⟩; have n0_ := ak (below_step (vh HB.out) hb); clear HB; have HB := n0_; clear n0_; (try clear hb); (try clear hb2); (try clear hk); (try clear hi)))
  go_ret2
  exact ⟨by first | rfl | (simp [errW_none, errW_some] <;> rfl) | (simp [*, errW_none, errW_some] <;> rfl), by exact vh HB.out⟩

/-! ### impl_in: function 36 -/
def impl_in.f (a0 : Int) (a1 : Int) (a2 : Int) : Option (Bool) := if a0 ≥ a1 then (some (decide (a0 ≤ a2))) else (some false)
set_option maxHeartbeats 8000000 in
set_option maxRecDepth 100000 in
theorem impl_in.calls (a0 : Int) (a1 : Int) (a2 : Int) (r : Bool) (w : World) (h : impl_in.f a0 a1 a2 = some r) :
  Calls Try.prog 36 #[.int .i64 a0, .int .i64 a1, .int .i64 a2] w fun e w' => e = .returned (.bool r) ∧ Drawn0 w w' := by
 have H : (if a0 ≥ a1 then (some (decide (a0 ≤ a2))) else (some false)) = some r := h; clear h; by_cases c4 : a0 ≥ a1
 ·rw [if_pos c4] at H
  have c4b0 : decide (a1 ≤ a0) = true := decide_eq_true c4; clear c4; obtain rfl := Option.some.inj H; go_enter Try.func36, Try.ntmps36
  go_wp2
  go_ret
  exact ⟨by first | rfl | (simp; done) | (simp [*]; done), by repeat (first | exact Drawn0.refl _ | apply Drawn0.step)⟩
 ·rw [if_neg c4] at H
  have c4b0 : decide (a1 ≤ a0) = false := decide_eq_false c4; clear c4; obtain rfl := Option.some.inj H; go_enter Try.func36, Try.ntmps36
  go_wp2
  go_ret
  exact ⟨by first | rfl | (simp; done) | (simp [*]; done), by repeat (first | exact Drawn0.refl _ | apply Drawn0.step)⟩

/-! ### impl_isJob: function 66 -/
def impl_isJob.f (a0 : Int) (a1_0 : Int) (a1_1 : Int) (a1_2 : Int) (a1_3 : Int) : Option (Bool) := (impl_in.f a1_0 0 (wrap64 (a0 - 1))).bind fun t181 => (if t181 = true then ((impl_in.f a1_1 0 (wrap64 (a0 - 1))).bind fun t182 => (if t182 = true then (if a1_0 = a1_1 then (some false) else ((impl_in.f a1_2 1 60).bind fun t183 => (if t183 = true then ((impl_in.f a1_3 0 999).bind fun t184 => (some t184)) else (some false)))) else (some false))) else (some false))
set_option maxHeartbeats 8000000 in
set_option maxRecDepth 100000 in
theorem impl_isJob.calls (a0 : Int) (a1_0 : Int) (a1_1 : Int) (a1_2 : Int) (a1_3 : Int) (r : Bool) (w : World) (h : impl_isJob.f a0 a1_0 a1_1 a1_2 a1_3 = some r) :
  Calls Try.prog 66 #[.int .i64 a0, .agg #[.int .i64 a1_0, .int .i64 a1_1, .int .i64 a1_2, .int .i64 a1_3]] w fun e w' => e = .returned (.bool r) ∧ Below w.heap.size w w' := by
 have hu63 := Try.underlying63; have HB := ak (Below.refl w.heap.size w); have H : ((impl_in.f a1_0 0 (wrap64 (a0 - 1))).bind fun t181 => (if t181 = true then ((impl_in.f a1_1 0 (wrap64 (a0 - 1))).bind fun t182 => (if t182 = true then (if a1_0 = a1_1 then (some false) else ((impl_in.f a1_2 1 60).bind fun t183 => (if t183 = true then ((impl_in.f a1_3 0 999).bind fun t184 => (some t184)) else (some false)))) else (some false))) else (some false))) = some r := h; clear h; replace H := Option.bind_eq_some_iff.mp H; obtain ⟨t181, A30, H⟩ := H; replace H : (if t181 = true then ((impl_in.f a1_1 0 (wrap64 (a0 - 1))).bind fun t182 => (if t182 = true then (if a1_0 = a1_1 then (some false) else ((impl_in.f a1_2 1 60).bind fun t183 => (if t183 = true then ((impl_in.f a1_3 0 999).bind fun t184 => (some t184)) else (some false)))) else (some false))) else (some false)) = some r := H; have A3 := Aside0.mk A30; clear A30; by_cases c4 : t181 = true
 ·subst c4; have H1 : ((impl_in.f a1_1 0 (wrap64 (a0 - 1))).bind fun t182 => (if t182 = true then (if a1_0 = a1_1 then (some false) else ((impl_in.f a1_2 1 60).bind fun t183 => (if t183 = true then ((impl_in.f a1_3 0 999).bind fun t184 => (some t184)) else (some false)))) else (some false))) = some r := by rw [if_pos rfl] at H; first | exact H | (simp only [if_true, eq_self] at H ⊢; exact H)
  clear H; have H := H1; clear H1; replace H := Option.bind_eq_some_iff.mp H; obtain ⟨t182, A50, H⟩ := H; replace H : (if t182 = true then (if a1_0 = a1_1 then (some false) else ((impl_in.f a1_2 1 60).bind fun t183 => (if t183 = true then ((impl_in.f a1_3 0 999).bind fun t184 => (some t184)) else (some false)))) else (some false)) = some r := H; have A5 := Aside0.mk A50; clear A50; by_cases c6 : t182 = true
  ·subst c6; have H1 : (if a1_0 = a1_1 then (some false) else ((impl_in.f a1_2 1 60).bind fun t183 => (if t183 = true then ((impl_in.f a1_3 0 999).bind fun t184 => (some t184)) else (some false)))) = some r := by rw [if_pos rfl] at H; first | exact H | (simp only [if_true, eq_self] at H ⊢; exact H)
   clear H; have H := H1; clear H1; by_cases c7 : a1_0 = a1_1
   ·rw [if_pos c7] at H
    have c7b0 : (a1_0 == a1_1) = true := beq_iff_eq.mpr c7; have c7b1 : (a1_0 != a1_1) = false := bne_eq_false_iff_eq.mpr c7; clear c7; obtain rfl := Option.some.inj H; go_enter Try.func66, Try.ntmps66
    go_wp2_with (first | ((with_reducible refine gate_dst (N := 3) rfl ?_); refine vbe (N := 3) (cs := #[.int .i64 a1_0, .int .i64 a1_1, .int .i64 a1_2, .int .i64 a1_3]) (t := 63) ?_; intro gb180 hg w8 hbox hb; have n0_ := ak (below_step (vh HB.out) hb); have n1_ := ak (hbox); have n2_ := ak (vg hg (vh HB.out)); have n3_ := ak (vg hg (vh HB.out)); clear HB; have HB := n0_; have BK180 := n1_; have GW180 := n2_; have GE180 := n3_; clear n0_ n1_ n2_ n3_; clear hb hbox hg; have hcz9_0 : w8.cell? ⟨gb180, 0, none⟩ = some (.int .i64 a1_0) := (blk_cell BK180.out 0).trans rfl; have hcz9_1 : w8.cell? ⟨gb180, 1, none⟩ = some (.int .i64 a1_1) := (blk_cell BK180.out 1).trans rfl; have hcz9_2 : w8.cell? ⟨gb180, 2, none⟩ = some (.int .i64 a1_2) := (blk_cell BK180.out 2).trans rfl; have hcz9_3 : w8.cell? ⟨gb180, 3, none⟩ = some (.int .i64 a1_3) := (blk_cell BK180.out 3).trans rfl; have hfz9_0 := blk_frozen BK180.out 0; have hfz9_1 := blk_frozen BK180.out 1; have hfz9_2 := blk_frozen BK180.out 2; have hfz9_3 := blk_frozen BK180.out 3) | ((with_reducible refine gate_callee (f := 36) rfl ?_); refine goesL_ (some 9) rfl rfl Try.func36 (by kernel_rfl) rfl #[.int .i64 a1_0, .int .i64 0, .int .i64 (wrap64 (a0 - 1))] rfl vm ?_; (with_reducible refine (impl_in.calls a1_0 0 (wrap64 (a0 - 1)) true _ A3.out).mono ?_); rintro e w' ⟨rfl, ⟨nd, rfl⟩⟩; refine ⟨_, rfl, ?_⟩) | (go_at_call 36; (with_reducible refine (impl_in.calls a1_1 0 (wrap64 (a0 - 1)) true _ A5.out).mono ?_); rintro e w' ⟨rfl, ⟨nd, rfl⟩⟩))
    go_ret
    exact ⟨by first | rfl | (simp [errW_none, errW_some] <;> rfl) | (simp [*, errW_none, errW_some] <;> rfl), by exact vs1 HB.out GE180.out⟩
   ·rw [if_neg c7] at H
    have c7b0 : (a1_0 == a1_1) = false := beq_eq_false_iff_ne.mpr c7; have c7b1 : (a1_0 != a1_1) = true := bne_iff_ne.mpr c7; replace H := Option.bind_eq_some_iff.mp H; obtain ⟨t183, A100, H⟩ := H; replace H : (if t183 = true then ((impl_in.f a1_3 0 999).bind fun t184 => (some t184)) else (some false)) = some r := H; have A10 := Aside0.mk A100; clear A100; by_cases c11 : t183 = true
    ·subst c11; have H1 : ((impl_in.f a1_3 0 999).bind fun t184 => (some t184)) = some r := by rw [if_pos rfl] at H; first | exact H | (simp only [if_true, eq_self] at H ⊢; exact H)
     clear H; have H := H1; clear H1; replace H := Option.bind_eq_some_iff.mp H; obtain ⟨t184, A120, H⟩ := H; replace H : (some t184) = some r := H; have A12 := Aside0.mk A120; clear A120; obtain rfl := Option.some.inj H; go_enter Try.func66, Try.ntmps66
     go_wp2_with (first | ((with_reducible refine gate_dst (N := 3) rfl ?_); refine vbe (N := 3) (cs := #[.int .i64 a1_0, .int .i64 a1_1, .int .i64 a1_2, .int .i64 a1_3]) (t := 63) ?_; intro gb180 hg w13 hbox hb; have n0_ := ak (below_step (vh HB.out) hb); have n1_ := ak (hbox); have n2_ := ak (vg hg (vh HB.out)); have n3_ := ak (vg hg (vh HB.out)); clear HB; have HB := n0_; have BK180 := n1_; have GW180 := n2_; have GE180 := n3_; clear n0_ n1_ n2_ n3_; clear hb hbox hg; have hcz14_0 : w13.cell? ⟨gb180, 0, none⟩ = some (.int .i64 a1_0) := (blk_cell BK180.out 0).trans rfl; have hcz14_1 : w13.cell? ⟨gb180, 1, none⟩ = some (.int .i64 a1_1) := (blk_cell BK180.out 1).trans rfl; have hcz14_2 : w13.cell? ⟨gb180, 2, none⟩ = some (.int .i64 a1_2) := (blk_cell BK180.out 2).trans rfl; have hcz14_3 : w13.cell? ⟨gb180, 3, none⟩ = some (.int .i64 a1_3) := (blk_cell BK180.out 3).trans rfl; have hfz14_0 := blk_frozen BK180.out 0; have hfz14_1 := blk_frozen BK180.out 1; have hfz14_2 := blk_frozen BK180.out 2; have hfz14_3 := blk_frozen BK180.out 3) | ((with_reducible refine gate_callee (f := 36) rfl ?_); refine goesL_ (some 9) rfl rfl Try.func36 (by kernel_rfl) rfl #[.int .i64 a1_0, .int .i64 0, .int .i64 (wrap64 (a0 - 1))] rfl vm ?_; (with_reducible refine (impl_in.calls a1_0 0 (wrap64 (a0 - 1)) true _ A3.out).mono ?_); rintro e w' ⟨rfl, ⟨nd, rfl⟩⟩; refine ⟨_, rfl, ?_⟩) | (go_at_call 36; (with_reducible refine (impl_in.calls a1_1 0 (wrap64 (a0 - 1)) true _ A5.out).mono ?_); rintro e w' ⟨rfl, ⟨nd, rfl⟩⟩) | (go_at_call 36; (with_reducible refine (impl_in.calls a1_2 1 60 true _ A10.out).mono ?_); rintro e w' ⟨rfl, ⟨nd, rfl⟩⟩) | (go_at_call 36; (with_reducible refine (impl_in.calls a1_3 0 999 t184 _ A12.out).mono ?_); rintro e w' ⟨rfl, ⟨nd, rfl⟩⟩))
     go_ret
     exact ⟨by first | rfl | (simp [errW_none, errW_some] <;> rfl) | (simp [*, errW_none, errW_some] <;> rfl), by exact vs1 HB.out GE180.out⟩
    ·replace c11 := Bool.eq_false_iff.mpr c11; subst c11; have H1 : (some false) = some r := by rw [if_neg (show ¬ (false = true) by decide)] at H; first | exact H | (simp only [if_true, eq_self] at H ⊢; exact H)
     clear H; have H := H1; clear H1; obtain rfl := Option.some.inj H; go_enter Try.func66, Try.ntmps66
     go_wp2_with (first | ((with_reducible refine gate_dst (N := 3) rfl ?_); refine vbe (N := 3) (cs := #[.int .i64 a1_0, .int .i64 a1_1, .int .i64 a1_2, .int .i64 a1_3]) (t := 63) ?_; intro gb180 hg w15 hbox hb; have n0_ := ak (below_step (vh HB.out) hb); have n1_ := ak (hbox); have n2_ := ak (vg hg (vh HB.out)); have n3_ := ak (vg hg (vh HB.out)); clear HB; have HB := n0_; have BK180 := n1_; have GW180 := n2_; have GE180 := n3_; clear n0_ n1_ n2_ n3_; clear hb hbox hg; have hcz16_0 : w15.cell? ⟨gb180, 0, none⟩ = some (.int .i64 a1_0) := (blk_cell BK180.out 0).trans rfl; have hcz16_1 : w15.cell? ⟨gb180, 1, none⟩ = some (.int .i64 a1_1) := (blk_cell BK180.out 1).trans rfl; have hcz16_2 : w15.cell? ⟨gb180, 2, none⟩ = some (.int .i64 a1_2) := (blk_cell BK180.out 2).trans rfl; have hcz16_3 : w15.cell? ⟨gb180, 3, none⟩ = some (.int .i64 a1_3) := (blk_cell BK180.out 3).trans rfl; have hfz16_0 := blk_frozen BK180.out 0; have hfz16_1 := blk_frozen BK180.out 1; have hfz16_2 := blk_frozen BK180.out 2; have hfz16_3 := blk_frozen BK180.out 3) | ((with_reducible refine gate_callee (f := 36) rfl ?_); refine goesL_ (some 9) rfl rfl Try.func36 (by kernel_rfl) rfl #[.int .i64 a1_0, .int .i64 0, .int .i64 (wrap64 (a0 - 1))] rfl vm ?_; (with_reducible refine (impl_in.calls a1_0 0 (wrap64 (a0 - 1)) true _ A3.out).mono ?_); rintro e w' ⟨rfl, ⟨nd, rfl⟩⟩; refine ⟨_, rfl, ?_⟩) | (go_at_call 36; (with_reducible refine (impl_in.calls a1_1 0 (wrap64 (a0 - 1)) true _ A5.out).mono ?_); rintro e w' ⟨rfl, ⟨nd, rfl⟩⟩) | (go_at_call 36; (with_reducible refine (impl_in.calls a1_2 1 60 false _ A10.out).mono ?_); rintro e w' ⟨rfl, ⟨nd, rfl⟩⟩))
     go_ret
     exact ⟨by first | rfl | (simp [errW_none, errW_some] <;> rfl) | (simp [*, errW_none, errW_some] <;> rfl), by exact vs1 HB.out GE180.out⟩
  ·replace c6 := Bool.eq_false_iff.mpr c6; subst c6; have H1 : (some false) = some r := by rw [if_neg (show ¬ (false = true) by decide)] at H; first | exact H | (simp only [if_true, eq_self] at H ⊢; exact H)
   clear H; have H := H1; clear H1; obtain rfl := Option.some.inj H; go_enter Try.func66, Try.ntmps66
   go_wp2_with (first | ((with_reducible refine gate_dst (N := 3) rfl ?_); refine vbe (N := 3) (cs := #[.int .i64 a1_0, .int .i64 a1_1, .int .i64 a1_2, .int .i64 a1_3]) (t := 63) ?_; intro gb180 hg w17 hbox hb; have n0_ := ak (below_step (vh HB.out) hb); have n1_ := ak (hbox); have n2_ := ak (vg hg (vh HB.out)); have n3_ := ak (vg hg (vh HB.out)); clear HB; have HB := n0_; have BK180 := n1_; have GW180 := n2_; have GE180 := n3_; clear n0_ n1_ n2_ n3_; clear hb hbox hg; have hcz18_0 : w17.cell? ⟨gb180, 0, none⟩ = some (.int .i64 a1_0) := (blk_cell BK180.out 0).trans rfl; have hcz18_1 : w17.cell? ⟨gb180, 1, none⟩ = some (.int .i64 a1_1) := (blk_cell BK180.out 1).trans rfl; have hcz18_2 : w17.cell? ⟨gb180, 2, none⟩ = some (.int .i64 a1_2) := (blk_cell BK180.out 2).trans rfl; have hcz18_3 : w17.cell? ⟨gb180, 3, none⟩ = some (.int .i64 a1_3) := (blk_cell BK180.out 3).trans rfl; have hfz18_0 := blk_frozen BK180.out 0; have hfz18_1 := blk_frozen BK180.out 1; have hfz18_2 := blk_frozen BK180.out 2; have hfz18_3 := blk_frozen BK180.out 3) | ((with_reducible refine gate_callee (f := 36) rfl ?_); refine goesL_ (some 9) rfl rfl Try.func36 (by kernel_rfl) rfl #[.int .i64 a1_0, .int .i64 0, .int .i64 (wrap64 (a0 - 1))] rfl vm ?_; (with_reducible refine (impl_in.calls a1_0 0 (wrap64 (a0 - 1)) true _ A3.out).mono ?_); rintro e w' ⟨rfl, ⟨nd, rfl⟩⟩; refine ⟨_, rfl, ?_⟩) | (go_at_call 36; (with_reducible refine (impl_in.calls a1_1 0 (wrap64 (a0 - 1)) false _ A5.out).mono ?_); rintro e w' ⟨rfl, ⟨nd, rfl⟩⟩))
   go_ret
   exact ⟨by first | rfl | (simp [errW_none, errW_some] <;> rfl) | (simp [*, errW_none, errW_some] <;> rfl), by exact vs1 HB.out GE180.out⟩
 ·replace c4 := Bool.eq_false_iff.mpr c4; subst c4; have H1 : (some false) = some r := by rw [if_neg (show ¬ (false = true) by decide)] at H; first | exact H | (simp only [if_true, eq_self] at H ⊢; exact H)
  clear H; have H := H1; clear H1; obtain rfl := Option.some.inj H; go_enter Try.func66, Try.ntmps66
  go_wp2_with (first | ((with_reducible refine gate_dst (N := 3) rfl ?_); refine vbe (N := 3) (cs := #[.int .i64 a1_0, .int .i64 a1_1, .int .i64 a1_2, .int .i64 a1_3]) (t := 63) ?_; intro gb180 hg w19 hbox hb; have n0_ := ak (below_step (vh HB.out) hb); have n1_ := ak (hbox); have n2_ := ak (vg hg (vh HB.out)); have n3_ := ak (vg hg (vh HB.out)); clear HB; have HB := n0_; have BK180 := n1_; have GW180 := n2_; have GE180 := n3_; clear n0_ n1_ n2_ n3_; clear hb hbox hg; have hcz20_0 : w19.cell? ⟨gb180, 0, none⟩ = some (.int .i64 a1_0) := (blk_cell BK180.out 0).trans rfl; have hcz20_1 : w19.cell? ⟨gb180, 1, none⟩ = some (.int .i64 a1_1) := (blk_cell BK180.out 1).trans rfl; have hcz20_2 : w19.cell? ⟨gb180, 2, none⟩ = some (.int .i64 a1_2) := (blk_cell BK180.out 2).trans rfl; have hcz20_3 : w19.cell? ⟨gb180, 3, none⟩ = some (.int .i64 a1_3) := (blk_cell BK180.out 3).trans rfl; have hfz20_0 := blk_frozen BK180.out 0; have hfz20_1 := blk_frozen BK180.out 1; have hfz20_2 := blk_frozen BK180.out 2; have hfz20_3 := blk_frozen BK180.out 3) | ((with_reducible refine gate_callee (f := 36) rfl ?_); refine goesL_ (some 9) rfl rfl Try.func36 (by kernel_rfl) rfl #[.int .i64 a1_0, .int .i64 0, .int .i64 (wrap64 (a0 - 1))] rfl vm ?_; (with_reducible refine (impl_in.calls a1_0 0 (wrap64 (a0 - 1)) false _ A3.out).mono ?_); rintro e w' ⟨rfl, ⟨nd, rfl⟩⟩; refine ⟨_, rfl, ?_⟩))
  go_ret
  exact ⟨by first | rfl | (simp [errW_none, errW_some] <;> rfl) | (simp [*, errW_none, errW_some] <;> rfl), by exact vs1 HB.out GE180.out⟩

/-! ### impl_areStations: function 63 -/
def impl_areStations.f (a0 : Int) : Option (Bool) := (impl_in.f a0 2 6).bind fun t185 => (some t185)
set_option maxHeartbeats 8000000 in
set_option maxRecDepth 100000 in
theorem impl_areStations.calls (a0 : Int) (r : Bool) (w : World) (h : impl_areStations.f a0 = some r) :
  Calls Try.prog 63 #[.int .i64 a0] w fun e w' => e = .returned (.bool r) ∧ Drawn0 w w' := by
 have H : ((impl_in.f a0 2 6).bind fun t185 => (some t185)) = some r := h; clear h; replace H := Option.bind_eq_some_iff.mp H; obtain ⟨t185, A20, H⟩ := H; replace H : (some t185) = some r := H; have A2 := Aside0.mk A20; clear A20; obtain rfl := Option.some.inj H; go_enter Try.func63, Try.ntmps63
 go_wp2_with (first | ((with_reducible refine gate_callee (f := 36) rfl ?_); refine goesL_ (some 4) rfl rfl Try.func36 (by kernel_rfl) rfl #[.int .i64 a0, .int .i64 2, .int .i64 6] rfl vm ?_; (with_reducible refine (impl_in.calls a0 2 6 t185 _ A2.out).mono ?_); rintro e w' ⟨rfl, ⟨nd, rfl⟩⟩; refine ⟨_, rfl, ?_⟩))
 go_ret
 exact ⟨by first | rfl | (simp; done) | (simp [*]; done), by repeat (first | exact Drawn0.refl _ | apply Drawn0.step)⟩

/-! ### impl_areJobs: function 48 -/
set_option maxHeartbeats 8000000 in
set_option maxRecDepth 100000 in
theorem impl_areJobs_.index (g : Nat) (lb : Value) (p : S63 → Bool) (w : World) (eg : ∀ args w, (callFunc g args).run Try.prog w = .ok (.enter g args) w)
  (hg : ∀ (x : S63) (W : World), Below w.heap.size w W → Calls Try.prog g #[.agg #[.int .i64 x.f0, .int .i64 x.f1, .int .i64 x.f2, .int .i64 x.f3], lb] W fun e W' => e = .returned (.bool (p x)) ∧ Below W.heap.size W W')
  (A : Option Addr) (c : Nat) (l : List S63) (hr : Kd.C k63 w A l.length l) (hc : l.length ≤ c) (hl : l.length ≤ 9223372036854775807) :
  Calls Try.prog 71 #[.slice A l.length c, .func (.func g) #[] #[lb]] w fun e w' => (∃ i : Int, e = .returned (.int .i64 i) ∧ decide (0 ≤ i) = l.any p) ∧ Below w.heap.size w w' := by
 have HR := Aside0.mk hr; have HC := Aside0.mk hc; clear hr hc; have HG := Aside0.mk hg; clear hg; have HD := ak (Below.refl w.heap.size w); have hu3 := Try.underlying3; go_enter Try.func71, Try.ntmps71
 go_wp2
 go_loopg [8] l.length (fun kq v8 w' => ∃ x : Int, v8 = .int .i64 x ∧ Aside0 (0 ≤ x ∧ x + (kq : Int) = (l.length : Int)) ∧ Aside0 (∀ j (h : j < l.length), (j : Int) < x → p l[j] = false) ∧ Aside0 (Below w.heap.size w w'))
 case atStart => exact ⟨0, by rfl, ⟨by omega⟩, ⟨fun j _ h => by omega⟩, HD⟩
 case round =>
  clear HD; obtain ⟨x, rfl, HI, HP, HD⟩ := hrel; by_cases ci : x < (l.length : Int)
  ·have hlt : x.toNat < l.length := by have := HI.out; omega
   obtain ⟨ad, ead, hx0, hx1, hx2, hx3⟩ := at_T63 HR.out x HI.out.1 ci; cases ead; replace hx0 := vl HD.out hx0; replace hx1 := vl HD.out hx1; replace hx2 := vl HD.out hx2; replace hx3 := vl HD.out hx3
   have hrd : rd_T63 l x = l[x.toNat] := by
    unfold rd_T63
    rw [List.getD_eq_getElem?_getD, List.getElem?_eq_getElem hlt]
    rfl
   have c1 := eq_true HI.out.1; have c2 := eq_true ci; cases hp : p l[x.toNat] with
   | true =>
    have hpr : p (rd_T63 l x) = true := by rw [hrd]; exact hp
    have HPR := Aside0.mk hpr; have HAN : Aside0 (decide (0 ≤ x) = l.any p) := ⟨by rw [decide_eq_true HI.out.1, eq_comm, List.any_eq_true]; exact ⟨_, List.getElem_mem hlt, hp⟩⟩; clear hpr hp hrd hlt ci HP; go_wp2_with (go_at_fn g; refine (HG.out (rd_T63 l x) _ (by repeat (first | (with_reducible first | exact HD.out | apply below_alloc | apply pw_below_drewN | apply below_drew1) | exact HD.out))).mono ?_; rintro e w' ⟨rfl, hd⟩; rw [HPR.out]; have n1_ := ak (below_step (by repeat (first | (with_reducible first | exact HD.out | apply below_alloc | apply pw_below_drewN | apply below_drew1) | exact HD.out)) hd); clear HD hd; have HD := n1_; clear n1_)
    go_ret
    exact ⟨⟨x, rfl, HAN.out⟩, HD.out⟩
   | false =>
    have hpr : p (rd_T63 l x) = false := by rw [hrd]; exact hp
    have HPR := Aside0.mk hpr
    have HPN : Aside0 (∀ j (h : j < l.length), (j : Int) < x + 1 → p l[j] = false) := ⟨fun j h hj => by
     by_cases e : (j : Int) = x
     ·have : j = x.toNat := by omega
      subst this; exact hp
     ·exact HP.out j h (by omega)⟩
    clear hpr hp hrd hlt ci HP; go_wp2_with (go_at_fn g; refine (HG.out (rd_T63 l x) _ (by repeat (first | (with_reducible first | exact HD.out | apply below_alloc | apply pw_below_drewN | apply below_drew1) | exact HD.out))).mono ?_; rintro e w' ⟨rfl, hd⟩; rw [HPR.out]; have n1_ := ak (below_step (by repeat (first | (with_reducible first | exact HD.out | apply below_alloc | apply pw_below_drewN | apply below_drew1) | exact HD.out)) hd); clear HD hd; have HD := n1_; clear n1_)
    go_roundg (gk - 1)
    case measure => have := HI.out; have := of_eq_true c2; omega
    case rel => exact ⟨x + 1, by congr 1; unfold wrap64; have := HI.out; have := of_eq_true c2; omega, ⟨by have := HI.out; have := of_eq_true c2; omega⟩, HPN, ⟨by repeat (first | (with_reducible first | exact HD.out | apply below_alloc | apply pw_below_drewN | apply below_drew1) | exact HD.out)⟩⟩
  ·have c2 := eq_false ci
   have HAN : Aside0 (false = l.any p) := ⟨by
    rw [eq_comm, List.any_eq_false]
    intro y hy; obtain ⟨j, hj, rfl⟩ := List.getElem_of_mem hy; rw [HP.out j hj (by omega)]
    decide⟩
   clear HP ci; go_wp2
   go_ret
   exact ⟨⟨-1, rfl, HAN.out⟩, HD.out⟩
set_option maxHeartbeats 8000000 in
set_option maxRecDepth 100000 in
theorem impl_areJobs_.contains (g : Nat) (lb : Value) (p : S63 → Bool) (w : World) (eg : ∀ args w, (callFunc g args).run Try.prog w = .ok (.enter g args) w)
  (hg : ∀ (x : S63) (W : World), Below w.heap.size w W → Calls Try.prog g #[.agg #[.int .i64 x.f0, .int .i64 x.f1, .int .i64 x.f2, .int .i64 x.f3], lb] W fun e W' => e = .returned (.bool (p x)) ∧ Below W.heap.size W W')
  (A : Option Addr) (c : Nat) (l : List S63) (hr : Kd.C k63 w A l.length l) (hc : l.length ≤ c) (hl : l.length ≤ 9223372036854775807) :
  Calls Try.prog 64 #[.slice A l.length c, .func (.func g) #[] #[lb]] w fun e w' => e = .returned (.bool (l.any p)) ∧ Below w.heap.size w w' := by
 have e6 : ∀ args w, (callFunc 71 args).run Try.prog w = .ok (.enter 71 args) w := enters_of Try.func71 (by kernel_rfl) rfl; have hcon := impl_areJobs_.index g lb p w eg hg A c l hr hc hl; clear hr hc hg; go_enter Try.func64, Try.ntmps64
 go_wp2_with (go_at_fn 71; refine hcon.mono ?_; rintro e w' ⟨⟨i, rfl, hi⟩, hd⟩; have HI := Aside0.mk hi; have HD := Aside0.mk hd; clear hi hd)
 go_ret
 refine ⟨?_, HD.out⟩; rw [← HI.out]
 rfl
def impl_areJobs_.ok (n : Int) (x : S63) : Bool := decide (0 ≤ x.f0 ∧ x.f0 ≤ n - 1) && (decide (0 ≤ x.f1 ∧ x.f1 ≤ n - 1) && (!decide (x.f0 = x.f1) && (decide (1 ≤ x.f2 ∧ x.f2 ≤ 60) && decide (0 ≤ x.f3 ∧ x.f3 ≤ 999))))
set_option maxHeartbeats 8000000 in
set_option maxRecDepth 100000 in
theorem impl_areJobs_.in_eq (x a b : Int) : impl_in.f x a b = some (decide (a ≤ x ∧ x ≤ b)) := by
 unfold impl_in.f
 by_cases h : x ≥ a
 ·rw [if_pos h]
  congr 1
  rw [Bool.eq_iff_iff, decide_eq_true_eq, decide_eq_true_eq]
  omega
 ·rw [if_neg h]
  congr 1
  rw [eq_comm, decide_eq_false_iff_not]
  omega
set_option maxHeartbeats 8000000 in
set_option maxRecDepth 100000 in
theorem impl_areJobs_.isJob_eq (n : Int) (h2 : 2 ≤ n) (h6 : n ≤ 6) (x : S63) : impl_isJob.f n x.f0 x.f1 x.f2 x.f3 = some (impl_areJobs_.ok n x) := by
 unfold impl_isJob.f impl_areJobs_.ok
 rw [show wrap64 (n - 1) = n - 1 by unfold wrap64; omega]
 simp only [impl_areJobs_.in_eq, Option.bind_some]; cases decide (0 ≤ x.f0 ∧ x.f0 ≤ n - 1) with
 | false => rfl
 | true =>
  cases decide (0 ≤ x.f1 ∧ x.f1 ≤ n - 1) with
  | false => rfl
  | true =>
   by_cases e : x.f0 = x.f1
   ·simp [e]
   ·cases decide (1 ≤ x.f2 ∧ x.f2 ≤ 60) with
    | false => simp [e]
    | true => simp [e]
set_option maxHeartbeats 8000000 in
set_option maxRecDepth 100000 in
theorem impl_areJobs_.closure (n : Int) (h2 : 2 ≤ n) (h6 : n ≤ 6) (gb : Nat) (w : World) (hgb : gb < w.heap.size) (hcell : w.cell? ⟨gb, 0, none⟩ = some (.int .i64 n)) (x : S63) (W : World) (hW : Below w.heap.size w W) :
  Calls Try.prog 65 #[.agg #[.int .i64 x.f0, .int .i64 x.f1, .int .i64 x.f2, .int .i64 x.f3], .pointer (some ⟨gb, 0, none⟩)] W fun e W' => e = .returned (.bool (!impl_areJobs_.ok n x)) ∧ Below W.heap.size W W' := by
 have hc : W.cell? ⟨gb, 0, none⟩ = some (.int .i64 n) := (hW.cell (p := ⟨gb, 0, none⟩) hgb).trans hcell; have hc2 : ∀ o, (W.alloc o).cell? ⟨gb, 0, none⟩ = some (.int .i64 n) := fun o => by rw [World.cell?_alloc_old _ _ _ (Nat.ne_of_lt (World.block_lt_of_cell? W ⟨gb, 0, none⟩ hc))]; exact hc
 have e6 : ∀ args w, (callFunc 66 args).run Try.prog w = .ok (.enter 66 args) w := enters_of Try.func66 (by kernel_rfl) rfl; have hcon := fun W => impl_isJob.calls n x.f0 x.f1 x.f2 x.f3 _ W (impl_areJobs_.isJob_eq n h2 h6 x)
 have HD := ak (Below.refl W.heap.size W); have HCON := Aside0.mk hcon; clear hcon hW hcell hgb; generalize impl_areJobs_.ok n x = b at *
 go_enter Try.func65, Try.ntmps65
 go_wp2_with (go_at_fn 66; refine (HCON.out _).mono ?_; rintro e w' ⟨rfl, hd⟩; have n1_ := ak (below_step (by repeat (first | (with_reducible first | exact HD.out | apply below_alloc | apply pw_below_drewN | apply below_drew1) | exact HD.out)) hd); clear HD hd; have HD := n1_; clear n1_)
 go_ret
 exact ⟨rfl, HD.out⟩
def impl_areJobs.f (a0 : Int) (l : List S63) : Option Bool := if l.length ≤ 9223372036854775807 then (if 2 ≤ a0 ∧ a0 ≤ 6 then some (decide (l.length ≤ 5) && !l.any (fun x => !impl_areJobs_.ok a0 x)) else some false) else none
set_option maxHeartbeats 8000000 in
set_option maxRecDepth 100000 in
theorem impl_areJobs.calls (a0 : Int) (A1 : Option Addr) (c1 : Nat) (l1 : List S63) (r : Bool) (w : World) (hr1 : Kd.C k63 w A1 l1.length l1) (hc1 : l1.length ≤ c1) (h : impl_areJobs.f a0 l1 = some r) :
  Calls Try.prog 48 #[.int .i64 a0, .slice A1 l1.length c1] w fun e w' => e = .returned (.bool r) ∧ Below w.heap.size w w' := by
 unfold impl_areJobs.f at h
 by_cases hl : l1.length ≤ 9223372036854775807
 ·rw [if_pos hl] at h
  have hu3 := Try.underlying3; have e1 : ∀ args w, (callFunc 63 args).run Try.prog w = .ok (.enter 63 args) w := enters_of Try.func63 (by kernel_rfl) rfl; have e2 : ∀ args w, (callFunc 64 args).run Try.prog w = .ok (.enter 64 args) w := enters_of Try.func64 (by kernel_rfl) rfl; have eg : ∀ args w, (callFunc 65 args).run Try.prog w = .ok (.enter 65 args) w := enters_of Try.func65 (by kernel_rfl) rfl; have hs := fun W => impl_areStations.calls a0 (decide (2 ≤ a0 ∧ a0 ≤ 6)) W (by unfold impl_areStations.f; rw [impl_areJobs_.in_eq]; rfl)
  have HS := Aside0.mk hs; clear hs; have HD := ak (Below.refl w.heap.size w); by_cases hn : 2 ≤ a0 ∧ a0 ≤ 6
  ·rw [if_pos hn] at h
   obtain rfl := Option.some.inj h; clear h; rw [decide_eq_true hn] at HS
   have hcl := fun (W : World) (hW : Below w.heap.size w W) (hc : W.cell? ⟨w.heap.size, 0, none⟩ = some (.int .i64 a0)) =>
    impl_areJobs_.contains 65 (.pointer (some ⟨w.heap.size, 0, none⟩)) (fun x => !impl_areJobs_.ok a0 x) W eg (fun x W' hW' => impl_areJobs_.closure a0 hn.1 hn.2 w.heap.size W (World.block_lt_of_cell? W ⟨w.heap.size, 0, none⟩ hc) hc x W' hW') A1 c1 l1 (Kd.C_below hr1 hW) hc1 hl
   have HCL := Aside0.mk hcl; clear hcl hr1 hc1 hn hl; generalize l1.any (fun x => !impl_areJobs_.ok a0 x) = b2 at *
   by_cases p2 : l1.length ≤ 5
   ·have q2 : ((l1.length : Int) ≤ 5) = True := eq_true (by omega); rw [decide_eq_true p2]
    clear p2; go_enter Try.func48, Try.ntmps48
    go_wp2_with (first | (go_at_fn 63; refine (HS.out _).mono ?_; rintro e w' ⟨rfl, hd⟩; have n1_ := ak (below_step (below_alloc (Below.refl _ w) _) hd.below); have n2_ := ak ((hd.below.cell (p := ⟨w.heap.size, 0, none⟩) (by simp)).trans (by simp) : w'.cell? ⟨w.heap.size, 0, none⟩ = some (.int .i64 a0)); clear HD hd; have HD := n1_; have HCE := n2_; clear n1_ n2_) | (go_at_fn 64; refine (HCL.out _ HD.out HCE.out).mono ?_; rintro e w' ⟨rfl, hd⟩; have n1_ := ak (below_step (by repeat (first | (with_reducible first | exact HD.out | apply below_alloc | apply pw_below_drewN | apply below_drew1) | exact HD.out)) hd); clear HD hd; have HD := n1_; clear n1_))
    go_ret
    exact ⟨rfl, HD.out⟩
   ·have q2 : ((l1.length : Int) ≤ 5) = False := eq_false (by omega); rw [decide_eq_false p2]
    clear p2; go_enter Try.func48, Try.ntmps48
    go_wp2_with (first | (go_at_fn 63; refine (HS.out _).mono ?_; rintro e w' ⟨rfl, hd⟩; have n1_ := ak (below_step (below_alloc (Below.refl _ w) _) hd.below); have n2_ := ak ((hd.below.cell (p := ⟨w.heap.size, 0, none⟩) (by simp)).trans (by simp) : w'.cell? ⟨w.heap.size, 0, none⟩ = some (.int .i64 a0)); clear HD hd; have HD := n1_; have HCE := n2_; clear n1_ n2_))
    go_ret
    exact ⟨rfl, HD.out⟩
  ·rw [if_neg hn] at h
   obtain rfl := Option.some.inj h; clear h; rw [decide_eq_false hn] at HS
   clear hn hr1 hc1; go_enter Try.func48, Try.ntmps48
   go_wp2_with (first | (go_at_fn 63; refine (HS.out _).mono ?_; rintro e w' ⟨rfl, hd⟩; have n1_ := ak (below_step (below_alloc (Below.refl _ w) _) hd.below); have n2_ := ak ((hd.below.cell (p := ⟨w.heap.size, 0, none⟩) (by simp)).trans (by simp) : w'.cell? ⟨w.heap.size, 0, none⟩ = some (.int .i64 a0)); clear HD hd; have HD := n1_; have HCE := n2_; clear n1_ n2_))
   go_ret
   exact ⟨rfl, HD.out⟩
 ·rw [if_neg hl] at h
  cases h

/-! ### cmp_Or_int: function 72 -/
def cmp_Or_int.l0 : Nat → Int → List Int → Int → Int → Option (Int)
 | 0, _, _, _, _ => none
 | k + 1, x3, x6, x7, x8 => if x8 < x7 then (if 0 ≤ x8 then (if x8 < (x6.length : Int) then (if (rd x6 x8) = x3 then (cmp_Or_int.l0 k x3 x6 x7 (wrap64 (x8 + 1))) else (some (rd x6 x8))) else (none)) else (none)) else (some x3)
def cmp_Or_int.f (k : Nat) (l0 : List Int) : Option (Int) := cmp_Or_int.l0 k 0 l0 (l0.length : Int) 0
theorem cmp_Or_int.mono_l : ∀ k, (∀ y0 y1 y2 y3, LeO (cmp_Or_int.l0 k y0 y1 y2 y3) (cmp_Or_int.l0 (k + 1) y0 y1 y2 y3))
 | 0 => fun _ _ _ _ r h => by simp [cmp_Or_int.l0] at h
 | k + 1 => by
  have ih0 := cmp_Or_int.mono_l k
  ·intro y0 y1 y2 y3; unfold cmp_Or_int.l0
   repeat' first
   | (with_reducible exact ih0 _ _ _ _)
   | (with_reducible exact LeO.refl _)
   | (with_reducible exact LeO.none _)
   | (with_reducible refine LeO.ite ?_ ?_)
   | (with_reducible refine LeO.bind ?_ (fun _ => ?_))
   | exact ih0 _ _ _ _
   | exact LeO.none _
   | refine LeO.ite ?_ ?_
   | refine LeO.bind ?_ (fun _ => ?_)
theorem cmp_Or_int.mono : ∀ a0 k, LeO (cmp_Or_int.f k a0) (cmp_Or_int.f (k + 1) a0) := by
 intro a0 k; have ih0 := cmp_Or_int.mono_l k; unfold cmp_Or_int.f
 repeat' first
   | (with_reducible exact ih0 _ _ _ _)
   | (with_reducible exact LeO.refl _)
   | (with_reducible exact LeO.none _)
   | (with_reducible refine LeO.ite ?_ ?_)
   | (with_reducible refine LeO.bind ?_ (fun _ => ?_))
   | exact ih0 _ _ _ _
   | exact LeO.none _
   | refine LeO.ite ?_ ?_
   | refine LeO.bind ?_ (fun _ => ?_)
set_option maxHeartbeats 8000000 in
set_option maxRecDepth 100000 in
theorem cmp_Or_int.calls (k : Nat) (A0 : Option Addr) (c0 : Nat) (l0 : List Int) (r : Int) (w : World) (hr0 : Kd.C (Kd.int .i64) w A0 l0.length l0) (hc0 : l0.length ≤ c0) (h : cmp_Or_int.f k l0 = some r) :
  Calls Try.prog 72 #[.slice A0 l0.length c0] w fun e w' => e = .returned (.int .i64 r) ∧ Drawn0 w w' := by
 have HR0 := Aside0.mk hr0; have HC0 := Aside0.mk hc0; clear hr0 hc0; have H : (cmp_Or_int.l0 k 0 l0 (l0.length : Int) 0) = some r := h; clear h; have H' := Aside0.mk H; clear H; go_enter Try.func72, Try.ntmps72
 go_wp2
 go_loopg [8] k (fun kq v8 w' => ∃ (x8_1 : Int), v8 = .int .i64 x8_1 ∧ Aside0 (cmp_Or_int.l0 kq 0 l0 (l0.length : Int) x8_1 = some r) ∧ Aside0 (kq ≤ k) ∧ Drawn0 w w')
 case atStart => exact ⟨(0), (by first | rfl | (simp; done) | (simp [*]; done)), H', ⟨Nat.le_refl _⟩, by repeat (first | exact Drawn0.refl _ | apply Drawn0.step)⟩
 case round =>
  clear H'; obtain ⟨x8_1, rfl, HA, HK1, ⟨m1, rfl⟩⟩ := hrel; cases gk with
  | zero => exact absurd HA.out (by simp [cmp_Or_int.l0])
  | succ k1 =>
   have H := HA.out; clear HA; simp only [cmp_Or_int.l0] at H
   by_cases c2 : x8_1 < (l0.length : Int)
   ·rw [if_pos c2] at H
    have c2b0 : decide (x8_1 < (l0.length : Int)) = true := decide_eq_true c2; clear c2; by_cases c3 : 0 ≤ x8_1
    ·rw [if_pos c3] at H
     have c3b0 : decide (0 ≤ x8_1) = true := decide_eq_true c3; clear c3; by_cases c4 : x8_1 < (l0.length : Int)
     ·rw [if_pos c4] at H
      have c4b0 : decide (x8_1 < (l0.length : Int)) = true := decide_eq_true c4; clear c4; by_cases c5 : (rd l0 x8_1) = 0
      ·rw [if_pos c5] at H
       have c5b0 : ((rd l0 x8_1) == 0) = true := beq_iff_eq.mpr c5; have c5b1 : ((rd l0 x8_1) != 0) = false := bne_eq_false_iff_eq.mpr c5; clear c5; have H' := Aside0.mk H; clear H; have p186 : 0 ≤ (x8_1 : Int) := of_decide_eq_true va; have q186 : x8_1 < (l0.length : Int) := of_decide_eq_true va; obtain ⟨ad186, e186, hx186_0⟩ := Kd.at_int HR0.out x8_1 p186 q186; cases e186; replace p186 := eq_true p186; replace q186 := eq_true q186; go_wp2
       go_roundg k1
       case measure => have := HK1.out; omega
       case rel => exact ⟨(wrap64 (x8_1 + 1)), vq, H', ⟨by have := HK1.out; omega⟩, by repeat (first | exact Drawn0.refl _ | apply Drawn0.step)⟩
      ·rw [if_neg c5] at H
       have c5b0 : ((rd l0 x8_1) == 0) = false := beq_eq_false_iff_ne.mpr c5; have c5b1 : ((rd l0 x8_1) != 0) = true := bne_iff_ne.mpr c5; obtain rfl := Option.some.inj H; have p186 : 0 ≤ (x8_1 : Int) := of_decide_eq_true va; have q186 : x8_1 < (l0.length : Int) := of_decide_eq_true va; obtain ⟨ad186, e186, hx186_0⟩ := Kd.at_int HR0.out x8_1 p186 q186; cases e186; replace p186 := eq_true p186; replace q186 := eq_true q186; go_wp2
       go_ret
       exact ⟨by first | rfl | (simp; done) | (simp [*]; done), by repeat (first | exact Drawn0.refl _ | apply Drawn0.step)⟩
     ·rw [if_neg c4] at H
      exact absurd H (by simp)
    ·rw [if_neg c3] at H
     exact absurd H (by simp)
   ·rw [if_neg c2] at H
    have c2b0 : decide (x8_1 < (l0.length : Int)) = false := decide_eq_false c2; clear c2; obtain rfl := Option.some.inj H; go_wp2
    go_ret
    exact ⟨by first | rfl | (simp; done) | (simp [*]; done), by repeat (first | exact Drawn0.refl _ | apply Drawn0.step)⟩

/-! ### cmp_isNaN_int: function 75 -/
def cmp_isNaN_int.f (a0 : Int) : Option (Bool) := some (a0 != a0)
set_option maxHeartbeats 8000000 in
set_option maxRecDepth 100000 in
theorem cmp_isNaN_int.calls (a0 : Int) (r : Bool) (w : World) (h : cmp_isNaN_int.f a0 = some r) :
  Calls Try.prog 75 #[.int .i64 a0] w fun e w' => e = .returned (.bool r) ∧ Drawn0 w w' := by
 have H : (some (a0 != a0)) = some r := h; clear h; obtain rfl := Option.some.inj H; go_enter Try.func75, Try.ntmps75
 go_wp2
 go_ret
 exact ⟨by first | rfl | (simp; done) | (simp [*]; done), by repeat (first | exact Drawn0.refl _ | apply Drawn0.step)⟩

/-! ### cmp_Compare_int: function 73 -/
def cmp_Compare_int.f (a0 : Int) (a1 : Int) : Option (Int) := (cmp_isNaN_int.f a0).bind fun t187 => ((cmp_isNaN_int.f a1).bind fun t188 => (if t187 = true then (if t188 = true then (some 0) else (some (-1))) else (if t188 = true then (some 1) else (if a0 < a1 then (some (-1)) else (if a0 > a1 then (some 1) else (some 0))))))
set_option maxHeartbeats 8000000 in
set_option maxRecDepth 100000 in
theorem cmp_Compare_int.calls (a0 : Int) (a1 : Int) (r : Int) (w : World) (h : cmp_Compare_int.f a0 a1 = some r) :
  Calls Try.prog 73 #[.int .i64 a0, .int .i64 a1] w fun e w' => e = .returned (.int .i64 r) ∧ Drawn0 w w' := by
 have H : ((cmp_isNaN_int.f a0).bind fun t187 => ((cmp_isNaN_int.f a1).bind fun t188 => (if t187 = true then (if t188 = true then (some 0) else (some (-1))) else (if t188 = true then (some 1) else (if a0 < a1 then (some (-1)) else (if a0 > a1 then (some 1) else (some 0))))))) = some r := h; clear h; replace H := Option.bind_eq_some_iff.mp H; obtain ⟨t187, A30, H⟩ := H; replace H : ((cmp_isNaN_int.f a1).bind fun t188 => (if t187 = true then (if t188 = true then (some 0) else (some (-1))) else (if t188 = true then (some 1) else (if a0 < a1 then (some (-1)) else (if a0 > a1 then (some 1) else (some 0)))))) = some r := H; have A3 := Aside0.mk A30; clear A30; replace H := Option.bind_eq_some_iff.mp H; obtain ⟨t188, A40, H⟩ := H; replace H : (if t187 = true then (if t188 = true then (some 0) else (some (-1))) else (if t188 = true then (some 1) else (if a0 < a1 then (some (-1)) else (if a0 > a1 then (some 1) else (some 0))))) = some r := H; have A4 := Aside0.mk A40; clear A40; by_cases c5 : t187 = true
 ·subst c5; have H1 : (if t188 = true then (some 0) else (some (-1))) = some r := by rw [if_pos rfl] at H; first | exact H | (simp only [if_true, eq_self] at H ⊢; exact H)
  clear H; have H := H1; clear H1; by_cases c6 : t188 = true
  ·subst c6; have H1 : (some 0) = some r := by rw [if_pos rfl] at H; first | exact H | (simp only [if_true, eq_self] at H ⊢; exact H)
   clear H; have H := H1; clear H1; obtain rfl := Option.some.inj H; go_enter Try.func73, Try.ntmps73
   go_wp2_with (first | ((with_reducible refine gate_callee (f := 75) rfl ?_); refine goesL_ (some 8) rfl rfl Try.func75 (by kernel_rfl) rfl #[.int .i64 a0] rfl vm ?_; (with_reducible refine (cmp_isNaN_int.calls a0 true _ A3.out).mono ?_); rintro e w' ⟨rfl, ⟨nd, rfl⟩⟩; refine ⟨_, rfl, ?_⟩) | ((with_reducible refine gate_callee (f := 75) rfl ?_); refine goesL_ (some 10) rfl rfl Try.func75 (by kernel_rfl) rfl #[.int .i64 a1] rfl vm ?_; (with_reducible refine (cmp_isNaN_int.calls a1 true _ A4.out).mono ?_); rintro e w' ⟨rfl, ⟨nd, rfl⟩⟩; refine ⟨_, rfl, ?_⟩))
   go_ret
   exact ⟨by first | rfl | (simp; done) | (simp [*]; done), by repeat (first | exact Drawn0.refl _ | apply Drawn0.step)⟩
  ·replace c6 := Bool.eq_false_iff.mpr c6; subst c6; have H1 : (some (-1)) = some r := by rw [if_neg (show ¬ (false = true) by decide)] at H; first | exact H | (simp only [if_true, eq_self] at H ⊢; exact H)
   clear H; have H := H1; clear H1; obtain rfl := Option.some.inj H; go_enter Try.func73, Try.ntmps73
   go_wp2_with (first | ((with_reducible refine gate_callee (f := 75) rfl ?_); refine goesL_ (some 8) rfl rfl Try.func75 (by kernel_rfl) rfl #[.int .i64 a0] rfl vm ?_; (with_reducible refine (cmp_isNaN_int.calls a0 true _ A3.out).mono ?_); rintro e w' ⟨rfl, ⟨nd, rfl⟩⟩; refine ⟨_, rfl, ?_⟩) | ((with_reducible refine gate_callee (f := 75) rfl ?_); refine goesL_ (some 10) rfl rfl Try.func75 (by kernel_rfl) rfl #[.int .i64 a1] rfl vm ?_; (with_reducible refine (cmp_isNaN_int.calls a1 false _ A4.out).mono ?_); rintro e w' ⟨rfl, ⟨nd, rfl⟩⟩; refine ⟨_, rfl, ?_⟩))
   go_ret
   exact ⟨by first | rfl | (simp; done) | (simp [*]; done), by repeat (first | exact Drawn0.refl _ | apply Drawn0.step)⟩
 ·replace c5 := Bool.eq_false_iff.mpr c5; subst c5; have H1 : (if t188 = true then (some 1) else (if a0 < a1 then (some (-1)) else (if a0 > a1 then (some 1) else (some 0)))) = some r := by rw [if_neg (show ¬ (false = true) by decide)] at H; first | exact H | (simp only [if_true, eq_self] at H ⊢; exact H)
  clear H; have H := H1; clear H1; by_cases c7 : t188 = true
  ·subst c7; have H1 : (some 1) = some r := by rw [if_pos rfl] at H; first | exact H | (simp only [if_true, eq_self] at H ⊢; exact H)
   clear H; have H := H1; clear H1; obtain rfl := Option.some.inj H; go_enter Try.func73, Try.ntmps73
   go_wp2_with (first | ((with_reducible refine gate_callee (f := 75) rfl ?_); refine goesL_ (some 8) rfl rfl Try.func75 (by kernel_rfl) rfl #[.int .i64 a0] rfl vm ?_; (with_reducible refine (cmp_isNaN_int.calls a0 false _ A3.out).mono ?_); rintro e w' ⟨rfl, ⟨nd, rfl⟩⟩; refine ⟨_, rfl, ?_⟩) | ((with_reducible refine gate_callee (f := 75) rfl ?_); refine goesL_ (some 10) rfl rfl Try.func75 (by kernel_rfl) rfl #[.int .i64 a1] rfl vm ?_; (with_reducible refine (cmp_isNaN_int.calls a1 true _ A4.out).mono ?_); rintro e w' ⟨rfl, ⟨nd, rfl⟩⟩; refine ⟨_, rfl, ?_⟩))
   go_ret
   exact ⟨by first | rfl | (simp; done) | (simp [*]; done), by repeat (first | exact Drawn0.refl _ | apply Drawn0.step)⟩
  ·replace c7 := Bool.eq_false_iff.mpr c7; subst c7; have H1 : (if a0 < a1 then (some (-1)) else (if a0 > a1 then (some 1) else (some 0))) = some r := by rw [if_neg (show ¬ (false = true) by decide)] at H; first | exact H | (simp only [if_true, eq_self] at H ⊢; exact H)
   clear H; have H := H1; clear H1; by_cases c8 : a0 < a1
   ·rw [if_pos c8] at H
    have c8b0 : decide (a0 < a1) = true := decide_eq_true c8; clear c8; obtain rfl := Option.some.inj H; go_enter Try.func73, Try.ntmps73
    go_wp2_with (first | ((with_reducible refine gate_callee (f := 75) rfl ?_); refine goesL_ (some 8) rfl rfl Try.func75 (by kernel_rfl) rfl #[.int .i64 a0] rfl vm ?_; (with_reducible refine (cmp_isNaN_int.calls a0 false _ A3.out).mono ?_); rintro e w' ⟨rfl, ⟨nd, rfl⟩⟩; refine ⟨_, rfl, ?_⟩) | ((with_reducible refine gate_callee (f := 75) rfl ?_); refine goesL_ (some 10) rfl rfl Try.func75 (by kernel_rfl) rfl #[.int .i64 a1] rfl vm ?_; (with_reducible refine (cmp_isNaN_int.calls a1 false _ A4.out).mono ?_); rintro e w' ⟨rfl, ⟨nd, rfl⟩⟩; refine ⟨_, rfl, ?_⟩))
    go_ret
    exact ⟨by first | rfl | (simp; done) | (simp [*]; done), by repeat (first | exact Drawn0.refl _ | apply Drawn0.step)⟩
   ·rw [if_neg c8] at H
    have c8b0 : decide (a0 < a1) = false := decide_eq_false c8; clear c8; by_cases c9 : a0 > a1
    ·rw [if_pos c9] at H
     have c9b0 : decide (a1 < a0) = true := decide_eq_true c9; clear c9; obtain rfl := Option.some.inj H; go_enter Try.func73, Try.ntmps73
     go_wp2_with (first | ((with_reducible refine gate_callee (f := 75) rfl ?_); refine goesL_ (some 8) rfl rfl Try.func75 (by kernel_rfl) rfl #[.int .i64 a0] rfl vm ?_; (with_reducible refine (cmp_isNaN_int.calls a0 false _ A3.out).mono ?_); rintro e w' ⟨rfl, ⟨nd, rfl⟩⟩; refine ⟨_, rfl, ?_⟩) | ((with_reducible refine gate_callee (f := 75) rfl ?_); refine goesL_ (some 10) rfl rfl Try.func75 (by kernel_rfl) rfl #[.int .i64 a1] rfl vm ?_; (with_reducible refine (cmp_isNaN_int.calls a1 false _ A4.out).mono ?_); rintro e w' ⟨rfl, ⟨nd, rfl⟩⟩; refine ⟨_, rfl, ?_⟩))
     go_ret
     exact ⟨by first | rfl | (simp; done) | (simp [*]; done), by repeat (first | exact Drawn0.refl _ | apply Drawn0.step)⟩
    ·rw [if_neg c9] at H
     have c9b0 : decide (a1 < a0) = false := decide_eq_false c9; clear c9; obtain rfl := Option.some.inj H; go_enter Try.func73, Try.ntmps73
     go_wp2_with (first | ((with_reducible refine gate_callee (f := 75) rfl ?_); refine goesL_ (some 8) rfl rfl Try.func75 (by kernel_rfl) rfl #[.int .i64 a0] rfl vm ?_; (with_reducible refine (cmp_isNaN_int.calls a0 false _ A3.out).mono ?_); rintro e w' ⟨rfl, ⟨nd, rfl⟩⟩; refine ⟨_, rfl, ?_⟩) | ((with_reducible refine gate_callee (f := 75) rfl ?_); refine goesL_ (some 10) rfl rfl Try.func75 (by kernel_rfl) rfl #[.int .i64 a1] rfl vm ?_; (with_reducible refine (cmp_isNaN_int.calls a1 false _ A4.out).mono ?_); rintro e w' ⟨rfl, ⟨nd, rfl⟩⟩; refine ⟨_, rfl, ?_⟩))
     go_ret
     exact ⟨by first | rfl | (simp; done) | (simp [*]; done), by repeat (first | exact Drawn0.refl _ | apply Drawn0.step)⟩

end Go.Proofs.Ytlgmccliclmbaaa.PFnExactEndOf
