-- Written by a program of this session (the kit's print with this session's additions, wip/tools): Lean checks it.
import Derived.Test.YtgaadjlcmgmfaaaGreatPFnExactOpenMarksx0
import Derived.Test.YtgaadjlcmgmfaaaGreatPFnExactOpenMarksx3
import Derived.Test.YtgaadjlcmgmfaaaGreatPFnExactOpenMarksx4
namespace Go.Proofs.YtgaadjlcmgmfaaaGreat.PFnExactOpenMarks
open Go.RowKit Go.Proofs.YtgaadjlcmgmfaaaGreatW.PrintWords Go.Proofs.YtgaadjlcmgmfaaaGreatW.PrintLast Go.Proofs.YtgaadjlcmgmfaaaGreatW.PrintMore
attribute [local go_sem] max2_int min2_int max_two min_two max_three min_three max_four min_four   -- for this text's walks alone
set_option linter.unusedVariables false
set_option linter.unusedSimpArgs false

/-! ### spec_OpenMarks: function 14 -/
def spec_OpenMarks.f (k : Nat) (a0 : Int) : Option (List ByteArray × Bool) := (spec_l1In.f a0 1 6).bind fun t173 => (if t173 = true then ((spec_l8All.f k 4).bind fun t174 => ((spec_l8Open.f k t174 0 (([] : List ByteArray)) 0 a0 (-1)).bind fun bt180 => (some (bt180.1, true)))) else (some ((([] : List ByteArray)), false)))
theorem spec_OpenMarks.mono : ∀ a0 k, LeO (spec_OpenMarks.f k a0) (spec_OpenMarks.f (k + 1) a0) := by
  intro a0 k
  unfold spec_OpenMarks.f
  repeat' first
      | (with_reducible exact spec_l8All.mono _ _)
      | (with_reducible exact spec_l8Open.mono _ _ _ _ _ _ _)
      | (with_reducible exact LeO.refl _)
      | (with_reducible exact LeO.none _)
      | (with_reducible refine LeO.ite ?_ ?_)
      | (with_reducible refine LeO.bind ?_ (fun _ => ?_))
      | exact spec_l8All.mono _ _
      | exact spec_l8Open.mono _ _ _ _ _ _ _
      | exact LeO.none _
      | refine LeO.ite ?_ ?_
      | refine LeO.bind ?_ (fun _ => ?_)
set_option maxHeartbeats 8000000 in
set_option maxRecDepth 100000 in
theorem spec_OpenMarks.calls (k : Nat) (a0 : Int) (r1 : List ByteArray) (r2 : Bool) (w : World) (h : spec_OpenMarks.f k a0 = some (r1, r2)) :
    Calls Tryz.prog 14 #[.int .i64 a0] w fun e w' => ∃ v0_ : Value, e = .returned (.tuple #[v0_, .bool r2]) ∧ Kd.R Kd.string 9 w' w.heap.size (fun _ => True) v0_ r1 ∧ Below w.heap.size w w' := by
  have HB := Aside0.mk (Below.refl w.heap.size w)
  have H : ((spec_l1In.f a0 1 6).bind fun t173 => (if t173 = true then ((spec_l8All.f k 4).bind fun t174 => ((spec_l8Open.f k t174 0 (([] : List ByteArray)) 0 a0 (-1)).bind fun bt180 => (some (bt180.1, true)))) else (some ((([] : List ByteArray)), false)))) = some (r1, r2) := h
  clear h
  replace H := Option.bind_eq_some_iff.mp H
  obtain ⟨t173, A20, H⟩ := H
  replace H : (if t173 = true then ((spec_l8All.f k 4).bind fun t174 => ((spec_l8Open.f k t174 0 (([] : List ByteArray)) 0 a0 (-1)).bind fun bt180 => (some (bt180.1, true)))) else (some ((([] : List ByteArray)), false))) = some (r1, r2) := H
  have A2 := Aside0.mk A20
  clear A20
  by_cases c3 : t173 = true
  · subst c3
    have H1 : ((spec_l8All.f k 4).bind fun t174 => ((spec_l8Open.f k t174 0 (([] : List ByteArray)) 0 a0 (-1)).bind fun bt180 => (some (bt180.1, true)))) = some (r1, r2) := by rw [if_pos rfl] at H; first | exact H | (simp only [if_true, eq_self] at H ⊢; exact H)
    clear H
    have H := H1
    clear H1
    replace H := Option.bind_eq_some_iff.mp H
    obtain ⟨t174, A40, H⟩ := H
    replace H : ((spec_l8Open.f k t174 0 (([] : List ByteArray)) 0 a0 (-1)).bind fun bt180 => (some (bt180.1, true))) = some (r1, r2) := H
    have A4 := Aside0.mk A40
    clear A40
    obtain ⟨y177, hy177⟩ : ∃ y_ : List ByteArray, y_ = (([] : List ByteArray)) := ⟨_, rfl⟩
    replace H : ((spec_l8Open.f k t174 0 y177 0 a0 (-1)).bind fun bt180 => (some (bt180.1, true))) = some (r1, r2) := by first | (rw [hy177]; with_reducible exact H) | (have H2_ := (Option.bind_some _ _).symm.trans H; rw [hy177]; with_reducible exact H2_) | (have H2_ := (Option.bind_some _ _).symm.trans H; with_reducible exact H2_) | with_reducible exact H | (rw [hy177]; exact H) | exact H
    have Ny177 := Aside0.mk hy177
    clear hy177
    replace H := Option.bind_eq_some_iff.mp H
    obtain ⟨⟨t180, t181⟩, A50, H⟩ := H
    replace H : (some (t180, true)) = some (r1, r2) := H
    have A5 := Aside0.mk A50
    clear A50
    simp only [Option.some.injEq, Prod.mk.injEq] at H
    obtain ⟨rfl, rfl⟩ := H
    go_enter Tryz.func14, Tryz.ntmps14
    go_wp2_with (first | ((with_reducible refine gate_callee (f := 27) rfl ?_); refine goesL_ (some 7) rfl rfl Tryz.func27 (by kernel_rfl) rfl #[.int .i64 a0, .int .i64 1, .int .i64 6] rfl (by (try simp only [List.map_toArray, List.map_cons, List.map_nil]); first | done | rfl | (simp only [List.length_drop, List.length_take]; rfl)) ?_; (with_reducible refine (spec_l1In.calls a0 1 6 true _ A2.out).mono ?_); rintro e w' ⟨rfl, ⟨nd, rfl⟩⟩; refine ⟨_, rfl, ?_⟩) | ((with_reducible refine gate_callee (f := 23) rfl ?_); refine goesL_ (some 11) rfl rfl Tryz.func23 (by kernel_rfl) rfl #[.int .i64 4] rfl (by (try simp only [List.map_toArray, List.map_cons, List.map_nil]); first | done | rfl | (simp only [List.length_drop, List.length_take]; rfl)) ?_; (with_reducible refine (spec_l8All.calls k 4 t174 _ A4.out).mono ?_); rintro e w6 ⟨v175, rfl, ho0, hb⟩; refine ⟨_, rfl, ?_⟩; have n0_ := Aside0.mk (Kd.R_lower ho0 (below_size (by repeat (first | (with_reducible first | exact HB.out | apply below_alloc | apply pw_below_drewN | apply below_drew1) | exact HB.out)))); have n1_ := Aside0.mk (below_step (by repeat (first | (with_reducible first | exact HB.out | apply below_alloc | apply pw_below_drewN | apply below_drew1) | exact HB.out)) hb); clear HB; have HO176 := n0_; have HB := n1_; clear n0_ n1_; (try clear hb); (try clear hb2); (try clear hk); (try clear hi); (try clear ho0)) | ((with_reducible refine gate_dst (N := 12) rfl ?_); refine Kd.R_lit Kd.string _ 9 ?hg (N := 12) ?hd (xs := ([] : List ByteArray)) (inner := []) (ok := fun _ => True) (okp := fun _ => True) ?hr ?hp (fun _ hk => hk) trivial (Below.refl _ _) (Nat.le_refl _) (by simp) ?_; (case hd => rfl); (case hg => rfl); (case hr => first | (go_simp; done) | (go_simp; rfl)); (case hp => exact (Reps.none _ _)); intro v178 w7 ho8 hb hg_ hnew_; clear hg_ hnew_; (first | rw [← Ny177.out] at ho8 | (simp only [Int.reduceToNat] at ho8; rw [← Ny177.out] at ho8)); have n0_ := Aside0.mk (Kd.R_elder' (by (with_reducible repeat (first | apply Kd.R_alloc | apply Kd.R_drewN | apply Kd.R_drew)); exact HO176.out) (Kd.R_base ho8) hb); have n1_ := Aside0.mk (Kd.R_lower (Kd.R_new' ho8 (Kd.R_lt (by (with_reducible repeat (first | apply Kd.R_alloc | apply Kd.R_drewN | apply Kd.R_drew)); exact HO176.out))) (below_size (by repeat (first | (with_reducible first | exact HB.out | apply below_alloc | apply pw_below_drewN | apply below_drew1) | exact HB.out)))); have n2_ := Aside0.mk (below_step (by repeat (first | (with_reducible first | exact HB.out | apply below_alloc | apply pw_below_drewN | apply below_drew1) | exact HB.out)) hb); clear HO176; clear HB; have HO176 := n0_; have HO179 := n1_; have HB := n2_; clear n0_ n1_ n2_; clear hb ho8; obtain ⟨Ao9, co9, eo9⟩ := Kd.R_slice HO176.out; subst eo9; obtain ⟨Ao10, co10, eo10⟩ := Kd.R_slice HO179.out; subst eo10) | ((with_reducible refine gate_callee (f := 28) rfl ?_); refine goesL_ (some 14) rfl rfl Tryz.func28 (by kernel_rfl) rfl #[.slice Ao9 t174.length co9, .int .i64 0, .slice Ao10 y177.length co10, .int .i64 0, .int .i64 a0, .int .i64 (-1)] rfl (by (try simp only [List.map_toArray, List.map_cons, List.map_nil]); first | done | rfl | (simp only [List.length_drop, List.length_take]; rfl)) ?_; (with_reducible refine (spec_l8Open.calls k _ _ t174 0 _ _ y177 0 a0 (-1) t180 t181 _ ?side1 ?side2 ?side3 ?side4 A5.out).mono ?_); (case side1 => repeat (first | exact (Kd.R_reads' HO176.out).2.2 | (with_reducible refine Kd.C_alloc ?_ _) | (with_reducible refine Kd.C_drewN ?_ _) | (with_reducible refine Kd.C_drew ?_))); (case side2 => exact (Kd.R_reads' HO176.out).2.1); (case side3 => repeat (first | exact (Kd.R_reads' HO179.out).2.2 | (with_reducible refine Kd.C_alloc ?_ _) | (with_reducible refine Kd.C_drewN ?_ _) | (with_reducible refine Kd.C_drew ?_))); (case side4 => exact (Kd.R_reads' HO179.out).2.1); rintro e w11 ⟨v182, rfl, ho0, hb⟩; refine ⟨_, rfl, ?_⟩; have n0_ := Aside0.mk (Kd.R_elder' (by (with_reducible repeat (first | apply Kd.R_alloc | apply Kd.R_drewN | apply Kd.R_drew)); exact HO176.out) (Kd.R_base ho0) hb); have n1_ := Aside0.mk (Kd.R_elder' (by (with_reducible repeat (first | apply Kd.R_alloc | apply Kd.R_drewN | apply Kd.R_drew)); exact HO179.out) (Kd.R_base ho0) hb); have n2_ := Aside0.mk (Kd.R_lower (Kd.R_new' (Kd.R_new' ho0 (Kd.R_lt (by (with_reducible repeat (first | apply Kd.R_alloc | apply Kd.R_drewN | apply Kd.R_drew)); exact HO176.out))) (Kd.R_lt (by (with_reducible repeat (first | apply Kd.R_alloc | apply Kd.R_drewN | apply Kd.R_drew)); exact HO179.out))) (below_size (by repeat (first | (with_reducible first | exact HB.out | apply below_alloc | apply pw_below_drewN | apply below_drew1) | exact HB.out)))); have n3_ := Aside0.mk (below_step (by repeat (first | (with_reducible first | exact HB.out | apply below_alloc | apply pw_below_drewN | apply below_drew1) | exact HB.out)) hb); clear HO176; clear HO179; clear HB; have HO176 := n0_; have HO179 := n1_; have HO183 := n2_; have HB := n3_; clear n0_ n1_ n2_ n3_; (try clear hb); (try clear hb2); (try clear hk); (try clear hi); (try clear ho0)))
    go_ret2
    exact ⟨_, by first | rfl | (simp [errW_none, errW_some] <;> rfl) | (simp [*, errW_none, errW_some] <;> rfl), by (with_reducible repeat (first | apply Kd.R_alloc | apply Kd.R_drewN | apply Kd.R_drew)); exact Kd.R_mono HO183.out (fun _ hk => trivial), by repeat (first | (with_reducible first | exact HB.out | apply below_alloc | apply pw_below_drewN | apply below_drew1) | exact HB.out)⟩
  · replace c3 := Bool.eq_false_iff.mpr c3
    subst c3
    have H1 : (some ((([] : List ByteArray)), false)) = some (r1, r2) := by rw [if_neg (show ¬ (false = true) by decide)] at H; first | exact H | (simp only [if_true, eq_self] at H ⊢; exact H)
    clear H
    have H := H1
    clear H1
    obtain ⟨y184, hy184⟩ : ∃ y_ : List ByteArray, y_ = (([] : List ByteArray)) := ⟨_, rfl⟩
    replace H : (some (y184, false)) = some (r1, r2) := by first | (rw [hy184]; with_reducible exact H) | (have H2_ := (Option.bind_some _ _).symm.trans H; rw [hy184]; with_reducible exact H2_) | (have H2_ := (Option.bind_some _ _).symm.trans H; with_reducible exact H2_) | with_reducible exact H | (rw [hy184]; exact H) | exact H
    have Ny184 := Aside0.mk hy184
    clear hy184
    simp only [Option.some.injEq, Prod.mk.injEq] at H
    obtain ⟨rfl, rfl⟩ := H
    go_enter Tryz.func14, Tryz.ntmps14
    go_wp2_with (first | ((with_reducible refine gate_callee (f := 27) rfl ?_); refine goesL_ (some 7) rfl rfl Tryz.func27 (by kernel_rfl) rfl #[.int .i64 a0, .int .i64 1, .int .i64 6] rfl (by (try simp only [List.map_toArray, List.map_cons, List.map_nil]); first | done | rfl | (simp only [List.length_drop, List.length_take]; rfl)) ?_; (with_reducible refine (spec_l1In.calls a0 1 6 false _ A2.out).mono ?_); rintro e w' ⟨rfl, ⟨nd, rfl⟩⟩; refine ⟨_, rfl, ?_⟩) | ((with_reducible refine gate_dst (N := 9) rfl ?_); refine Kd.R_lit Kd.string _ 9 ?hg (N := 9) ?hd (xs := ([] : List ByteArray)) (inner := []) (ok := fun _ => True) (okp := fun _ => True) ?hr ?hp (fun _ hk => hk) trivial (Below.refl _ _) (Nat.le_refl _) (by simp) ?_; (case hd => rfl); (case hg => rfl); (case hr => first | (go_simp; done) | (go_simp; rfl)); (case hp => exact (Reps.none _ _)); intro v185 w12 ho13 hb hg_ hnew_; clear hg_ hnew_; (first | rw [← Ny184.out] at ho13 | (simp only [Int.reduceToNat] at ho13; rw [← Ny184.out] at ho13)); have n0_ := Aside0.mk (Kd.R_lower ho13 (below_size (by repeat (first | (with_reducible first | exact HB.out | apply below_alloc | apply pw_below_drewN | apply below_drew1) | exact HB.out)))); have n1_ := Aside0.mk (below_step (by repeat (first | (with_reducible first | exact HB.out | apply below_alloc | apply pw_below_drewN | apply below_drew1) | exact HB.out)) hb); clear HB; have HO186 := n0_; have HB := n1_; clear n0_ n1_; clear hb ho13))
    go_ret2
    exact ⟨_, by first | rfl | (simp [errW_none, errW_some] <;> rfl) | (simp [*, errW_none, errW_some] <;> rfl), by (with_reducible repeat (first | apply Kd.R_alloc | apply Kd.R_drewN | apply Kd.R_drew)); exact HO186.out, by repeat (first | (with_reducible first | exact HB.out | apply below_alloc | apply pw_below_drewN | apply below_drew1) | exact HB.out)⟩

/-! ### impl_in: function 29 -/
def impl_in.f (a0 : Int) (a1 : Int) (a2 : Int) : Option (Bool) := if a0 ≥ a1 then (some (decide (a0 ≤ a2))) else (some false)
set_option maxHeartbeats 8000000 in
set_option maxRecDepth 100000 in
theorem impl_in.calls (a0 : Int) (a1 : Int) (a2 : Int) (r : Bool) (w : World) (h : impl_in.f a0 a1 a2 = some r) :
    Calls Tryz.prog 29 #[.int .i64 a0, .int .i64 a1, .int .i64 a2] w fun e w' => e = .returned (.bool r) ∧ Drawn0 w w' := by
  have H : (if a0 ≥ a1 then (some (decide (a0 ≤ a2))) else (some false)) = some r := h
  clear h
  by_cases c4 : a0 ≥ a1
  · rw [if_pos c4] at H
    have c4b0 : decide (a1 ≤ a0) = true := decide_eq_true c4
    clear c4
    obtain rfl := Option.some.inj H
    go_enter Tryz.func29, Tryz.ntmps29
    go_wp2
    go_ret
    exact ⟨by first | rfl | (simp; done) | (simp [*]; done), by repeat (first | exact Drawn0.refl _ | apply Drawn0.step)⟩
  · rw [if_neg c4] at H
    have c4b0 : decide (a1 ≤ a0) = false := decide_eq_false c4
    clear c4
    obtain rfl := Option.some.inj H
    go_enter Tryz.func29, Tryz.ntmps29
    go_wp2
    go_ret
    exact ⟨by first | rfl | (simp; done) | (simp [*]; done), by repeat (first | exact Drawn0.refl _ | apply Drawn0.step)⟩

/-! ### strings_Count: function 55 -/
def strings_Count.f (a0 a1 : ByteArray) : Option Int := if a1.data.toList.length = 1 then some (Lib.countByte a0.data.toList (a1.data.toList.headD 0) : Int) else none
theorem strings_Count.calls (a0 a1 : ByteArray) (r : Int) (w : World) (h : strings_Count.f a0 a1 = some r) :
    Calls Tryz.prog 55 #[.string a0, .string a1] w fun e w' => e = .returned (.int .i64 r) ∧ Drawn0 w w' := by
  unfold strings_Count.f at h
  by_cases h1 : a1.data.toList.length = 1
  · rw [if_pos h1] at h
    obtain rfl := Option.some.inj h
    obtain ⟨⟨l⟩⟩ := a1
    match l, h1 with
    | [c], _ =>
      refine (Tryz.strings_Count_laid a0 c w).mono fun e w' ⟨he, hw⟩ => ?_
      subst hw
      exact ⟨he, Drawn0.refl _⟩
  · rw [if_neg h1] at h
    cases h

/-! ### impl_timeOf: function 42 -/
def impl_timeOf.f (a0 : ByteArray) : Option (Int) := (strings_Count.f a0 (⟨#[45]⟩ : ByteArray)).bind fun t187 => (some (wrap64 ((wrap64 ((wrap64 (2 * (a0.size : Int))) - 1)) + (wrap64 (2 * t187)))))
set_option maxHeartbeats 8000000 in
set_option maxRecDepth 100000 in
theorem impl_timeOf.calls (a0 : ByteArray) (r : Int) (w : World) (h : impl_timeOf.f a0 = some r) :
    Calls Tryz.prog 42 #[.string a0] w fun e w' => e = .returned (.int .i64 r) ∧ Drawn0 w w' := by
  have H : ((strings_Count.f a0 (⟨#[45]⟩ : ByteArray)).bind fun t187 => (some (wrap64 ((wrap64 ((wrap64 (2 * (a0.size : Int))) - 1)) + (wrap64 (2 * t187)))))) = some r := h
  clear h
  replace H := Option.bind_eq_some_iff.mp H
  obtain ⟨t187, A20, H⟩ := H
  replace H : (some (wrap64 ((wrap64 ((wrap64 (2 * (a0.size : Int))) - 1)) + (wrap64 (2 * t187))))) = some r := H
  have A2 := Aside0.mk A20
  clear A20
  obtain rfl := Option.some.inj H
  go_enter Tryz.func42, Tryz.ntmps42
  go_wp2_with (first | ((with_reducible refine gate_callee (f := 55) rfl ?_); refine goesL_ (some 8) rfl rfl Tryz.func55 (by kernel_rfl) rfl #[.string a0, .string (⟨#[45]⟩ : ByteArray)] rfl (by (try simp only [List.map_toArray, List.map_cons, List.map_nil]); first | done | rfl | (simp only [List.length_drop, List.length_take]; rfl)) ?_; (with_reducible refine (strings_Count.calls a0 (⟨#[45]⟩ : ByteArray) t187 _ A2.out).mono ?_); rintro e w' ⟨rfl, ⟨nd, rfl⟩⟩; refine ⟨_, rfl, ?_⟩))
  go_ret
  exact ⟨by first | rfl | (simp; done) | (simp [*]; done), by repeat (first | exact Drawn0.refl _ | apply Drawn0.step)⟩

/-! ### cmp_Or_int: function 58 -/
def cmp_Or_int.l0 : Nat → Int → List Int → Int → Int → Option (Int)
  | 0, _, _, _, _ => none
  | k + 1, x3, x6, x7, x8 => if x8 < x7 then (if 0 ≤ x8 then (if x8 < (x6.length : Int) then (if (rd x6 x8) = x3 then (cmp_Or_int.l0 k x3 x6 x7 (wrap64 (x8 + 1))) else (some (rd x6 x8))) else (none)) else (none)) else (some x3)
def cmp_Or_int.f (k : Nat) (l0 : List Int) : Option (Int) := cmp_Or_int.l0 k 0 l0 (l0.length : Int) 0
theorem cmp_Or_int.mono_l : ∀ k, (∀ y0 y1 y2 y3, LeO (cmp_Or_int.l0 k y0 y1 y2 y3) (cmp_Or_int.l0 (k + 1) y0 y1 y2 y3))
  | 0 => fun _ _ _ _ r h => by simp [cmp_Or_int.l0] at h
  | k + 1 => by
    have ih0 := cmp_Or_int.mono_l k
    · intro y0 y1 y2 y3
      unfold cmp_Or_int.l0
      repeat' first
      | (with_reducible exact ih0 _ _ _ _)
      | (with_reducible exact LeO.refl _)
      | (with_reducible exact LeO.none _)
      | (with_reducible refine LeO.ite ?_ ?_)
      | (with_reducible refine LeO.bind ?_ (fun _ => ?_))
      | exact ih0 _ _ _ _
      | exact LeO.none _
      | refine LeO.ite ?_ ?_
      | refine LeO.bind ?_ (fun _ => ?_)
theorem cmp_Or_int.mono : ∀ a0 k, LeO (cmp_Or_int.f k a0) (cmp_Or_int.f (k + 1) a0) := by
  intro a0 k
  have ih0 := cmp_Or_int.mono_l k
  unfold cmp_Or_int.f
  repeat' first
      | (with_reducible exact ih0 _ _ _ _)
      | (with_reducible exact LeO.refl _)
      | (with_reducible exact LeO.none _)
      | (with_reducible refine LeO.ite ?_ ?_)
      | (with_reducible refine LeO.bind ?_ (fun _ => ?_))
      | exact ih0 _ _ _ _
      | exact LeO.none _
      | refine LeO.ite ?_ ?_
      | refine LeO.bind ?_ (fun _ => ?_)
set_option maxHeartbeats 8000000 in
set_option maxRecDepth 100000 in
theorem cmp_Or_int.calls (k : Nat) (A0 : Option Addr) (c0 : Nat) (l0 : List Int) (r : Int) (w : World) (hr0 : Kd.C (Kd.int .i64) w A0 l0.length l0) (hc0 : l0.length ≤ c0) (h : cmp_Or_int.f k l0 = some r) :
    Calls Tryz.prog 58 #[.slice A0 l0.length c0] w fun e w' => e = .returned (.int .i64 r) ∧ Drawn0 w w' := by
  have HR0 := Aside0.mk hr0
  have HC0 := Aside0.mk hc0
  clear hr0 hc0
  have H : (cmp_Or_int.l0 k 0 l0 (l0.length : Int) 0) = some r := h
  clear h
  have H' := Aside0.mk H
  clear H
  go_enter Tryz.func58, Tryz.ntmps58
  go_wp2
  go_loopg [8] k (fun kq v8 w' => ∃ (x8_1 : Int), v8 = .int .i64 x8_1 ∧ Aside0 (cmp_Or_int.l0 kq 0 l0 (l0.length : Int) x8_1 = some r) ∧ Aside0 (kq ≤ k) ∧ Drawn0 w w')
  case atStart => exact ⟨(0), (by first | rfl | (simp; done) | (simp [*]; done)), H', ⟨Nat.le_refl _⟩, by repeat (first | exact Drawn0.refl _ | apply Drawn0.step)⟩
  case round =>
    clear H'
    obtain ⟨x8_1, rfl, HA, HK1, ⟨m1, rfl⟩⟩ := hrel
    cases gk with
    | zero => exact absurd HA.out (by simp [cmp_Or_int.l0])
    | succ k1 =>
      have H := HA.out
      clear HA
      simp only [cmp_Or_int.l0] at H
      by_cases c2 : x8_1 < (l0.length : Int)
      · rw [if_pos c2] at H
        have c2b0 : decide (x8_1 < (l0.length : Int)) = true := decide_eq_true c2
        clear c2
        by_cases c3 : 0 ≤ x8_1
        · rw [if_pos c3] at H
          have c3b0 : decide (0 ≤ x8_1) = true := decide_eq_true c3
          clear c3
          by_cases c4 : x8_1 < (l0.length : Int)
          · rw [if_pos c4] at H
            have c4b0 : decide (x8_1 < (l0.length : Int)) = true := decide_eq_true c4
            clear c4
            by_cases c5 : (rd l0 x8_1) = 0
            · rw [if_pos c5] at H
              have c5b0 : ((rd l0 x8_1) == 0) = true := beq_iff_eq.mpr c5
              have c5b1 : ((rd l0 x8_1) != 0) = false := bne_eq_false_iff_eq.mpr c5
              clear c5
              have H' := Aside0.mk H
              clear H
              have p188 : 0 ≤ (x8_1 : Int) := of_decide_eq_true (by first | (with_reducible assumption) | assumption)
              have q188 : x8_1 < (l0.length : Int) := of_decide_eq_true (by first | (with_reducible assumption) | assumption)
              obtain ⟨ad188, e188, hx188_0⟩ := Kd.at_int HR0.out x8_1 p188 q188
              cases e188
              replace p188 := eq_true p188
              replace q188 := eq_true q188
              go_wp2
              go_roundg k1
              case measure => have := HK1.out; omega
              case rel => exact ⟨(wrap64 (x8_1 + 1)), (by first | rfl | (simp; done) | (simp [*]; done) | (simp only [i64_w]; done) | (simp only [i64_w]; rfl) | (simp only [decide_eq_true_eq] at *; congr 1; unfold wrap64; omega)), H', ⟨by have := HK1.out; omega⟩, by repeat (first | exact Drawn0.refl _ | apply Drawn0.step)⟩
            · rw [if_neg c5] at H
              have c5b0 : ((rd l0 x8_1) == 0) = false := beq_eq_false_iff_ne.mpr c5
              have c5b1 : ((rd l0 x8_1) != 0) = true := bne_iff_ne.mpr c5
              obtain rfl := Option.some.inj H
              have p188 : 0 ≤ (x8_1 : Int) := of_decide_eq_true (by first | (with_reducible assumption) | assumption)
              have q188 : x8_1 < (l0.length : Int) := of_decide_eq_true (by first | (with_reducible assumption) | assumption)
              obtain ⟨ad188, e188, hx188_0⟩ := Kd.at_int HR0.out x8_1 p188 q188
              cases e188
              replace p188 := eq_true p188
              replace q188 := eq_true q188
              go_wp2
              go_ret
              exact ⟨by first | rfl | (simp; done) | (simp [*]; done), by repeat (first | exact Drawn0.refl _ | apply Drawn0.step)⟩
          · rw [if_neg c4] at H
            exact absurd H (by simp)
        · rw [if_neg c3] at H
          exact absurd H (by simp)
      · rw [if_neg c2] at H
        have c2b0 : decide (x8_1 < (l0.length : Int)) = false := decide_eq_false c2
        clear c2
        obtain rfl := Option.some.inj H
        go_wp2
        go_ret
        exact ⟨by first | rfl | (simp; done) | (simp [*]; done), by repeat (first | exact Drawn0.refl _ | apply Drawn0.step)⟩

/-! ### cmp_isNaN_int: function 80 -/
def cmp_isNaN_int.f (a0 : Int) : Option (Bool) := some (a0 != a0)
set_option maxHeartbeats 8000000 in
set_option maxRecDepth 100000 in
theorem cmp_isNaN_int.calls (a0 : Int) (r : Bool) (w : World) (h : cmp_isNaN_int.f a0 = some r) :
    Calls Tryz.prog 80 #[.int .i64 a0] w fun e w' => e = .returned (.bool r) ∧ Drawn0 w w' := by
  have H : (some (a0 != a0)) = some r := h
  clear h
  obtain rfl := Option.some.inj H
  go_enter Tryz.func80, Tryz.ntmps80
  go_wp2
  go_ret
  exact ⟨by first | rfl | (simp; done) | (simp [*]; done), by repeat (first | exact Drawn0.refl _ | apply Drawn0.step)⟩

/-! ### cmp_Compare_int: function 59 -/
def cmp_Compare_int.f (a0 : Int) (a1 : Int) : Option (Int) := (cmp_isNaN_int.f a0).bind fun t189 => ((cmp_isNaN_int.f a1).bind fun t190 => (if t189 = true then (if t190 = true then (some 0) else (some (-1))) else (if t190 = true then (some 1) else (if a0 < a1 then (some (-1)) else (if a0 > a1 then (some 1) else (some 0))))))
set_option maxHeartbeats 8000000 in
set_option maxRecDepth 100000 in
theorem cmp_Compare_int.calls (a0 : Int) (a1 : Int) (r : Int) (w : World) (h : cmp_Compare_int.f a0 a1 = some r) :
    Calls Tryz.prog 59 #[.int .i64 a0, .int .i64 a1] w fun e w' => e = .returned (.int .i64 r) ∧ Drawn0 w w' := by
  have H : ((cmp_isNaN_int.f a0).bind fun t189 => ((cmp_isNaN_int.f a1).bind fun t190 => (if t189 = true then (if t190 = true then (some 0) else (some (-1))) else (if t190 = true then (some 1) else (if a0 < a1 then (some (-1)) else (if a0 > a1 then (some 1) else (some 0))))))) = some r := h
  clear h
  replace H := Option.bind_eq_some_iff.mp H
  obtain ⟨t189, A30, H⟩ := H
  replace H : ((cmp_isNaN_int.f a1).bind fun t190 => (if t189 = true then (if t190 = true then (some 0) else (some (-1))) else (if t190 = true then (some 1) else (if a0 < a1 then (some (-1)) else (if a0 > a1 then (some 1) else (some 0)))))) = some r := H
  have A3 := Aside0.mk A30
  clear A30
  replace H := Option.bind_eq_some_iff.mp H
  obtain ⟨t190, A40, H⟩ := H
  replace H : (if t189 = true then (if t190 = true then (some 0) else (some (-1))) else (if t190 = true then (some 1) else (if a0 < a1 then (some (-1)) else (if a0 > a1 then (some 1) else (some 0))))) = some r := H
  have A4 := Aside0.mk A40
  clear A40
  by_cases c5 : t189 = true
  · subst c5
    have H1 : (if t190 = true then (some 0) else (some (-1))) = some r := by rw [if_pos rfl] at H; first | exact H | (simp only [if_true, eq_self] at H ⊢; exact H)
    clear H
    have H := H1
    clear H1
    by_cases c6 : t190 = true
    · subst c6
      have H1 : (some 0) = some r := by rw [if_pos rfl] at H; first | exact H | (simp only [if_true, eq_self] at H ⊢; exact H)
      clear H
      have H := H1
      clear H1
      obtain rfl := Option.some.inj H
      go_enter Tryz.func59, Tryz.ntmps59
      go_wp2_with (first | ((with_reducible refine gate_callee (f := 80) rfl ?_); refine goesL_ (some 8) rfl rfl Tryz.func80 (by kernel_rfl) rfl #[.int .i64 a0] rfl (by (try simp only [List.map_toArray, List.map_cons, List.map_nil]); first | done | rfl | (simp only [List.length_drop, List.length_take]; rfl)) ?_; (with_reducible refine (cmp_isNaN_int.calls a0 true _ A3.out).mono ?_); rintro e w' ⟨rfl, ⟨nd, rfl⟩⟩; refine ⟨_, rfl, ?_⟩) | ((with_reducible refine gate_callee (f := 80) rfl ?_); refine goesL_ (some 10) rfl rfl Tryz.func80 (by kernel_rfl) rfl #[.int .i64 a1] rfl (by (try simp only [List.map_toArray, List.map_cons, List.map_nil]); first | done | rfl | (simp only [List.length_drop, List.length_take]; rfl)) ?_; (with_reducible refine (cmp_isNaN_int.calls a1 true _ A4.out).mono ?_); rintro e w' ⟨rfl, ⟨nd, rfl⟩⟩; refine ⟨_, rfl, ?_⟩))
      go_ret
      exact ⟨by first | rfl | (simp; done) | (simp [*]; done), by repeat (first | exact Drawn0.refl _ | apply Drawn0.step)⟩
    · replace c6 := Bool.eq_false_iff.mpr c6
      subst c6
      have H1 : (some (-1)) = some r := by rw [if_neg (show ¬ (false = true) by decide)] at H; first | exact H | (simp only [if_true, eq_self] at H ⊢; exact H)
      clear H
      have H := H1
      clear H1
      obtain rfl := Option.some.inj H
      go_enter Tryz.func59, Tryz.ntmps59
      go_wp2_with (first | ((with_reducible refine gate_callee (f := 80) rfl ?_); refine goesL_ (some 8) rfl rfl Tryz.func80 (by kernel_rfl) rfl #[.int .i64 a0] rfl (by (try simp only [List.map_toArray, List.map_cons, List.map_nil]); first | done | rfl | (simp only [List.length_drop, List.length_take]; rfl)) ?_; (with_reducible refine (cmp_isNaN_int.calls a0 true _ A3.out).mono ?_); rintro e w' ⟨rfl, ⟨nd, rfl⟩⟩; refine ⟨_, rfl, ?_⟩) | ((with_reducible refine gate_callee (f := 80) rfl ?_); refine goesL_ (some 10) rfl rfl Tryz.func80 (by kernel_rfl) rfl #[.int .i64 a1] rfl (by (try simp only [List.map_toArray, List.map_cons, List.map_nil]); first | done | rfl | (simp only [List.length_drop, List.length_take]; rfl)) ?_; (with_reducible refine (cmp_isNaN_int.calls a1 false _ A4.out).mono ?_); rintro e w' ⟨rfl, ⟨nd, rfl⟩⟩; refine ⟨_, rfl, ?_⟩))
      go_ret
      exact ⟨by first | rfl | (simp; done) | (simp [*]; done), by repeat (first | exact Drawn0.refl _ | apply Drawn0.step)⟩
  · replace c5 := Bool.eq_false_iff.mpr c5
    subst c5
    have H1 : (if t190 = true then (some 1) else (if a0 < a1 then (some (-1)) else (if a0 > a1 then (some 1) else (some 0)))) = some r := by rw [if_neg (show ¬ (false = true) by decide)] at H; first | exact H | (simp only [if_true, eq_self] at H ⊢; exact H)
    clear H
    have H := H1
    clear H1
    by_cases c7 : t190 = true
    · subst c7
      have H1 : (some 1) = some r := by rw [if_pos rfl] at H; first | exact H | (simp only [if_true, eq_self] at H ⊢; exact H)
      clear H
      have H := H1
      clear H1
      obtain rfl := Option.some.inj H
      go_enter Tryz.func59, Tryz.ntmps59
      go_wp2_with (first | ((with_reducible refine gate_callee (f := 80) rfl ?_); refine goesL_ (some 8) rfl rfl Tryz.func80 (by kernel_rfl) rfl #[.int .i64 a0] rfl (by (try simp only [List.map_toArray, List.map_cons, List.map_nil]); first | done | rfl | (simp only [List.length_drop, List.length_take]; rfl)) ?_; (with_reducible refine (cmp_isNaN_int.calls a0 false _ A3.out).mono ?_); rintro e w' ⟨rfl, ⟨nd, rfl⟩⟩; refine ⟨_, rfl, ?_⟩) | ((with_reducible refine gate_callee (f := 80) rfl ?_); refine goesL_ (some 10) rfl rfl Tryz.func80 (by kernel_rfl) rfl #[.int .i64 a1] rfl (by (try simp only [List.map_toArray, List.map_cons, List.map_nil]); first | done | rfl | (simp only [List.length_drop, List.length_take]; rfl)) ?_; (with_reducible refine (cmp_isNaN_int.calls a1 true _ A4.out).mono ?_); rintro e w' ⟨rfl, ⟨nd, rfl⟩⟩; refine ⟨_, rfl, ?_⟩))
      go_ret
      exact ⟨by first | rfl | (simp; done) | (simp [*]; done), by repeat (first | exact Drawn0.refl _ | apply Drawn0.step)⟩
    · replace c7 := Bool.eq_false_iff.mpr c7
      subst c7
      have H1 : (if a0 < a1 then (some (-1)) else (if a0 > a1 then (some 1) else (some 0))) = some r := by rw [if_neg (show ¬ (false = true) by decide)] at H; first | exact H | (simp only [if_true, eq_self] at H ⊢; exact H)
      clear H
      have H := H1
      clear H1
      by_cases c8 : a0 < a1
      · rw [if_pos c8] at H
        have c8b0 : decide (a0 < a1) = true := decide_eq_true c8
        clear c8
        obtain rfl := Option.some.inj H
        go_enter Tryz.func59, Tryz.ntmps59
        go_wp2_with (first | ((with_reducible refine gate_callee (f := 80) rfl ?_); refine goesL_ (some 8) rfl rfl Tryz.func80 (by kernel_rfl) rfl #[.int .i64 a0] rfl (by (try simp only [List.map_toArray, List.map_cons, List.map_nil]); first | done | rfl | (simp only [List.length_drop, List.length_take]; rfl)) ?_; (with_reducible refine (cmp_isNaN_int.calls a0 false _ A3.out).mono ?_); rintro e w' ⟨rfl, ⟨nd, rfl⟩⟩; refine ⟨_, rfl, ?_⟩) | ((with_reducible refine gate_callee (f := 80) rfl ?_); refine goesL_ (some 10) rfl rfl Tryz.func80 (by kernel_rfl) rfl #[.int .i64 a1] rfl (by (try simp only [List.map_toArray, List.map_cons, List.map_nil]); first | done | rfl | (simp only [List.length_drop, List.length_take]; rfl)) ?_; (with_reducible refine (cmp_isNaN_int.calls a1 false _ A4.out).mono ?_); rintro e w' ⟨rfl, ⟨nd, rfl⟩⟩; refine ⟨_, rfl, ?_⟩))
        go_ret
        exact ⟨by first | rfl | (simp; done) | (simp [*]; done), by repeat (first | exact Drawn0.refl _ | apply Drawn0.step)⟩
      · rw [if_neg c8] at H
        have c8b0 : decide (a0 < a1) = false := decide_eq_false c8
        clear c8
        by_cases c9 : a0 > a1
        · rw [if_pos c9] at H
          have c9b0 : decide (a1 < a0) = true := decide_eq_true c9
          clear c9
          obtain rfl := Option.some.inj H
          go_enter Tryz.func59, Tryz.ntmps59
          go_wp2_with (first | ((with_reducible refine gate_callee (f := 80) rfl ?_); refine goesL_ (some 8) rfl rfl Tryz.func80 (by kernel_rfl) rfl #[.int .i64 a0] rfl (by (try simp only [List.map_toArray, List.map_cons, List.map_nil]); first | done | rfl | (simp only [List.length_drop, List.length_take]; rfl)) ?_; (with_reducible refine (cmp_isNaN_int.calls a0 false _ A3.out).mono ?_); rintro e w' ⟨rfl, ⟨nd, rfl⟩⟩; refine ⟨_, rfl, ?_⟩) | ((with_reducible refine gate_callee (f := 80) rfl ?_); refine goesL_ (some 10) rfl rfl Tryz.func80 (by kernel_rfl) rfl #[.int .i64 a1] rfl (by (try simp only [List.map_toArray, List.map_cons, List.map_nil]); first | done | rfl | (simp only [List.length_drop, List.length_take]; rfl)) ?_; (with_reducible refine (cmp_isNaN_int.calls a1 false _ A4.out).mono ?_); rintro e w' ⟨rfl, ⟨nd, rfl⟩⟩; refine ⟨_, rfl, ?_⟩))
          go_ret
          exact ⟨by first | rfl | (simp; done) | (simp [*]; done), by repeat (first | exact Drawn0.refl _ | apply Drawn0.step)⟩
        · rw [if_neg c9] at H
          have c9b0 : decide (a1 < a0) = false := decide_eq_false c9
          clear c9
          obtain rfl := Option.some.inj H
          go_enter Tryz.func59, Tryz.ntmps59
          go_wp2_with (first | ((with_reducible refine gate_callee (f := 80) rfl ?_); refine goesL_ (some 8) rfl rfl Tryz.func80 (by kernel_rfl) rfl #[.int .i64 a0] rfl (by (try simp only [List.map_toArray, List.map_cons, List.map_nil]); first | done | rfl | (simp only [List.length_drop, List.length_take]; rfl)) ?_; (with_reducible refine (cmp_isNaN_int.calls a0 false _ A3.out).mono ?_); rintro e w' ⟨rfl, ⟨nd, rfl⟩⟩; refine ⟨_, rfl, ?_⟩) | ((with_reducible refine gate_callee (f := 80) rfl ?_); refine goesL_ (some 10) rfl rfl Tryz.func80 (by kernel_rfl) rfl #[.int .i64 a1] rfl (by (try simp only [List.map_toArray, List.map_cons, List.map_nil]); first | done | rfl | (simp only [List.length_drop, List.length_take]; rfl)) ?_; (with_reducible refine (cmp_isNaN_int.calls a1 false _ A4.out).mono ?_); rintro e w' ⟨rfl, ⟨nd, rfl⟩⟩; refine ⟨_, rfl, ?_⟩))
          go_ret
          exact ⟨by first | rfl | (simp; done) | (simp [*]; done), by repeat (first | exact Drawn0.refl _ | apply Drawn0.step)⟩

/-! ### strings_Compare: function 60 -/
def strings_Compare.f (a0 a1 : ByteArray) : Option Int := some (Lib.compareBytes a0.data.toList a1.data.toList)
theorem strings_Compare.same (a0 a1 : ByteArray) (r : Int) (w : World) (h : strings_Compare.f a0 a1 = some r) :
    Calls Tryz.prog 60 #[.string a0, .string a1] w fun e w' => e = .returned (.int .i64 r) ∧ w' = w := by
  obtain rfl := Option.some.inj h
  exact Any.strings_Compare { Tryz.lays106 with } a0 a1 w
theorem strings_Compare.calls (a0 a1 : ByteArray) (r : Int) (w : World) (h : strings_Compare.f a0 a1 = some r) :
    Calls Tryz.prog 60 #[.string a0, .string a1] w fun e w' => e = .returned (.int .i64 r) ∧ Below w.heap.size w w' :=
  (strings_Compare.same a0 a1 r w h).mono fun e w' h => ⟨h.1, by rw [h.2]; exact Below.refl _ _⟩

/-! ### impl_opposite: function 61 -/
theorem once_.disable (w : World) : (callFunc 128 #[]).run Tryz.prog w = .ok (.value (.tuple #[])) w := run_call_mark0 Tryz.func128 (by kernel_rfl) (by kernel_rfl) (by kernel_rfl) .disable (by kernel_rfl) w
theorem once_.enable (w : World) : (callFunc 130 #[]).run Tryz.prog w = .ok (.value (.tuple #[])) w := run_call_mark0 Tryz.func130 (by kernel_rfl) (by kernel_rfl) (by kernel_rfl) .enable (by kernel_rfl) w
theorem once_.acquire (a : Addr) (w : World) : (callFunc 131 #[.pointer (some a)]).run Tryz.prog w = .ok (.value (.tuple #[])) w := run_call_marked Tryz.func131 (by kernel_rfl) (by kernel_rfl) (by kernel_rfl) .acquire (by kernel_rfl) a w
theorem once_.releaseMerge (a : Addr) (w : World) : (callFunc 133 #[.pointer (some a)]).run Tryz.prog w = .ok (.value (.tuple #[])) w := run_call_marked Tryz.func133 (by kernel_rfl) (by kernel_rfl) (by kernel_rfl) .releaseMerge (by kernel_rfl) a w

set_option maxRecDepth 100000 in
set_option maxHeartbeats 4000000 in
theorem once_.store (a : Addr) (x : Value) (u : FrameMode) (w : World) (hc : w.cell? a = some x) (hz : w.frozen? a = false) :
    CallsD Tryz.prog 119 #[.pointer (some a), .bool true] u w fun e u' w' => u' = u ∧ (e = .returned (.tuple #[]) ∧ w' = w.drew.setCell a (.int .u32 1)) := by
  have hc' : w.drew.cell? a = some x := by go_simp
  have hz' : w.drew.frozen? a = false := by go_simp
  have hst := run_call_store (P := Tryz.prog) Tryz.func124 (by kernel_rfl) (by kernel_rfl) (by kernel_rfl) (by kernel_rfl) (k := .u32) (y := 1) hc' hz'
  go_enter_d Tryz.func119, Tryz.ntmps119
  go_wp2
  go_region_calls
  all_goals (go_end0; exact ⟨rfl, rfl⟩)
set_option maxRecDepth 100000 in
set_option maxHeartbeats 4000000 in
theorem once_.unlock (a : Addr) (u : FrameMode) (w : World) (hc : w.cell? a = some (.int .i32 1)) (hz : w.frozen? a = false) :
    CallsD Tryz.prog 118 #[.pointer (some a)] u w fun e u' w' => u' = u ∧ (e = .returned (.tuple #[]) ∧ w' = w.setCell a (.int .i32 0)) := by
  have hd := once_.disable
  have he := once_.enable
  have hr := once_.releaseMerge
  have hadd := run_call_add (P := Tryz.prog) Tryz.func134 (by kernel_rfl) (by kernel_rfl) (by kernel_rfl) .i32 (by kernel_rfl) (y := -1) (s := 0) hc hz (by simp [go_sem]; rfl)
  have hcv := run_convert_to_unsafe (P := Tryz.prog) (src := 161) (dst := 165) Tryz.underlying161 Tryz.underlying165 (by kernel_rfl) hc
  go_enter_d Tryz.func118, Tryz.ntmps118
  go_wp2
  go_end0
  go_wp2
  go_end0
  exact ⟨rfl, rfl⟩
set_option maxRecDepth 100000 in
set_option maxHeartbeats 4000000 in
theorem once_.lock (a : Addr) (w : World) (hc : w.cell? a = some (.int .i32 0)) (hz : w.frozen? a = false) :
    Calls Tryz.prog 117 #[.pointer (some a)] w fun e w' => e = .returned (.tuple #[]) ∧ w' = w.setCell a (.int .i32 1) := by
  have hd := once_.disable
  have he := once_.enable
  have ha := once_.acquire
  have hcas := run_call_cas_hit (P := Tryz.prog) Tryz.func129 (by kernel_rfl) (by kernel_rfl) (by kernel_rfl) .i32 (by kernel_rfl) (y := 1) hc hz
  have hc' : (w.setCell a (.int .i32 1)).cell? a = some (.int .i32 1) := World.cell?_setCell_same w a _ hc
  have hcv := run_convert_to_unsafe (P := Tryz.prog) (src := 161) (dst := 165) Tryz.underlying161 Tryz.underlying165 (by kernel_rfl) hc'
  go_enter Tryz.func117, Tryz.ntmps117
  go_wp2
  first | go_end0 | (simp only [Exit.inBlock, Exit.then]; refine bodyPost_ret (results_none rfl _ _ _) rfl ?_) | refine bodyPost_ret (results_none rfl _ _ _) rfl ?_
  go_wp2
  go_end0
  exact ⟨rfl, rfl⟩
set_option maxRecDepth 100000 in
set_option maxHeartbeats 4000000 in
theorem once_.load (a : Addr) (x : Int) (w : World) (h : w.cell? a = some (.int .u32 x)) :
    Calls Tryz.prog 110 #[.pointer (some a)] w fun e w' => e = .returned (.bool (x != 0)) ∧ w' = w := by
  have hl := run_call_load (P := Tryz.prog) Tryz.func116 (by kernel_rfl) (by kernel_rfl) (by kernel_rfl) .u32 (by kernel_rfl) h
  go_enter Tryz.func110, Tryz.ntmps110
  go_wp2
  go_ret
  exact ⟨rfl, rfl⟩
set_option maxRecDepth 100000 in
set_option maxHeartbeats 4000000 in
theorem once_.slow (b : Nat) (R : World → Prop) (w : World) (h0 : w.cell? ⟨b, 0, none⟩ = some (.int .u32 0)) (h1 : w.cell? ⟨b, 1, none⟩ = some (.int .i32 0)) (f1 : w.frozen? ⟨b, 1, none⟩ = false)
    (hR : ∀ W, R W → W.cell? ⟨b, 0, none⟩ = some (.int .u32 0) ∧ W.cell? ⟨b, 1, none⟩ = some (.int .i32 1) ∧ W.frozen? ⟨b, 0, none⟩ = false ∧ W.frozen? ⟨b, 1, none⟩ = false)
    (hf : Calls Tryz.prog 101 #[.pointer (some ⟨b, 0, none⟩)] (w.setCell ⟨b, 1, none⟩ (.int .i32 1)) fun e w' => e = .returned (.tuple #[]) ∧ R w') :
    Calls Tryz.prog 111 #[.pointer (some ⟨b, 0, none⟩), .func (.func 101) #[.pointer (some ⟨b, 0, none⟩)] #[]] w fun e w' => e = .returned (.tuple #[]) ∧ ∃ w1, R w1 ∧ w' = (w1.drew.setCell ⟨b, 0, none⟩ (.int .u32 1)).setCell ⟨b, 1, none⟩ (.int .i32 0) := by
  have hl := once_.load ⟨b, 0, none⟩ 0 (w.setCell ⟨b, 1, none⟩ (.int .i32 1)) ((World.cell?_setCell_other _ ⟨b, 1, none⟩ ⟨b, 0, none⟩ _ (by simp)).trans h0)
  have hnot : ∀ (x : Bool) (w : World), (Op.unary .not (.bool x)).run Tryz.prog w = .ok (.bool (!x)) w := fun _ _ => rfl
  have hL := once_.lock ⟨b, 1, none⟩ w h1 f1
  go_enter_defers Tryz.func111, Tryz.ntmps111
  go_wp2_with (first | (go_at_call 117; refine hL.mono ?_; rintro e w' ⟨rfl, rfl⟩) | (go_at_call 110; refine hl.mono ?_; rintro e w' ⟨rfl, rfl⟩))
  refine hf.mono ?_
  rintro e w1 ⟨rfl, hw1⟩
  obtain ⟨q0, q1, q2, q3⟩ := hR w1 hw1
  go_wp2
  refine leaves_cons (f := 119) (args := #[.pointer (some ⟨b, 0, none⟩), .bool true]) (by simp) (by simp [go_sem]) ?_
  refine (once_.store ⟨b, 0, none⟩ (.int .u32 0) .returning _ q0 q2).mono ?_
  rintro e u' w'' ⟨rfl, rfl, rfl⟩
  refine leaves_cons (f := 118) (args := #[.pointer (some ⟨b, 1, none⟩)]) (by simp [settle]) (by simp [go_sem]) ?_
  refine (once_.unlock ⟨b, 1, none⟩ _ _ ?_ (by simp [q3])).mono ?_
  · refine (World.cell?_setCell_other _ ⟨b, 0, none⟩ ⟨b, 1, none⟩ _ (by simp)).trans ?_
    rw [World.cell?_drew]
    exact q1
  rintro e u' w'' ⟨rfl, rfl, rfl⟩
  simp [Leaves, settle, results, Tryz.results111]
  exact ⟨w1, hw1, rfl⟩
/-- A table of bytes. -/
def opp_.tab (f : Nat → Nat) : Array Value := ((List.range 256).map fun j => Value.int .u8 (f j)).toArray
theorem opp_.tab_size (f : Nat → Nat) : (opp_.tab f).size = 256 := by simp [opp_.tab]
theorem opp_.tab_get (f : Nat → Nat) (k : Nat) (h : k < 256) : (opp_.tab f)[k]? = some (.int .u8 (f k)) := by simp [opp_.tab, h]
theorem opp_.tab_cell (f : Nat → Nat) (w : World) (k : Nat) (h : k < 256) : (w.alloc (.cells (opp_.tab f) 141)).cell? ⟨w.heap.size, k, none⟩ = some (.int .u8 (f k)) := by
  rw [cell_of_row _ _ k (opp_.tab f) 141 (0, 0) (heap_alloc_last w _)]
  exact opp_.tab_get f k h
theorem opp_.tab_frozen (f : Nat → Nat) (w : World) (k : Nat) : (w.alloc (.cells (opp_.tab f) 141)).frozen? ⟨w.heap.size, k, none⟩ = false := by simp
theorem opp_.tab_upd (f : Nat → Nat) (k v : Nat) (h : k < 256) : (opp_.tab f).setIfInBounds k (.int .u8 v) = opp_.tab fun j => if j = k then v else f j := by
  apply Array.ext_getElem?
  intro i
  rw [Array.getElem?_setIfInBounds]
  by_cases hi : i < 256
  · rw [opp_.tab_get _ i hi, opp_.tab_get _ i hi]
    by_cases hk : k = i
    · subst hk
      simp [opp_.tab_size, h]
    · rw [if_neg hk, if_neg (fun q => hk q.symm)]
  · have n1 : (opp_.tab f)[i]? = none := by rw [Array.getElem?_eq_none]; rw [opp_.tab_size]; omega
    have n2 : (opp_.tab fun j => if j = k then v else f j)[i]? = none := by rw [Array.getElem?_eq_none]; rw [opp_.tab_size]; omega
    rw [n1, n2, if_neg (by omega)]
theorem opp_.tab_set (f : Nat → Nat) (w : World) (k v : Nat) (h : k < 256) : (w.alloc (.cells (opp_.tab f) 141)).setCell ⟨w.heap.size, k, none⟩ (.int .u8 v) = w.alloc (.cells (opp_.tab fun j => if j = k then v else f j) 141) := by
  have e := opp_.tab_upd f k v h
  rw [← e]
  simp only [World.setCell, World.alloc]
  congr 1
  apply Array.ext_getElem?
  intro i
  rw [Array.getElem?_modify, Array.getElem?_push, Array.getElem?_push]
  by_cases hi : w.heap.size = i
  · subst hi
    simp
  · rw [if_neg hi, if_neg (fun q => hi q.symm), if_neg (fun q => hi q.symm)]
set_option maxRecDepth 100000 in
theorem opp_.zeros : Tryz.zeroCells141 = opp_.tab fun _ => 0 := by
  first | rfl | kernel_rfl | decide
theorem opp_.tab_eq (f g : Nat → Nat) (h : ∀ i, i < 256 → f i = g i) : opp_.tab f = opp_.tab g := by
  unfold opp_.tab
  congr 1
  exact List.map_congr_left (fun i hi => by rw [h i (List.mem_range.1 hi)])
theorem opp_.step (w : World) (j : Nat) (h : j < 256) : (w.alloc (.cells (opp_.tab fun i => if i < j then i else 0) 141)).setCell ⟨w.heap.size, j, none⟩ (.int .u8 j) = w.alloc (.cells (opp_.tab fun i => if i < j + 1 then i else 0) 141) := by
  rw [opp_.tab_set _ _ _ _ h]
  congr 2
  apply opp_.tab_eq
  intro i _
  by_cases e : i = j
  · subst e
    simp
  · rw [if_neg e]
    by_cases l : i < j
    · rw [if_pos l, if_pos (by omega)]
    · rw [if_neg l, if_neg (by omega)]
def opp_.fin : Nat → Nat := fun j => if j = 46 then 45 else if j = 45 then 46 else j
set_option maxRecDepth 100000 in
set_option maxHeartbeats 8000000 in
theorem opp_.build (b g cap : Nat) (w : World) (h4 : w.cell? ⟨b, 4, none⟩ = some (.slice (some ⟨g, 0, none⟩) 4 cap))
    (c0 : w.cell? ⟨g, 0, none⟩ = some (.string ⟨#[46]⟩)) (c1 : w.cell? ⟨g, 1, none⟩ = some (.string ⟨#[45]⟩)) (c2 : w.cell? ⟨g, 2, none⟩ = some (.string ⟨#[45]⟩)) (c3 : w.cell? ⟨g, 3, none⟩ = some (.string ⟨#[46]⟩)) :
    Calls Tryz.prog 112 #[.pointer (some ⟨b, 0, none⟩)] w fun e w' => e = .returned (.iface 142 (.pointer (some ⟨w.heap.size, 0, none⟩))) ∧ w' = w.alloc (.cells (opp_.tab opp_.fin) 141) := by
  have hz : (storeCells ⟨w.heap.size, 0, none⟩ Tryz.zeroCells141.toList 0).run Tryz.prog (w.alloc (.cells Tryz.zeroCells141 141)) = .ok () (w.alloc (.cells Tryz.zeroCells141 141)) :=
    run_storeCells_new w 141 _ _ (by kernel_rfl) rfl (by rw [opp_.zeros]; simp [opp_.tab]; intro _ _; rfl)
  have hgl := World.block_lt_of_cell? w _ c0
  have k0 := fun f => (Below.cell ((Below.refl w.heap.size w).alloc (Nat.le_refl _) (.cells (opp_.tab f) 141)) (p := ⟨g, 0, none⟩) hgl).trans c0
  have k1 := fun f => (Below.cell ((Below.refl w.heap.size w).alloc (Nat.le_refl _) (.cells (opp_.tab f) 141)) (p := ⟨g, 1, none⟩) hgl).trans c1
  have k2 := fun f => (Below.cell ((Below.refl w.heap.size w).alloc (Nat.le_refl _) (.cells (opp_.tab f) 141)) (p := ⟨g, 2, none⟩) hgl).trans c2
  have k3 := fun f => (Below.cell ((Below.refl w.heap.size w).alloc (Nat.le_refl _) (.cells (opp_.tab f) 141)) (p := ⟨g, 3, none⟩) hgl).trans c3
  go_enter Tryz.func112, Tryz.ntmps112
  go_wp2
  go_loopg [4, 5] 2 (fun q v4 v5 wx => v4 = .bool true ∧ (∃ j : Nat, v5 = .int .i64 ((2 * j : Nat) : Int) ∧ j + q = 2) ∧ wx = w)
  case atStart => exact ⟨rfl, ⟨0, rfl, rfl⟩, rfl⟩
  case round =>
    obtain ⟨rfl, ⟨j, rfl, hj⟩, hwx⟩ := hrel
    subst hwx
    obtain ⟨rfl, rfl⟩ | ⟨rfl, rfl⟩ | ⟨rfl, rfl⟩ : (j = 0 ∧ gk = 2) ∨ (j = 1 ∧ gk = 1) ∨ (j = 2 ∧ gk = 0) := by omega
    · go_wp2
      go_roundg 1
      case measure => omega
      case rel => exact ⟨rfl, ⟨1, by first | rfl | (simp; done), rfl⟩, rfl⟩
    · go_wp2
      go_roundg 0
      case measure => omega
      case rel => exact ⟨rfl, ⟨2, by first | rfl | (simp; done), rfl⟩, rfl⟩
    · go_wp2
      rw [opp_.zeros]
      go_loopg [7, 61] 256 (fun q v7 v61 wx => ∃ j : Nat, v61 = .int .i64 j ∧ j + q = 256 ∧ wx = wr.alloc (.cells (opp_.tab fun i => if i < j then i else 0) 141))
      case atStart => exact ⟨0, rfl, rfl, by simp⟩
      case round =>
        obtain ⟨j, rfl, hj, rfl⟩ := hrel
        cases gk with
        | zero =>
          obtain rfl : j = 256 := by omega
          have e0 : opp_.tab (fun i => if i < 256 then i else 0) = opp_.tab (fun i => i) := opp_.tab_eq _ _ (fun i hi => by simp [hi])
          rw [e0]
          have q0 := k0 (fun i => i)
          have q1 := k1 (fun i => i)
          have q2 := k2 (fun i => i)
          have q3 := k3 (fun i => i)
          go_wp2
          go_loopg [8, 9, 10] 2 (fun q v8 v9 v10 wx => (q = 2 ∧ v8 = .int .i64 2 ∧ wx = wr.alloc (.cells (opp_.tab fun i => i) 141)) ∨ (q = 1 ∧ v8 = .int .i64 0 ∧ wx = wr.alloc (.cells (opp_.tab fun i => if i = 45 then 46 else i) 141)) ∨ (q = 0 ∧ v8 = .int .i64 (-2) ∧ wx = wr.alloc (.cells (opp_.tab opp_.fin) 141)))
          case atStart => exact .inl ⟨rfl, rfl, rfl⟩
          case round =>
            rcases hrel with ⟨rfl, rfl, rfl⟩ | ⟨rfl, rfl, rfl⟩ | ⟨rfl, rfl, rfl⟩
            · have q2 := k2 (fun i => i)
              have q3 := k3 (fun i => i)
              have hc := opp_.tab_cell (fun i => i) wr 45 (by omega)
              have hf := opp_.tab_frozen (fun i => i) wr 45
              go_wp2
              go_roundg 1
              case measure => omega
              case rel => exact .inr (.inl ⟨rfl, by first | rfl | (simp; done), congrArg (fun c => World.alloc _ (.cells c 141)) (opp_.tab_upd (fun i => i) 45 46 (by omega))⟩)
            · have q0 := k0 (fun i => if i = 45 then 46 else i)
              have q1 := k1 (fun i => if i = 45 then 46 else i)
              have hc := opp_.tab_cell (fun i => if i = 45 then 46 else i) wr 46 (by omega)
              have hf := opp_.tab_frozen (fun i => if i = 45 then 46 else i) wr 46
              go_wp2
              go_roundg 0
              case measure => omega
              case rel => exact .inr (.inr ⟨rfl, by first | rfl | (simp; done), congrArg (fun c => World.alloc _ (.cells c 141)) (opp_.tab_upd (fun i => if i = 45 then 46 else i) 46 45 (by omega))⟩)
            · go_wp2
              go_ret
              exact ⟨rfl, rfl⟩
        | succ q =>
          have hj' : j < 256 := by omega
          have hc := opp_.tab_cell (fun i => if i < j then i else 0) wr j hj'
          have hf := opp_.tab_frozen (fun i => if i < j then i else 0) wr j
          have hl : (j : Int) < 256 := by omega
          have h0 : (0 : Int) ≤ (j : Int) := by omega
          have hm : (j : Int) % 256 = (j : Int) := by omega
          have hs := opp_.step wr j hj'
          go_wp2
          go_roundg q
          case measure => omega
          case rel => exact ⟨j + 1, by first | rfl | (simp; done) | (simp; unfold wrap64; omega), by omega, by first | exact hs | (simp; done) | (simp; exact hs)⟩
set_option maxRecDepth 100000 in
set_option maxHeartbeats 8000000 in
theorem opp_.buildOnce (b g cap : Nat) (x3 : Value) (w : World) (h3 : w.cell? ⟨b, 3, none⟩ = some x3) (h4 : w.cell? ⟨b, 4, none⟩ = some (.slice (some ⟨g, 0, none⟩) 4 cap)) (f3 : w.frozen? ⟨b, 3, none⟩ = false) (f4 : w.frozen? ⟨b, 4, none⟩ = false)
    (c0 : w.cell? ⟨g, 0, none⟩ = some (.string ⟨#[46]⟩)) (c1 : w.cell? ⟨g, 1, none⟩ = some (.string ⟨#[45]⟩)) (c2 : w.cell? ⟨g, 2, none⟩ = some (.string ⟨#[45]⟩)) (c3 : w.cell? ⟨g, 3, none⟩ = some (.string ⟨#[46]⟩)) :
    Calls Tryz.prog 101 #[.pointer (some ⟨b, 0, none⟩)] w fun e w' => e = .returned (.tuple #[]) ∧ w' = ((w.setCell ⟨b, 3, none⟩ (.iface 142 (.pointer (some ⟨w.heap.size, 0, none⟩)))).setCell ⟨b, 4, none⟩ (.slice none 0 0)).alloc (.cells (opp_.tab opp_.fin) 141) := by
  have hbl := World.block_lt_of_cell? w _ h3
  have hB := opp_.build b g cap w h4 c0 c1 c2 c3
  have k3 := (Below.cell ((Below.refl w.heap.size w).alloc (Nat.le_refl _) (.cells (opp_.tab opp_.fin) 141)) (p := ⟨b, 3, none⟩) hbl).trans h3
  have k4 := (Below.cell ((Below.refl w.heap.size w).alloc (Nat.le_refl _) (.cells (opp_.tab opp_.fin) 141)) (p := ⟨b, 4, none⟩) hbl).trans h4
  have z3 : (w.alloc (.cells (opp_.tab opp_.fin) 141)).frozen? ⟨b, 3, none⟩ = false := by rw [World.frozen?_alloc_past _ _ _ hbl]; exact f3
  have z4 : (w.alloc (.cells (opp_.tab opp_.fin) 141)).frozen? ⟨b, 4, none⟩ = false := by rw [World.frozen?_alloc_past _ _ _ hbl]; exact f4
  go_enter Tryz.func101, Tryz.ntmps101
  go_wp2_with (go_at_call 112; refine hB.mono ?_; rintro e w' ⟨rfl, rfl⟩)
  go_end0
  exact ⟨rfl, rfl⟩
set_option maxRecDepth 100000 in
set_option maxHeartbeats 4000000 in
theorem once_.do_ (b : Nat) (R : World → Prop) (w : World) (h0 : w.cell? ⟨b, 0, none⟩ = some (.int .u32 0)) (h1 : w.cell? ⟨b, 1, none⟩ = some (.int .i32 0)) (f1 : w.frozen? ⟨b, 1, none⟩ = false)
    (hR : ∀ W, R W → W.cell? ⟨b, 0, none⟩ = some (.int .u32 0) ∧ W.cell? ⟨b, 1, none⟩ = some (.int .i32 1) ∧ W.frozen? ⟨b, 0, none⟩ = false ∧ W.frozen? ⟨b, 1, none⟩ = false)
    (hf : Calls Tryz.prog 101 #[.pointer (some ⟨b, 0, none⟩)] (w.setCell ⟨b, 1, none⟩ (.int .i32 1)) fun e w' => e = .returned (.tuple #[]) ∧ R w') :
    Calls Tryz.prog 100 #[.pointer (some ⟨b, 0, none⟩), .func (.func 101) #[.pointer (some ⟨b, 0, none⟩)] #[]] w fun e w' => e = .returned (.tuple #[]) ∧ ∃ w1, R w1 ∧ w' = (w1.drew.setCell ⟨b, 0, none⟩ (.int .u32 1)).setCell ⟨b, 1, none⟩ (.int .i32 0) := by
  have hl := once_.load ⟨b, 0, none⟩ 0 w h0
  have hs := once_.slow b R w h0 h1 f1 hR hf
  have hnot : ∀ (x : Bool) (w : World), (Op.unary .not (.bool x)).run Tryz.prog w = .ok (.bool (!x)) w := fun _ _ => rfl
  go_enter Tryz.func100, Tryz.ntmps100
  go_wp2_with (first | (go_at_call 110; refine hl.mono ?_; rintro e w' ⟨rfl, rfl⟩) | (go_at_call 111; refine hs.mono ?_; rintro e w' ⟨rfl, hw⟩))
  go_end0
  exact ⟨rfl, hw⟩
theorem opp_.at_ (s : ByteArray) (hs : ∀ c ∈ s.data.toList, c = 45 ∨ c = 46) (i : Nat) (hi : i < s.size) : (s[i]'hi).toNat < 256 ∧ opp_.fin (s[i]'hi).toNat ≠ (s[i]'hi).toNat ∧ s.data.toList.getD i 0 = s[i]'hi := by
  have hz2 : s.data.toList.length = s.size := (Lib.size_eq s).symm
  have e : s.data.toList.getD i 0 = s[i]'hi := by
    rw [List.getD_eq_getElem?_getD, List.getElem?_eq_getElem (by omega)]
    rfl
  have hm : s[i]'hi ∈ s.data.toList := by
    rw [← e, List.getD_eq_getElem?_getD, List.getElem?_eq_getElem (by omega)]
    exact List.getElem_mem _
  refine ⟨(s[i]'hi).toNat_lt, ?_, e⟩
  rcases hs _ hm with h | h <;> rw [h] <;> decide
structure opp_.Up (B : Nat) (w w' : World) : Prop where
  below : Below B w w'
  drawn : w.drawn ≤ w'.drawn
theorem opp_.Up.refl (B : Nat) (w : World) : opp_.Up B w w := ⟨Below.refl _ _, Nat.le_refl _⟩
theorem opp_.Up.trans {B : Nat} {a b c : World} (h : opp_.Up B a b) (k : opp_.Up B b c) : opp_.Up B a c := ⟨h.below.trans k.below, Nat.le_trans h.drawn k.drawn⟩
theorem opp_.Up.mono {B B' : Nat} {w w' : World} (h : opp_.Up B w w') (hB : B' ≤ B) : opp_.Up B' w w' := ⟨h.below.mono hB, h.drawn⟩
theorem opp_.Up.drew {B : Nat} {a w : World} (h : opp_.Up B a w) : opp_.Up B a w.drew := ⟨h.below.drew, Nat.le_succ_of_le h.drawn⟩
theorem opp_.Up.drewN {B : Nat} {a w : World} (h : opp_.Up B a w) (n : Nat) : opp_.Up B a (w.drewN n) := ⟨⟨h.below.os, h.below.tape, h.below.output, h.below.size, h.below.block⟩, Nat.le_trans h.drawn (Nat.le_add_right _ _)⟩
theorem opp_.Up.alloc {B : Nat} {a w : World} (h : opp_.Up B a w) (hB : B ≤ w.heap.size) (o : Obj) : opp_.Up B a (w.alloc o) := ⟨h.below.alloc hB o, h.drawn⟩
theorem opp_.Up.setCell {B : Nat} {a w : World} (h : opp_.Up B a w) {p : Addr} (hp : B ≤ p.block) (u : Value) : opp_.Up B a (w.setCell p u) := ⟨h.below.setCell hp u, h.drawn⟩
theorem opp_.Up.cell {B : Nat} {w w' : World} (h : opp_.Up B w w') {p : Addr} (hp : p.block < B) : w'.cell? p = w.cell? p := h.below.cell hp
theorem opp_.Up.size {B : Nat} {w w' : World} (h : opp_.Up B w w') : w.heap.size ≤ w'.heap.size := h.below.size
theorem opp_.bw_below (w : World) (s : ByteArray) : opp_.Up w.heap.size w (Lib.bytesWorld w 5 s) := ⟨⟨rfl, rfl, rfl, by rw [Lib.bytesWorld_size]; omega, fun k hk => Lib.bytesWorld_at_old w 5 s k hk⟩, by show w.drawn ≤ w.drawn + 1; omega⟩
theorem opp_.bw_frozen (w : World) (s : ByteArray) (k : Nat) (h : k < s.size) : (Lib.bytesWorld w 5 s).frozen? ⟨w.heap.size, k, none⟩ = false := by
  unfold World.frozen?
  rw [Lib.bytesWorld_at_new]
  have : k < (Lib.bytesCells w 5 s).size := by
    unfold Lib.bytesCells
    rw [Array.size_append, Array.size_map]
    have : s.data.size = s.size := rfl
    omega
  simp
  omega
theorem opp_.fold_str : ∀ (l : List Nat) (a : ByteArray), (l.map (fun n : Nat => (n : Int))).foldl (fun r n => r.push (UInt8.ofNat n.toNat)) a = ⟨(a.data.toList ++ l.map UInt8.ofNat).toArray⟩
  | [], a => by simp
  | n :: l, a => by
    rw [List.map_cons, List.foldl_cons, opp_.fold_str l]
    simp [ByteArray.push]
set_option maxRecDepth 100000 in
set_option maxHeartbeats 8000000 in
theorem opp_.replace (q0 : Nat) (s : ByteArray) (w : World) (hs : ∀ c ∈ s.data.toList, c = 45 ∨ c = 46) (hz : s.size ≤ 140737488355328) (hq : q0 < w.heap.size) (hT : ∀ k, k < 256 → w.cell? ⟨q0, k, none⟩ = some (.int .u8 (opp_.fin k))) :
    Calls Tryz.prog 173 #[.pointer (some ⟨q0, 0, none⟩), .string s] w fun e w' => e = .returned (.string ⟨(s.data.toList.map fun c => UInt8.ofNat (opp_.fin c.toNat)).toArray⟩) ∧ opp_.Up w.heap.size w w' := by
  have hz2 : s.data.toList.length = s.size := (Lib.size_eq s).symm
  have u_sl := run_underlying (P := Tryz.prog) Tryz.underlying64
  have nil1 : ∀ w, (binOp .eql 64 (.slice none 0 0) (.slice none 0 0)).run Tryz.prog w = .ok (.bool true) w := fun w => by first | kernel_rfl | (simp [binOp, Op.equal, u_sl, go_sem]; done) | rfl
  have nil2 : ∀ (a : Addr) (l c : Nat) w, (binOp .eql 64 (.slice (some a) l c) (.slice none 0 0)).run Tryz.prog w = .ok (.bool false) w := fun a l c w => by first | kernel_rfl | (simp [binOp, Op.equal, u_sl, go_sem]; done) | rfl
  go_enter Tryz.func173, Tryz.ntmps173
  go_wp2
  go_loopg [5, 6, 7] s.size (fun q v5 v6 v7 wx => ∃ i : Nat, v6 = .int .i64 i ∧ i + q = s.size ∧ opp_.Up w.heap.size w wx ∧ ((i = 0 ∧ v5 = .slice none 0 0) ∨ (0 < i ∧ ∃ gq cp, v5 = .slice (some ⟨gq, 0, none⟩) s.size cp ∧ w.heap.size ≤ gq ∧ (∀ k, k < s.size → wx.cell? ⟨gq, k, none⟩ = some (.int .u8 (if k < i then opp_.fin (s.data.toList.getD k 0).toNat else (s.data.toList.getD k 0).toNat : Nat))) ∧ ∀ k, k < s.size → wx.frozen? ⟨gq, k, none⟩ = false)))
  case atStart => exact ⟨0, rfl, by omega, opp_.Up.refl _ _, .inl ⟨rfl, rfl⟩⟩
  case round =>
    obtain ⟨i, rfl, hi, hB, hb⟩ := hrel
    cases gk with
    | zero =>
      obtain rfl : i = s.size := by omega
      rcases hb with ⟨h0, rfl⟩ | ⟨h0, gq, cp, rfl, hgq, hcs, hfs⟩
      · have e0 : s.data.toList = [] := List.eq_nil_of_length_eq_zero (by omega)
        go_wp2
        try go_ret
        refine ⟨?_, hB⟩
        obtain ⟨⟨l⟩⟩ := s
        have e0 : l = [] := e0
        subst e0
        rfl
      · have hld : (loadCells ⟨gq, 0, none⟩ s.size).run Tryz.prog wr = .ok ((s.data.toList.map fun c => (opp_.fin c.toNat)).map (fun n : Nat => (n : Int)) |>.map (Value.int .u8)).toArray wr := by
          have h1 := run_loadCells_list (P := Tryz.prog) wr ⟨gq, 0, none⟩ (((s.data.toList.map fun c => (opp_.fin c.toNat)).map (fun n : Nat => (n : Int))).map (Value.int .u8)) (fun j v hv => by
            have hj : j < s.size := by
              have := (List.getElem?_eq_some_iff.1 hv).1
              simpa [hz2] using this
            have h2 := hcs j hj
            rw [if_pos hj] at h2
            have ha : (⟨gq, 0, none⟩ : Addr).add j = ⟨gq, j, none⟩ := by unfold Addr.add; split <;> simp_all
            rw [ha, h2]
            rw [List.getD_eq_getElem?_getD, List.getElem?_eq_getElem (by omega)]
            rw [List.getElem?_map, List.getElem?_map, List.getElem?_map, List.getElem?_eq_getElem (by omega)] at hv
            exact hv)
          simpa [hz2] using h1
        have hst := run_bytesToString (P := Tryz.prog) wr ⟨gq, 0, none⟩ s.size cp _ hld
        rw [opp_.fold_str] at hst
        have hcv := run_convert_bytes_string (P := Tryz.prog) wr 64 9 5 (some ⟨gq, 0, none⟩) s.size cp Tryz.underlying64 Tryz.underlying5 Tryz.underlying9
        rw [hst] at hcv
        clear hst hld
        go_wp2
        go_ret
        exact ⟨by simp [Function.comp_def], hB⟩
    | succ q =>
      have li : i < s.size := by omega
      have li' : (i : Int) < (s.size : Int) := by omega
      have l0 : (0 : Int) ≤ (i : Int) := by omega
      obtain ⟨x1, x2, x3⟩ := opp_.at_ s hs i li
      rcases hb with ⟨rfl, rfl⟩ | ⟨h0, gq, cp, rfl, hgq, hcs, hfs⟩
      · have hc := hB.cell (p := ⟨q0, (s[0]'li).toNat, none⟩) hq
        rw [hT _ x1] at hc
        have y1 : ((s[0]'li).toNat : Int) < 256 := by omega
        have y2 : (((opp_.fin (s[0]'li).toNat : Nat) : Int) != ((s[0]'li).toNat : Int)) = true := by rw [bne_iff_ne]; omega
        have y3 : decide (((opp_.fin (s[0]'li).toNat : Nat) : Int) = ((s[0]'li).toNat : Int)) = false := decide_eq_false (by omega)
        have hcv := Lib.run_convert_string_bytes (P := Tryz.prog) wr 9 64 5 s Tryz.underlying9 Tryz.underlying64 Tryz.underlying5
        have hc2 := (Lib.bytesWorld_old wr 5 s ⟨q0, (s[0]'li).toNat, none⟩ (by have := hB.size; show q0 < _; omega)).trans hc
        have hc3 := Lib.bytesWorld_cell wr 5 s 0 li
        have hf3 := opp_.bw_frozen wr s 0 li
        go_wp2
        go_roundg q
        case measure => omega
        case rel =>
          have hwl : w.heap.size ≤ wr.heap.size := hB.size
          refine ⟨1, by first | rfl | (simp; done), by omega, ((hB.trans ((opp_.bw_below wr s).mono hwl)).setCell (p := ⟨wr.heap.size, 0, none⟩) hwl _), .inr ⟨by omega, wr.heap.size, _, rfl, hwl, fun k hk => ?_, fun k hk => ?_⟩⟩
          · by_cases e : k = 0
            · subst e
              rw [if_pos (by omega), x3]
              exact World.cell?_setCell_same _ _ _ hc3
            · rw [if_neg (by omega)]
              exact (World.cell?_setCell_other _ ⟨wr.heap.size, 0, none⟩ ⟨wr.heap.size, k, none⟩ _ (by first | (simp; done) | (simp; omega))).trans (Lib.bytesWorld_cell wr 5 s k hk)
          · rw [World.frozen?_setCell]
            exact opp_.bw_frozen wr s k hk
      · have hc := hB.cell (p := ⟨q0, (s[i]'li).toNat, none⟩) hq
        rw [hT _ x1] at hc
        have y1 : ((s[i]'li).toNat : Int) < 256 := by omega
        have y2 : (((opp_.fin (s[i]'li).toNat : Nat) : Int) != ((s[i]'li).toNat : Int)) = true := by rw [bne_iff_ne]; omega
        have y3 : decide (((opp_.fin (s[i]'li).toNat : Nat) : Int) = ((s[i]'li).toNat : Int)) = false := decide_eq_false (by omega)
        have hc3 := hcs i li
        have hf3 := hfs i li
        go_wp2
        go_roundg q
        case measure => omega
        case rel =>
          refine ⟨i + 1, by first | rfl | (simp; done), by omega, hB.setCell (p := ⟨gq, i, none⟩) hgq _, .inr ⟨by omega, gq, cp, rfl, hgq, fun k hk => ?_, fun k hk => ?_⟩⟩
          · by_cases e : k = i
            · subst e
              rw [if_pos (by omega), x3]
              exact World.cell?_setCell_same _ _ _ hc3
            · refine (World.cell?_setCell_other _ ⟨gq, i, none⟩ ⟨gq, k, none⟩ _ (by first | (simp; done) | (simp; omega))).trans ((hcs k hk).trans ?_)
              by_cases l : k < i
              · rw [if_pos l, if_pos (by omega)]
              · rw [if_neg l, if_neg (by omega)]
          · rw [World.frozen?_setCell]
            exact hfs k hk
def opp_.olds : List Value := [.string ⟨#[46]⟩, .string ⟨#[45]⟩, .string ⟨#[45]⟩, .string ⟨#[46]⟩]
theorem opp_.info9 : (Tryz.prog.info? 9).map (fun i => (i.zero, i.size, i.bytes)) = some (some (.string ByteArray.empty), 1, 16) := by kernel_rfl
set_option maxRecDepth 100000 in
set_option maxHeartbeats 8000000 in
theorem opp_.new (g0 : Nat) (w : World) (c0 : w.cell? ⟨g0, 0, none⟩ = some (.string ⟨#[46]⟩)) (c1 : w.cell? ⟨g0, 1, none⟩ = some (.string ⟨#[45]⟩)) (c2 : w.cell? ⟨g0, 2, none⟩ = some (.string ⟨#[45]⟩)) (c3 : w.cell? ⟨g0, 3, none⟩ = some (.string ⟨#[46]⟩)) :
    Calls Tryz.prog 82 #[.slice (some ⟨g0, 0, none⟩) 4 4] w fun e w' => ∃ b g cap, e = .returned (.pointer (some ⟨b, 0, none⟩)) ∧ w.heap.size ≤ b ∧ w.heap.size ≤ g ∧ g < b ∧ w'.heap[b]? = some (.cells #[.int .u32 0, .int .i32 0, .int .u32 0, .nilIface, .slice (some ⟨g, 0, none⟩) 4 cap] 118 (0, 0)) ∧ (w'.cell? ⟨g, 0, none⟩ = some (.string ⟨#[46]⟩) ∧ w'.cell? ⟨g, 1, none⟩ = some (.string ⟨#[45]⟩) ∧ w'.cell? ⟨g, 2, none⟩ = some (.string ⟨#[45]⟩) ∧ w'.cell? ⟨g, 3, none⟩ = some (.string ⟨#[46]⟩)) ∧ opp_.Up w.heap.size w w' := by
  obtain ⟨i0, hi, hz0, hz1, hz2⟩ := info_parts opp_.info9
  go_enter Tryz.func82, Tryz.ntmps82
  go_wp2
  go_ret
  generalize ((Question.appendCap 4 0 9).cut (w.tape w.drawn (Question.appendCap 4 0 9))) = cap
  have hcell : ∀ (O : Obj) (j : Nat) (v : Value), (#[Value.string ⟨#[46]⟩, Value.string ⟨#[45]⟩, Value.string ⟨#[45]⟩, Value.string ⟨#[46]⟩] ++ Builtin.zeroCells #[Value.string ⟨#[]⟩] (cap - 4))[j]? = some v → ((w.alloc (.cells (#[Value.string ⟨#[46]⟩, Value.string ⟨#[45]⟩, Value.string ⟨#[45]⟩, Value.string ⟨#[46]⟩] ++ Builtin.zeroCells #[Value.string ⟨#[]⟩] (cap - 4)) 9)).alloc O).cell? ⟨w.heap.size, j, none⟩ = some v := fun O j v hv => by
    refine (opp_.Up.cell ((opp_.Up.refl _ (w.alloc (.cells (#[Value.string ⟨#[46]⟩, Value.string ⟨#[45]⟩, Value.string ⟨#[45]⟩, Value.string ⟨#[46]⟩] ++ Builtin.zeroCells #[Value.string ⟨#[]⟩] (cap - 4)) 9))).alloc (Nat.le_refl _) O) (p := ⟨w.heap.size, j, none⟩) (by simp)).trans ?_
    rw [cell_of_row _ _ j _ 9 (0, 0) (heap_alloc_last w _)]
    exact hv
  refine ⟨_, w.heap.size, cap, rfl, by omega, Nat.le_refl _, by omega, ?_, ⟨hcell _ 0 _ ?_, hcell _ 1 _ ?_, hcell _ 2 _ ?_, hcell _ 3 _ ?_⟩, ?_⟩
  · have := heap_alloc_last (w.alloc (.cells (#[Value.string ⟨#[46]⟩, Value.string ⟨#[45]⟩, Value.string ⟨#[45]⟩, Value.string ⟨#[46]⟩] ++ Builtin.zeroCells #[Value.string ⟨#[]⟩] (cap - 4)) 9)) (.cells #[.int .u32 0, .int .i32 0, .int .u32 0, .nilIface, .slice (some ⟨w.heap.size, 0, none⟩) 4 cap] 118)
    rwa [World.size_alloc] at this
  · rw [Array.getElem?_append_left (by simp)]; rfl
  · rw [Array.getElem?_append_left (by simp)]; rfl
  · rw [Array.getElem?_append_left (by simp)]; rfl
  · rw [Array.getElem?_append_left (by simp)]; rfl
  · exact opp_.Up.drew (((opp_.Up.refl _ w).alloc (Nat.le_refl _) _).alloc (by simp) _)
set_option maxRecDepth 100000 in
set_option maxHeartbeats 8000000 in
theorem opp_.Replace (B b g cap : Nat) (s : ByteArray) (w : World) (hs : ∀ c ∈ s.data.toList, c = 45 ∨ c = 46) (hz : s.size ≤ 140737488355328) (hBb : B ≤ b) (hgb : g < b)
    (hb : w.heap[b]? = some (.cells #[.int .u32 0, .int .i32 0, .int .u32 0, .nilIface, .slice (some ⟨g, 0, none⟩) 4 cap] 118 (0, 0)))
    (c0 : w.cell? ⟨g, 0, none⟩ = some (.string ⟨#[46]⟩)) (c1 : w.cell? ⟨g, 1, none⟩ = some (.string ⟨#[45]⟩)) (c2 : w.cell? ⟨g, 2, none⟩ = some (.string ⟨#[45]⟩)) (c3 : w.cell? ⟨g, 3, none⟩ = some (.string ⟨#[46]⟩)) :
    Calls Tryz.prog 83 #[.pointer (some ⟨b, 0, none⟩), .string s] w fun e w' => e = .returned (.string ⟨(s.data.toList.map fun c => UInt8.ofNat (opp_.fin c.toNat)).toArray⟩) ∧ opp_.Up B w w' := by
  have hbl : b < w.heap.size := (Array.getElem?_eq_some_iff.1 hb).1
  have h0 : w.cell? ⟨b, 0, none⟩ = some (.int .u32 0) := by rw [cell_of_row _ _ 0 _ 118 (0, 0) hb]; rfl
  have h1 : w.cell? ⟨b, 1, none⟩ = some (.int .i32 0) := by rw [cell_of_row _ _ 1 _ 118 (0, 0) hb]; rfl
  have h3 : w.cell? ⟨b, 3, none⟩ = some .nilIface := by rw [cell_of_row _ _ 3 _ 118 (0, 0) hb]; rfl
  have h4 : w.cell? ⟨b, 4, none⟩ = some (.slice (some ⟨g, 0, none⟩) 4 cap) := by rw [cell_of_row _ _ 4 _ 118 (0, 0) hb]; rfl
  have hfr : ∀ j, w.frozen? ⟨b, j, none⟩ = false := fun j => by simp [World.frozen?, hb]
  have ob : ∀ (W : World) (i j : Nat) (v : Value), i ≠ j → (W.setCell ⟨b, i, none⟩ v).cell? ⟨b, j, none⟩ = W.cell? ⟨b, j, none⟩ := fun W i j v h => World.cell?_setCell_other _ ⟨b, i, none⟩ ⟨b, j, none⟩ _ (by simp [h])
  have og : ∀ (W : World) (i j k : Nat) (v : Value), k ≠ b → (W.setCell ⟨b, i, none⟩ v).cell? ⟨k, j, none⟩ = W.cell? ⟨k, j, none⟩ := fun W i j k v h => World.cell?_setCell_other _ ⟨b, i, none⟩ ⟨k, j, none⟩ _ (by simp [Ne.symm h])
  have hgne : g ≠ b := by omega
  have hf := opp_.buildOnce b g cap .nilIface (w.setCell ⟨b, 1, none⟩ (.int .i32 1)) (by rw [ob _ _ _ _ (by omega)]; exact h3) (by rw [ob _ _ _ _ (by omega)]; exact h4) (by rw [World.frozen?_setCell]; exact hfr 3) (by rw [World.frozen?_setCell]; exact hfr 4) (by rw [og _ _ _ _ _ hgne]; exact c0) (by rw [og _ _ _ _ _ hgne]; exact c1) (by rw [og _ _ _ _ _ hgne]; exact c2) (by rw [og _ _ _ _ _ hgne]; exact c3)
  have hsz : (w.setCell ⟨b, 1, none⟩ (.int .i32 1)).heap.size = w.heap.size := by simp
  rw [hsz] at hf
  obtain ⟨W1, hW1⟩ : ∃ W1, W1 = (((w.setCell ⟨b, 1, none⟩ (.int .i32 1)).setCell ⟨b, 3, none⟩ (.iface 142 (.pointer (some ⟨w.heap.size, 0, none⟩)))).setCell ⟨b, 4, none⟩ (.slice none 0 0)).alloc (.cells (opp_.tab opp_.fin) 141) := ⟨_, rfl⟩
  rw [← hW1] at hf
  have a0 : W1.cell? ⟨b, 0, none⟩ = some (.int .u32 0) := by
    rw [hW1, World.cell?_alloc_past _ _ _ (by simp; exact hbl), ob _ _ _ _ (by omega), ob _ _ _ _ (by omega), ob _ _ _ _ (by omega)]
    exact h0
  have a1 : W1.cell? ⟨b, 1, none⟩ = some (.int .i32 1) := by
    rw [hW1, World.cell?_alloc_past _ _ _ (by simp; exact hbl), ob _ _ _ _ (by omega), ob _ _ _ _ (by omega)]
    exact World.cell?_setCell_same _ _ _ h1
  have a3 : W1.cell? ⟨b, 3, none⟩ = some (.iface 142 (.pointer (some ⟨w.heap.size, 0, none⟩))) := by
    rw [hW1, World.cell?_alloc_past _ _ _ (by simp; exact hbl), ob _ _ _ _ (by omega)]
    exact World.cell?_setCell_same _ _ _ (by rw [ob _ _ _ _ (by omega)]; exact h3)
  have af : ∀ j, W1.frozen? ⟨b, j, none⟩ = false := fun j => by
    rw [hW1, World.frozen?_alloc_past _ _ _ (by simp; exact hbl), World.frozen?_setCell, World.frozen?_setCell, World.frozen?_setCell]
    exact hfr j
  have aT : ∀ k, k < 256 → W1.cell? ⟨w.heap.size, k, none⟩ = some (.int .u8 (opp_.fin k)) := fun k hk => by
    have := opp_.tab_cell opp_.fin (((w.setCell ⟨b, 1, none⟩ (.int .i32 1)).setCell ⟨b, 3, none⟩ (.iface 142 (.pointer (some ⟨w.heap.size, 0, none⟩)))).setCell ⟨b, 4, none⟩ (.slice none 0 0)) k hk
    rw [← hW1] at this
    simpa using this
  have aB : opp_.Up B w W1 := by
    rw [hW1]
    exact ((((opp_.Up.refl B w).setCell (p := ⟨b, 1, none⟩) hBb _).setCell (p := ⟨b, 3, none⟩) hBb _).setCell (p := ⟨b, 4, none⟩) hBb _).alloc (by simp; omega) _
  have asz : W1.heap.size = w.heap.size + 1 := by rw [hW1]; simp
  have hdo := once_.do_ b (fun W => W = W1) w h0 h1 (hfr 1) (fun W h => by subst h; exact ⟨a0, a1, af 0, af 1⟩) hf
  clear hf hW1
  obtain ⟨W2, hW2⟩ : ∃ W2, W2 = (W1.drew.setCell ⟨b, 0, none⟩ (.int .u32 1)).setCell ⟨b, 1, none⟩ (.int .i32 0) := ⟨_, rfl⟩
  have hdo2 : Calls Tryz.prog 100 #[.pointer (some ⟨b, 0, none⟩), .func (.func 101) #[.pointer (some ⟨b, 0, none⟩)] #[]] w fun e w' => e = .returned (.tuple #[]) ∧ w' = W2 := hdo.mono fun e w' ⟨h1, w1, h2, h3⟩ => ⟨h1, by rw [h3, h2, hW2]⟩
  have b3 : W2.cell? ⟨b, 3, none⟩ = some (.iface 142 (.pointer (some ⟨w.heap.size, 0, none⟩))) := by
    rw [hW2, ob _ _ _ _ (by omega), ob _ _ _ _ (by omega), World.cell?_drew]
    exact a3
  have bT : ∀ k, k < 256 → W2.cell? ⟨w.heap.size, k, none⟩ = some (.int .u8 (opp_.fin k)) := fun k hk => by
    rw [hW2, og _ _ _ _ _ (by omega), og _ _ _ _ _ (by omega), World.cell?_drew]
    exact aT k hk
  have bB : opp_.Up B w W2 := by
    rw [hW2]
    exact ((opp_.Up.drew aB).setCell (p := ⟨b, 0, none⟩) hBb _).setCell (p := ⟨b, 1, none⟩) hBb _
  have bsz : W2.heap.size = w.heap.size + 1 := by rw [hW2]; simp [asz]
  have hrep := opp_.replace w.heap.size s W2 hs hz (by omega) bT
  clear hdo a0 a1 a3 af aT aB hW2 bT
  have hm : ∀ (a : Addr) (W : World), (method 313 142 (.pointer (some a)) "Replace").run Tryz.prog W = .ok (173, .pointer (some a)) W := fun _ _ => by kernel_rfl
  go_enter Tryz.func83, Tryz.ntmps83
  go_wp2_with (first | (go_at_call 100; refine hdo2.mono ?_; rintro e w' ⟨rfl, rfl⟩) | (go_at_call 173; refine hrep.mono ?_; rintro e w' ⟨rfl, hw⟩))
  go_ret
  exact ⟨rfl, bB.trans (hw.mono (by rw [bsz]; omega))⟩
set_option maxRecDepth 100000 in
set_option maxHeartbeats 8000000 in
theorem opp_.opposite (s : ByteArray) (w : World) (hs : ∀ c ∈ s.data.toList, c = 45 ∨ c = 46) (hz : s.size ≤ 140737488355328) :
    Calls Tryz.prog 61 #[.string s] w fun e w' => e = .returned (.string ⟨(s.data.toList.map fun c => UInt8.ofNat (opp_.fin c.toNat)).toArray⟩) ∧ opp_.Up w.heap.size w w' := by
  obtain ⟨w0, hw0⟩ : ∃ w0, w0 = w.alloc (.cells #[Value.string ⟨#[46]⟩, Value.string ⟨#[45]⟩, Value.string ⟨#[45]⟩, Value.string ⟨#[46]⟩] 9) := ⟨_, rfl⟩
  have hc : ∀ (j : Nat) (v : Value), (#[Value.string ⟨#[46]⟩, Value.string ⟨#[45]⟩, Value.string ⟨#[45]⟩, Value.string ⟨#[46]⟩] : Array Value)[j]? = some v → w0.cell? ⟨w.heap.size, j, none⟩ = some v := fun j v h => by
    rw [hw0, cell_of_row _ _ j _ 9 (0, 0) (heap_alloc_last w _)]
    exact h
  have hB : opp_.Up w.heap.size w w0 := by rw [hw0]; exact (opp_.Up.refl _ w).alloc (Nat.le_refl _) _
  have hsz : w0.heap.size = w.heap.size + 1 := by rw [hw0]; simp
  have hn := opp_.new w.heap.size w0 (hc 0 _ rfl) (hc 1 _ rfl) (hc 2 _ rfl) (hc 3 _ rfl)
  rw [hw0] at hn
  go_enter Tryz.func61, Tryz.ntmps61
  go_wp2_with (first
    | (go_at_call 83; refine (opp_.Replace w.heap.size b g cap s w1 hs hz (by omega) h3 h4 h5.1 h5.2.1 h5.2.2.1 h5.2.2.2).mono ?_; rintro e w' ⟨rfl, hw⟩)
    | (go_at_call 82; refine hn.mono ?_; rintro e w1 ⟨b, g, cap, rfl, h1, h2, h3, h4, h5, h6⟩; rw [← hw0, hsz] at h1 h2; rw [← hw0] at h6))
  go_ret
  exact ⟨rfl, hB.trans (opp_.Up.trans (h6.mono (by omega)) hw)⟩
def impl_opposite.f (s : ByteArray) : Option ByteArray := if s.size ≤ 140737488355328 ∧ (s.data.toList.all fun c => c == 45 || c == 46) = true then some ⟨(s.data.toList.map fun c => UInt8.ofNat (opp_.fin c.toNat)).toArray⟩ else none
theorem impl_opposite.up_ (a0 : ByteArray) (r : ByteArray) (w : World) (h : impl_opposite.f a0 = some r) :
    Calls Tryz.prog 61 #[.string a0] w fun e w' => e = .returned (.string r) ∧ opp_.Up w.heap.size w w' := by
  unfold impl_opposite.f at h
  by_cases c : a0.size ≤ 140737488355328 ∧ (a0.data.toList.all fun c => c == 45 || c == 46) = true
  · rw [if_pos c] at h
    obtain rfl := Option.some.inj h
    exact opp_.opposite a0 w (fun x hx => by have := List.all_eq_true.1 c.2 x hx; simpa using this) c.1
  · rw [if_neg c] at h
    cases h
theorem impl_opposite.calls (a0 : ByteArray) (r : ByteArray) (w : World) (h : impl_opposite.f a0 = some r) :
    Calls Tryz.prog 61 #[.string a0] w fun e w' => e = .returned (.string r) ∧ Below w.heap.size w w' :=
  (impl_opposite.up_ a0 r w h).mono fun _ _ h => ⟨h.1, h.2.below⟩

end Go.Proofs.YtgaadjlcmgmfaaaGreat.PFnExactOpenMarks
