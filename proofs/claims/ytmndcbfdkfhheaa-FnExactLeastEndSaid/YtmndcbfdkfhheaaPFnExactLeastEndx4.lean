-- Written by a program of this session (the kit's print with this session's additions, wip/tools): Lean checks it.
import Derived.Test.YtmndcbfdkfhheaaPFnExactLeastEndx0
import Derived.Test.YtmndcbfdkfhheaaPFnExactLeastEndx3
namespace Go.Proofs.Ytmndcbfdkfhheaa.PFnExactLeastEnd
open Go.RowKit Go.Proofs.YtmndcbfdkfhheaaW.PrintWords Go.Proofs.YtmndcbfdkfhheaaW.PrintLast Go.Proofs.YtmndcbfdkfhheaaW.PrintMore
attribute [local go_sem] max2_int min2_int max_two min_two max_three min_three max_four min_four   -- for this text's walks alone
set_option linter.unusedVariables false
set_option linter.unusedSimpArgs false

/-! ### impl_loads: function 67 -/
mutual
def impl_loads.l0 : Nat → List Int → List (S37) → Int → Int → Option (List Int)
  | 0, _, _, _, _ => none
  | k + 1, x5, x11, x12, x13 => if x13 < x12 then (if 0 ≤ x13 then (if x13 < (x11.length : Int) then (impl_loads.l1 k x5 ((rd_T37 x11 x13).f0) x11 x12 x13 ((rd_T37 x11 x13).f0) ((rd_T37 x11 x13).f1) ((rd_T37 x11 x13).f2) ((rd_T37 x11 x13).f3)) else (none)) else (none)) else (some x5)
def impl_loads.l1 : Nat → List Int → Int → List (S37) → Int → Int → Int → Int → Int → Int → Option (List Int)
  | 0, _, _, _, _, _, _, _, _, _ => none
  | k + 1, x5, x8, x11, x12, x13, x166000, x166001, x166002, x166003 => if x8 = x166001 then (impl_loads.l0 k x5 x11 x12 (wrap64 (x13 + 1))) else (if 0 ≤ x8 then (if x8 < (x5.length : Int) then ((some (x5.set (x8 : Int).toNat (wrap64 ((rd x5 x8) + x166002)) : List Int)).bind fun y167 => ((impl_Job_next.f x166000 x166001 x166002 x166003 x8).bind fun t168 => (if 0 ≤ t168 then (if t168 < (x5.length : Int) then ((impl_Job_next.f x166000 x166001 x166002 x166003 x8).bind fun t171 => (impl_loads.l1 k (y167.set (t168 : Int).toNat (wrap64 ((rd y167 t168) + x166002))) t171 x11 x12 x13 x166000 x166001 x166002 x166003)) else (none)) else (none)))) else (none)) else (none))
end
def impl_loads.f (k : Nat) (a0 : Int) (l1 : List (S37)) : Option (List Int) := if 0 ≤ a0 then (if (a0 : Int).toNat ≤ 35184372088832 then (impl_loads.l0 k (List.replicate (a0 : Int).toNat 0) l1 (l1.length : Int) 0) else (none)) else (none)
theorem impl_loads.mono_l : ∀ k, (∀ y0 y1 y2 y3, LeO (impl_loads.l0 k y0 y1 y2 y3) (impl_loads.l0 (k + 1) y0 y1 y2 y3)) ∧ (∀ y0 y1 y2 y3 y4 y5 y6 y7 y8, LeO (impl_loads.l1 k y0 y1 y2 y3 y4 y5 y6 y7 y8) (impl_loads.l1 (k + 1) y0 y1 y2 y3 y4 y5 y6 y7 y8))
  | 0 => ⟨fun _ _ _ _ r h => by simp [impl_loads.l0] at h, fun _ _ _ _ _ _ _ _ _ r h => by simp [impl_loads.l1] at h⟩
  | k + 1 => by
    obtain ⟨ih0, ih1⟩ := impl_loads.mono_l k
    refine ⟨?_, ?_⟩
    · intro y0 y1 y2 y3
      unfold impl_loads.l0
      repeat' first
      | (with_reducible exact ih0 _ _ _ _)
      | (with_reducible exact ih1 _ _ _ _ _ _ _ _ _)
      | (with_reducible exact LeO.refl _)
      | (with_reducible exact LeO.none _)
      | (with_reducible refine LeO.ite ?_ ?_)
      | (with_reducible refine LeO.bind ?_ (fun _ => ?_))
      | exact ih0 _ _ _ _
      | exact ih1 _ _ _ _ _ _ _ _ _
      | exact LeO.none _
      | refine LeO.ite ?_ ?_
      | refine LeO.bind ?_ (fun _ => ?_)
    · intro y0 y1 y2 y3 y4 y5 y6 y7 y8
      unfold impl_loads.l1
      repeat' first
      | (with_reducible exact ih0 _ _ _ _)
      | (with_reducible exact ih1 _ _ _ _ _ _ _ _ _)
      | (with_reducible exact LeO.refl _)
      | (with_reducible exact LeO.none _)
      | (with_reducible refine LeO.ite ?_ ?_)
      | (with_reducible refine LeO.bind ?_ (fun _ => ?_))
      | exact ih0 _ _ _ _
      | exact ih1 _ _ _ _ _ _ _ _ _
      | exact LeO.none _
      | refine LeO.ite ?_ ?_
      | refine LeO.bind ?_ (fun _ => ?_)
theorem impl_loads.mono : ∀ a0 a1 k, LeO (impl_loads.f k a0 a1) (impl_loads.f (k + 1) a0 a1) := by
  intro a0 a1 k
  obtain ⟨ih0, ih1⟩ := impl_loads.mono_l k
  unfold impl_loads.f
  repeat' first
      | (with_reducible exact ih0 _ _ _ _)
      | (with_reducible exact ih1 _ _ _ _ _ _ _ _ _)
      | (with_reducible exact LeO.refl _)
      | (with_reducible exact LeO.none _)
      | (with_reducible refine LeO.ite ?_ ?_)
      | (with_reducible refine LeO.bind ?_ (fun _ => ?_))
      | exact ih0 _ _ _ _
      | exact ih1 _ _ _ _ _ _ _ _ _
      | exact LeO.none _
      | refine LeO.ite ?_ ?_
      | refine LeO.bind ?_ (fun _ => ?_)
def impl_loads.T8 : Bool × List (List Nat × List Nat) := (true, [([], []), ([], []), ([0, 1], [0, 1]), ([2], [2]), ([], []), ([4], [4]), ([3, 5], [3, 5]), ([0, 1, 0, 1, 2, 3, 4, 5, 6], [0, 1]), ([7, 6, 0, 1, 2, 3, 4, 5, 6], [6, 7])])
def impl_loads.B8 : List Nat := [0, 0, 3, 7, 0, 16, 63, 127, 255]
theorem impl_loads.tab8 : rtab .any (opsOf Try.f67 8) = impl_loads.T8 := by kernel_rfl
theorem impl_loads.bits8 : waitsOk impl_loads.T8.2 impl_loads.B8 = true := by kernel_rfl
def impl_loads.T9 : Bool × List (List Nat × List Nat) := (true, [([], []), ([], []), ([], []), ([1, 2], [1, 2]), ([0, 3], [0, 3]), ([4], [4]), ([], []), ([6], [6]), ([5, 7], [5, 7]), ([0, 3, 0, 1, 2, 3, 4, 5, 6, 7, 8], [0, 3]), ([9, 8, 3, 0, 1, 2, 3, 4, 5, 6, 7, 8], [8, 9])])
def impl_loads.B9 : List Nat := [0, 0, 0, 6, 15, 31, 0, 64, 255, 511, 1023]
theorem impl_loads.tab9 : rtab .any (opsOf Try.f67 9) = impl_loads.T9 := by kernel_rfl
theorem impl_loads.bits9 : waitsOk impl_loads.T9.2 impl_loads.B9 = true := by kernel_rfl
set_option maxHeartbeats 8000000 in
set_option maxRecDepth 100000 in
theorem impl_loads.calls (k : Nat) (a0 : Int) (A1 : Option Addr) (c1 : Nat) (l1 : List (S37)) (r : List Int) (w : World) (hr1 : Kd.C k37 w A1 l1.length l1) (hc1 : l1.length ≤ c1) (h : impl_loads.f k a0 l1 = some r) :
    Calls Try.prog 67 #[.int .i64 a0, .slice A1 l1.length c1] w fun e w' => ∃ v0_ : Value, e = .returned (v0_) ∧ Kd.R (Kd.int .i64) 3 w' w.heap.size (fun _ => True) v0_ r ∧ Below w.heap.size w w' := by
  have hu37 := Try.underlying37
  have HR1 := Aside0.mk hr1
  have HC1 := Aside0.mk hc1
  clear hr1 hc1
  have HB := Aside0.mk (Below.refl w.heap.size w)
  have H : (if 0 ≤ a0 then (if (a0 : Int).toNat ≤ 35184372088832 then (impl_loads.l0 k (List.replicate (a0 : Int).toNat 0) l1 (l1.length : Int) 0) else (none)) else (none)) = some r := h
  clear h
  by_cases c3 : 0 ≤ a0
  · rw [if_pos c3] at H
    have c3b0 := eq_true c3
    have c3b1 : decide (0 ≤ a0) = true := decide_eq_true c3
    clear c3
    by_cases c4 : (a0 : Int).toNat ≤ 35184372088832
    · rw [if_pos c4] at H
      have c4b0 := eq_true c4
      have c4b1 : decide ((a0 : Int).toNat ≤ 35184372088832) = true := decide_eq_true c4
      clear c4
      obtain ⟨y161, hy161⟩ : ∃ y_ : List Int, y_ = (List.replicate (a0 : Int).toNat 0) := ⟨_, rfl⟩
      replace H : (impl_loads.l0 k y161 l1 (l1.length : Int) 0) = some r := by first | (rw [hy161]; with_reducible exact H) | (have H2_ := (Option.bind_some _ _).symm.trans H; rw [hy161]; with_reducible exact H2_) | (have H2_ := (Option.bind_some _ _).symm.trans H; with_reducible exact H2_) | with_reducible exact H | (rw [hy161]; exact H) | exact H
      have Ny161 := Aside0.mk hy161
      clear hy161
      have H' := Aside0.mk H
      clear H
      go_enter Try.func67, Try.ntmps67
      go_wp2_with (first | ((with_reducible refine gate_dst (N := 10) rfl ?_); refine Kd.R_make (Kd.int .i64) _ 3 rfl (N := 10) rfl 53 _ _ rfl a0 rfl rfl Try.underlying53 (.int .i64 0) 8 info3 rfl (by decide) (by omega) 0 (ok := fun _ => True) (okp := fun _ => True) rfl (fun _ hk => hk) trivial (of_decide_eq_true (by first | (with_reducible assumption) | assumption)) (Nat.le_trans (Nat.mul_le_mul_right _ (of_decide_eq_true (by first | (with_reducible assumption) | assumption) : a0.toNat ≤ 35184372088832)) (by omega)) (Below.refl _ _) (Nat.le_refl _) ?_; intro v162 w5 ho6 hb hg_ hnew_; clear hg_ hnew_; (first | rw [← Ny161.out] at ho6 | (simp only [Int.reduceToNat] at ho6; rw [← Ny161.out] at ho6)); have n0_ := Aside0.mk (Kd.R_lower ho6 (below_size (by repeat (first | (with_reducible first | exact HB.out | apply below_alloc | apply pw_below_drewN | apply below_drew1) | exact HB.out)))); have n1_ := Aside0.mk (below_step (by repeat (first | (with_reducible first | exact HB.out | apply below_alloc | apply pw_below_drewN | apply below_drew1) | exact HB.out)) hb); clear HB; have HO163 := n0_; have HB := n1_; clear n0_ n1_; clear hb ho6))
      go_loopg [13] k (fun kq v13 w' => ∃ (x5_1 : List Int) (x13_1 : Int), v13 = .int .i64 x13_1 ∧ Aside0 (impl_loads.l0 kq x5_1 l1 (l1.length : Int) x13_1 = some r) ∧ Aside0 (kq ≤ k) ∧ Aside0 (Kd.R (Kd.int .i64) 3 w' w.heap.size (fun _ => True) v162 x5_1) ∧ Aside0 (Below w.heap.size w w'))
      case atStart => exact ⟨(y161), (0), (by first | rfl | (simp; done) | (simp [*]; done)), H', ⟨Nat.le_refl _⟩, ⟨by (with_reducible repeat (first | apply Kd.R_alloc | apply Kd.R_drewN | apply Kd.R_drew)); exact HO163.out⟩, ⟨by repeat (first | (with_reducible first | exact HB.out | apply below_alloc | apply pw_below_drewN | apply below_drew1) | exact HB.out)⟩⟩
      case round =>
        clear H'
        try clear c1
        try clear p2
        try clear c3
        try clear c3b0
        try clear c3b1
        try clear c4
        try clear c4b0
        try clear c4b1
        try clear c6
        obtain ⟨x5_1, x13_1, rfl, HA, HK1, HO_5, HB⟩ := hrel
        cases gk with
        | zero => exact absurd HA.out (by simp [impl_loads.l0])
        | succ k1 =>
          have H := HA.out
          clear HA
          simp only [impl_loads.l0] at H
          by_cases c7 : x13_1 < (l1.length : Int)
          · rw [if_pos c7] at H
            have c7b0 : decide (x13_1 < (l1.length : Int)) = true := decide_eq_true c7
            clear c7
            by_cases c8 : 0 ≤ x13_1
            · rw [if_pos c8] at H
              have c8b0 : decide (0 ≤ x13_1) = true := decide_eq_true c8
              clear c8
              by_cases c9 : x13_1 < (l1.length : Int)
              · rw [if_pos c9] at H
                have c9b0 : decide (x13_1 < (l1.length : Int)) = true := decide_eq_true c9
                clear c9
                have H' := Aside0.mk H
                clear H
                have p164 : 0 ≤ (x13_1 : Int) := of_decide_eq_true (by first | (with_reducible assumption) | assumption)
                have q164 : x13_1 < (l1.length : Int) := of_decide_eq_true (by first | (with_reducible assumption) | assumption)
                obtain ⟨ad164, e164, hx164_0, hx164_1, hx164_2, hx164_3⟩ := at_T37 HR1.out x13_1 p164 q164
                cases e164
                replace hx164_0 := (HB.out.cell (World.block_lt_of_cell? w _ hx164_0)).trans hx164_0
                replace hx164_1 := (HB.out.cell (World.block_lt_of_cell? w _ hx164_1)).trans hx164_1
                replace hx164_2 := (HB.out.cell (World.block_lt_of_cell? w _ hx164_2)).trans hx164_2
                replace hx164_3 := (HB.out.cell (World.block_lt_of_cell? w _ hx164_3)).trans hx164_3
                replace p164 := eq_true p164
                replace q164 := eq_true q164
                go_wp2_with (first | ((with_reducible refine gate_dst (N := 7) rfl ?_); refine box_event ?hg (N := 7) ?hd (cs := #[.int .i64 0, .int .i64 0, .int .i64 0, .int .i64 0]) (t := 37) ?hr ?_; (case hd => rfl); (case hg => rfl); (case hr => first | (go_simp; done) | (go_simp; rfl)); intro gb165 hg w10 hbox hb; have n0_ := Aside0.mk (Kd.R_below (by (with_reducible repeat (first | apply Kd.R_alloc | apply Kd.R_drewN | apply Kd.R_drew)); exact HO_5.out) hb); have n1_ := Aside0.mk (below_step (by repeat (first | (with_reducible first | exact HB.out | apply below_alloc | apply pw_below_drewN | apply below_drew1) | exact HB.out)) hb); have n2_ := Aside0.mk (hbox); have n3_ := Aside0.mk ((by rw [hg]; exact (below_size (by repeat (first | (with_reducible first | exact HB.out | apply below_alloc | apply pw_below_drewN | apply below_drew1) | exact HB.out))) : w.heap.size ≤ gb165)); have n4_ := Aside0.mk ((by rw [hg]; exact (below_size (by repeat (first | (with_reducible first | exact HB.out | apply below_alloc | apply pw_below_drewN | apply below_drew1) | exact HB.out))) : w.heap.size ≤ gb165)); clear HO_5; clear HB; have HO_5 := n0_; have HB := n1_; have BK165 := n2_; have GW165 := n3_; have GE165 := n4_; clear n0_ n1_ n2_ n3_ n4_; clear hb hbox hg; (try (have hnw12 := Kd.R_ne HO_5.out BK165.out (by decide); change some gb165 ≠ some _ at hnw12; have how12 := fun (e_ : gb165 = _) => hnw12 (congrArg some e_); have hpw12 := fun e_ => how12 (Eq.symm e_); clear hnw12; replace how12 := eq_false how12; replace hpw12 := eq_false hpw12)); have hcz11_0 : w10.cell? ⟨gb165, 0, none⟩ = some (.int .i64 0) := (blk_cell BK165.out 0).trans rfl; have hcz11_1 : w10.cell? ⟨gb165, 1, none⟩ = some (.int .i64 0) := (blk_cell BK165.out 1).trans rfl; have hcz11_2 : w10.cell? ⟨gb165, 2, none⟩ = some (.int .i64 0) := (blk_cell BK165.out 2).trans rfl; have hcz11_3 : w10.cell? ⟨gb165, 3, none⟩ = some (.int .i64 0) := (blk_cell BK165.out 3).trans rfl; have hfz11_0 := blk_frozen BK165.out 0; have hfz11_1 := blk_frozen BK165.out 1; have hfz11_2 := blk_frozen BK165.out 2; have hfz11_3 := blk_frozen BK165.out 3))
                go_loopg [8] k1 (fun kq v8 w' => ∃ (x5_2 : List Int) (x8_2 : Int), v8 = .int .i64 x8_2 ∧ Aside0 (impl_loads.l1 kq x5_2 x8_2 l1 (l1.length : Int) x13_1 ((rd_T37 l1 x13_1).f0) ((rd_T37 l1 x13_1).f1) ((rd_T37 l1 x13_1).f2) ((rd_T37 l1 x13_1).f3) = some r) ∧ Aside0 (kq ≤ k1) ∧ Aside0 (Kd.R (Kd.int .i64) 3 w' w.heap.size (fun _ => True) v162 x5_2) ∧ Aside0 (w'.heap[gb165]? = some (.cells #[.int .i64 ((rd_T37 l1 x13_1).f0), .int .i64 ((rd_T37 l1 x13_1).f1), .int .i64 ((rd_T37 l1 x13_1).f2), .int .i64 ((rd_T37 l1 x13_1).f3)] 37 (0, 0))) ∧ Aside0 (Below w.heap.size w w'))
                case atStart => exact ⟨(x5_1), ((rd_T37 l1 x13_1).f0), (by first | rfl | (simp; done) | (simp [*]; done)), H', ⟨Nat.le_refl _⟩, ⟨by (with_reducible repeat (first | apply Kd.R_alloc | apply Kd.R_drewN | apply Kd.R_drew)); exact Kd.R_mono (Kd.R_far (p := ⟨gb165, 3, none⟩) (Kd.R_far (p := ⟨gb165, 2, none⟩) (Kd.R_far (p := ⟨gb165, 1, none⟩) (Kd.R_far (p := ⟨gb165, 0, none⟩) (Kd.R_types HO_5.out BK165.out (by decide)) (fun _ hk => hk.2) (.int .i64 ((rd_T37 l1 x13_1).f0))) (fun _ hk => hk.2) (.int .i64 ((rd_T37 l1 x13_1).f1))) (fun _ hk => hk.2) (.int .i64 ((rd_T37 l1 x13_1).f2))) (fun _ hk => hk.2) (.int .i64 ((rd_T37 l1 x13_1).f3))) (fun _ hk => trivial)⟩, ⟨by (with_reducible repeat (first | refine blk_drewN ?_ _ | refine blk_drew ?_ | refine blk_alloc ?_ _)); refine blk_put (cs := #[.int .i64 ((rd_T37 l1 x13_1).f0), .int .i64 ((rd_T37 l1 x13_1).f1), .int .i64 ((rd_T37 l1 x13_1).f2), .int .i64 0]) ?_ 3 _ rfl; (with_reducible repeat (first | refine blk_drewN ?_ _ | refine blk_drew ?_ | refine blk_alloc ?_ _)); refine blk_put (cs := #[.int .i64 ((rd_T37 l1 x13_1).f0), .int .i64 ((rd_T37 l1 x13_1).f1), .int .i64 0, .int .i64 0]) ?_ 2 _ rfl; (with_reducible repeat (first | refine blk_drewN ?_ _ | refine blk_drew ?_ | refine blk_alloc ?_ _)); refine blk_put (cs := #[.int .i64 ((rd_T37 l1 x13_1).f0), .int .i64 0, .int .i64 0, .int .i64 0]) ?_ 1 _ rfl; (with_reducible repeat (first | refine blk_drewN ?_ _ | refine blk_drew ?_ | refine blk_alloc ?_ _)); refine blk_put (cs := #[.int .i64 0, .int .i64 0, .int .i64 0, .int .i64 0]) ?_ 0 _ rfl; (with_reducible repeat (first | refine blk_drewN ?_ _ | refine blk_drew ?_ | refine blk_alloc ?_ _)); exact BK165.out⟩, ⟨by repeat (first | (with_reducible first | exact HB.out | apply below_alloc | apply pw_below_drewN | apply below_drew1 | refine below_set ?_ GE165.out) | exact HB.out)⟩⟩
                case round =>
                  clear H'
                  try clear c1
                  try clear p1
                  try clear q1
                  try clear hx1
                  try clear p2
                  try clear c3
                  try clear c3b0
                  try clear c3b1
                  try clear c4
                  try clear c4b0
                  try clear c4b1
                  try clear c6
                  try clear c7
                  try clear c7b0
                  try clear c8
                  try clear c8b0
                  try clear c9
                  try clear c9b0
                  try clear hcz11_0
                  try clear hcz11_1
                  try clear hcz11_2
                  try clear hcz11_3
                  try clear hfz11_0
                  try clear hfz11_1
                  try clear hfz11_2
                  try clear hfz11_3
                  try clear hx164_0
                  try clear hx164_1
                  try clear hx164_2
                  try clear hx164_3
                  try clear p164
                  try clear p2
                  try clear q164
                  obtain ⟨x5_2, x8_2, rfl, HA, HK2, HO_5, BK165, HB⟩ := hrel
                  cases gk with
                  | zero => exact absurd HA.out (by simp [impl_loads.l1])
                  | succ k2 =>
                    have H := HA.out
                    clear HA
                    simp only [impl_loads.l1] at H
                    by_cases c13 : x8_2 = ((rd_T37 l1 x13_1).f1)
                    · rw [if_pos c13] at H
                      have c13b0 : (x8_2 == ((rd_T37 l1 x13_1).f1)) = true := beq_iff_eq.mpr c13
                      have c13b1 : (x8_2 != ((rd_T37 l1 x13_1).f1)) = false := bne_eq_false_iff_eq.mpr c13
                      clear c13
                      have H' := Aside0.mk H
                      clear H
                      (try (have hnw15 := Kd.R_ne HO_5.out BK165.out (by decide); change some gb165 ≠ some _ at hnw15; have how15 := fun (e_ : gb165 = _) => hnw15 (congrArg some e_); have hpw15 := fun e_ => how15 (Eq.symm e_); clear hnw15; replace how15 := eq_false how15; replace hpw15 := eq_false hpw15))
                      have hcz14_0 : wr.cell? ⟨gb165, 0, none⟩ = some (.int .i64 ((rd_T37 l1 x13_1).f0)) := (blk_cell BK165.out 0).trans rfl
                      have hcz14_1 : wr.cell? ⟨gb165, 1, none⟩ = some (.int .i64 ((rd_T37 l1 x13_1).f1)) := (blk_cell BK165.out 1).trans rfl
                      have hcz14_2 : wr.cell? ⟨gb165, 2, none⟩ = some (.int .i64 ((rd_T37 l1 x13_1).f2)) := (blk_cell BK165.out 2).trans rfl
                      have hcz14_3 : wr.cell? ⟨gb165, 3, none⟩ = some (.int .i64 ((rd_T37 l1 x13_1).f3)) := (blk_cell BK165.out 3).trans rfl
                      have hfz14_0 := blk_frozen BK165.out 0
                      have hfz14_1 := blk_frozen BK165.out 1
                      have hfz14_2 := blk_frozen BK165.out 2
                      have hfz14_3 := blk_frozen BK165.out 3
                      go_wp2
                      go_roundg k2
                      case measure => have := HK1.out; have := HK2.out; omega
                      case rel => exact ⟨(x5_2), (wrap64 (x13_1 + 1)), (by first | rfl | (simp; done) | (simp [*]; done) | (simp only [i64_w]; done) | (simp only [i64_w]; rfl) | (simp only [decide_eq_true_eq] at *; congr 1; unfold wrap64; omega)), H', ⟨by have := HK1.out; have := HK2.out; omega⟩, ⟨by (with_reducible repeat (first | apply Kd.R_alloc | apply Kd.R_drewN | apply Kd.R_drew)); exact HO_5.out⟩, ⟨by repeat (first | (with_reducible first | exact HB.out | apply below_alloc | apply pw_below_drewN | apply below_drew1 | refine below_set ?_ GE165.out) | exact HB.out)⟩⟩
                    · rw [if_neg c13] at H
                      have c13b0 : (x8_2 == ((rd_T37 l1 x13_1).f1)) = false := beq_eq_false_iff_ne.mpr c13
                      have c13b1 : (x8_2 != ((rd_T37 l1 x13_1).f1)) = true := bne_iff_ne.mpr c13
                      by_cases c16 : 0 ≤ x8_2
                      · rw [if_pos c16] at H
                        have c16b0 : decide (0 ≤ x8_2) = true := decide_eq_true c16
                        clear c16
                        by_cases c17 : x8_2 < (x5_2.length : Int)
                        · rw [if_pos c17] at H
                          have c17b0 : decide (x8_2 < (x5_2.length : Int)) = true := decide_eq_true c17
                          clear c17
                          obtain ⟨y167, hy167⟩ : ∃ y_ : List Int, y_ = (x5_2.set (x8_2 : Int).toNat (wrap64 ((rd x5_2 x8_2) + ((rd_T37 l1 x13_1).f2)))) := ⟨_, rfl⟩
                          replace H : ((impl_Job_next.f ((rd_T37 l1 x13_1).f0) ((rd_T37 l1 x13_1).f1) ((rd_T37 l1 x13_1).f2) ((rd_T37 l1 x13_1).f3) x8_2).bind fun t168 => (if 0 ≤ t168 then (if t168 < (x5_2.length : Int) then ((impl_Job_next.f ((rd_T37 l1 x13_1).f0) ((rd_T37 l1 x13_1).f1) ((rd_T37 l1 x13_1).f2) ((rd_T37 l1 x13_1).f3) x8_2).bind fun t171 => (impl_loads.l1 k2 (y167.set (t168 : Int).toNat (wrap64 ((rd y167 t168) + ((rd_T37 l1 x13_1).f2)))) t171 l1 (l1.length : Int) x13_1 ((rd_T37 l1 x13_1).f0) ((rd_T37 l1 x13_1).f1) ((rd_T37 l1 x13_1).f2) ((rd_T37 l1 x13_1).f3))) else (none)) else (none))) = some r := by first | (rw [hy167]; with_reducible exact H) | (have H2_ := (Option.bind_some _ _).symm.trans H; rw [hy167]; with_reducible exact H2_) | (have H2_ := (Option.bind_some _ _).symm.trans H; with_reducible exact H2_) | with_reducible exact H | (rw [hy167]; exact H) | exact H
                          have Ny167 := Aside0.mk hy167
                          clear hy167
                          replace H := Option.bind_eq_some_iff.mp H
                          obtain ⟨t168, A190, H⟩ := H
                          replace H : (if 0 ≤ t168 then (if t168 < (x5_2.length : Int) then ((impl_Job_next.f ((rd_T37 l1 x13_1).f0) ((rd_T37 l1 x13_1).f1) ((rd_T37 l1 x13_1).f2) ((rd_T37 l1 x13_1).f3) x8_2).bind fun t171 => (impl_loads.l1 k2 (y167.set (t168 : Int).toNat (wrap64 ((rd y167 t168) + ((rd_T37 l1 x13_1).f2)))) t171 l1 (l1.length : Int) x13_1 ((rd_T37 l1 x13_1).f0) ((rd_T37 l1 x13_1).f1) ((rd_T37 l1 x13_1).f2) ((rd_T37 l1 x13_1).f3))) else (none)) else (none)) = some r := H
                          have A19 := Aside0.mk A190
                          clear A190
                          by_cases c20 : 0 ≤ t168
                          · rw [if_pos c20] at H
                            have c20b0 : decide (0 ≤ t168) = true := decide_eq_true c20
                            clear c20
                            by_cases c21 : t168 < (x5_2.length : Int)
                            · rw [if_pos c21] at H
                              have c21b0 : decide (t168 < (x5_2.length : Int)) = true := decide_eq_true c21
                              clear c21
                              obtain ⟨y170, hy170⟩ : ∃ y_ : List Int, y_ = (y167.set (t168 : Int).toNat (wrap64 ((rd y167 t168) + ((rd_T37 l1 x13_1).f2)))) := ⟨_, rfl⟩
                              replace H : ((impl_Job_next.f ((rd_T37 l1 x13_1).f0) ((rd_T37 l1 x13_1).f1) ((rd_T37 l1 x13_1).f2) ((rd_T37 l1 x13_1).f3) x8_2).bind fun t171 => (impl_loads.l1 k2 y170 t171 l1 (l1.length : Int) x13_1 ((rd_T37 l1 x13_1).f0) ((rd_T37 l1 x13_1).f1) ((rd_T37 l1 x13_1).f2) ((rd_T37 l1 x13_1).f3))) = some r := by first | (rw [hy170]; with_reducible exact H) | (have H2_ := (Option.bind_some _ _).symm.trans H; rw [hy170]; with_reducible exact H2_) | (have H2_ := (Option.bind_some _ _).symm.trans H; with_reducible exact H2_) | with_reducible exact H | (rw [hy170]; exact H) | exact H
                              have Ny170 := Aside0.mk hy170
                              clear hy170
                              replace H := Option.bind_eq_some_iff.mp H
                              obtain ⟨t171, A230, H⟩ := H
                              replace H : (impl_loads.l1 k2 y170 t171 l1 (l1.length : Int) x13_1 ((rd_T37 l1 x13_1).f0) ((rd_T37 l1 x13_1).f1) ((rd_T37 l1 x13_1).f2) ((rd_T37 l1 x13_1).f3)) = some r := H
                              have A23 := Aside0.mk A230
                              clear A230
                              have H' := Aside0.mk H
                              clear H
                              (try (have hnw25 := Kd.R_ne HO_5.out BK165.out (by decide); change some gb165 ≠ some _ at hnw25; have how25 := fun (e_ : gb165 = _) => hnw25 (congrArg some e_); have hpw25 := fun e_ => how25 (Eq.symm e_); clear hnw25; replace how25 := eq_false how25; replace hpw25 := eq_false hpw25))
                              have hcz24_0 : wr.cell? ⟨gb165, 0, none⟩ = some (.int .i64 ((rd_T37 l1 x13_1).f0)) := (blk_cell BK165.out 0).trans rfl
                              have hcz24_1 : wr.cell? ⟨gb165, 1, none⟩ = some (.int .i64 ((rd_T37 l1 x13_1).f1)) := (blk_cell BK165.out 1).trans rfl
                              have hcz24_2 : wr.cell? ⟨gb165, 2, none⟩ = some (.int .i64 ((rd_T37 l1 x13_1).f2)) := (blk_cell BK165.out 2).trans rfl
                              have hcz24_3 : wr.cell? ⟨gb165, 3, none⟩ = some (.int .i64 ((rd_T37 l1 x13_1).f3)) := (blk_cell BK165.out 3).trans rfl
                              have hfz24_0 := blk_frozen BK165.out 0
                              have hfz24_1 := blk_frozen BK165.out 1
                              have hfz24_2 := blk_frozen BK165.out 2
                              have hfz24_3 := blk_frozen BK165.out 3
                              try go_wp2
                              have n0_ := Aside0.mk (Kd.R_drew HO_5.out)
                              have n1_ := Aside0.mk (blk_drew BK165.out)
                              have n2_ := Aside0.mk (below_drew1 HB.out)
                              clear HO_5
                              clear BK165
                              clear HB
                              have HO_5 := n0_
                              have BK165 := n1_
                              have HB := n2_
                              clear n0_ n1_ n2_
                              obtain ⟨Ao27, co27, eo27⟩ := Kd.R_slice HO_5.out
                              (first | subst eo27 | (injection eo27 with f1_ f2_ f3_; have f4_ := f1_.symm; have f5_ := f3_.symm; clear f1_ f2_ f3_; subst f4_; subst f5_))
                              have p166 : 0 ≤ (x8_2 : Int) := of_decide_eq_true (by first | (with_reducible assumption) | assumption)
                              have q166 : x8_2 < (x5_2.length : Int) := of_decide_eq_true (by first | (with_reducible assumption) | assumption)
                              obtain ⟨ad166, e166, hx166_0⟩ := Kd.at_int (Kd.R_reads' HO_5.out).2.2 x8_2 p166 q166
                              cases e166
                              replace p166 := eq_true p166
                              replace q166 := eq_true q166
                              have p18 : 0 ≤ (x8_2 : Int) := of_decide_eq_true (by first | (with_reducible assumption) | assumption)
                              have q18 : (x8_2 : Int) < ((x5_2.length : Int) : Int) := of_decide_eq_true (by first | (with_reducible assumption) | assumption)
                              obtain ⟨go18, co18, eo18, gb18, gl18, cl18, HG18⟩ := Kd.R_form HO_5.out (by omega)
                              (first | cases eo18 | (injection eo18 with ea_ en_ ec_; (first | subst ea_ | (injection ea_ with ea_; subst ea_)); subst ec_; clear en_))
                              have GB18 := Aside0.mk gb18
                              have GG18 := Aside0.mk HG18
                              clear gb18 gl18 HG18
                              (first | simp only [add_plain] at hx166_0 | skip)
                              obtain ⟨hx18_0, hf18_0⟩ := Kd.R_celln 0 HO_5.out (x8_2 : Int) p18 q18
                              replace p18 := eq_true p18
                              replace q18 := eq_true q18
                              have HP28 := Kd.R_putn HO_5.out (x8_2 : Int) (wrap64 ((rd x5_2 x8_2) + ((rd_T37 l1 x13_1).f2)))
                              rw [← Ny167.out] at HP28
                              have HQ28 := Aside0.mk HP28
                              clear HP28
                              refine start_ (n := 9) (S := fun w' => w'.cell? ⟨gb165, 0, none⟩ = some (.int .i64 ((rd_T37 l1 x13_1).f0)) ∧ w'.cell? ⟨gb165, 1, none⟩ = some (.int .i64 ((rd_T37 l1 x13_1).f1)) ∧ w'.cell? ⟨gb165, 2, none⟩ = some (.int .i64 ((rd_T37 l1 x13_1).f2)) ∧ w'.cell? ⟨gb165, 3, none⟩ = some (.int .i64 ((rd_T37 l1 x13_1).f3)) ∧ w'.cell? ⟨go18, (x8_2).toNat, none⟩ = some (.int .i64 (rd x5_2 x8_2))) (ds := [8]) #[false, false, false, false, false, false, false, false, false] (by kernel_rfl) rfl rfl ⟨(blk_cell BK165.out 0).trans rfl, (blk_cell BK165.out 1).trans rfl, (blk_cell BK165.out 2).trans rfl, (blk_cell BK165.out 3).trans rfl, hx166_0⟩ (fun hHeld => ?_); refine with_tabW impl_loads.tab8 impl_loads.bits8 (fun HT_ HW_ => ?_)
                              generalize wr.drew = w26 at HO_5 BK165 HB GG18 HQ28 hf18_0 hx166_0 hx18_0 hHeld ⊢
                              refine pure_ (i := 0) (N := some 26) (v := ?_) (a' := ?_) #[true, false, false, false, false, false, false, false, false] rfl rfl (any_of HT_.out (by kernel_rfl)) (fun _ _ _ h => h) (Or.inl ⟨by rfl, ?_⟩) ?_ ?_
                              rotate_left
                              · intro w'
                                go_simp
                                with_reducible rfl
                              rotate_left
                              · simp only [Act.put, List.setIfInBounds_toArray, List.set_cons_zero, List.set_cons_succ, i64_w, i32_w]
                                rfl
                              refine pure_ (i := 1) (N := some 27) (v := ?_) (a' := ?_) #[true, true, false, false, false, false, false, false, false] rfl rfl (any_of HT_.out (by kernel_rfl)) (fun _ _ _ h => h) (Or.inl ⟨by rfl, ?_⟩) ?_ ?_
                              rotate_left
                              · intro w'
                                go_simp
                                with_reducible rfl
                              rotate_left
                              · simp only [Act.put, List.setIfInBounds_toArray, List.set_cons_zero, List.set_cons_succ, i64_w, i32_w]
                                rfl
                              refine pure_ (i := 2) (N := some 28) (v := ?_) (a' := ?_) #[true, true, true, false, false, false, false, false, false] rfl rfl (any_of HT_.out (by kernel_rfl)) (fun _ _ _ h => h) (Or.inl ⟨by rfl, ?_⟩) ?_ ?_
                              rotate_left
                              · intro w'
                                go_simp
                                with_reducible rfl
                              rotate_left
                              · simp only [Act.put, List.setIfInBounds_toArray, List.set_cons_zero, List.set_cons_succ, i64_w, i32_w]
                                rfl
                              refine pure_ (i := 4) (N := some 30) (v := ?_) (a' := ?_) #[true, true, true, false, true, false, false, false, false] rfl rfl (any_of HT_.out (by kernel_rfl)) (fun _ _ _ h => h) (Or.inl ⟨by rfl, ?_⟩) ?_ ?_
                              rotate_left
                              · intro w'
                                go_simp
                                with_reducible rfl
                              rotate_left
                              · simp only [Act.put, List.setIfInBounds_toArray, List.set_cons_zero, List.set_cons_succ, i64_w, i32_w]
                                rfl
                              refine take_ (i := 3) (N := some 29) (v := ?_) (a' := ?_) #[true, true, true, true, true, false, false, false, false] rfl rfl (take_ofW HT_.out HW_.out (by kernel_rfl)) (fun _ _ _ h => h) (Or.inl ⟨by rfl, ?_⟩) hHeld ?_ ?_
                              rotate_left
                              · rintro w' ⟨s0, s1, s2, s3, s4⟩
                                go_simp
                                with_reducible rfl
                              rotate_left
                              · simp only [Act.put, List.setIfInBounds_toArray, List.set_cons_zero, List.set_cons_succ, i64_w, i32_w]
                                rfl
                              refine take_ (i := 5) (N := some 31) (v := ?_) (a' := ?_) #[true, true, true, true, true, true, false, false, false] rfl rfl (take_ofW HT_.out HW_.out (by kernel_rfl)) (fun _ _ _ h => h) (Or.inl ⟨by rfl, ?_⟩) hHeld ?_ ?_
                              rotate_left
                              · rintro w' ⟨s0, s1, s2, s3, s4⟩
                                go_simp
                                with_reducible rfl
                              rotate_left
                              · simp only [Act.put, List.setIfInBounds_toArray, List.set_cons_zero, List.set_cons_succ, i64_w, i32_w]
                                rfl
                              refine pure_ (i := 6) (N := some 32) (v := ?_) (a' := ?_) #[true, true, true, true, true, true, true, false, false] rfl rfl (any_of HT_.out (by kernel_rfl)) (fun _ _ _ h => h) (Or.inl ⟨by rfl, ?_⟩) ?_ ?_
                              rotate_left
                              · intro w'
                                go_simp
                                with_reducible rfl
                              rotate_left
                              · simp only [Act.put, List.setIfInBounds_toArray, List.set_cons_zero, List.set_cons_succ, i64_w, i32_w]
                                rfl
                              refine pure_ (i := 7) (N := some 33) (v := ?_) (a' := ?_) #[true, true, true, true, true, true, true, true, false] rfl rfl (any_of HT_.out (by kernel_rfl)) (fun _ _ _ h => h) (Or.inl ⟨by rfl, ?_⟩) ?_ ?_
                              rotate_left
                              · intro w'
                                go_simp
                                with_reducible rfl
                              rotate_left
                              · simp only [Act.put, List.setIfInBounds_toArray, List.set_cons_zero, List.set_cons_succ, i64_w, i32_w]
                                rfl
                              refine last_ (i := 8) (N := none) #[true, true, true, true, true, true, true, true, true] rfl rfl (one_of HT_.out (by kernel_rfl)) (by decide) (fun K hK => ?_)
                              refine skip_ (w1 := ?_) (by rfl) rfl ?_ ?_
                              rotate_left
                              · go_simp
                                rfl
                              refine hK.out _ _ ?_
                              clear hK K
                              refine done_ (done_of HT_.out (by kernel_rfl)) ?_
                              try go_wp2
                              have n0_ : Aside0 (Kd.R (Kd.int .i64) 3 (w26.setCell ⟨go18, (x8_2 : Int).toNat, none⟩ (.int .i64 (wrap64 ((rd x5_2 x8_2) + ((rd_T37 l1 x13_1).f2))))) w.heap.size (fun _ => True) (.slice (some ⟨go18, 0, none⟩) x5_2.length co27) y167) := ⟨by (with_reducible repeat (first | apply Kd.R_alloc | apply Kd.R_drewN | apply Kd.R_drew)); exact HQ28.out⟩
                              have n1_ : Aside0 ((w26.setCell ⟨go18, (x8_2 : Int).toNat, none⟩ (.int .i64 (wrap64 ((rd x5_2 x8_2) + ((rd_T37 l1 x13_1).f2))))).heap[gb165]? = some (.cells #[.int .i64 ((rd_T37 l1 x13_1).f0), .int .i64 ((rd_T37 l1 x13_1).f1), .int .i64 ((rd_T37 l1 x13_1).f2), .int .i64 ((rd_T37 l1 x13_1).f3)] 37 (0, 0))) := ⟨by (with_reducible repeat (first | refine blk_drewN ?_ _ | refine blk_drew ?_ | refine blk_alloc ?_ _)); refine blk_far ?_ (by have h_ := Kd.R_ne HO_5.out BK165.out (by decide); intro e_; exact h_ (by rw [e_]; rfl)) _; (with_reducible repeat (first | refine blk_drewN ?_ _ | refine blk_drew ?_ | refine blk_alloc ?_ _)); exact BK165.out⟩
                              have n2_ : Aside0 (Below w.heap.size w (w26.setCell ⟨go18, (x8_2 : Int).toNat, none⟩ (.int .i64 (wrap64 ((rd x5_2 x8_2) + ((rd_T37 l1 x13_1).f2)))))) := ⟨by repeat (first | (with_reducible first | exact HB.out | apply below_alloc | apply pw_below_drewN | apply below_drew1 | refine below_set ?_ GB18.out | refine below_set ?_ GE165.out) | exact HB.out)⟩
                              (try clear HO_5)
                              (try clear BK165)
                              (try clear HB)
                              generalize (w26.setCell ⟨go18, (x8_2 : Int).toNat, none⟩ (.int .i64 (wrap64 ((rd x5_2 x8_2) + ((rd_T37 l1 x13_1).f2))))) = w29 at n0_ n1_ n2_ ⊢
                              have HO_5 := n0_
                              have BK165 := n1_
                              have HB := n2_
                              clear n0_ n1_ n2_
                              have n0_ := Aside0.mk (Kd.R_drew HO_5.out)
                              have n1_ := Aside0.mk (blk_drew BK165.out)
                              have n2_ := Aside0.mk (below_drew1 HB.out)
                              clear HO_5
                              clear BK165
                              clear HB
                              have HO_5 := n0_
                              have BK165 := n1_
                              have HB := n2_
                              clear n0_ n1_ n2_
                              have p169 : 0 ≤ (t168 : Int) := of_decide_eq_true (by first | (with_reducible assumption) | assumption)
                              have q169 : t168 < (y167.length : Int) := (by have h_ : (t168 : Int) < ((x5_2.length : Int) : Int) := of_decide_eq_true (by first | (with_reducible assumption) | assumption); first | (have e_ := (Kd.R_reads' HO_5.out).1; omega) | simpa only [Ny167.out, List.length_set] using h_)
                              have ql169 : ((t168 : Int) < ((x5_2.length : Int) : Int)) = True := eq_true (of_decide_eq_true (by first | (with_reducible assumption) | assumption))
                              obtain ⟨ad169, e169, hx169_0⟩ := Kd.at_int (Kd.R_reads' HO_5.out).2.2 t168 p169 q169
                              obtain rfl : (⟨go18, 0, none⟩ : Addr) = ad169 := (by injection e169)
                              (first | simp only [add_plain] at hx169_0 | simp only [add_at] at hx169_0 | simp only [Addr.add, Nat.zero_add] at hx169_0 | skip)
                              replace p169 := eq_true p169
                              replace q169 := eq_true q169
                              refine start_ (n := 11) (S := fun w' => w'.cell? ⟨gb165, 0, none⟩ = some (.int .i64 ((rd_T37 l1 x13_1).f0)) ∧ w'.cell? ⟨gb165, 1, none⟩ = some (.int .i64 ((rd_T37 l1 x13_1).f1)) ∧ w'.cell? ⟨gb165, 2, none⟩ = some (.int .i64 ((rd_T37 l1 x13_1).f2)) ∧ w'.cell? ⟨gb165, 3, none⟩ = some (.int .i64 ((rd_T37 l1 x13_1).f3)) ∧ w'.cell? ⟨go18, (t168).toNat, none⟩ = some (.int .i64 (rd y167 t168))) (ds := [10]) #[false, false, false, false, false, false, false, false, false, false, false] (by kernel_rfl) rfl rfl ⟨(blk_cell BK165.out 0).trans rfl, (blk_cell BK165.out 1).trans rfl, (blk_cell BK165.out 2).trans rfl, (blk_cell BK165.out 3).trans rfl, hx169_0⟩ (fun hHeld => ?_); refine with_tabW impl_loads.tab9 impl_loads.bits9 (fun HT_ HW_ => ?_)
                              generalize w29.drew = w30 at HO_5 BK165 HB HQ28 hx169_0 hHeld ⊢
                              refine pure_ (i := 0) (N := some 34) (v := ?_) (a' := ?_) #[true, false, false, false, false, false, false, false, false, false, false] rfl rfl (any_of HT_.out (by kernel_rfl)) (fun _ _ _ h => h) (Or.inl ⟨by rfl, ?_⟩) ?_ ?_
                              rotate_left
                              · intro w'
                                go_simp
                                with_reducible rfl
                              rotate_left
                              · simp only [Act.put, List.setIfInBounds_toArray, List.set_cons_zero, List.set_cons_succ, i64_w, i32_w]
                                rfl
                              refine pure_ (i := 2) (N := some 36) (v := ?_) (a' := ?_) #[true, false, true, false, false, false, false, false, false, false, false] rfl rfl (any_of HT_.out (by kernel_rfl)) (fun _ _ _ h => h) (Or.inl ⟨by rfl, ?_⟩) ?_ ?_
                              rotate_left
                              · intro w'
                                go_simp
                                with_reducible rfl
                              rotate_left
                              · simp only [Act.put, List.setIfInBounds_toArray, List.set_cons_zero, List.set_cons_succ, i64_w, i32_w]
                                rfl
                              refine pure_ (i := 6) (N := some 40) (v := ?_) (a' := ?_) #[true, false, true, false, false, false, true, false, false, false, false] rfl rfl (any_of HT_.out (by kernel_rfl)) (fun _ _ _ h => h) (Or.inl ⟨by rfl, ?_⟩) ?_ ?_
                              rotate_left
                              · intro w'
                                go_simp
                                with_reducible rfl
                              rotate_left
                              · simp only [Act.put, List.setIfInBounds_toArray, List.set_cons_zero, List.set_cons_succ, i64_w, i32_w]
                                rfl
                              refine take_ (i := 1) (N := some 35) (v := ?_) (a' := ?_) #[true, true, true, false, false, false, true, false, false, false, false] rfl rfl (take_ofW HT_.out HW_.out (by kernel_rfl)) (fun _ _ _ h => h) (Or.inl ⟨by rfl, ?_⟩) hHeld ?_ ?_
                              rotate_left
                              · rintro w' ⟨s0, s1, s2, s3, s4⟩
                                go_simp
                                with_reducible rfl
                              rotate_left
                              · simp only [Act.put, List.setIfInBounds_toArray, List.set_cons_zero, List.set_cons_succ, i64_w, i32_w]
                                rfl
                              refine take_ (i := 7) (N := some 41) (v := ?_) (a' := ?_) #[true, true, true, false, false, false, true, true, false, false, false] rfl rfl (take_ofW HT_.out HW_.out (by kernel_rfl)) (fun _ _ _ h => h) (Or.inl ⟨by rfl, ?_⟩) hHeld ?_ ?_
                              rotate_left
                              · rintro w' ⟨s0, s1, s2, s3, s4⟩
                                go_simp
                                with_reducible rfl
                              rotate_left
                              · simp only [Act.put, List.setIfInBounds_toArray, List.set_cons_zero, List.set_cons_succ, i64_w, i32_w]
                                rfl
                              refine one_ (i := 3) (N := some 37) #[true, true, true, true, false, false, true, true, false, false, false] rfl rfl (one_of HT_.out (by kernel_rfl)) (by decide) (fun K hK => ?_)
                              refine goes_ Try.func74 (by kernel_rfl) rfl #[.agg #[.int .i64 ((rd_T37 l1 x13_1).f0), .int .i64 ((rd_T37 l1 x13_1).f1), .int .i64 ((rd_T37 l1 x13_1).f2), .int .i64 ((rd_T37 l1 x13_1).f3)], .int .i64 x8_2] (by rfl) rfl rfl (by (try simp only [List.map_toArray, List.map_cons, List.map_nil]); first | done | rfl | (simp only [List.length_drop, List.length_take]; rfl)) ?_
                              with_reducible refine (impl_Job_next.calls ((rd_T37 l1 x13_1).f0) ((rd_T37 l1 x13_1).f1) ((rd_T37 l1 x13_1).f2) ((rd_T37 l1 x13_1).f3) x8_2 t168 _ A19.out).mono ?_
                              rintro e w31 ⟨rfl, hb⟩
                              have HS4_ := (hb.cell (World.block_lt_of_cell? _ _ (hHeld.2.2.2.2))).trans (hHeld.2.2.2.2)
                              refine ⟨_, rfl, ?_⟩
                              have n0_ := Aside0.mk (Kd.R_below (by (with_reducible repeat (first | apply Kd.R_alloc | apply Kd.R_drewN | apply Kd.R_drew)); exact HO_5.out) hb)
                              have n1_ := Aside0.mk (blk_below (g := gb165) (o := .cells #[.int .i64 ((rd_T37 l1 x13_1).f0), .int .i64 ((rd_T37 l1 x13_1).f1), .int .i64 ((rd_T37 l1 x13_1).f2), .int .i64 ((rd_T37 l1 x13_1).f3)] 37 (0, 0)) (by (with_reducible repeat (first | refine blk_drewN ?_ _ | refine blk_drew ?_ | refine blk_alloc ?_ _)); exact BK165.out) hb)
                              have n2_ := Aside0.mk (below_step (by repeat (first | (with_reducible first | exact HB.out | apply below_alloc | apply pw_below_drewN | apply below_drew1 | refine below_set ?_ GE165.out) | exact HB.out)) hb)
                              clear HO_5
                              clear BK165
                              clear HB
                              have HO_5 := n0_
                              have BK165 := n1_
                              have HB := n2_
                              clear n0_ n1_ n2_
                              (try clear hb)
                              (try clear hb2)
                              (try clear hk)
                              (try clear hi)
                              have p22 : 0 ≤ (t168 : Int) := of_decide_eq_true (by first | (with_reducible assumption) | assumption)
                              have q22 : (t168 : Int) < ((x5_2.length : Int) : Int) := of_decide_eq_true (by first | (with_reducible assumption) | assumption)
                              obtain ⟨hx22_0, hf22_0⟩ := Kd.R_celln 0 HO_5.out (t168 : Int) p22 q22
                              replace p22 := eq_true p22
                              replace q22 := eq_true q22
                              have HP32 := Kd.R_putn HO_5.out (t168 : Int) (wrap64 ((rd y167 t168) + ((rd_T37 l1 x13_1).f2)))
                              rw [← Ny170.out] at HP32
                              have HQ32 := Aside0.mk HP32
                              clear HP32
                              refine hK.out _ _ ⟨(blk_cell BK165.out 0).trans rfl, (blk_cell BK165.out 1).trans rfl, (blk_cell BK165.out 2).trans rfl, (blk_cell BK165.out 3).trans rfl, HS4_⟩ (fun hHeld => ?_)
                              clear hK K
                              refine norm_ (a' := ?_) ?_ ?_
                              rotate_left
                              · show Act.put _ (some 37) _ = _
                                simp only [Act.put, List.setIfInBounds_toArray, List.set_cons_zero, List.set_cons_succ, i64_w, i32_w]
                                rfl
                              refine pure_ (i := 4) (N := some 38) (v := ?_) (a' := ?_) #[true, true, true, true, true, false, true, true, false, false, false] rfl rfl (any_of HT_.out (by kernel_rfl)) (fun _ _ _ h => h) (Or.inl ⟨by rfl, ?_⟩) ?_ ?_
                              rotate_left
                              · intro w'
                                go_simp
                                with_reducible rfl
                              rotate_left
                              · simp only [Act.put, List.setIfInBounds_toArray, List.set_cons_zero, List.set_cons_succ, i64_w, i32_w]
                                rfl
                              refine take_ (i := 5) (N := some 39) (v := ?_) (a' := ?_) #[true, true, true, true, true, true, true, true, false, false, false] rfl rfl (take_ofW HT_.out HW_.out (by kernel_rfl)) (fun _ _ _ h => h) (Or.inl ⟨by rfl, ?_⟩) hHeld ?_ ?_
                              rotate_left
                              · rintro w' ⟨s0, s1, s2, s3, s4⟩
                                go_simp
                                with_reducible rfl
                              rotate_left
                              · simp only [Act.put, List.setIfInBounds_toArray, List.set_cons_zero, List.set_cons_succ, i64_w, i32_w]
                                rfl
                              refine pure_ (i := 8) (N := some 42) (v := ?_) (a' := ?_) #[true, true, true, true, true, true, true, true, true, false, false] rfl rfl (any_of HT_.out (by kernel_rfl)) (fun _ _ _ h => h) (Or.inl ⟨by rfl, ?_⟩) ?_ ?_
                              rotate_left
                              · intro w'
                                go_simp
                                with_reducible rfl
                              rotate_left
                              · simp only [Act.put, List.setIfInBounds_toArray, List.set_cons_zero, List.set_cons_succ, i64_w, i32_w]
                                rfl
                              refine pure_ (i := 9) (N := some 43) (v := ?_) (a' := ?_) #[true, true, true, true, true, true, true, true, true, true, false] rfl rfl (any_of HT_.out (by kernel_rfl)) (fun _ _ _ h => h) (Or.inl ⟨by rfl, ?_⟩) ?_ ?_
                              rotate_left
                              · intro w'
                                go_simp
                                with_reducible rfl
                              rotate_left
                              · simp only [Act.put, List.setIfInBounds_toArray, List.set_cons_zero, List.set_cons_succ, i64_w, i32_w]
                                rfl
                              refine last_ (i := 10) (N := none) #[true, true, true, true, true, true, true, true, true, true, true] rfl rfl (one_of HT_.out (by kernel_rfl)) (by decide) (fun K hK => ?_)
                              refine skip_ (w1 := ?_) (by rfl) rfl ?_ ?_
                              rotate_left
                              · go_simp
                                rfl
                              refine hK.out _ _ ?_
                              clear hK K
                              refine done_ (done_of HT_.out (by kernel_rfl)) ?_
                              (try (have hnw34 := Kd.R_ne HO_5.out BK165.out (by decide); change some gb165 ≠ some _ at hnw34; have how34 := fun (e_ : gb165 = _) => hnw34 (congrArg some e_); have hpw34 := fun e_ => how34 (Eq.symm e_); clear hnw34; replace how34 := eq_false how34; replace hpw34 := eq_false hpw34))
                              have hcz33_0 : w31.cell? ⟨gb165, 0, none⟩ = some (.int .i64 ((rd_T37 l1 x13_1).f0)) := (blk_cell BK165.out 0).trans rfl
                              have hcz33_1 : w31.cell? ⟨gb165, 1, none⟩ = some (.int .i64 ((rd_T37 l1 x13_1).f1)) := (blk_cell BK165.out 1).trans rfl
                              have hcz33_2 : w31.cell? ⟨gb165, 2, none⟩ = some (.int .i64 ((rd_T37 l1 x13_1).f2)) := (blk_cell BK165.out 2).trans rfl
                              have hcz33_3 : w31.cell? ⟨gb165, 3, none⟩ = some (.int .i64 ((rd_T37 l1 x13_1).f3)) := (blk_cell BK165.out 3).trans rfl
                              have hfz33_0 := blk_frozen BK165.out 0
                              have hfz33_1 := blk_frozen BK165.out 1
                              have hfz33_2 := blk_frozen BK165.out 2
                              have hfz33_3 := blk_frozen BK165.out 3
                              try go_wp2_with (first | ((with_reducible refine gate_callee (f := 74) rfl ?_); refine goesL_ (some 25) rfl rfl Try.func74 (by kernel_rfl) rfl #[.agg #[.int .i64 ((rd_T37 l1 x13_1).f0), .int .i64 ((rd_T37 l1 x13_1).f1), .int .i64 ((rd_T37 l1 x13_1).f2), .int .i64 ((rd_T37 l1 x13_1).f3)], .int .i64 x8_2] rfl (by (try simp only [List.map_toArray, List.map_cons, List.map_nil]); first | done | rfl | (simp only [List.length_drop, List.length_take]; rfl)) ?_; (with_reducible refine (impl_Job_next.calls ((rd_T37 l1 x13_1).f0) ((rd_T37 l1 x13_1).f1) ((rd_T37 l1 x13_1).f2) ((rd_T37 l1 x13_1).f3) x8_2 t171 _ A23.out).mono ?_); rintro e w35 ⟨rfl, hb⟩; refine ⟨_, rfl, ?_⟩; have n0_ := Aside0.mk (Kd.R_below (by (with_reducible repeat (first | apply Kd.R_alloc | apply Kd.R_drewN | apply Kd.R_drew)); exact HQ32.out) hb); have n1_ := Aside0.mk (blk_below (g := gb165) (o := .cells #[.int .i64 ((rd_T37 l1 x13_1).f0), .int .i64 ((rd_T37 l1 x13_1).f1), .int .i64 ((rd_T37 l1 x13_1).f2), .int .i64 ((rd_T37 l1 x13_1).f3)] 37 (0, 0)) (by (with_reducible repeat (first | refine blk_drewN ?_ _ | refine blk_drew ?_ | refine blk_alloc ?_ _)); refine blk_far ?_ (by have h_ := Kd.R_ne HO_5.out BK165.out (by decide); intro e_; exact h_ (by rw [e_]; rfl)) _; (with_reducible repeat (first | refine blk_drewN ?_ _ | refine blk_drew ?_ | refine blk_alloc ?_ _)); exact BK165.out) hb); have n2_ := Aside0.mk (below_step (by repeat (first | (with_reducible first | exact HB.out | apply below_alloc | apply pw_below_drewN | apply below_drew1 | refine below_set ?_ GB18.out | refine below_set ?_ GE165.out) | exact HB.out)) hb); clear HO_5; clear BK165; clear HB; have HO_5 := n0_; have BK165 := n1_; have HB := n2_; clear n0_ n1_ n2_; (try clear hb); (try clear hb2); (try clear hk); (try clear hi)))
                              go_roundg k2
                              case measure => have := HK1.out; have := HK2.out; omega
                              case rel => exact ⟨(y170), (t171), (by first | rfl | (simp; done) | (simp [*]; done)), H', ⟨by have := HK1.out; have := HK2.out; omega⟩, ⟨by (with_reducible repeat (first | apply Kd.R_alloc | apply Kd.R_drewN | apply Kd.R_drew)); exact HO_5.out⟩, ⟨by (with_reducible repeat (first | refine blk_drewN ?_ _ | refine blk_drew ?_ | refine blk_alloc ?_ _)); exact BK165.out⟩, ⟨by repeat (first | (with_reducible first | exact HB.out | apply below_alloc | apply pw_below_drewN | apply below_drew1 | refine below_set ?_ GE165.out) | exact HB.out)⟩⟩
                            · rw [if_neg c21] at H
                              exact absurd H (by simp)
                          · rw [if_neg c20] at H
                            exact absurd H (by simp)
                        · rw [if_neg c17] at H
                          exact absurd H (by simp)
                      · rw [if_neg c16] at H
                        exact absurd H (by simp)
              · rw [if_neg c9] at H
                exact absurd H (by simp)
            · rw [if_neg c8] at H
              exact absurd H (by simp)
          · rw [if_neg c7] at H
            have c7b0 : decide (x13_1 < (l1.length : Int)) = false := decide_eq_false c7
            clear c7
            obtain rfl := Option.some.inj H
            go_wp2
            go_ret
            exact ⟨_, by first | rfl | (simp [errW_none, errW_some] <;> rfl) | (simp [*, errW_none, errW_some] <;> rfl), by (with_reducible repeat (first | apply Kd.R_alloc | apply Kd.R_drewN | apply Kd.R_drew)); exact HO_5.out, by repeat (first | (with_reducible first | exact HB.out | apply below_alloc | apply pw_below_drewN | apply below_drew1) | exact HB.out)⟩
    · rw [if_neg c4] at H
      exact absurd H (by simp)
  · rw [if_neg c3] at H
    exact absurd H (by simp)

/-! ### slices_Max_int_int: function 70 -/
def slices_Max_int_int.maxL (l : List Int) : Int := l.foldl (fun a b => if a < b then b else a) (l.headD 0)
theorem slices_Max_int_int.maxL_step (l : List Int) (i : Nat) (h1 : 1 ≤ i) (h : i < l.length) : slices_Max_int_int.maxL (l.take (i + 1)) = if slices_Max_int_int.maxL (l.take i) < l[i] then l[i] else slices_Max_int_int.maxL (l.take i) := by
  have e : (l.take i ++ [l[i]]).headD 0 = (l.take i).headD 0 := by
    cases hl : l.take i with
    | nil =>
      have := congrArg List.length hl
      rw [List.length_take, List.length_nil] at this
      omega
    | cons a b => rfl
  unfold slices_Max_int_int.maxL
  rw [List.take_succ_eq_append_getElem h, List.foldl_append, e]
  rfl
theorem slices_Max_int_int.rd_at (l : List Int) (x : Int) (h : x.toNat < l.length) : rd l x = l[x.toNat] := by
  unfold rd
  rw [List.getD_eq_getElem?_getD, List.getElem?_eq_getElem h]
  rfl
set_option maxHeartbeats 8000000 in
set_option maxRecDepth 100000 in
theorem slices_Max_int_int.calls_ (A : Option Addr) (c : Nat) (l : List Int) (w : World) (hr : Kd.C (Kd.int .i64) w A l.length l) (hc : l.length ≤ c) (h1 : 0 < l.length) (hl : l.length ≤ 9223372036854775807) :
    Calls Try.prog 70 #[.slice A l.length c] w fun e w' => e = .returned (.int .i64 (slices_Max_int_int.maxL l)) ∧ Drawn0 w w' := by
  have HR := Aside0.mk hr
  have HC := Aside0.mk hc
  clear hr hc
  have HD := Aside0.mk (Drawn0.refl w)
  have hu3 := Try.underlying3
  have H1 := Aside0.mk h1
  have hm1 : slices_Max_int_int.maxL (l.take 1) = rd l 0 := by
    rw [slices_Max_int_int.rd_at l 0 (by omega)]
    cases l with
    | nil => cases h1
    | cons a b => simp [slices_Max_int_int.maxL]
  have HM := Aside0.mk hm1
  obtain ⟨ad, ead, hx⟩ := Kd.at_int HR.out 0 (by omega) (by omega)
  cases ead
  have e0 : ad.add (Int.toNat 0) = ad := by cases ad; show Addr.add _ 0 = _; unfold Addr.add; split <;> simp_all
  have hx' : w.cell? ad = some (.int .i64 (rd l 0)) := by rw [← e0]; exact hx
  clear e0
  have c0 : ((l.length : Int) < 1) = False := eq_false (by omega)
  have c1 : ((0 : Int) < (l.length : Int)) = True := eq_true (by omega)
  have c3 : (0 < l.length) = True := eq_true h1
  have c4 : (l = []) = False := eq_false (fun e => by rw [e] at h1; cases h1)
  clear hm1 h1
  go_enter Try.func70, Try.ntmps70
  go_wp2
  clear hx hx' c0 c1 c3 c4
  go_loopg [3, 4] (l.length - 1) (fun kq v3 v4 w' => ∃ x : Int, v4 = .int .i64 x ∧ v3 = .int .i64 (slices_Max_int_int.maxL (l.take x.toNat)) ∧ Aside0 (1 ≤ x ∧ x + (kq : Int) = (l.length : Int)) ∧ Aside0 (Drawn0 w w'))
  case atStart => exact ⟨1, by rfl, by rw [show Int.toNat 1 = 1 from rfl, HM.out], ⟨by have := H1.out; omega⟩, HD⟩
  case round =>
    clear HD
    obtain ⟨x, rfl, rfl, HI, HD⟩ := hrel
    by_cases ci : x < (l.length : Int)
    · have hlt : x.toNat < l.length := by have := HI.out; omega
      obtain ⟨ad2, ead2, hx⟩ := Kd.at_int HR.out x (by have := HI.out; omega) ci
      cases ead2
      replace hx := (HD.out.below.cell (World.block_lt_of_cell? w _ hx)).trans hx
      have hst := slices_Max_int_int.maxL_step l x.toNat (by have := HI.out; omega) hlt
      rw [← slices_Max_int_int.rd_at l x hlt] at hst
      have e1 : (x + 1).toNat = x.toNat + 1 := by have := HI.out; omega
      have HST : Aside0 (slices_Max_int_int.maxL (l.take (x + 1).toNat) = if slices_Max_int_int.maxL (l.take x.toNat) < rd l x then rd l x else slices_Max_int_int.maxL (l.take x.toNat)) := ⟨by rw [e1]; exact hst⟩
      have c1 : (0 ≤ x) = True := eq_true (by have := HI.out; omega)
      have c2 := eq_true ci
      clear hst e1 hlt ci
      generalize slices_Max_int_int.maxL (l.take x.toNat) = m at HST ⊢
      by_cases hmr : m < rd l x
      · rw [if_pos hmr] at HST
        replace hmr := eq_true hmr
        go_wp2
        go_roundg (gk - 1)
        case measure => have := HI.out; have := of_eq_true c2; omega
        case rel => exact ⟨x + 1, by congr 1; unfold wrap64; have := HI.out; have := of_eq_true c2; omega, by rw [HST.out], ⟨by have := HI.out; have := of_eq_true c2; omega⟩, HD⟩
      · rw [if_neg hmr] at HST
        replace hmr := eq_false hmr
        go_wp2
        go_roundg (gk - 1)
        case measure => have := HI.out; have := of_eq_true c2; omega
        case rel => exact ⟨x + 1, by congr 1; unfold wrap64; have := HI.out; have := of_eq_true c2; omega, by rw [HST.out], ⟨by have := HI.out; have := of_eq_true c2; omega⟩, HD⟩
    · have c2 := eq_false ci
      have e : l.take x.toNat = l := List.take_of_length_le (by have := HI.out; omega)
      rw [e]
      clear e ci
      go_wp2
      go_ret
      exact ⟨rfl, HD.out⟩
def slices_Max_int_int.f (l : List Int) : Option Int := if 0 < l.length ∧ l.length ≤ 9223372036854775807 then some (slices_Max_int_int.maxL l) else none
theorem slices_Max_int_int.calls (A0 : Option Addr) (c0 : Nat) (l0 : List Int) (r : Int) (w : World) (hr0 : Kd.C (Kd.int .i64) w A0 l0.length l0) (hc0 : l0.length ≤ c0) (h : slices_Max_int_int.f l0 = some r) :
    Calls Try.prog 70 #[.slice A0 l0.length c0] w fun e w' => e = .returned (.int .i64 r) ∧ Drawn0 w w' := by
  unfold slices_Max_int_int.f at h
  by_cases hl : 0 < l0.length ∧ l0.length ≤ 9223372036854775807
  · rw [if_pos hl] at h
    obtain rfl := Option.some.inj h
    exact slices_Max_int_int.calls_ A0 c0 l0 w hr0 hc0 hl.1 hl.2
  · rw [if_neg hl] at h
    cases h

end Go.Proofs.Ytmndcbfdkfhheaa.PFnExactLeastEnd
