-- Written by a program of this session (the kit's print with this session's additions, wip/tools): Lean checks it.
import Derived.Test.YtgaadjlcmgmfaaaGreatDoorPFnExactBestFromx0
import Derived.Test.YtgaadjlcmgmfaaaGreatDoorPFnExactBestFromx7
import Derived.Test.YtgaadjlcmgmfaaaGreatDoorPFnExactBestFromx8
namespace Go.Proofs.YtgaadjlcmgmfaaaGreatDoor.PFnExactBestFrom
open Go.RowKit Go.Proofs.YtgaadjlcmgmfaaaGreatDoorW.PrintWords Go.Proofs.YtgaadjlcmgmfaaaGreatDoorW.PrintLast Go.Proofs.YtgaadjlcmgmfaaaGreatDoorW.PrintMore
attribute [local go_sem] max2_int min2_int max_two min_two max_three min_three max_four min_four   -- for this text's walks alone
set_option linter.unusedVariables false
set_option linter.unusedSimpArgs false

/-! ### slices_Index_string_string: function 99 -/
def slices_Index_string_string.l0 : Nat → List ByteArray → ByteArray → Int → Int → Option (Int)
  | 0, _, _, _, _ => none
  | k + 1, x0, x1, x7, x8 => if x8 < x7 then (if 0 ≤ x8 then (if x8 < (x0.length : Int) then (if x1.toList = (rdOf ByteArray.empty x0 x8).toList then (some x8) else (slices_Index_string_string.l0 k x0 x1 x7 (wrap64 (x8 + 1)))) else (none)) else (none)) else (some (-1))
def slices_Index_string_string.f (k : Nat) (l0 : List ByteArray) (a1 : ByteArray) : Option (Int) := slices_Index_string_string.l0 k l0 a1 (l0.length : Int) 0
theorem slices_Index_string_string.mono_l : ∀ k, (∀ y0 y1 y2 y3, LeO (slices_Index_string_string.l0 k y0 y1 y2 y3) (slices_Index_string_string.l0 (k + 1) y0 y1 y2 y3))
  | 0 => fun _ _ _ _ r h => by simp [slices_Index_string_string.l0] at h
  | k + 1 => by
    have ih0 := slices_Index_string_string.mono_l k
    · intro y0 y1 y2 y3
      unfold slices_Index_string_string.l0
      repeat' first
      | (with_reducible exact ih0 _ _ _ _)
      | (with_reducible exact LeO.refl _)
      | (with_reducible exact LeO.none _)
      | (with_reducible refine LeO.ite ?_ ?_)
      | (with_reducible refine LeO.bind ?_ (fun _ => ?_))
      | exact ih0 _ _ _ _
      | exact LeO.none _
      | refine LeO.ite ?_ ?_
      | refine LeO.bind ?_ (fun _ => ?_)
theorem slices_Index_string_string.mono : ∀ a0 a1 k, LeO (slices_Index_string_string.f k a0 a1) (slices_Index_string_string.f (k + 1) a0 a1) := by
  intro a0 a1 k
  have ih0 := slices_Index_string_string.mono_l k
  unfold slices_Index_string_string.f
  repeat' first
      | (with_reducible exact ih0 _ _ _ _)
      | (with_reducible exact LeO.refl _)
      | (with_reducible exact LeO.none _)
      | (with_reducible refine LeO.ite ?_ ?_)
      | (with_reducible refine LeO.bind ?_ (fun _ => ?_))
      | exact ih0 _ _ _ _
      | exact LeO.none _
      | refine LeO.ite ?_ ?_
      | refine LeO.bind ?_ (fun _ => ?_)
set_option maxHeartbeats 8000000 in
set_option maxRecDepth 100000 in
theorem slices_Index_string_string.calls (k : Nat) (A0 : Option Addr) (c0 : Nat) (l0 : List ByteArray) (a1 : ByteArray) (r : Int) (w : World) (hr0 : Kd.C Kd.string w A0 l0.length l0) (hc0 : l0.length ≤ c0) (h : slices_Index_string_string.f k l0 a1 = some r) :
    Calls Tryz.prog 99 #[.slice A0 l0.length c0, .string a1] w fun e w' => e = .returned (.int .i64 r) ∧ Drawn0 w w' := by
  have HR0 := Aside0.mk hr0
  have HC0 := Aside0.mk hc0
  clear hr0 hc0
  have H : (slices_Index_string_string.l0 k l0 a1 (l0.length : Int) 0) = some r := h
  clear h
  have H' := Aside0.mk H
  clear H
  go_enter Tryz.func99, Tryz.ntmps99
  go_wp2
  go_loopg [8] k (fun kq v8 w' => ∃ (x8_1 : Int), v8 = .int .i64 x8_1 ∧ Aside0 (slices_Index_string_string.l0 kq l0 a1 (l0.length : Int) x8_1 = some r) ∧ Aside0 (kq ≤ k) ∧ Drawn0 w w')
  case atStart => exact ⟨(0), (by first | rfl | (simp; done) | (simp [*]; done)), H', ⟨Nat.le_refl _⟩, by repeat (first | exact Drawn0.refl _ | apply Drawn0.step)⟩
  case round =>
    clear H'
    try clear p2
    obtain ⟨x8_1, rfl, HA, HK1, ⟨m1, rfl⟩⟩ := hrel
    cases gk with
    | zero => exact absurd HA.out (by simp [slices_Index_string_string.l0])
    | succ k1 =>
      have H := HA.out
      clear HA
      simp only [slices_Index_string_string.l0] at H
      by_cases c3 : x8_1 < (l0.length : Int)
      · rw [if_pos c3] at H
        have c3b0 : decide (x8_1 < (l0.length : Int)) = true := decide_eq_true c3
        clear c3
        by_cases c4 : 0 ≤ x8_1
        · rw [if_pos c4] at H
          have c4b0 : decide (0 ≤ x8_1) = true := decide_eq_true c4
          clear c4
          by_cases c5 : x8_1 < (l0.length : Int)
          · rw [if_pos c5] at H
            have c5b0 : decide (x8_1 < (l0.length : Int)) = true := decide_eq_true c5
            clear c5
            by_cases c6 : a1.toList = (rdOf ByteArray.empty l0 x8_1).toList
            · rw [if_pos c6] at H
              have c6b0 : (a1.toList == (rdOf ByteArray.empty l0 x8_1).toList) = true := beq_iff_eq.mpr c6
              have c6b1 : (a1.toList != (rdOf ByteArray.empty l0 x8_1).toList) = false := bne_eq_false_iff_eq.mpr c6
              clear c6
              obtain rfl := Option.some.inj H
              have p248 : 0 ≤ (x8_1 : Int) := of_decide_eq_true (by first | (with_reducible assumption) | assumption)
              have q248 : x8_1 < (l0.length : Int) := of_decide_eq_true (by first | (with_reducible assumption) | assumption)
              obtain ⟨ad248, e248, hx248_0⟩ := Kd.at_string HR0.out x8_1 p248 q248
              cases e248
              replace p248 := eq_true p248
              replace q248 := eq_true q248
              go_wp2
              go_ret
              exact ⟨by first | rfl | (simp; done) | (simp [*]; done), by repeat (first | exact Drawn0.refl _ | apply Drawn0.step)⟩
            · rw [if_neg c6] at H
              have c6b0 : (a1.toList == (rdOf ByteArray.empty l0 x8_1).toList) = false := beq_eq_false_iff_ne.mpr c6
              have c6b1 : (a1.toList != (rdOf ByteArray.empty l0 x8_1).toList) = true := bne_iff_ne.mpr c6
              have H' := Aside0.mk H
              clear H
              have p248 : 0 ≤ (x8_1 : Int) := of_decide_eq_true (by first | (with_reducible assumption) | assumption)
              have q248 : x8_1 < (l0.length : Int) := of_decide_eq_true (by first | (with_reducible assumption) | assumption)
              obtain ⟨ad248, e248, hx248_0⟩ := Kd.at_string HR0.out x8_1 p248 q248
              cases e248
              replace p248 := eq_true p248
              replace q248 := eq_true q248
              go_wp2
              go_roundg k1
              case measure => have := HK1.out; omega
              case rel => exact ⟨(wrap64 (x8_1 + 1)), (by first | rfl | (simp; done) | (simp [*]; done) | (simp only [i64_w]; done) | (simp only [i64_w]; rfl) | (simp only [decide_eq_true_eq] at *; congr 1; unfold wrap64; omega)), H', ⟨by have := HK1.out; omega⟩, by repeat (first | exact Drawn0.refl _ | apply Drawn0.step)⟩
          · rw [if_neg c5] at H
            exact absurd H (by simp)
        · rw [if_neg c4] at H
          exact absurd H (by simp)
      · rw [if_neg c3] at H
        have c3b0 : decide (x8_1 < (l0.length : Int)) = false := decide_eq_false c3
        clear c3
        obtain rfl := Option.some.inj H
        go_wp2
        go_ret
        exact ⟨by first | rfl | (simp; done) | (simp [*]; done), by repeat (first | exact Drawn0.refl _ | apply Drawn0.step)⟩

/-! ### slices_Contains_string_string: function 70 -/
def slices_Contains_string_string.f (k : Nat) (l0 : List ByteArray) (a1 : ByteArray) : Option (Bool) := (slices_Index_string_string.f k l0 a1).bind fun t249 => (some (decide (t249 ≥ 0)))
theorem slices_Contains_string_string.mono : ∀ a0 a1 k, LeO (slices_Contains_string_string.f k a0 a1) (slices_Contains_string_string.f (k + 1) a0 a1) := by
  intro a0 a1 k
  unfold slices_Contains_string_string.f
  repeat' first
      | (with_reducible exact slices_Index_string_string.mono _ _ _)
      | (with_reducible exact LeO.refl _)
      | (with_reducible exact LeO.none _)
      | (with_reducible refine LeO.ite ?_ ?_)
      | (with_reducible refine LeO.bind ?_ (fun _ => ?_))
      | exact slices_Index_string_string.mono _ _ _
      | exact LeO.none _
      | refine LeO.ite ?_ ?_
      | refine LeO.bind ?_ (fun _ => ?_)
set_option maxHeartbeats 8000000 in
set_option maxRecDepth 100000 in
theorem slices_Contains_string_string.calls (k : Nat) (A0 : Option Addr) (c0 : Nat) (l0 : List ByteArray) (a1 : ByteArray) (r : Bool) (w : World) (hr0 : Kd.C Kd.string w A0 l0.length l0) (hc0 : l0.length ≤ c0) (h : slices_Contains_string_string.f k l0 a1 = some r) :
    Calls Tryz.prog 70 #[.slice A0 l0.length c0, .string a1] w fun e w' => e = .returned (.bool r) ∧ Drawn0 w w' := by
  have HR0 := Aside0.mk hr0
  have HC0 := Aside0.mk hc0
  clear hr0 hc0
  have H : ((slices_Index_string_string.f k l0 a1).bind fun t249 => (some (decide (t249 ≥ 0)))) = some r := h
  clear h
  replace H := Option.bind_eq_some_iff.mp H
  obtain ⟨t249, A30, H⟩ := H
  replace H : (some (decide (t249 ≥ 0))) = some r := H
  have A3 := Aside0.mk A30
  clear A30
  obtain rfl := Option.some.inj H
  go_enter Tryz.func70, Tryz.ntmps70
  go_wp2_with (first | ((with_reducible refine gate_callee (f := 99) rfl ?_); refine goesL_ (some 7) rfl rfl Tryz.func99 (by kernel_rfl) rfl #[.slice A0 l0.length c0, .string a1] rfl (by (try simp only [List.map_toArray, List.map_cons, List.map_nil]); first | done | rfl | (simp only [List.length_drop, List.length_take]; rfl)) ?_; (with_reducible refine (slices_Index_string_string.calls k _ _ l0 a1 t249 _ ?side1 ?side2 A3.out).mono ?_); (case side1 => repeat (first | exact HR0.out | (with_reducible refine Kd.C_alloc ?_ _) | (with_reducible refine Kd.C_drewN ?_ _) | (with_reducible refine Kd.C_drew ?_))); (case side2 => exact HC0.out); rintro e w' ⟨rfl, ⟨nd, rfl⟩⟩; refine ⟨_, rfl, ?_⟩))
  go_ret
  exact ⟨by first | rfl | (simp; done) | (simp [*]; done), by repeat (first | exact Drawn0.refl _ | apply Drawn0.step)⟩

/-! ### impl_isTable: function 39 -/
def impl_isTable.l0 : Nat → List ByteArray → Int → Int → List ByteArray → Option (Bool)
  | 0, _, _, _, _ => none
  | k + 1, x6, x7, x8, x251000 => if x8 < x7 then (if 0 ≤ x8 then (if x8 < (x6.length : Int) then ((impl_isLetterMarks.f (rdOf ByteArray.empty x6 x8)).bind fun t253 => (if t253 = true then (if x8 ≤ (x251000.length : Int) then ((slices_Contains_string_string.f k (x251000.take (x8 : Int).toNat) (rdOf ByteArray.empty x6 x8)).bind fun t255 => (if t255 = true then (some false) else (impl_isTable.l0 k x6 x7 (wrap64 (x8 + 1)) x251000))) else (none)) else (some false))) else (none)) else (none)) else ((impl_in.f (x251000.length : Int) 1 10).bind fun t251 => (some t251))
def impl_isTable.f (k : Nat) (l0_0 : List ByteArray) : Option (Bool) := impl_isTable.l0 k l0_0 (l0_0.length : Int) 0 l0_0
theorem impl_isTable.mono_l : ∀ k, (∀ y0 y1 y2 y3, LeO (impl_isTable.l0 k y0 y1 y2 y3) (impl_isTable.l0 (k + 1) y0 y1 y2 y3))
  | 0 => fun _ _ _ _ r h => by simp [impl_isTable.l0] at h
  | k + 1 => by
    have ih0 := impl_isTable.mono_l k
    · intro y0 y1 y2 y3
      unfold impl_isTable.l0
      repeat' first
      | (with_reducible exact ih0 _ _ _ _)
      | (with_reducible exact slices_Contains_string_string.mono _ _ _)
      | (with_reducible exact LeO.refl _)
      | (with_reducible exact LeO.none _)
      | (with_reducible refine LeO.ite ?_ ?_)
      | (with_reducible refine LeO.bind ?_ (fun _ => ?_))
      | exact ih0 _ _ _ _
      | exact slices_Contains_string_string.mono _ _ _
      | exact LeO.none _
      | refine LeO.ite ?_ ?_
      | refine LeO.bind ?_ (fun _ => ?_)
theorem impl_isTable.mono : ∀ a0 k, LeO (impl_isTable.f k a0) (impl_isTable.f (k + 1) a0) := by
  intro a0 k
  have ih0 := impl_isTable.mono_l k
  unfold impl_isTable.f
  repeat' first
      | (with_reducible exact ih0 _ _ _ _)
      | (with_reducible exact slices_Contains_string_string.mono _ _ _)
      | (with_reducible exact LeO.refl _)
      | (with_reducible exact LeO.none _)
      | (with_reducible refine LeO.ite ?_ ?_)
      | (with_reducible refine LeO.bind ?_ (fun _ => ?_))
      | exact ih0 _ _ _ _
      | exact slices_Contains_string_string.mono _ _ _
      | exact LeO.none _
      | refine LeO.ite ?_ ?_
      | refine LeO.bind ?_ (fun _ => ?_)
set_option maxHeartbeats 8000000 in
set_option maxRecDepth 100000 in
theorem impl_isTable.calls (k : Nat) (A0_0 : Option Addr) (c0_0 : Nat) (l0_0 : List ByteArray) (r : Bool) (w : World) (hr0_0 : Kd.C Kd.string w A0_0 l0_0.length l0_0) (hc0_0 : l0_0.length ≤ c0_0) (h : impl_isTable.f k l0_0 = some r) :
    Calls Tryz.prog 39 #[.agg #[.slice A0_0 l0_0.length c0_0]] w fun e w' => e = .returned (.bool r) ∧ Below w.heap.size w w' := by
  have hu29 := Tryz.underlying29
  have HR0_0 := Aside0.mk hr0_0
  have HC0_0 := Aside0.mk hc0_0
  clear hr0_0 hc0_0
  have HB := Aside0.mk (Below.refl w.heap.size w)
  have H : (impl_isTable.l0 k l0_0 (l0_0.length : Int) 0 l0_0) = some r := h
  clear h
  have H' := Aside0.mk H
  clear H
  go_enter Tryz.func39, Tryz.ntmps39
  go_wp2_with (first | ((with_reducible refine gate_dst (N := 1) rfl ?_); refine box_event ?hg (N := 1) ?hd (cs := #[.slice A0_0 l0_0.length c0_0]) (t := 29) ?hr ?_; (case hd => rfl); (case hg => rfl); (case hr => first | (go_simp; done) | (go_simp; rfl)); intro gb250 hg w2 hbox hb; have n0_ := Aside0.mk (below_step (by repeat (first | (with_reducible first | exact HB.out | apply below_alloc | apply pw_below_drewN | apply below_drew1) | exact HB.out)) hb); have n1_ := Aside0.mk (hbox); have n2_ := Aside0.mk ((by rw [hg]; exact (below_size (by repeat (first | (with_reducible first | exact HB.out | apply below_alloc | apply pw_below_drewN | apply below_drew1) | exact HB.out))) : w.heap.size ≤ gb250)); have n3_ := Aside0.mk ((by rw [hg]; exact (below_size (by repeat (first | (with_reducible first | exact HB.out | apply below_alloc | apply pw_below_drewN | apply below_drew1) | exact HB.out))) : w.heap.size ≤ gb250)); clear HB; have HB := n0_; have BK250 := n1_; have GW250 := n2_; have GE250 := n3_; clear n0_ n1_ n2_ n3_; clear hb hbox hg; have hcz3_0 : w2.cell? ⟨gb250, 0, none⟩ = some (.slice A0_0 l0_0.length c0_0) := (blk_cell BK250.out 0).trans rfl; have hfz3_0 := blk_frozen BK250.out 0))
  go_loopg [8] k (fun kq v8 w' => ∃ (x8_1 : Int), v8 = .int .i64 x8_1 ∧ Aside0 (impl_isTable.l0 kq l0_0 (l0_0.length : Int) x8_1 l0_0 = some r) ∧ Aside0 (kq ≤ k) ∧ Aside0 (w'.heap[gb250]? = some (.cells #[(.slice A0_0 l0_0.length c0_0)] 29 (0, 0))) ∧ Aside0 (Below w.heap.size w w'))
  case atStart => exact ⟨(0), (by first | rfl | (simp; done) | (simp [*]; done)), H', ⟨Nat.le_refl _⟩, ⟨by (with_reducible repeat (first | refine blk_drewN ?_ _ | refine blk_drew ?_ | refine blk_alloc ?_ _)); exact BK250.out⟩, ⟨by repeat (first | (with_reducible first | exact HB.out | apply below_alloc | apply pw_below_drewN | apply below_drew1 | refine below_set ?_ GE250.out) | exact HB.out)⟩⟩
  case round =>
    clear H'
    try clear p2
    try clear c3
    try clear hcz3_0
    try clear hfz3_0
    obtain ⟨x8_1, rfl, HA, HK1, BK250, HB⟩ := hrel
    cases gk with
    | zero => exact absurd HA.out (by simp [impl_isTable.l0])
    | succ k1 =>
      have H := HA.out
      clear HA
      simp only [impl_isTable.l0] at H
      by_cases c4 : x8_1 < (l0_0.length : Int)
      · rw [if_pos c4] at H
        have c4b0 : decide (x8_1 < (l0_0.length : Int)) = true := decide_eq_true c4
        clear c4
        by_cases c5 : 0 ≤ x8_1
        · rw [if_pos c5] at H
          have c5b0 : decide (0 ≤ x8_1) = true := decide_eq_true c5
          clear c5
          by_cases c6 : x8_1 < (l0_0.length : Int)
          · rw [if_pos c6] at H
            have c6b0 : decide (x8_1 < (l0_0.length : Int)) = true := decide_eq_true c6
            clear c6
            replace H := Option.bind_eq_some_iff.mp H
            obtain ⟨t253, A70, H⟩ := H
            replace H : (if t253 = true then (if x8_1 ≤ (l0_0.length : Int) then ((slices_Contains_string_string.f k1 (l0_0.take (x8_1 : Int).toNat) (rdOf ByteArray.empty l0_0 x8_1)).bind fun t255 => (if t255 = true then (some false) else (impl_isTable.l0 k1 l0_0 (l0_0.length : Int) (wrap64 (x8_1 + 1)) l0_0))) else (none)) else (some false)) = some r := H
            have A7 := Aside0.mk A70
            clear A70
            by_cases c8 : t253 = true
            · subst c8
              have H1 : (if x8_1 ≤ (l0_0.length : Int) then ((slices_Contains_string_string.f k1 (l0_0.take (x8_1 : Int).toNat) (rdOf ByteArray.empty l0_0 x8_1)).bind fun t255 => (if t255 = true then (some false) else (impl_isTable.l0 k1 l0_0 (l0_0.length : Int) (wrap64 (x8_1 + 1)) l0_0))) else (none)) = some r := by rw [if_pos rfl] at H; first | exact H | (simp only [if_true, eq_self] at H ⊢; exact H)
              clear H
              have H := H1
              clear H1
              have c9b0 := eq_true (of_decide_eq_true (by first | (with_reducible assumption) | assumption) : 0 ≤ x8_1)
              by_cases c10 : x8_1 ≤ (l0_0.length : Int)
              · rw [if_pos c10] at H
                have c10b0 := eq_true c10
                have c10b1 : decide (x8_1 ≤ (l0_0.length : Int)) = true := decide_eq_true c10
                clear c10
                replace H := Option.bind_eq_some_iff.mp H
                obtain ⟨t255, A110, H⟩ := H
                replace H : (if t255 = true then (some false) else (impl_isTable.l0 k1 l0_0 (l0_0.length : Int) (wrap64 (x8_1 + 1)) l0_0)) = some r := H
                have A11 := Aside0.mk A110
                clear A110
                by_cases c12 : t255 = true
                · subst c12
                  have H1 : (some false) = some r := by rw [if_pos rfl] at H; first | exact H | (simp only [if_true, eq_self] at H ⊢; exact H)
                  clear H
                  have H := H1
                  clear H1
                  obtain rfl := Option.some.inj H
                  have p252 : 0 ≤ (x8_1 : Int) := of_decide_eq_true (by first | (with_reducible assumption) | assumption)
                  have q252 : x8_1 < (l0_0.length : Int) := of_decide_eq_true (by first | (with_reducible assumption) | assumption)
                  obtain ⟨ad252, e252, hx252_0⟩ := Kd.at_string HR0_0.out x8_1 p252 q252
                  cases e252
                  (try replace hx252_0 := (HB.out.cell (World.block_lt_of_cell? w _ hx252_0)).trans hx252_0)
                  replace p252 := eq_true p252
                  replace q252 := eq_true q252
                  go_wp2_with (first | ((with_reducible refine gate_callee (f := 69) rfl ?_); refine goesL_ (some 14) rfl rfl Tryz.func69 (by kernel_rfl) rfl #[.string (rdOf ByteArray.empty l0_0 x8_1)] rfl (by (try simp only [List.map_toArray, List.map_cons, List.map_nil]); first | done | rfl | (simp only [List.length_drop, List.length_take]; rfl)) ?_; (with_reducible refine (impl_isLetterMarks.calls (rdOf ByteArray.empty l0_0 x8_1) true _ A7.out).mono ?_); rintro e w13 ⟨rfl, hb⟩; refine ⟨_, rfl, ?_⟩; have n0_ := Aside0.mk (blk_below (g := gb250) (o := .cells #[.slice (some ad252) l0_0.length c0_0] 29 (0, 0)) (by (with_reducible repeat (first | refine blk_drewN ?_ _ | refine blk_drew ?_ | refine blk_alloc ?_ _)); exact BK250.out) hb); have n1_ := Aside0.mk (below_step (by repeat (first | (with_reducible first | exact HB.out | apply below_alloc | apply pw_below_drewN | apply below_drew1 | refine below_set ?_ GE250.out) | exact HB.out)) hb); clear BK250; clear HB; have BK250 := n0_; have HB := n1_; clear n0_ n1_; (try clear hb); (try clear hb2); (try clear hk); (try clear hi); have hcz14_0 : w13.cell? ⟨gb250, 0, none⟩ = some (.slice (some ad252) l0_0.length c0_0) := (blk_cell BK250.out 0).trans rfl; have hfz14_0 := blk_frozen BK250.out 0; obtain ⟨i015, hi015, _, hsz15, _⟩ := info_parts info9; obtain ⟨hcut15, hA15, hC15⟩ := print_take_of (P := Tryz.prog) Value.string (⟨#[]⟩ : ByteArray) 22 9 .i64 Tryz.underlying22 hi015 hsz15 (some ad252) c0_0 l0_0 x8_1 (of_decide_eq_true (by first | (with_reducible assumption) | assumption)) (of_decide_eq_true (by first | (with_reducible assumption) | assumption)) HC0_0.out; have HR254 := Aside0.mk (Kd.C_of_reads (h1 := fun _ => rfl) (hA15 _ (Kd.reads_of_C HR0_0.out))); have HC254 := Aside0.mk hC15; clear hA15 hC15 hi015 hsz15) | (go_at_call 70; refine calls_of_args (args' := #[.slice (some ad252) (l0_0.take (x8_1 : Int).toNat).length c0_0, .string (rdOf ByteArray.empty l0_0 x8_1)]) (by first | (rw [show (l0_0.take (x8_1 : Int).toNat).length = x8_1.toNat from (by rw [List.length_take]; have h_ : (x8_1 : Int) ≤ (l0_0.length : Int) := of_decide_eq_true (by first | (with_reducible assumption) | assumption); omega)] <;> rfl) | rfl) ?_; (with_reducible refine (slices_Contains_string_string.calls k1 _ _ (l0_0.take (x8_1 : Int).toNat) (rdOf ByteArray.empty l0_0 x8_1) true _ ?side1 ?side2 A11.out).mono ?_); (case side1 => repeat (first | exact (Kd.C_below HR254.out HB.out) | (with_reducible refine Kd.C_alloc ?_ _) | (with_reducible refine Kd.C_drewN ?_ _) | (with_reducible refine Kd.C_drew ?_))); (case side2 => exact HC254.out); rintro e w' ⟨rfl, ⟨nd, rfl⟩⟩))
                  go_ret
                  exact ⟨by first | rfl | (simp [errW_none, errW_some] <;> rfl) | (simp [*, errW_none, errW_some] <;> rfl), by repeat (first | (with_reducible first | exact HB.out | apply below_alloc | apply pw_below_drewN | apply below_drew1 | refine below_set ?_ GE250.out) | exact HB.out)⟩
                · replace c12 := Bool.eq_false_iff.mpr c12
                  subst c12
                  have H1 : (impl_isTable.l0 k1 l0_0 (l0_0.length : Int) (wrap64 (x8_1 + 1)) l0_0) = some r := by rw [if_neg (show ¬ (false = true) by decide)] at H; first | exact H | (simp only [if_true, eq_self] at H ⊢; exact H)
                  clear H
                  have H := H1
                  clear H1
                  have H' := Aside0.mk H
                  clear H
                  have p252 : 0 ≤ (x8_1 : Int) := of_decide_eq_true (by first | (with_reducible assumption) | assumption)
                  have q252 : x8_1 < (l0_0.length : Int) := of_decide_eq_true (by first | (with_reducible assumption) | assumption)
                  obtain ⟨ad252, e252, hx252_0⟩ := Kd.at_string HR0_0.out x8_1 p252 q252
                  cases e252
                  (try replace hx252_0 := (HB.out.cell (World.block_lt_of_cell? w _ hx252_0)).trans hx252_0)
                  replace p252 := eq_true p252
                  replace q252 := eq_true q252
                  go_wp2_with (first | ((with_reducible refine gate_callee (f := 69) rfl ?_); refine goesL_ (some 14) rfl rfl Tryz.func69 (by kernel_rfl) rfl #[.string (rdOf ByteArray.empty l0_0 x8_1)] rfl (by (try simp only [List.map_toArray, List.map_cons, List.map_nil]); first | done | rfl | (simp only [List.length_drop, List.length_take]; rfl)) ?_; (with_reducible refine (impl_isLetterMarks.calls (rdOf ByteArray.empty l0_0 x8_1) true _ A7.out).mono ?_); rintro e w16 ⟨rfl, hb⟩; refine ⟨_, rfl, ?_⟩; have n0_ := Aside0.mk (blk_below (g := gb250) (o := .cells #[.slice (some ad252) l0_0.length c0_0] 29 (0, 0)) (by (with_reducible repeat (first | refine blk_drewN ?_ _ | refine blk_drew ?_ | refine blk_alloc ?_ _)); exact BK250.out) hb); have n1_ := Aside0.mk (below_step (by repeat (first | (with_reducible first | exact HB.out | apply below_alloc | apply pw_below_drewN | apply below_drew1 | refine below_set ?_ GE250.out) | exact HB.out)) hb); clear BK250; clear HB; have BK250 := n0_; have HB := n1_; clear n0_ n1_; (try clear hb); (try clear hb2); (try clear hk); (try clear hi); have hcz17_0 : w16.cell? ⟨gb250, 0, none⟩ = some (.slice (some ad252) l0_0.length c0_0) := (blk_cell BK250.out 0).trans rfl; have hfz17_0 := blk_frozen BK250.out 0; obtain ⟨i018, hi018, _, hsz18, _⟩ := info_parts info9; obtain ⟨hcut18, hA18, hC18⟩ := print_take_of (P := Tryz.prog) Value.string (⟨#[]⟩ : ByteArray) 22 9 .i64 Tryz.underlying22 hi018 hsz18 (some ad252) c0_0 l0_0 x8_1 (of_decide_eq_true (by first | (with_reducible assumption) | assumption)) (of_decide_eq_true (by first | (with_reducible assumption) | assumption)) HC0_0.out; have HR254 := Aside0.mk (Kd.C_of_reads (h1 := fun _ => rfl) (hA18 _ (Kd.reads_of_C HR0_0.out))); have HC254 := Aside0.mk hC18; clear hA18 hC18 hi018 hsz18) | (go_at_call 70; refine calls_of_args (args' := #[.slice (some ad252) (l0_0.take (x8_1 : Int).toNat).length c0_0, .string (rdOf ByteArray.empty l0_0 x8_1)]) (by first | (rw [show (l0_0.take (x8_1 : Int).toNat).length = x8_1.toNat from (by rw [List.length_take]; have h_ : (x8_1 : Int) ≤ (l0_0.length : Int) := of_decide_eq_true (by first | (with_reducible assumption) | assumption); omega)] <;> rfl) | rfl) ?_; (with_reducible refine (slices_Contains_string_string.calls k1 _ _ (l0_0.take (x8_1 : Int).toNat) (rdOf ByteArray.empty l0_0 x8_1) false _ ?side1 ?side2 A11.out).mono ?_); (case side1 => repeat (first | exact (Kd.C_below HR254.out HB.out) | (with_reducible refine Kd.C_alloc ?_ _) | (with_reducible refine Kd.C_drewN ?_ _) | (with_reducible refine Kd.C_drew ?_))); (case side2 => exact HC254.out); rintro e w' ⟨rfl, ⟨nd, rfl⟩⟩))
                  go_roundg k1
                  case measure => have := HK1.out; omega
                  case rel => exact ⟨(wrap64 (x8_1 + 1)), (by first | rfl | (simp; done) | (simp [*]; done) | (simp only [i64_w]; done) | (simp only [i64_w]; rfl) | (simp only [decide_eq_true_eq] at *; congr 1; unfold wrap64; omega)), H', ⟨by have := HK1.out; omega⟩, ⟨by (with_reducible repeat (first | refine blk_drewN ?_ _ | refine blk_drew ?_ | refine blk_alloc ?_ _)); exact BK250.out⟩, ⟨by repeat (first | (with_reducible first | exact HB.out | apply below_alloc | apply pw_below_drewN | apply below_drew1 | refine below_set ?_ GE250.out) | exact HB.out)⟩⟩
              · rw [if_neg c10] at H
                exact absurd H (by simp)
            · replace c8 := Bool.eq_false_iff.mpr c8
              subst c8
              have H1 : (some false) = some r := by rw [if_neg (show ¬ (false = true) by decide)] at H; first | exact H | (simp only [if_true, eq_self] at H ⊢; exact H)
              clear H
              have H := H1
              clear H1
              obtain rfl := Option.some.inj H
              have p252 : 0 ≤ (x8_1 : Int) := of_decide_eq_true (by first | (with_reducible assumption) | assumption)
              have q252 : x8_1 < (l0_0.length : Int) := of_decide_eq_true (by first | (with_reducible assumption) | assumption)
              obtain ⟨ad252, e252, hx252_0⟩ := Kd.at_string HR0_0.out x8_1 p252 q252
              cases e252
              (try replace hx252_0 := (HB.out.cell (World.block_lt_of_cell? w _ hx252_0)).trans hx252_0)
              replace p252 := eq_true p252
              replace q252 := eq_true q252
              go_wp2_with (first | ((with_reducible refine gate_callee (f := 69) rfl ?_); refine goesL_ (some 14) rfl rfl Tryz.func69 (by kernel_rfl) rfl #[.string (rdOf ByteArray.empty l0_0 x8_1)] rfl (by (try simp only [List.map_toArray, List.map_cons, List.map_nil]); first | done | rfl | (simp only [List.length_drop, List.length_take]; rfl)) ?_; (with_reducible refine (impl_isLetterMarks.calls (rdOf ByteArray.empty l0_0 x8_1) false _ A7.out).mono ?_); rintro e w19 ⟨rfl, hb⟩; refine ⟨_, rfl, ?_⟩; have n0_ := Aside0.mk (blk_below (g := gb250) (o := .cells #[.slice (some ad252) l0_0.length c0_0] 29 (0, 0)) (by (with_reducible repeat (first | refine blk_drewN ?_ _ | refine blk_drew ?_ | refine blk_alloc ?_ _)); exact BK250.out) hb); have n1_ := Aside0.mk (below_step (by repeat (first | (with_reducible first | exact HB.out | apply below_alloc | apply pw_below_drewN | apply below_drew1 | refine below_set ?_ GE250.out) | exact HB.out)) hb); clear BK250; clear HB; have BK250 := n0_; have HB := n1_; clear n0_ n1_; (try clear hb); (try clear hb2); (try clear hk); (try clear hi)))
              go_ret
              exact ⟨by first | rfl | (simp [errW_none, errW_some] <;> rfl) | (simp [*, errW_none, errW_some] <;> rfl), by repeat (first | (with_reducible first | exact HB.out | apply below_alloc | apply pw_below_drewN | apply below_drew1 | refine below_set ?_ GE250.out) | exact HB.out)⟩
          · rw [if_neg c6] at H
            exact absurd H (by simp)
        · rw [if_neg c5] at H
          exact absurd H (by simp)
      · rw [if_neg c4] at H
        have c4b0 : decide (x8_1 < (l0_0.length : Int)) = false := decide_eq_false c4
        clear c4
        replace H := Option.bind_eq_some_iff.mp H
        obtain ⟨t251, A200, H⟩ := H
        replace H : (some t251) = some r := H
        have A20 := Aside0.mk A200
        clear A200
        obtain rfl := Option.some.inj H
        have hcz21_0 : wr.cell? ⟨gb250, 0, none⟩ = some (.slice A0_0 l0_0.length c0_0) := (blk_cell BK250.out 0).trans rfl
        have hfz21_0 := blk_frozen BK250.out 0
        go_wp2_with (first | ((with_reducible refine gate_callee (f := 71) rfl ?_); refine goesL_ (some 28) rfl rfl Tryz.func71 (by kernel_rfl) rfl #[.int .i64 (l0_0.length : Int), .int .i64 1, .int .i64 10] rfl (by (try simp only [List.map_toArray, List.map_cons, List.map_nil]); first | done | rfl | (simp only [List.length_drop, List.length_take]; rfl)) ?_; (with_reducible refine (impl_in.calls (l0_0.length : Int) 1 10 t251 _ A20.out).mono ?_); rintro e w' ⟨rfl, ⟨nd, rfl⟩⟩; refine ⟨_, rfl, ?_⟩))
        go_ret
        exact ⟨by first | rfl | (simp [errW_none, errW_some] <;> rfl) | (simp [*, errW_none, errW_some] <;> rfl), by repeat (first | (with_reducible first | exact HB.out | apply below_alloc | apply pw_below_drewN | apply below_drew1 | refine below_set ?_ GE250.out) | exact HB.out)⟩

/-! ### impl_areWeights: function 40 -/
theorem impl_areWeights_.trans {w w' w'' : World} (h : Drawn0 w w') (h' : Drawn0 w' w'') : Drawn0 w w'' := by
  obtain ⟨n, rfl⟩ := h'.out
  exact h.step n
set_option maxHeartbeats 8000000 in
set_option maxRecDepth 100000 in
theorem impl_areWeights_.index (g : Nat) (p : Int → Bool) (eg : ∀ args w, (callFunc g args).run Tryz.prog w = .ok (.enter g args) w)
    (hg : ∀ (x : Int) (W : World), Calls Tryz.prog g #[.int .i64 x] W fun e W' => e = .returned (.bool (p x)) ∧ Drawn0 W W')
    (A : Option Addr) (c : Nat) (l : List Int) (w : World) (hr : Kd.C (Kd.int .i64) w A l.length l) (hc : l.length ≤ c) (hl : l.length ≤ 9223372036854775807) :
    Calls Tryz.prog 100 #[.slice A l.length c, .func (.func g) #[] #[]] w fun e w' => (∃ i : Int, e = .returned (.int .i64 i) ∧ decide (0 ≤ i) = l.any p) ∧ Drawn0 w w' := by
  have HR := Aside0.mk hr
  have HC := Aside0.mk hc
  clear hr hc
  have HD := Aside0.mk (Drawn0.refl w)
  have hu3 := Tryz.underlying3
  go_enter Tryz.func100, Tryz.ntmps100
  go_wp2
  go_loopg [8] l.length (fun kq v8 w' => ∃ x : Int, v8 = .int .i64 x ∧ Aside0 (0 ≤ x ∧ x + (kq : Int) = (l.length : Int)) ∧ Aside0 (∀ j (h : j < l.length), (j : Int) < x → p l[j] = false) ∧ Aside0 (Drawn0 w w'))
  case atStart => exact ⟨0, by rfl, ⟨by omega⟩, ⟨fun j _ h => by omega⟩, HD⟩
  case round =>
    clear HD
    obtain ⟨x, rfl, HI, HP, HD⟩ := hrel
    by_cases ci : x < (l.length : Int)
    · have hlt : x.toNat < l.length := by have := HI.out; omega
      obtain ⟨ad, ead, hx⟩ := Kd.at_int HR.out x HI.out.1 ci
      cases ead
      replace hx := (HD.out.below.cell (World.block_lt_of_cell? w _ hx)).trans hx
      have hrd : rd l x = l[x.toNat] := by
        unfold rd
        rw [List.getD_eq_getElem?_getD, List.getElem?_eq_getElem hlt]
        rfl
      have c1 := eq_true HI.out.1
      have c2 := eq_true ci
      cases hp : p l[x.toNat] with
      | true =>
        have hpr : p (rd l x) = true := by rw [hrd]; exact hp
        have HPR := Aside0.mk hpr
        have HAN : Aside0 (decide (0 ≤ x) = l.any p) := ⟨by rw [decide_eq_true HI.out.1, eq_comm, List.any_eq_true]; exact ⟨_, List.getElem_mem hlt, hp⟩⟩
        clear hpr hp hrd hlt ci HP
        go_wp2_with (go_at_fn g; refine (hg _ _).mono ?_; rintro e w' ⟨rfl, hd⟩; rw [HPR.out]; have n1_ := Aside0.mk (impl_areWeights_.trans HD.out hd); clear HD hd; have HD := n1_; clear n1_)
        go_ret
        exact ⟨⟨x, rfl, HAN.out⟩, HD.out⟩
      | false =>
        have hpr : p (rd l x) = false := by rw [hrd]; exact hp
        have HPR := Aside0.mk hpr
        have HPN : Aside0 (∀ j (h : j < l.length), (j : Int) < x + 1 → p l[j] = false) := ⟨fun j h hj => by
          by_cases e : (j : Int) = x
          · have : j = x.toNat := by omega
            subst this
            exact hp
          · exact HP.out j h (by omega)⟩
        clear hpr hp hrd hlt ci HP
        go_wp2_with (go_at_fn g; refine (hg _ _).mono ?_; rintro e w' ⟨rfl, hd⟩; rw [HPR.out]; have n1_ := Aside0.mk (impl_areWeights_.trans HD.out hd); clear HD hd; have HD := n1_; clear n1_)
        go_roundg (gk - 1)
        case measure => have := HI.out; have := of_eq_true c2; omega
        case rel => exact ⟨x + 1, by congr 1; unfold wrap64; have := HI.out; have := of_eq_true c2; omega, ⟨by have := HI.out; have := of_eq_true c2; omega⟩, HPN, HD⟩
    · have c2 := eq_false ci
      have HAN : Aside0 (false = l.any p) := ⟨by
        rw [eq_comm, List.any_eq_false]
        intro y hy
        obtain ⟨j, hj, rfl⟩ := List.getElem_of_mem hy
        rw [HP.out j hj (by omega)]
        decide⟩
      clear HP ci
      go_wp2
      go_ret
      exact ⟨⟨-1, rfl, HAN.out⟩, HD.out⟩
set_option maxHeartbeats 8000000 in
set_option maxRecDepth 100000 in
theorem impl_areWeights_.contains (g : Nat) (p : Int → Bool) (eg : ∀ args w, (callFunc g args).run Tryz.prog w = .ok (.enter g args) w)
    (hg : ∀ (x : Int) (W : World), Calls Tryz.prog g #[.int .i64 x] W fun e W' => e = .returned (.bool (p x)) ∧ Drawn0 W W')
    (A : Option Addr) (c : Nat) (l : List Int) (w : World) (hr : Kd.C (Kd.int .i64) w A l.length l) (hc : l.length ≤ c) (hl : l.length ≤ 9223372036854775807) :
    Calls Tryz.prog 72 #[.slice A l.length c, .func (.func g) #[] #[]] w fun e w' => e = .returned (.bool (l.any p)) ∧ Drawn0 w w' := by
  have e6 : ∀ args w, (callFunc 100 args).run Tryz.prog w = .ok (.enter 100 args) w := enters_of Tryz.func100 (by kernel_rfl) rfl
  have hcon := fun W h => impl_areWeights_.index g p eg hg A c l W h hc hl
  have HR := Aside0.mk hr
  have HCON := Aside0.mk hcon
  clear hr hc hcon
  go_enter Tryz.func72, Tryz.ntmps72
  go_wp2_with (go_at_fn 100; refine (HCON.out _ (by first | exact HR.out | (with_reducible repeat (first | exact HR.out | refine Kd.C_drewN ?_ _ | refine Kd.C_drew ?_)))).mono ?_; rintro e w' ⟨⟨i, rfl, hi⟩, hd⟩; have HI := Aside0.mk hi; have HD := Aside0.mk hd; clear hi hd)
  go_ret
  refine ⟨?_, HD.out⟩
  rw [← HI.out]
  rfl
theorem impl_areWeights_.in_eq (x a b : Int) : impl_in.f x a b = some (decide (a ≤ x ∧ x ≤ b)) := by
  unfold impl_in.f
  by_cases h : x ≥ a
  · rw [if_pos h]
    congr 1
    rw [Bool.eq_iff_iff, decide_eq_true_eq, decide_eq_true_eq]
    omega
  · rw [if_neg h]
    congr 1
    rw [eq_comm, decide_eq_false_iff_not]
    omega
set_option maxHeartbeats 8000000 in
set_option maxRecDepth 100000 in
theorem impl_areWeights_.closure (x : Int) (W : World) : Calls Tryz.prog 73 #[.int .i64 x] W fun e W' => e = .returned (.bool (!decide (0 ≤ x ∧ x ≤ 99))) ∧ Drawn0 W W' := by
  have e6 : ∀ args w, (callFunc 71 args).run Tryz.prog w = .ok (.enter 71 args) w := enters_of Tryz.func71 (by kernel_rfl) rfl
  have hcon := impl_in.calls x 0 99 _ W (impl_areWeights_.in_eq x 0 99)
  generalize decide (0 ≤ x ∧ x ≤ 99) = b at *
  go_enter Tryz.func73, Tryz.ntmps73
  go_wp2_with (go_at_fn 71; refine hcon.mono ?_; rintro e w' ⟨rfl, hd⟩; have HD := Aside0.mk hd; clear hd)
  go_ret
  exact ⟨rfl, HD.out⟩
def impl_areWeights.f (l : List Int) : Option Bool := if l.length ≤ 9223372036854775807 then some (decide (1 ≤ l.length ∧ l.length ≤ 10) && !l.any (fun x => !decide (0 ≤ x ∧ x ≤ 99))) else none
set_option maxHeartbeats 8000000 in
set_option maxRecDepth 100000 in
theorem impl_areWeights.calls (A0 : Option Addr) (c0 : Nat) (l0 : List Int) (r : Bool) (w : World) (hr0 : Kd.C (Kd.int .i64) w A0 l0.length l0) (hc0 : l0.length ≤ c0) (h : impl_areWeights.f l0 = some r) :
    Calls Tryz.prog 40 #[.slice A0 l0.length c0] w fun e w' => e = .returned (.bool r) ∧ Drawn0 w w' := by
  unfold impl_areWeights.f at h
  by_cases hl : l0.length ≤ 9223372036854775807
  · rw [if_pos hl] at h
    obtain rfl := Option.some.inj h
    clear h
    have e1 : ∀ args w, (callFunc 71 args).run Tryz.prog w = .ok (.enter 71 args) w := enters_of Tryz.func71 (by kernel_rfl) rfl
    have e2 : ∀ args w, (callFunc 72 args).run Tryz.prog w = .ok (.enter 72 args) w := enters_of Tryz.func72 (by kernel_rfl) rfl
    have eg : ∀ args w, (callFunc 73 args).run Tryz.prog w = .ok (.enter 73 args) w := enters_of Tryz.func73 (by kernel_rfl) rfl
    have h1 := fun W => impl_in.calls (l0.length : Int) 1 10 _ W (impl_areWeights_.in_eq (l0.length : Int) 1 10)
    have e3 : decide (1 ≤ (l0.length : Int) ∧ (l0.length : Int) ≤ 10) = decide (1 ≤ l0.length ∧ l0.length ≤ 10) := by
      rw [Bool.eq_iff_iff, decide_eq_true_eq, decide_eq_true_eq]
      omega
    rw [e3] at h1
    clear e3
    have h2 := fun W hw => impl_areWeights_.contains 73 _ eg impl_areWeights_.closure A0 c0 l0 W hw hc0 hl
    have HR := Aside0.mk hr0
    have HD := Aside0.mk (Drawn0.refl w)
    clear hr0 hc0 hl eg
    generalize l0.any (fun x => !decide (0 ≤ x ∧ x ≤ 99)) = b2 at *
    generalize decide (1 ≤ l0.length ∧ l0.length ≤ 10) = b1 at *
    have H1 := Aside0.mk h1
    have H2 := Aside0.mk h2
    clear h1 h2
    cases b1 with
    | false =>
      go_enter Tryz.func40, Tryz.ntmps40
      go_wp2_with (first | (go_at_fn 71; refine (H1.out _).mono ?_; rintro e w' ⟨rfl, hd⟩; have n1_ := Aside0.mk (impl_areWeights_.trans HD.out hd); clear HD hd; have HD := n1_; clear n1_))
      go_ret
      exact ⟨rfl, HD.out⟩
    | true =>
      go_enter Tryz.func40, Tryz.ntmps40
      go_wp2_with (first | (go_at_fn 71; refine (H1.out _).mono ?_; rintro e w' ⟨rfl, hd⟩; have n1_ := Aside0.mk (impl_areWeights_.trans HD.out hd); clear HD hd; have HD := n1_; clear n1_) | (go_at_fn 72; refine (H2.out _ (Kd.C_below HR.out HD.out.below)).mono ?_; rintro e w' ⟨rfl, hd⟩; have n1_ := Aside0.mk (impl_areWeights_.trans HD.out hd); clear HD hd; have HD := n1_; clear n1_))
      go_ret
      exact ⟨rfl, HD.out⟩
  · rw [if_neg hl] at h
    cases h

/-! ### slices_Clone_int_int: function 63 -/
def slices_Clone_int_int.f (l : List Int) : Option (List Int) := if l.length * 8 ≤ 140737488355328 then some l else none
set_option maxHeartbeats 8000000 in
set_option maxRecDepth 100000 in
theorem slices_Clone_int_int.calls (A0 : Option Addr) (c0 : Nat) (l0 : List Int) (r : List Int) (w : World) (hr0 : Kd.C (Kd.int .i64) w A0 l0.length l0) (hc0 : l0.length ≤ c0) (h : slices_Clone_int_int.f l0 = some r) :
    Calls Tryz.prog 63 #[.slice A0 l0.length c0] w fun e w' => ∃ v0_ : Value, e = .returned (v0_) ∧ Kd.R (Kd.int .i64) 3 w' w.heap.size (fun _ => True) v0_ r ∧ Below w.heap.size w w' := by
  unfold slices_Clone_int_int.f at h
  by_cases hl : l0.length * 8 ≤ 140737488355328
  · rw [if_pos hl] at h
    obtain rfl := Option.some.inj h
    by_cases h0 : l0.length = 0
    · obtain rfl := List.eq_nil_of_length_eq_zero h0
      cases A0 with
      | none => exact (Any.slices_Clone_int_nil Tryz.lays2_15 0 c0 w).mono fun e w' ⟨he, hw⟩ => ⟨_, he, Kd.R_nil _ _ _ _ _, hw ▸ Below.refl _ _⟩
      | some a => exact (Any.slices_Clone_int_zero Tryz.lays2_15 a c0 w).mono fun e w' ⟨v, he, ho, _, hb⟩ => ⟨v, he, Kd.R_of_own ho (fun _ _ => trivial), hb⟩
    · obtain ⟨b, off, rfl, _, hc⟩ := Given.base_of_C hr0 (by omega)
      refine (Any.slices_Clone_int Tryz.lays2_15 b off l0.length c0 l0 w (Nat.le_refl _) hl (fun j hj => ?_)).mono fun e w' ⟨v, he, ho, _, hb⟩ => ⟨v, he, Kd.R_of_own (by rw [List.take_length] at ho; exact ho) (fun _ _ => trivial), hb⟩
      rw [List.getD_eq_getElem?_getD, List.getElem?_eq_getElem hj]
      exact hc j _ (List.getElem?_eq_getElem hj)
  · rw [if_neg hl] at h
    cases h

/-! ### slices_Sort_int_int: function 64 -/
def slices_Sort_int_int.f (l : List Int) : Option (List Int) := if l.length < 4611686018427387904 then some (l.mergeSort fun x y => decide (x ≤ y)) else none
set_option maxHeartbeats 8000000 in
set_option maxRecDepth 100000 in
theorem slices_Sort_int_int.calls (P0_ : Nat → Prop) (u9000_ : Value) (l0 : List Int) (r : List Int) (w0 w : World) (hB : Below w0.heap.size w0 w) (ho0 : Kd.R (Kd.int .i64) 3 w w0.heap.size P0_ u9000_ l0) (h : slices_Sort_int_int.f l0 = some r) :
    Calls Tryz.prog 64 #[u9000_] w fun e w' => e = .returned (.tuple #[]) ∧ Kd.R (Kd.int .i64) 3 w' w0.heap.size (fun k_ => (P0_ k_ ∨ w.heap.size ≤ k_)) u9000_ r ∧ Below w0.heap.size w0 w' ∧ Kept w w' (fun k_ => P0_ k_) := by
  unfold slices_Sort_int_int.f at h
  by_cases hl : l0.length < 4611686018427387904
  · rw [if_pos hl] at h
    obtain rfl := Option.some.inj h
    rcases Given.row_open ho0 with ⟨rfl, rfl⟩ | ⟨g, cap, cur, rfl, hok, hg, hlt, hh, hlc, hcm, hcs, hH⟩
    · refine (Any.slices_Sort_int_none Tryz.lays189 none 0 w).mono ?_
      rintro e w' ⟨rfl, hw⟩
      subst hw
      exact ⟨rfl, by rw [List.mergeSort_nil]; exact Kd.R_nil _ _ _ _ _, hB, Kept.refl _ _⟩
    · refine (Any.slices_Sort_int Tryz.lays189 g 0 cap l0 w hH hlt hl).mono ?_
      rintro e w' ⟨rfl, n, os, rfl⟩
      have hm : (l0.mergeSort fun x y => decide (x ≤ y)).length = l0.length := List.length_mergeSort _
      have h := Given.row_put (enc := Value.int .i64) (h1 := fun _ => rfl) (os := os) (n := n) (m := l0.length) (zs := l0.mergeSort fun x y => decide (x ≤ y)) hB hok hg hh hcm hcs (by omega) (by omega)
      rw [List.take_of_length_le (by omega)] at h
      exact ⟨rfl, h.1, h.2.1, h.2.2⟩
  · rw [if_neg hl] at h
    cases h

/-! ### impl_leastCost: function 35 -/
section
attribute [local go_sem] Oper.semAt_some
/-- The pairs that have come when k rounds are over. -/
def impl_leastCost_.dn (zs : List Int) (k : Nat) : List (Nat × Int) := (List.range k).map fun j => (zs.length - 1 - j, zs[zs.length - 1 - j]?.getD 0)
theorem impl_leastCost_.dn_succ (zs : List Int) (k : Nat) : impl_leastCost_.dn zs (k + 1) = impl_leastCost_.dn zs k ++ [(zs.length - 1 - k, zs[zs.length - 1 - k]?.getD 0)] := by simp [impl_leastCost_.dn, List.range_succ]
theorem impl_leastCost_.dn_length (zs : List Int) (k : Nat) : (impl_leastCost_.dn zs k).length = k := by simp [impl_leastCost_.dn]
set_option maxRecDepth 100000 in
set_option maxHeartbeats 2000000 in
theorem impl_leastCost_.back (A : Option Addr) (len c : Nat) (w : World) :
    Calls Tryz.prog 65 #[.slice A len c] w fun e w' => e = .returned (.func (.func 97) #[] #[.pointer (some ⟨w.heap.size, 0, none⟩)]) ∧ w' = w.alloc (.cells #[.slice A len c] 25) := by
  go_enter Tryz.func65, Tryz.ntmps65
  go_wp2
  go_ret
  exact ⟨rfl, rfl⟩
/-- Below N all is as it was, but for the block ob. -/
def impl_leastCost_.KP (ob N : Nat) (A B : World) : Prop := A.heap.size ≤ B.heap.size ∧ ∀ k, k < N → k ≠ ob → B.heap[k]? = A.heap[k]?
theorem impl_leastCost_.KP.refl (ob N : Nat) (A : World) : impl_leastCost_.KP ob N A A := ⟨Nat.le_refl _, fun _ _ _ => rfl⟩
theorem impl_leastCost_.KP.trans {ob N : Nat} {A B C : World} (h : impl_leastCost_.KP ob N A B) (k : impl_leastCost_.KP ob N B C) : impl_leastCost_.KP ob N A C := ⟨Nat.le_trans h.1 k.1, fun i hi hn => (k.2 i hi hn).trans (h.2 i hi hn)⟩
theorem impl_leastCost_.KP.of_below {ob N : Nat} {A B : World} (h : Below N A B) : impl_leastCost_.KP ob N A B := ⟨h.size, fun i hi _ => h.block i hi⟩
theorem impl_leastCost_.KP.cell {ob N : Nat} {A B : World} (h : impl_leastCost_.KP ob N A B) {p : Addr} (hp : p.block < N) (hn : p.block ≠ ob) : B.cell? p = A.cell? p := World.cell?_of_block (w := A) (h.2 p.block hp hn)
set_option maxRecDepth 100000 in
set_option maxHeartbeats 2000000 in
theorem impl_leastCost_.back1 (F : Fence) (n : Nat) (h7 : F.fn 97) (hro : F.round = none) (hn : 1 ≤ n) (l Bs ob n₀ b off len cap : Nat) (zs : List Int) (hz : zs.length = len) (hreach : len * 8 ≤ 140737488351232) (hb : b < n₀) (hbo : b ≠ ob) (J Jx : List (Nat × Int) → World → Prop)
    (hY : ∀ pre x W, J pre W → pre.length < len → x = (zs.length - 1 - pre.length, zs[zs.length - 1 - pre.length]?.getD 0) → YieldAt F (n - 1) Tryz.prog l #[.int .i64 (x.1 : Int), .int .i64 x.2] W fun e W' =>
      (e = .returned (.bool true) ∧ J (pre ++ [x]) W' ∧ impl_leastCost_.KP ob n₀ W W') ∨ (e = .returned (.bool false) ∧ Jx (pre ++ [x]) W'))
    (W : World) (hBs : W.cell? ⟨Bs, 0, none⟩ = some (.slice (some ⟨b, off, none⟩) len cap)) (hBsn : Bs < n₀) (hBso : Bs ≠ ob) (hc : ∀ j, j < len → W.cell? ⟨b, off + j, none⟩ = some (.int .i64 (zs[j]?.getD 0))) (h0 : J [] W) :
    CallsIn F n Tryz.prog 97 #[.func (.yield l) #[] #[], .pointer (some ⟨Bs, 0, none⟩)] W fun e W' => (∃ v, e = .returned v) ∧
      ((∃ ys, ys = impl_leastCost_.dn zs len ∧ J ys W') ∨ (∃ pre, (∃ k, k ≤ len ∧ pre = impl_leastCost_.dn zs k) ∧ Jx pre W')) := by
  refine callsIn_of_wp Tryz.func97 rfl h7 ?_ hro
  simp only [Tryz.ntmps97, List.size_toArray, List.length_cons, List.length_nil, Nat.reduceAdd, Nat.reduceSub, Array.replicate_succ, Array.replicate_zero, List.push_toArray, List.append_toArray, List.nil_append, List.cons_append]
  gi_wp2
  gi_loopw [3] (fun i wr => ∃ k : Nat, k ≤ len ∧ i = .int .i64 ((len : Int) - 1 - k) ∧ J (impl_leastCost_.dn zs k) wr ∧ impl_leastCost_.KP ob n₀ W wr)
    (fun i _ => (intOf i + 1).toNat)
  case atStart => exact ⟨0, Nat.zero_le _, by simp, h0, impl_leastCost_.KP.refl _ _ _⟩
  case round =>
    obtain ⟨k, hk, rfl, hJs, hnx⟩ := hrel
    by_cases hlt : k < len
    · have hcx := (hnx.cell (p := ⟨b, off + (len - 1 - k), none⟩) hb hbo).trans (hc (len - 1 - k) (by omega))
      have hbx := (hnx.cell (p := ⟨Bs, 0, none⟩) hBsn hBso).trans hBs
      obtain ⟨i, hi⟩ : ∃ i : Nat, i = len - 1 - k := ⟨_, rfl⟩
      have hii : (len : Int) - 1 - (k : Int) = (i : Int) := by omega
      have hil : i < len := by omega
      have hil' : (i : Int) < (len : Int) := by omega
      rw [← hi] at hcx
      rw [hii]
      have HI : Hid (i = len - 1 - k) := hi
      obtain ⟨fn, tmps, assign, body, hy, hR⟩ := hY _ (i, zs[i]?.getD 0) wr hJs (by rw [impl_leastCost_.dn_length]; exact hlt) (by rw [impl_leastCost_.dn_length, hz, hi])
      obtain ⟨x, hx⟩ : ∃ x, x = zs[i]?.getD 0 := ⟨_, rfl⟩
      dsimp only at hy hR
      rw [← hx] at hy hR hcx
      have HX : Hid (x = zs[i]?.getD 0) := hx
      clear hi hii hx
      gi_wp2
      refine hR.mono ?_
      rintro e W3 (⟨rfl, hJ3, hk3⟩ | ⟨rfl, hJx3⟩)
      · gi_wp2
        go_roundw
        case rel => exact ⟨k + 1, by omega, by have := HI.out; first | (congr 1; omega) | (simp; omega), by rw [impl_leastCost_.dn_succ, hz, ← HI.out, ← HX.out]; exact hJ3, hnx.trans hk3⟩
        case measure => first | (simp [intOf]; done) | (simp [intOf]; omega)
      · gi_wp2
        refine bodyPost_ret (results_none rfl _ _ _) rfl ?_
        exact ⟨⟨_, rfl⟩, .inr ⟨_, ⟨k + 1, by omega, by rw [impl_leastCost_.dn_succ, hz, ← HI.out, ← HX.out]⟩, hJx3⟩⟩
    · obtain rfl : k = len := by omega
      have hneg : ¬ (0 : Int) ≤ (k : Int) - 1 - (k : Int) := by omega
      gi_wp2
      go_end0
      first | exact ⟨⟨_, rfl⟩, .inl ⟨_, rfl, hJs⟩⟩ | exact ⟨⟨_, rfl⟩, .inl hJs⟩
set_option maxRecDepth 100000 in
set_option maxHeartbeats 1000000 in
theorem impl_leastCost_.back0 (F : Fence) (n : Nat) (h7 : F.fn 97) (hro : F.round = none) (l Bs : Nat) (J : List (Nat × Int) → World → Prop) (A : Option Addr) (c : Nat) (W : World) (hBs : W.cell? ⟨Bs, 0, none⟩ = some (.slice A 0 c)) (h0 : J [] W) :
    CallsIn F n Tryz.prog 97 #[.func (.yield l) #[] #[], .pointer (some ⟨Bs, 0, none⟩)] W fun e W' => (∃ v, e = .returned v) ∧ J [] W' := by
  refine callsIn_of_wp Tryz.func97 rfl h7 ?_ hro
  simp only [Tryz.ntmps97, List.size_toArray, List.length_cons, List.length_nil, Nat.reduceAdd, Nat.reduceSub, Array.replicate_succ, Array.replicate_zero, List.push_toArray, List.append_toArray, List.nil_append, List.cons_append]
  gi_wp2
  gi_loopw [3] (fun i wr => i = .int .i64 (-1) ∧ J [] wr) (fun _ _ => 0)
  case atStart => exact ⟨by first | rfl | simp, h0⟩
  case round =>
    obtain ⟨rfl, hJs⟩ := hrel
    gi_wp2
    go_end0
    exact ⟨⟨_, rfl⟩, hJs⟩
/-- The slice value sv holds the numbers zs, in a block below n₀; or there are none. -/
def impl_leastCost_.Ints (ob n₀ : Nat) (W : World) (sv : Value) (zs : List Int) : Prop :=
  (∃ A c, sv = .slice A 0 c ∧ zs = []) ∨ ∃ b off cap, sv = .slice (some ⟨b, off, none⟩) zs.length cap ∧ b < n₀ ∧ b ≠ ob ∧ ∀ j, j < zs.length → W.cell? ⟨b, off + j, none⟩ = some (.int .i64 (zs[j]?.getD 0))
theorem impl_leastCost_.Ints.below {ob n₀ : Nat} {A B : World} (h : Below n₀ A B) {sv : Value} {zs : List Int} : impl_leastCost_.Ints ob n₀ A sv zs → impl_leastCost_.Ints ob n₀ B sv zs
  | .inl e => .inl e
  | .inr ⟨b, off, cap, e, hb, hbo, hc⟩ => .inr ⟨b, off, cap, e, hb, hbo, fun j hj => (h.cell (p := ⟨b, off + j, none⟩) hb).trans (hc j hj)⟩
theorem impl_leastCost_.fin_succ (N k : Nat) (h : k < N) : (List.finRange N).take (k + 1) = (List.finRange N).take k ++ [⟨k, h⟩] := by
  rw [List.take_succ_eq_append_getElem (by rw [List.length_finRange]; exact h), List.getElem_finRange]
  rfl
/-- The index and the number of round k. -/
def impl_leastCost_.ix (zs : List Int) (k : Nat) : Nat := zs.length - 1 - k
def impl_leastCost_.vl (zs : List Int) (k : Nat) : Int := zs[zs.length - 1 - k]?.getD 0
theorem impl_leastCost_.stops (F : Fence) (n : Nat) (h7 : F.fn 97) (hro : F.round = none) (hn : 1 ≤ n) (Bs ob n₀ : Nat) (sv : Value) (zs : List Int) (hreach : zs.length * 8 ≤ 140737488351232) (w : World) (hBs : Bs < n₀) (hBso : Bs ≠ ob) (hn₀ : n₀ ≤ w.heap.size)
    (hc : w.cell? ⟨Bs, 0, none⟩ = some sv) (hI : impl_leastCost_.Ints ob n₀ w sv zs) :
    SeqStopsK F n Tryz.prog 97 #[.pointer (some ⟨Bs, 0, none⟩)] (fun x : Fin zs.length => #[Value.int .i64 (impl_leastCost_.ix zs x.val : Int), Value.int .i64 (impl_leastCost_.vl zs x.val)]) (impl_leastCost_.KP ob n₀) (fun ys => ys = List.finRange zs.length) (fun pre => ∃ k, k ≤ zs.length ∧ pre = (List.finRange zs.length).take k) zs.length w := fun l J Jx W hW _ _ hY h0 => by
  have hc' := (hW.cell (p := ⟨Bs, 0, none⟩) (by show Bs < _; omega)).trans hc
  rcases hI.below (hW.mono hn₀) with ⟨A, c, rfl, rfl⟩ | ⟨b, off, cap, rfl, hb, hbo, hcs⟩
  · exact (impl_leastCost_.back0 F n h7 hro l Bs (fun _ W => J [] W) A c W hc' h0).mono fun e W' ⟨he, hj⟩ => ⟨he, .inl ⟨_, rfl, hj⟩⟩
  · refine (impl_leastCost_.back1 F n h7 hro hn l Bs ob n₀ b off zs.length cap zs rfl hreach hb hbo (fun pre W => ∃ k, k ≤ zs.length ∧ pre = impl_leastCost_.dn zs k ∧ J ((List.finRange zs.length).take k) W) (fun pre W => ∃ k, k ≤ zs.length ∧ pre = impl_leastCost_.dn zs k ∧ Jx ((List.finRange zs.length).take k) W) (fun pre x W h1 h2 h3 => ?_) W hc' hBs hBso hcs ⟨0, Nat.zero_le _, rfl, h0⟩).mono ?_
    · obtain ⟨k, hk, rfl, hj⟩ := h1
      rw [impl_leastCost_.dn_length] at h2 h3
      subst h3
      obtain ⟨fn, tmps, assign, body, hy, hR⟩ := hY _ ⟨k, h2⟩ W hj (by rw [List.length_take, List.length_finRange]; omega)
      refine ⟨fn, tmps, assign, body, hy, hR.mono ?_⟩
      rintro e W' (⟨he, h1, h2'⟩ | ⟨he, h1⟩)
      · exact .inl ⟨he, ⟨k + 1, by omega, (impl_leastCost_.dn_succ zs k).symm, by rw [impl_leastCost_.fin_succ _ _ h2]; exact h1⟩, h2'⟩
      · exact .inr ⟨he, k + 1, by omega, (impl_leastCost_.dn_succ zs k).symm, by rw [impl_leastCost_.fin_succ _ _ h2]; exact h1⟩
    · rintro e W' ⟨he, ⟨ys, rfl, k, hk, e1, hj⟩ | ⟨pre, ⟨k, hk, rfl⟩, k2, hk2, e1, hj⟩⟩
      · have e2 := congrArg List.length e1
        rw [impl_leastCost_.dn_length, impl_leastCost_.dn_length] at e2
        subst e2
        rw [List.take_of_length_le (by rw [List.length_finRange]; omega)] at hj
        exact ⟨he, .inl ⟨_, rfl, hj⟩⟩
      · exact ⟨he, .inr ⟨_, ⟨k2, hk2, rfl⟩, hj⟩⟩
def impl_leastCost_.tm (m : ByteArray) : Int := (impl_timeOf.f m).getD 0
/-- The sum when the indices p have come. -/
def impl_leastCost_.sum (zs : List Int) (texts : List ByteArray) (p : List Nat) : Int := p.foldl (fun o k => wrap64 (o + wrap64 ((impl_leastCost_.vl zs k) * impl_leastCost_.tm (rdOf ByteArray.empty texts (k : Int))))) 0
theorem impl_leastCost_.sum_snoc (zs : List Int) (texts : List ByteArray) (p : List Nat) (k : Nat) : impl_leastCost_.sum zs texts (p ++ [k]) = wrap64 (impl_leastCost_.sum zs texts p + wrap64 ((impl_leastCost_.vl zs k) * impl_leastCost_.tm (rdOf ByteArray.empty texts (k : Int)))) := by simp [impl_leastCost_.sum]
theorem impl_leastCost_.boxes {w w1 w3 : World} {T : Value} {Av : Option Addr} {n cv : Nat} {l : List Int} {P : Nat → Prop} (hv : Kd.R (Kd.int .i64) 3 w1 (w.alloc (.cells #[T] 22)).heap.size P (.slice Av n cv) l) (hB1 : Below (w.alloc (.cells #[T] 22)).heap.size (w.alloc (.cells #[T] 22)) w1)
    (hB3 : Below (w.alloc (.cells #[T] 22)).heap.size (w.alloc (.cells #[T] 22)) w3) (hk : Kept ((w1.alloc (.cells #[.slice Av n cv] 25)).alloc (.cells #[.int .i64 0] 3)) w3 (fun k => some k = (Value.slice Av n cv).ownBlock)) :
    Boxed w3 w1.heap.size 25 (.slice Av n cv) ∧ Boxed w3 (w1.heap.size + 1) 3 (.int .i64 0) ∧ Boxed w3 w.heap.size 22 T := by
  have hlt := Kd.R_lt hv
  refine ⟨?_, ?_, ?_⟩
  · show w3.heap[w1.heap.size]? = _
    rw [hk.2 w1.heap.size (by simp; omega) (fun e => by have := hlt _ e.symm; omega), Below.heap_alloc _ _ _ (by simp)]
    exact heap_alloc_last w1 _
  · show w3.heap[w1.heap.size + 1]? = _
    rw [hk.2 (w1.heap.size + 1) (by simp) (fun e => by have := hlt _ e.symm; omega)]
    have := heap_alloc_last (w1.alloc (.cells #[.slice Av n cv] 25)) (.cells #[.int .i64 0] 3)
    rwa [World.size_alloc] at this
  · show w3.heap[w.heap.size]? = _
    rw [hB3.block w.heap.size (by simp)]
    exact heap_alloc_last w _
theorem impl_leastCost_.wrapS (x : Int) (h0 : -1000001 ≤ x) (h1 : x ≤ 1000001) : wrap64 x = x := by unfold wrap64; omega
theorem impl_leastCost_.idx (n i k N : Nat) (hN : n ≤ 1000000) (hi : i = n - 1 - k) (hk : k < n) (hl : n ≤ N) : wrap64 ((n : Int) - 1) = (n : Int) - 1 ∧ (n : Int) - 1 - (i : Int) = (k : Int) ∧ wrap64 (k : Int) = (k : Int) ∧ wrap64 ((n : Int) - 1 - (i : Int)) = (k : Int) ∧ wrap64 (wrap64 ((n : Int) - 1) - (i : Int)) = (k : Int) ∧ (0 : Int) ≤ (k : Int) ∧ (k : Int) < (N : Int) ∧ (0 : Int) ≤ (n : Int) - 1 - (i : Int) ∧ (n : Int) - 1 - (i : Int) < (N : Int) := by
  have e1 : wrap64 ((n : Int) - 1) = (n : Int) - 1 := impl_leastCost_.wrapS _ (by omega) (by omega)
  have e2 : (n : Int) - 1 - (i : Int) = (k : Int) := by omega
  have e3 : wrap64 (k : Int) = (k : Int) := impl_leastCost_.wrapS _ (by omega) (by omega)
  refine ⟨e1, e2, e3, by rw [e2, e3], by rw [e1, e2, e3], Int.natCast_nonneg k, Int.ofNat_lt.2 (Nat.lt_of_lt_of_le hk hl), by rw [e2]; exact Int.natCast_nonneg k, by rw [e2]; exact Int.ofNat_lt.2 (Nat.lt_of_lt_of_le hk hl)⟩
theorem impl_leastCost_.wrIn (x : Int) (h0 : -9223372036854775808 ≤ x) (h1 : x < 9223372036854775808) : IntKind.wrap .i64 x = x := by
  have e64 : (2 ^ IntKind.i64.bits : Int) = 18446744073709551616 := by decide +kernel
  have e63 : (2 ^ (IntKind.i64.bits - 1) : Int) = 9223372036854775808 := by decide +kernel
  have es : IntKind.i64.signed = true := rfl
  unfold IntKind.wrap
  rw [e64, e63, es]
  by_cases h : x % 18446744073709551616 ≥ 9223372036854775808
  · simp only [Bool.true_and, h, decide_true, if_true]
    omega
  · simp only [Bool.true_and, h, decide_false, Bool.false_eq_true, if_false]
    omega
theorem impl_leastCost_.idw (n i k : Nat) (hN : n ≤ 1000000) (hi : i = n - 1 - k) (hk : k < n) : IntKind.wrap .i64 ((n : Int) - 1) = (n : Int) - 1 ∧ IntKind.wrap .i64 ((n : Int) - 1 - (i : Int)) = (k : Int) ∧ IntKind.wrap .i64 (k : Int) = (k : Int) := by
  have e2 : (n : Int) - 1 - (i : Int) = (k : Int) := by omega
  have e3 : IntKind.wrap .i64 (k : Int) = (k : Int) := impl_leastCost_.wrIn _ (by omega) (by omega)
  exact ⟨impl_leastCost_.wrIn _ (by omega) (by omega), by rw [e2]; exact e3, e3⟩
theorem impl_leastCost_.own {β : Type} {ob N : Nat} {w4 : World} (h4 : w4.heap.size = N) : OwnFrom N (fun (_ : β) W => impl_leastCost_.KP ob N w4 W) := fun _ W W' row hs hg hr =>
  ⟨Nat.le_trans hs.1 hg.size, fun k hk hn => (hg.block k (by have := hs.1; omega) (fun e => by have := (hr k e.symm).1; omega)).trans (hs.2 k hk hn)⟩
theorem impl_leastCost_.ints {W : World} {base n cv ob n₀ : Nat} {P : Nat → Prop} {Av : Option Addr} {zs : List Int} (h : Kd.R (Kd.int .i64) 3 W base P (.slice Av n cv) zs) (hn : n = zs.length) (hlt : ∀ k, (Value.slice Av n cv).ownBlock = some k → k < n₀ ∧ k ≠ ob) : impl_leastCost_.Ints ob n₀ W (.slice Av n cv) zs := by
  by_cases h0 : 0 < zs.length
  · obtain ⟨g, cap, e, _, _, _⟩ := Kd.R_form h h0
    rw [e] at h hlt ⊢
    have hg := hlt g rfl
    refine .inr ⟨g, 0, cap, rfl, hg.1, hg.2, fun j hj => ?_⟩
    have := (Kd.R_celln 0 h (j : Int) (by omega) (by omega)).1
    rw [Nat.zero_add]
    simpa [rdOf] using this
  · have e : zs = [] := List.eq_nil_of_length_eq_zero (by omega)
    subst e
    exact .inl ⟨Av, cv, by rw [hn]; rfl, rfl⟩
def impl_leastCost_.noDefer (ops : Array Oper) : Bool := ops.toList.all fun o => match o.op with | .defer _ => false | _ => true
theorem impl_leastCost_.inR {F : Fence} {n : Nat} {P : Program} {md : Region.Mode} {ops : Array Oper} {Q : Exit → Act → World → Prop} (hro : F.round = none) (l : Nat) (hd : impl_leastCost_.noDefer ops = true) :
    ∀ (fuel : Nat) (listed : Array Bool) (a : Act) (w : World), wpAnyIn F n P md ops Q fuel listed a w → wpAnyIn (F.inRound l) n P md ops Q fuel listed a w := by
  intro fuel
  induction fuel with
  | zero => intro listed a w h; exact h
  | succ fuel ih =>
    intro listed a w h
    refine ⟨h.1, fun i hi => ?_⟩
    have h2 := wpOpIn_mono (fun a w => ih (listed.setIfInBounds i true) a w) (h.2 i hi)
    unfold wpOpIn at h2 ⊢
    cases ho : ops[i]? with
    | none => rw [ho] at h2; exact h2
    | some o =>
      rw [ho] at h2
      have hnd : ∀ c, o.op ≠ .defer c := by
        intro c hc
        have hm := List.all_eq_true.1 hd o (Array.mem_toList_iff.2 (Array.mem_of_getElem? ho))
        rw [hc] at hm
        cases hm
      simp only at h2 ⊢
      by_cases hw : Region.wanted o (yielded ops a.tmps) = true
      · rw [if_pos hw] at h2 ⊢
        refine ⟨h2.1, ?_⟩
        have h3 := h2.2
        rw [hro, Oper.semAt_none] at h3
        show o.uponIn _ n P a _ Q ((o.semAt (some l) a.eval).run P w)
        rw [Oper.semAt_some l _ _ hnd]
        exact h3
      · rw [if_neg hw] at h2 ⊢
        exact h2
theorem impl_leastCost_.fin_range (n : Nat) : (List.finRange n).map (fun x => x.val) = List.range n := by
  apply List.ext_getElem
  · simp
  · intro i h1 h2
    simp
theorem impl_leastCost_.put {α : Type} {S N M : Nat} {B : Nat} {w4 w W : World} (I : List α → Int) (pre : List α) (x : α) {s y : Int} {act : Act} (n : Nat) (hcr : W.cell? ⟨S, 0, none⟩ = some (.int .i64 s)) (hfr : W.frozen? ⟨S, 0, none⟩ = false) (hKP : impl_leastCost_.KP S N w4 W) (hB : Below w.heap.size w W) (hS : w.heap.size ≤ S) (hy : y = I (pre ++ [x])) :
    ownPostG B (impl_leastCost_.KP S M) (fun (pre : List α) W => (W.cell? ⟨S, 0, none⟩ = some (.int .i64 (I pre)) ∧ W.frozen? ⟨S, 0, none⟩ = false) ∧ (impl_leastCost_.KP S N w4 W ∧ Below w.heap.size w W)) (fun _ _ _ => False) (pre ++ [x]) W .normal act ((W.drewN n).setCell ⟨S, 0, none⟩ (.int .i64 y)) := by
  have hk : ∀ N, impl_leastCost_.KP S N W ((W.drewN n).setCell ⟨S, 0, none⟩ (.int .i64 y)) := fun N => ⟨by simp, fun k _ hn => Below.heap_setCell (W.drewN n) ⟨S, 0, none⟩ _ k hn⟩
  refine ⟨((⟨Nat.le_refl _, fun _ _ h _ => h⟩ : KeepsOthers W (W.drewN n)).trans (KeepsOthers.setCell _ _ _)).from B, hk M, ⟨?_, ?_⟩, hKP.trans (hk N), ?_⟩
  · rw [← hy]
    exact World.cell?_setCell_same (W.drewN n) ⟨S, 0, none⟩ _ hcr
  · rw [World.frozen?_setCell]
    exact hfr
  · exact Below.setCell (w := W.drewN n) (⟨hB.os, hB.tape, hB.output, hB.size, hB.block⟩ : Below w.heap.size w (W.drewN n)) hS _
set_option maxRecDepth 100000 in
set_option maxHeartbeats 4000000 in
theorem impl_leastCost_.walk (A0 : Option Addr) (c0 : Nat) (l0 : List ByteArray) (A1 : Option Addr) (c1 : Nat) (l1 : List Int) (w : World) (hr0 : Kd.C Kd.string w A0 l0.length l0) (hc0 : l0.length ≤ c0) (hr1 : Kd.C (Kd.int .i64) w A1 l1.length l1) (hc1 : l1.length ≤ c1) (h1 : l1.length ≤ 1000000) (h2 : l1.length ≤ l0.length) (h3 : ∀ m ∈ l0, (impl_timeOf.f m).isSome = true) :
    CallsIn Fence.wide 5 Tryz.prog 35 #[.slice A0 l0.length c0, .slice A1 l1.length c1] w fun e w' => e = .returned (.int .i64 (impl_leastCost_.sum (l1.mergeSort fun x y => decide (x ≤ y)) l0 (List.range l1.length))) ∧ Below w.heap.size w w' := by
  have HC := Aside0.mk (fun (w' : World) (hB : Below w.heap.size w w') => slices_Clone_int_int.calls A1 c1 l1 l1 w' (Kd.C_below hr1 hB) hc1 (by unfold slices_Clone_int_int.f; rw [if_pos (by omega)]))
  have HS := Aside0.mk (fun (v : Value) (w0 w' : World) (hB : Below w0.heap.size w0 w') (ho : Kd.R (Kd.int .i64) 3 w' w0.heap.size (fun k => some k = v.ownBlock) v l1) => slices_Sort_int_int.calls _ v l1 (l1.mergeSort fun x y => decide (x ≤ y)) w0 w' hB ho (by unfold slices_Sort_int_int.f; rw [if_pos (by omega)]))
  have HR0 := Aside0.mk hr0
  have HP := Aside0.mk (And.intro h1 (And.intro h2 h3))
  clear hr1 h1 h2 h3 hr0
  have f31 : Fence.wide.fn 63 := trivial
  have f32 : Fence.wide.fn 64 := trivial
  have f33 : Fence.wide.fn 65 := trivial
  have f34 : Fence.wide.fn 60 := trivial
  refine callsIn_of_wp_marks Tryz.func35 rfl trivial ?_ rfl
  simp only [Tryz.ntmps35, List.size_toArray, List.length_cons, List.length_nil, Nat.reduceAdd, Nat.reduceSub, Array.replicate_succ, Array.replicate_zero, List.push_toArray, List.append_toArray, List.nil_append, List.cons_append]
  gi_wp2_with (first
    | (gi_at_call 63; refine (callsIn_wide.2 (HC.out _ (below_alloc (Below.refl _ _) _))).mono ?_; rintro e w1 ⟨v, rfl, hv, hB1⟩; obtain ⟨Av, cv, rfl⟩ := Kd.R_slice hv; have HV := Aside0.mk hv; clear hv; have HB1 := Aside0.mk hB1; clear hB1)
    | (gi_at_call 64; refine (callsIn_wide.2 (HS.out _ (w.alloc (.cells #[.slice A0 l0.length c0] 22)) _ (below_alloc (below_alloc HB1.out _) _) (Kd.R_alloc (Kd.R_alloc (Kd.R_tight rfl HV.out) _) _))).mono ?_; rintro e w3 ⟨rfl, hr, hB3, hk3⟩; obtain ⟨hbS, hbO, hbT⟩ := impl_leastCost_.boxes HV.out HB1.out hB3 hk3; have hcS := Boxed.cell hbS; have HR := Aside0.mk hr; clear hr; have HK := Aside0.mk hk3; clear hk3; have HB3 := Aside0.mk hB3; clear hB3)
    | (gi_at_call 65; refine (callsIn_wide.2 (impl_leastCost_.back _ _ _ _)).mono ?_; rintro e w' ⟨rfl, rfl⟩))
  have bO := hbO.alloc (.cells #[.slice Av l1.length cv] 25)
  have bS := hbS.alloc (.cells #[.slice Av l1.length cv] 25)
  have bT := hbT.alloc (.cells #[.slice Av l1.length cv] 25)
  have bB := Boxed.new w3 25 (.slice Av l1.length cv)
  have hBw : Below w.heap.size w (w3.alloc (.cells #[.slice Av l1.length cv] 25)) := below_alloc (Below.trans (below_alloc (Below.refl _ _) _) (HB3.out.mono (by simp))) _
  have hw13 : w1.heap.size + 2 ≤ w3.heap.size := by have := HK.out.1; simpa using this
  have hw01 : w.heap.size + 1 ≤ w1.heap.size := by have := HB1.out.size; simpa using this
  have hlen : (l1.mergeSort fun x y => decide (x ≤ y)).length = l1.length := List.length_mergeSort _
  have hI := Aside0.mk (impl_leastCost_.ints (ob := w1.heap.size + 1) (n₀ := w3.heap.size + 1) (W := w3.alloc (.cells #[.slice Av l1.length cv] 25)) (Kd.R_alloc HR.out _) hlen.symm (fun k hk => by
    have := Kd.R_lt HV.out k hk
    omega))
  obtain ⟨zs, hzs⟩ : ∃ zs, zs = l1.mergeSort fun x y => decide (x ≤ y) := ⟨_, rfl⟩
  rw [← hzs] at hI hlen
  have HZ := Aside0.mk hzs
  clear hzs HR HS HC HK
  obtain ⟨w4, hw4⟩ : ∃ w4, w4 = w3.alloc (.cells #[.slice Av l1.length cv] 25) := ⟨_, rfl⟩
  have hs4 : w4.heap.size = w3.heap.size + 1 := by rw [hw4]; simp
  rw [← hw4] at bO bS bT bB hBw hI ⊢
  clear hw4
  refine wpIn_rangeFunc_ownG rfl (by decide) (gf := 97) (lb := #[.pointer (some ⟨w3.heap.size, 0, none⟩)]) rfl trivial (enters_of Tryz.func97 (by kernel_rfl) rfl)
    (impl_leastCost_.stops Fence.wide (5 - 1) trivial rfl (by decide) w3.heap.size (w1.heap.size + 1) (w3.heap.size + 1) _ zs (by have := HP.out.1; omega) w4 (by omega) (by omega) (by omega) bB.cell hI.out) (fun h k => h.trans k) (fun W l o o' hl ho h1 h2 => impl_leastCost_.KP.of_below (belowK_b (w := w4) (by omega) W l o o' hl ho h1 h2)) (Below.refl _ _) (fun _ => rfl)
    (fun (pre : List (Fin zs.length)) W => (W.cell? ⟨w1.heap.size + 1, 0, none⟩ = some (.int .i64 (impl_leastCost_.sum zs l0 (pre.map (·.val)))) ∧ W.frozen? ⟨w1.heap.size + 1, 0, none⟩ = false) ∧ (impl_leastCost_.KP (w1.heap.size + 1) w4.heap.size w4 W ∧ Below w.heap.size w W))
    (fun _ _ _ => False)
    (OwnFrom.and (Own.from (fun s A B row hs hg hr => ⟨cell_kept hs.1 hg hr, (frozen_kept hs.1 hg hr).trans hs.2⟩) _) (OwnFrom.and (impl_leastCost_.own rfl) (ownFrom_below (Nat.le_refl _) (by have := hBw.size; omega))))
    (fun _ _ _ _ _ hs _ _ => hs)
    ⟨⟨bO.cell, bO.frozen⟩, impl_leastCost_.KP.refl _ _ _, hBw⟩
    (fun x => { tmps := #[.slice A0 l0.length c0, .slice A1 l1.length c1, .pointer (some ⟨w.heap.size, 0, none⟩), undef, .int .i64 0, .pointer (some ⟨w1.heap.size, 0, none⟩), .pointer (some ⟨w1.heap.size + 1, 0, none⟩), .int .i64 (impl_leastCost_.ix zs x.val : Int), .int .i64 (impl_leastCost_.vl zs x.val), .slice A1 l1.length c1, .slice Av l1.length cv, .slice Av l1.length cv, .tuple #[], .slice Av l1.length cv, .func (.func 97) #[] #[.pointer (some ⟨w3.heap.size, 0, none⟩)], .int .i64 (impl_leastCost_.ix zs x.val : Int), .int .i64 (impl_leastCost_.vl zs x.val), undef, undef, undef, undef, undef, undef, undef, undef, undef, undef, undef, undef, undef, undef], defers := [] }) ?assign ?body ?done ?stop
  case assign =>
    intro l x W K hK
    gi_wp2
    exact hK
  case body =>
    rintro l pre x W ⟨⟨hcr, hfr⟩, hKP, hB⟩ hlt
    have hx := x.2
    have cT := (hKP.cell (p := ⟨w.heap.size, 0, none⟩) (by show w.heap.size < _; omega) (by show w.heap.size ≠ _; omega)).trans bT.cell
    have cS := (hKP.cell (p := ⟨w1.heap.size, 0, none⟩) (by show w1.heap.size < _; omega) (by show w1.heap.size ≠ _; omega)).trans bS.cell
    have hx0 : x.val < l0.length := by have := HP.out.2.1; omega
    obtain ⟨ad, ead, hxc⟩ := Kd.at_string (Kd.C_below HR0.out hB) (x.val : Int) (by omega) (by omega)
    subst ead
    obtain ⟨tv, htv⟩ := Option.isSome_iff_exists.1 (HP.out.2.2 (rdOf ByteArray.empty l0 (x.val : Int)) (by
      unfold rdOf
      rw [Int.toNat_natCast, List.getD_eq_getElem?_getD, List.getElem?_eq_getElem hx0]
      exact List.getElem_mem hx0))
    have HT := Aside0.mk (fun w' => impl_timeOf.calls _ tv w' htv)
    rw [Int.toNat_natCast] at hxc
    obtain ⟨-, i2, -, -, -, i6, i7, -, -⟩ := impl_leastCost_.idx l1.length (impl_leastCost_.ix zs x.val) x.val l0.length HP.out.1 (congrArg (fun z => z - 1 - x.val) hlen) (Nat.lt_of_lt_of_eq hx hlen) HP.out.2.1
    obtain ⟨j1, j2, j3⟩ := impl_leastCost_.idw l1.length (impl_leastCost_.ix zs x.val) x.val HP.out.1 (congrArg (fun z => z - 1 - x.val) hlen) (Nat.lt_of_lt_of_eq hx hlen)
    clear hlt hx i2
    have HV2 : Hid (impl_leastCost_.tm (rdOf ByteArray.empty l0 (x.val : Int)) = tv) := by
      unfold impl_leastCost_.tm
      rw [htv]
      exact rfl
    clear htv
    have HS2 := Aside0.mk (impl_leastCost_.sum_snoc zs l0 (pre.map (·.val)) x.val)
    have HM : Aside0 ((pre ++ [x]).map (·.val) = pre.map (·.val) ++ [x.val]) := Aside0.mk (by simp)
    generalize x.val = xv at *
    generalize impl_leastCost_.ix zs xv = iv at *
    generalize impl_leastCost_.vl zs xv = vv at *
    have g34 : (Fence.wide.inRound l).fn 60 := trivial
    have hmx : Tryz.prog.follows .mixedOrders = true := by kernel_rfl
    gi_wp2
    have HKP := Aside0.mk hKP
    have HBB := Aside0.mk hB
    have HSS := Aside0.mk (show w.heap.size ≤ w1.heap.size + 1 by omega)
    clear hbS hbO hbT hcS hw13 hw01 hlen HZ hI hBw bB bS bO bT HR0 HV HB1 HB3 hKP hB HP hc0 hc1 f31 f32 f33 j3
    refine wpIn_region_any (by assumption) ?_
    change wpAnyIn _ _ _ _ _ _ _ _ _ (World.drew _)
    refine impl_leastCost_.inR rfl l (by kernel_rfl) _ _ _ _ ?_
    repeat' (first
      | (refine wpAnyIn_take (i := 1) (v := ?_) rfl rfl (by kernel_rfl) (by decide +kernel) (by decide +kernel) (fun _ _ _ h => h) ⟨Or.inl ⟨by rfl, ?_⟩, fun _ => rfl⟩ ?_; rotate_left; (focus (intro w; go_simp; try with_reducible rfl)))
      | (refine wpAnyIn_take (i := 6) (v := ?_) rfl rfl (by kernel_rfl) (by decide +kernel) (by decide +kernel) (fun _ _ _ h => h) ⟨Or.inl ⟨by rfl, ?_⟩, fun _ => rfl⟩ ?_; rotate_left; (focus (intro w; go_simp; try with_reducible rfl)))
      | (refine wpAnyIn_take (i := 4) (v := ?_) rfl rfl (by kernel_rfl) (by decide +kernel) (by decide +kernel) (fun _ _ _ h => h) ⟨Or.inl ⟨by rfl, ?_⟩, fun _ => rfl⟩ ?_; rotate_left; (focus (intro w; go_simp; try with_reducible rfl)))
      | (refine wpAnyIn_take (i := 5) (v := ?_) rfl rfl (by kernel_rfl) (by decide +kernel) (by decide +kernel) (fun _ _ _ h => h) ⟨Or.inl ⟨by rfl, ?_⟩, fun _ => rfl⟩ ?_; rotate_left; (focus (intro w; go_simp; try with_reducible rfl)))
      | (refine wpAnyIn_take (i := 7) (v := ?_) rfl rfl (by kernel_rfl) (by decide +kernel) (by decide +kernel) (fun _ _ _ h => h) ⟨Or.inl ⟨by rfl, ?_⟩, fun _ => rfl⟩ ?_; rotate_left; (focus (intro w; go_simp; try with_reducible rfl)))
      | (refine wpAnyIn_take (i := 8) (v := ?_) rfl rfl (by kernel_rfl) (by decide +kernel) (by decide +kernel) (fun _ _ _ h => h) ⟨Or.inl ⟨by rfl, ?_⟩, fun _ => rfl⟩ ?_; rotate_left; (focus (intro w; go_simp; try with_reducible rfl)))
      | (refine wpAnyIn_take (i := 11) (v := ?_) rfl rfl (by kernel_rfl) (by decide +kernel) (by decide +kernel) (fun _ _ _ h => h) ⟨Or.inl ⟨by rfl, ?_⟩, fun _ => rfl⟩ ?_; rotate_left; (focus (intro w; go_simp; try with_reducible rfl)))
      | (refine wpAnyIn_take (i := 12) (v := ?_) rfl rfl (by kernel_rfl) (by decide +kernel) (by decide +kernel) (fun _ _ _ h => h) ⟨Or.inl ⟨by rfl, ?_⟩, fun _ => rfl⟩ ?_; rotate_left; (focus (intro w; go_simp; try with_reducible rfl)))
      | (refine wpAnyIn_ready (rs := [0, 2, 3]) (by decide +kernel) (by simp) ?_)
      | (refine wpAnyIn_ready (rs := [2, 3]) (by decide +kernel) (by simp) ?_)
      | (refine wpAnyIn_ready (rs := [0, 3]) (by decide +kernel) (by simp) ?_)
      | (refine wpAnyIn_ready (rs := [0, 2]) (by decide +kernel) (by simp) ?_)
      | (refine wpAnyIn_ready (rs := [0]) (by decide +kernel) (by simp) ?_)
      | (refine wpAnyIn_ready (rs := [2]) (by decide +kernel) (by simp) ?_)
      | (refine wpAnyIn_ready (rs := [3]) (by decide +kernel) (by simp) ?_)
      | (refine wpAnyIn_ready (rs := [0, 9]) (by decide +kernel) (by simp) ?_)
      | (refine wpAnyIn_ready (rs := [9]) (by decide +kernel) (by simp) ?_)
      | (refine wpAnyIn_ready (rs := [0, 10]) (by decide +kernel) (by simp) ?_)
      | (refine wpAnyIn_ready (rs := [10]) (by decide +kernel) (by simp) ?_)
      | (refine wpAnyIn_ready (rs := [13]) (by decide +kernel) (by simp) ?_)
      | exact AllReadyIn.nil
      | (refine AllReadyIn.cons rfl (fun K hK => ?_) ?_)
      | (go_simp; refine hK _ _ ?_; clear hK K)
      | (go_simp; gi_at_call 60; refine (callsIn_wide.2 (HT.out _)).mono ?_; rintro e w' ⟨rfl, hd⟩; obtain ⟨nd, rfl⟩ := hd.out; refine hK _ _ ?_; clear hK K)
      | (refine wpAnyIn_done (by decide +kernel) ?_ _))
    all_goals gi_wp2
    all_goals refine impl_leastCost_.put (fun pre => impl_leastCost_.sum zs l0 (pre.map (·.val))) pre x _ hcr hfr HKP.out HBB.out HSS.out ?_
    all_goals rw [i64_w, i64_w, HM.out, HS2.out, HV2.out]
  case done =>
    rintro D ys W hD rfl ⟨⟨hcr, hfr⟩, hKP, hB⟩ hK
    gi_wp2
    refine ⟨by simp, .inl ⟨_, _, rfl, run_takeDeferred hK, ?_⟩⟩
    refine ⟨_, results_tmp rfl _ _ _, ?_, hB.trans (belowK_b (w := w) (Nat.le_refl _) W D _ _ (by have := hBw.size; omega) hK rfl rfl)⟩
    rw [← HZ.out, ← hlen, impl_leastCost_.fin_range]
    rfl
  case stop =>
    rintro D c pre W _ _ h _
    exact h.elim
end
def impl_leastCost.f (l0 : List ByteArray) (l1 : List Int) : Option Int := if l1.length ≤ 1000000 ∧ l1.length ≤ l0.length ∧ (∀ m ∈ l0, (impl_timeOf.f m).isSome = true) then some (impl_leastCost_.sum (l1.mergeSort fun x y => decide (x ≤ y)) l0 (List.range l1.length)) else none
theorem impl_leastCost.calls (A0 : Option Addr) (c0 : Nat) (l0 : List ByteArray) (A1 : Option Addr) (c1 : Nat) (l1 : List Int) (r : Int) (w : World) (hr0 : Kd.C Kd.string w A0 l0.length l0) (hc0 : l0.length ≤ c0) (hr1 : Kd.C (Kd.int .i64) w A1 l1.length l1) (hc1 : l1.length ≤ c1) (h : impl_leastCost.f l0 l1 = some r) :
    Calls Tryz.prog 35 #[.slice A0 l0.length c0, .slice A1 l1.length c1] w fun e w' => e = .returned (.int .i64 r) ∧ Below w.heap.size w w' := by
  unfold impl_leastCost.f at h
  by_cases hc : l1.length ≤ 1000000 ∧ l1.length ≤ l0.length ∧ (∀ m ∈ l0, (impl_timeOf.f m).isSome = true)
  · rw [if_pos hc] at h
    obtain rfl := Option.some.inj h
    exact callsIn_wide.1 (impl_leastCost_.walk A0 c0 l0 A1 c1 l1 w hr0 hc0 hr1 hc1 hc.1 hc.2.1 hc.2.2)
  · rw [if_neg hc] at h
    cases h

end Go.Proofs.YtgaadjlcmgmfaaaGreatDoor.PFnExactBestFrom
