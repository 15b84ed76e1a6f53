-- Written by a program of this session (the kit's print with this session's additions, wip/tools): Lean checks it. (pressed)
import Derived.Test.YtgpjcfkohlhknaaDoorAbbr
import Derived.Test.YtgpjcfkohlhknaaDoorPFnExactSortTablex0
import Derived.Test.YtgpjcfkohlhknaaDoorPFnExactSortTablex4
namespace Go.Proofs.YtgpjcfkohlhknaaDoor.PFnExactSortTable
open Go.RowKit Go.Proofs.YtgpjcfkohlhknaaDoorW.PrintWords Go.Proofs.YtgpjcfkohlhknaaDoorW.PrintLast Go.Proofs.YtgpjcfkohlhknaaDoorW.PrintMore
attribute [local go_sem] max2_int min2_int max_two min_two max_three min_three max_four min_four   -- for this text's walks alone
set_option linter.unusedVariables false
set_option linter.unusedSimpArgs false

/-! ### impl_isTable: function 46 -/
def impl_isTable.l0 : Nat → List ByteArray → Int → Int → List ByteArray → Option (Bool)
 | 0, _, _, _, _ => none
 | k + 1, x6, x7, x8, x229000 => if x8 < x7 then (if 0 ≤ x8 then (if x8 < (x6.length : Int) then ((impl_isLetterMarks.f (rdOf ByteArray.empty x6 x8)).bind fun t231 => (if t231 = true then (if x8 ≤ (x229000.length : Int) then ((slices_Contains_string_string.f k (x229000.take (x8 : Int).toNat) (rdOf ByteArray.empty x6 x8)).bind fun t233 => (if t233 = true then (some false) else (impl_isTable.l0 k x6 x7 (wrap64 (x8 + 1)) x229000))) else (none)) else (some false))) else (none)) else (none)) else ((impl_in.f (x229000.length : Int) 1 10).bind fun t229 => (some t229))
def impl_isTable.f (k : Nat) (l0_0 : List ByteArray) : Option (Bool) := impl_isTable.l0 k l0_0 (l0_0.length : Int) 0 l0_0
theorem impl_isTable.mono_l : ∀ k, (∀ y0 y1 y2 y3, LeO (impl_isTable.l0 k y0 y1 y2 y3) (impl_isTable.l0 (k + 1) y0 y1 y2 y3))
 | 0 => fun _ _ _ _ r h => by simp [impl_isTable.l0] at h
 | k + 1 => by
  have ih0 := impl_isTable.mono_l k
  ·intro y0 y1 y2 y3; unfold impl_isTable.l0
   repeat' first
   | (with_reducible exact ih0 _ _ _ _)
   | (with_reducible exact slices_Contains_string_string.mono _ _ _)
   | (with_reducible exact LeO.refl _)
   | (with_reducible exact LeO.none _)
   | (with_reducible refine LeO.ite ?_ ?_)
   | (with_reducible refine LeO.bind ?_ (fun _ => ?_))
   | exact ih0 _ _ _ _
   | exact slices_Contains_string_string.mono _ _ _
   | exact LeO.none _
   | refine LeO.ite ?_ ?_
   | refine LeO.bind ?_ (fun _ => ?_)
theorem impl_isTable.mono : ∀ a0 k, LeO (impl_isTable.f k a0) (impl_isTable.f (k + 1) a0) := by
 intro a0 k; have ih0 := impl_isTable.mono_l k; unfold impl_isTable.f
 repeat' first
   | (with_reducible exact ih0 _ _ _ _)
   | (with_reducible exact slices_Contains_string_string.mono _ _ _)
   | (with_reducible exact LeO.refl _)
   | (with_reducible exact LeO.none _)
   | (with_reducible refine LeO.ite ?_ ?_)
   | (with_reducible refine LeO.bind ?_ (fun _ => ?_))
   | exact ih0 _ _ _ _
   | exact slices_Contains_string_string.mono _ _ _
   | exact LeO.none _
   | refine LeO.ite ?_ ?_
   | refine LeO.bind ?_ (fun _ => ?_)
set_option maxHeartbeats 8000000 in
set_option maxRecDepth 100000 in
theorem impl_isTable.calls (k : Nat) (A0_0 : Option Addr) (c0_0 : Nat) (l0_0 : List ByteArray) (r : Bool) (w : World) (hr0_0 : Kd.C Kd.string w A0_0 l0_0.length l0_0) (hc0_0 : l0_0.length ≤ c0_0) (h : impl_isTable.f k l0_0 = some r) :
  Calls Tryd.prog 46 #[.agg #[.slice A0_0 l0_0.length c0_0]] w fun e w' => e = .returned (.bool r) ∧ Below w.heap.size w w' := by
 have hu28 := Tryd.underlying28; have HR0_0 := Aside0.mk hr0_0; have HC0_0 := Aside0.mk hc0_0; clear hr0_0 hc0_0; have HB := ak (Below.refl w.heap.size w); have H : (impl_isTable.l0 k l0_0 (l0_0.length : Int) 0 l0_0) = some r := h; clear h; have H' := Aside0.mk H; clear H; go_enter Tryd.func46, Tryd.ntmps46
 go_wp2_with (first | ((with_reducible refine gate_dst (N := 1) rfl ?_); refine vbe (N := 1) (cs := #[.slice A0_0 l0_0.length c0_0]) (t := 28) ?_; intro gb228 hg w2 hbox hb; have n0_ := ak (below_step (vh HB.out) hb); have n1_ := ak (hbox); have n2_ := ak (vg hg (vh HB.out)); have n3_ := ak (vg hg (vh HB.out)); clear HB; have HB := n0_; have BK228 := n1_; have GW228 := n2_; have GE228 := n3_; clear n0_ n1_ n2_ n3_; clear hb hbox hg; have hcz3_0 : w2.cell? ⟨gb228, 0, none⟩ = some (.slice A0_0 l0_0.length c0_0) := (blk_cell BK228.out 0).trans rfl; have hfz3_0 := blk_frozen BK228.out 0))
 go_loopg [8] k (fun kq v8 w' => ∃ (x8_1 : Int), v8 = .int .i64 x8_1 ∧ Aside0 (impl_isTable.l0 kq l0_0 (l0_0.length : Int) x8_1 l0_0 = some r) ∧ Aside0 (kq ≤ k) ∧ Aside0 (w'.heap[gb228]? = some (.cells #[(.slice A0_0 l0_0.length c0_0)] 28 (0, 0))) ∧ Aside0 (Below w.heap.size w w'))
 case atStart => exact ⟨(0), (by first | rfl | (simp; done) | (simp [*]; done)), H', ⟨Nat.le_refl _⟩, ⟨by exact vb BK228.out⟩, ⟨by exact vs1 HB.out GE228.out⟩⟩
 case round =>
  clear H'; try clear p2
  try clear hcz3_0
  try clear hfz3_0
  obtain ⟨x8_1, rfl, HA, HK1, BK228, HB⟩ := hrel; cases gk with
  | zero => exact absurd HA.out (by simp [impl_isTable.l0])
  | succ k1 =>
   have H := HA.out; clear HA; simp only [impl_isTable.l0] at H
   by_cases c4 : x8_1 < (l0_0.length : Int)
   ·rw [if_pos c4] at H
    have c4b0 : decide (x8_1 < (l0_0.length : Int)) = true := decide_eq_true c4; clear c4; by_cases c5 : 0 ≤ x8_1
    ·rw [if_pos c5] at H
     have c5b0 : decide (0 ≤ x8_1) = true := decide_eq_true c5; clear c5; by_cases c6 : x8_1 < (l0_0.length : Int)
     ·rw [if_pos c6] at H
      have c6b0 : decide (x8_1 < (l0_0.length : Int)) = true := decide_eq_true c6; clear c6; replace H := Option.bind_eq_some_iff.mp H; obtain ⟨t231, A70, H⟩ := H; replace H : (if t231 = true then (if x8_1 ≤ (l0_0.length : Int) then ((slices_Contains_string_string.f k1 (l0_0.take (x8_1 : Int).toNat) (rdOf ByteArray.empty l0_0 x8_1)).bind fun t233 => (if t233 = true then (some false) else (impl_isTable.l0 k1 l0_0 (l0_0.length : Int) (wrap64 (x8_1 + 1)) l0_0))) else (none)) else (some false)) = some r := H; have A7 := Aside0.mk A70; clear A70; by_cases c8 : t231 = true
      ·subst c8; have H1 : (if x8_1 ≤ (l0_0.length : Int) then ((slices_Contains_string_string.f k1 (l0_0.take (x8_1 : Int).toNat) (rdOf ByteArray.empty l0_0 x8_1)).bind fun t233 => (if t233 = true then (some false) else (impl_isTable.l0 k1 l0_0 (l0_0.length : Int) (wrap64 (x8_1 + 1)) l0_0))) else (none)) = some r := by rw [if_pos rfl] at H; first | exact H | (simp only [if_true, eq_self] at H ⊢; exact H)
       clear H; have H := H1; clear H1; have c9b0 := eq_true (of_decide_eq_true va : 0 ≤ x8_1); by_cases c10 : x8_1 ≤ (l0_0.length : Int)
       ·rw [if_pos c10] at H
        have c10b0 := eq_true c10; have c10b1 : decide (x8_1 ≤ (l0_0.length : Int)) = true := decide_eq_true c10; clear c10; replace H := Option.bind_eq_some_iff.mp H; obtain ⟨t233, A110, H⟩ := H; replace H : (if t233 = true then (some false) else (impl_isTable.l0 k1 l0_0 (l0_0.length : Int) (wrap64 (x8_1 + 1)) l0_0)) = some r := H; have A11 := Aside0.mk A110; clear A110; by_cases c12 : t233 = true
        ·subst c12; have H1 : (some false) = some r := by rw [if_pos rfl] at H; first | exact H | (simp only [if_true, eq_self] at H ⊢; exact H)
         clear H; have H := H1; clear H1; obtain rfl := Option.some.inj H; have p230 : 0 ≤ (x8_1 : Int) := of_decide_eq_true va; have q230 : x8_1 < (l0_0.length : Int) := of_decide_eq_true va; obtain ⟨ad230, e230, hx230_0⟩ := Kd.at_string HR0_0.out x8_1 p230 q230; cases e230; (try replace hx230_0 := vl HB.out hx230_0); replace p230 := eq_true p230; replace q230 := eq_true q230; go_wp2_with (first | ((with_reducible refine gate_callee (f := 79) rfl ?_); refine goesL_ (some 14) rfl rfl Tryd.func79 (by kernel_rfl) rfl #[.string (rdOf ByteArray.empty l0_0 x8_1)] rfl vm ?_; (with_reducible refine (impl_isLetterMarks.calls (rdOf ByteArray.empty l0_0 x8_1) true _ A7.out).mono ?_); rintro e w13 ⟨rfl, hb⟩; refine ⟨_, rfl, ?_⟩; have n0_ := ak (blk_below (vb BK228.out) hb); have n1_ := ak (below_step (vs1 HB.out GE228.out) hb); clear BK228; clear HB; have BK228 := n0_; have HB := n1_; clear n0_ n1_; (try clear hb); (try clear hb2); (try clear hk); (try clear hi); have hcz14_0 : w13.cell? ⟨gb228, 0, none⟩ = some (.slice (some ad230) l0_0.length c0_0) := (blk_cell BK228.out 0).trans rfl; have hfz14_0 := blk_frozen BK228.out 0; obtain ⟨i015, hi015, _, hsz15, _⟩ := info_parts info9; obtain ⟨hcut15, hA15, hC15⟩ := print_take_of (P := Tryd.prog) Value.string (⟨#[]⟩ : ByteArray) 22 9 .i64 Tryd.underlying22 hi015 hsz15 (some ad230) c0_0 l0_0 x8_1 (of_decide_eq_true va) (of_decide_eq_true va) HC0_0.out; have HR232 := ak (Kd.C_of_reads (h1 := fun _ => rfl) (hA15 _ (Kd.reads_of_C HR0_0.out))); have HC232 := Aside0.mk hC15; clear hA15 hC15 hi015 hsz15) | (go_at_call 80; refine calls_of_args (args' := #[.slice (some ad230) (l0_0.take (x8_1 : Int).toNat).length c0_0, .string (rdOf ByteArray.empty l0_0 x8_1)]) (by first | (rw [show (l0_0.take (x8_1 : Int).toNat).length = x8_1.toNat from (by rw [List.length_take]; have h_ : (x8_1 : Int) ≤ (l0_0.length : Int) := of_decide_eq_true va; omega)] <;> rfl) | rfl) ?_; (with_reducible refine (slices_Contains_string_string.calls k1 _ _ (l0_0.take (x8_1 : Int).toNat) (rdOf ByteArray.empty l0_0 x8_1) true _ ?side1 ?side2 A11.out).mono ?_); (case side1 => exact vc HR232.out HB.out); (case side2 => exact HC232.out); rintro e w' ⟨rfl, ⟨nd, rfl⟩⟩))
         go_ret
         exact ⟨by first | rfl | (simp [errW_none, errW_some] <;> rfl) | (simp [*, errW_none, errW_some] <;> rfl), by exact vs1 HB.out GE228.out⟩
        ·replace c12 := Bool.eq_false_iff.mpr c12; subst c12; have H1 : (impl_isTable.l0 k1 l0_0 (l0_0.length : Int) (wrap64 (x8_1 + 1)) l0_0) = some r := by rw [if_neg (show ¬ (false = true) by decide)] at H; first | exact H | (simp only [if_true, eq_self] at H ⊢; exact H)
         clear H; have H := H1; clear H1; have H' := Aside0.mk H; clear H; have p230 : 0 ≤ (x8_1 : Int) := of_decide_eq_true va; have q230 : x8_1 < (l0_0.length : Int) := of_decide_eq_true va; obtain ⟨ad230, e230, hx230_0⟩ := Kd.at_string HR0_0.out x8_1 p230 q230; cases e230; (try replace hx230_0 := vl HB.out hx230_0); replace p230 := eq_true p230; replace q230 := eq_true q230; go_wp2_with (first | ((with_reducible refine gate_callee (f := 79) rfl ?_); refine goesL_ (some 14) rfl rfl Tryd.func79 (by kernel_rfl) rfl #[.string (rdOf ByteArray.empty l0_0 x8_1)] rfl vm ?_; (with_reducible refine (impl_isLetterMarks.calls (rdOf ByteArray.empty l0_0 x8_1) true _ A7.out).mono ?_); rintro e w16 ⟨rfl, hb⟩; refine ⟨_, rfl, ?_⟩; have n0_ := ak (blk_below (vb BK228.out) hb); have n1_ := ak (below_step (vs1 HB.out GE228.out) hb); clear BK228; clear HB; have BK228 := n0_; have HB := n1_; clear n0_ n1_; (try clear hb); (try clear hb2); (try clear hk); (try clear hi); have hcz17_0 : w16.cell? ⟨gb228, 0, none⟩ = some (.slice (some ad230) l0_0.length c0_0) := (blk_cell BK228.out 0).trans rfl; have hfz17_0 := blk_frozen BK228.out 0; obtain ⟨i018, hi018, _, hsz18, _⟩ := info_parts info9; obtain ⟨hcut18, hA18, hC18⟩ := print_take_of (P := Tryd.prog) Value.string (⟨#[]⟩ : ByteArray) 22 9 .i64 Tryd.underlying22 hi018 hsz18 (some ad230) c0_0 l0_0 x8_1 (of_decide_eq_true va) (of_decide_eq_true va) HC0_0.out; have HR232 := ak (Kd.C_of_reads (h1 := fun _ => rfl) (hA18 _ (Kd.reads_of_C HR0_0.out))); have HC232 := Aside0.mk hC18; clear hA18 hC18 hi018 hsz18) | (go_at_call 80; refine calls_of_args (args' := #[.slice (some ad230) (l0_0.take (x8_1 : Int).toNat).length c0_0, .string (rdOf ByteArray.empty l0_0 x8_1)]) (by first | (rw [show (l0_0.take (x8_1 : Int).toNat).length = x8_1.toNat from (by rw [List.length_take]; have h_ : (x8_1 : Int) ≤ (l0_0.length : Int) := of_decide_eq_true va; omega)] <;> rfl) | rfl) ?_; (with_reducible refine (slices_Contains_string_string.calls k1 _ _ (l0_0.take (x8_1 : Int).toNat) (rdOf ByteArray.empty l0_0 x8_1) false _ ?side1 ?side2 A11.out).mono ?_); (case side1 => exact vc HR232.out HB.out); (case side2 => exact HC232.out); rintro e w' ⟨rfl, ⟨nd, rfl⟩⟩))
         go_roundg k1
         case measure => have := HK1.out; omega
         case rel => exact ⟨(wrap64 (x8_1 + 1)), vq, H', ⟨by have := HK1.out; omega⟩, ⟨by exact vb BK228.out⟩, ⟨by exact vs1 HB.out GE228.out⟩⟩
       ·rw [if_neg c10] at H
        exact absurd H (by simp)
      ·replace c8 := Bool.eq_false_iff.mpr c8; subst c8; have H1 : (some false) = some r := by rw [if_neg (show ¬ (false = true) by decide)] at H; first | exact H | (simp only [if_true, eq_self] at H ⊢; exact H)
       clear H; have H := H1; clear H1; obtain rfl := Option.some.inj H; have p230 : 0 ≤ (x8_1 : Int) := of_decide_eq_true va; have q230 : x8_1 < (l0_0.length : Int) := of_decide_eq_true va; obtain ⟨ad230, e230, hx230_0⟩ := Kd.at_string HR0_0.out x8_1 p230 q230; cases e230; (try replace hx230_0 := vl HB.out hx230_0); replace p230 := eq_true p230; replace q230 := eq_true q230; go_wp2_with (first | ((with_reducible refine gate_callee (f := 79) rfl ?_); refine goesL_ (some 14) rfl rfl Tryd.func79 (by kernel_rfl) rfl #[.string (rdOf ByteArray.empty l0_0 x8_1)] rfl vm ?_; (with_reducible refine (impl_isLetterMarks.calls (rdOf ByteArray.empty l0_0 x8_1) false _ A7.out).mono ?_); rintro e w19 ⟨rfl, hb⟩; refine ⟨_, rfl, ?_⟩; have n0_ := ak (blk_below (vb BK228.out) hb); have n1_ := ak (below_step (vs1 HB.out GE228.out) hb); clear BK228; clear HB; have BK228 := n0_; have HB := n1_; clear n0_ n1_; (try clear hb); (try clear hb2); (try clear hk); (try clear hi)))
       go_ret
       exact ⟨by first | rfl | (simp [errW_none, errW_some] <;> rfl) | (simp [*, errW_none, errW_some] <;> rfl), by exact vs1 HB.out GE228.out⟩
     ·rw [if_neg c6] at H
      exact absurd H (by simp)
    ·rw [if_neg c5] at H
     exact absurd H (by simp)
   ·rw [if_neg c4] at H
    have c4b0 : decide (x8_1 < (l0_0.length : Int)) = false := decide_eq_false c4; clear c4; replace H := Option.bind_eq_some_iff.mp H; obtain ⟨t229, A200, H⟩ := H; replace H : (some t229) = some r := H; have A20 := Aside0.mk A200; clear A200; obtain rfl := Option.some.inj H; have hcz21_0 : wr.cell? ⟨gb228, 0, none⟩ = some (.slice A0_0 l0_0.length c0_0) := (blk_cell BK228.out 0).trans rfl; have hfz21_0 := blk_frozen BK228.out 0; go_wp2_with (first | ((with_reducible refine gate_callee (f := 81) rfl ?_); refine goesL_ (some 28) rfl rfl Tryd.func81 (by kernel_rfl) rfl #[.int .i64 (l0_0.length : Int), .int .i64 1, .int .i64 10] rfl vm ?_; (with_reducible refine (impl_in.calls (l0_0.length : Int) 1 10 t229 _ A20.out).mono ?_); rintro e w' ⟨rfl, ⟨nd, rfl⟩⟩; refine ⟨_, rfl, ?_⟩))
    go_ret
    exact ⟨by first | rfl | (simp [errW_none, errW_some] <;> rfl) | (simp [*, errW_none, errW_some] <;> rfl), by exact vs1 HB.out GE228.out⟩

/-! ### impl_nodeOf: function 94 -/
def impl_nodeOf.l0 : Nat → ByteArray → Int → Int → Int → Option (Int)
 | 0, _, _, _, _ => none
 | k + 1, x0, x3, x6, x7 => if x7 < x6 then (if 0 ≤ x7 then (if x7 < (x0.size : Int) then (if (bt x0 x7) = 45 then (impl_nodeOf.l0 k x0 (wrap64 ((wrap64 (x3 * 2)) + 1)) x6 (wrap64 (x7 + 1))) else (impl_nodeOf.l0 k x0 (wrap64 (x3 * 2)) x6 (wrap64 (x7 + 1)))) else (none)) else (none)) else (some x3)
def impl_nodeOf.f (k : Nat) (a0 : ByteArray) : Option (Int) := impl_nodeOf.l0 k a0 1 (a0.size : Int) 0
theorem impl_nodeOf.mono_l : ∀ k, (∀ y0 y1 y2 y3, LeO (impl_nodeOf.l0 k y0 y1 y2 y3) (impl_nodeOf.l0 (k + 1) y0 y1 y2 y3))
 | 0 => fun _ _ _ _ r h => by simp [impl_nodeOf.l0] at h
 | k + 1 => by
  have ih0 := impl_nodeOf.mono_l k
  ·intro y0 y1 y2 y3; unfold impl_nodeOf.l0
   repeat' first
   | (with_reducible exact ih0 _ _ _ _)
   | (with_reducible exact LeO.refl _)
   | (with_reducible exact LeO.none _)
   | (with_reducible refine LeO.ite ?_ ?_)
   | (with_reducible refine LeO.bind ?_ (fun _ => ?_))
   | exact ih0 _ _ _ _
   | exact LeO.none _
   | refine LeO.ite ?_ ?_
   | refine LeO.bind ?_ (fun _ => ?_)
theorem impl_nodeOf.mono : ∀ a0 k, LeO (impl_nodeOf.f k a0) (impl_nodeOf.f (k + 1) a0) := by
 intro a0 k; have ih0 := impl_nodeOf.mono_l k; unfold impl_nodeOf.f
 repeat' first
   | (with_reducible exact ih0 _ _ _ _)
   | (with_reducible exact LeO.refl _)
   | (with_reducible exact LeO.none _)
   | (with_reducible refine LeO.ite ?_ ?_)
   | (with_reducible refine LeO.bind ?_ (fun _ => ?_))
   | exact ih0 _ _ _ _
   | exact LeO.none _
   | refine LeO.ite ?_ ?_
   | refine LeO.bind ?_ (fun _ => ?_)
set_option maxHeartbeats 8000000 in
set_option maxRecDepth 100000 in
theorem impl_nodeOf.calls (k : Nat) (a0 : ByteArray) (r : Int) (w : World) (h : impl_nodeOf.f k a0 = some r) :
  Calls Tryd.prog 94 #[.string a0] w fun e w' => e = .returned (.int .i64 r) ∧ Drawn0 w w' := by
 have H : (impl_nodeOf.l0 k a0 1 (a0.size : Int) 0) = some r := h; clear h; have H' := Aside0.mk H; clear H; go_enter Tryd.func94, Tryd.ntmps94
 go_wp2
 go_loopg [3, 7] k (fun kq v3 v7 w' => ∃ (x3_1 : Int) (x7_1 : Int), v3 = .int .i64 x3_1 ∧ v7 = .int .i64 x7_1 ∧ Aside0 (impl_nodeOf.l0 kq a0 x3_1 (a0.size : Int) x7_1 = some r) ∧ Aside0 (kq ≤ k) ∧ Drawn0 w w')
 case atStart => exact ⟨(1), (0), (by first | rfl | (simp; done) | (simp [*]; done)), (by first | rfl | (simp; done) | (simp [*]; done)), H', ⟨Nat.le_refl _⟩, by repeat (first | exact Drawn0.refl _ | apply Drawn0.step)⟩
 case round =>
  clear H'; obtain ⟨x3_1, x7_1, rfl, rfl, HA, HK1, ⟨m1, rfl⟩⟩ := hrel; cases gk with
  | zero => exact absurd HA.out (by simp [impl_nodeOf.l0])
  | succ k1 =>
   have H := HA.out; clear HA; simp only [impl_nodeOf.l0] at H
   by_cases c2 : x7_1 < (a0.size : Int)
   ·rw [if_pos c2] at H
    have c2b0 : decide (x7_1 < (a0.size : Int)) = true := decide_eq_true c2; clear c2; by_cases c3 : 0 ≤ x7_1
    ·rw [if_pos c3] at H
     have c3b0 : decide (0 ≤ x7_1) = true := decide_eq_true c3; clear c3; by_cases c4 : x7_1 < (a0.size : Int)
     ·rw [if_pos c4] at H
      have c4b0 : decide (x7_1 < (a0.size : Int)) = true := decide_eq_true c4; clear c4; by_cases c6 : (bt a0 x7_1) = 45
      ·rw [if_pos c6] at H
       have c6b0 : ((bt a0 x7_1) == 45) = true := beq_iff_eq.mpr c6; have c6b1 : ((bt a0 x7_1) != 45) = false := bne_eq_false_iff_eq.mpr c6; clear c6; have H' := Aside0.mk H; clear H; have p5 : 0 ≤ (x7_1 : Int) := of_decide_eq_true va; have q5 : x7_1 < (a0.size : Int) := of_decide_eq_true va; have hx5 := bt_at a0 x7_1; replace p5 := eq_true p5; replace q5 := eq_true q5; go_wp2
       go_roundg k1
       case measure => have := HK1.out; omega
       case rel => exact ⟨(wrap64 ((wrap64 (x3_1 * 2)) + 1)), (wrap64 (x7_1 + 1)), vq, vq, H', ⟨by have := HK1.out; omega⟩, by repeat (first | exact Drawn0.refl _ | apply Drawn0.step)⟩
      ·rw [if_neg c6] at H
       have c6b0 : ((bt a0 x7_1) == 45) = false := beq_eq_false_iff_ne.mpr c6; have c6b1 : ((bt a0 x7_1) != 45) = true := bne_iff_ne.mpr c6; have H' := Aside0.mk H; clear H; have p5 : 0 ≤ (x7_1 : Int) := of_decide_eq_true va; have q5 : x7_1 < (a0.size : Int) := of_decide_eq_true va; have hx5 := bt_at a0 x7_1; replace p5 := eq_true p5; replace q5 := eq_true q5; go_wp2
       go_roundg k1
       case measure => have := HK1.out; omega
       case rel => exact ⟨(wrap64 (x3_1 * 2)), (wrap64 (x7_1 + 1)), vq, vq, H', ⟨by have := HK1.out; omega⟩, by repeat (first | exact Drawn0.refl _ | apply Drawn0.step)⟩
     ·rw [if_neg c4] at H
      exact absurd H (by simp)
    ·rw [if_neg c3] at H
     exact absurd H (by simp)
   ·rw [if_neg c2] at H
    have c2b0 : decide (x7_1 < (a0.size : Int)) = false := decide_eq_false c2; clear c2; obtain rfl := Option.some.inj H; go_wp2
    go_ret
    exact ⟨by first | rfl | (simp; done) | (simp [*]; done), by repeat (first | exact Drawn0.refl _ | apply Drawn0.step)⟩

/-! ### cmp_isNaN_int: function 129 -/
def cmp_isNaN_int.f (a0 : Int) : Option (Bool) := some (a0 != a0)
set_option maxHeartbeats 8000000 in
set_option maxRecDepth 100000 in
theorem cmp_isNaN_int.calls (a0 : Int) (r : Bool) (w : World) (h : cmp_isNaN_int.f a0 = some r) :
  Calls Tryd.prog 129 #[.int .i64 a0] w fun e w' => e = .returned (.bool r) ∧ Drawn0 w w' := by
 have H : (some (a0 != a0)) = some r := h; clear h; obtain rfl := Option.some.inj H; go_enter Tryd.func129, Tryd.ntmps129
 go_wp2
 go_ret
 exact ⟨by first | rfl | (simp; done) | (simp [*]; done), by repeat (first | exact Drawn0.refl _ | apply Drawn0.step)⟩

/-! ### cmp_Compare_int: function 101 -/
def cmp_Compare_int.f (a0 : Int) (a1 : Int) : Option (Int) := (cmp_isNaN_int.f a0).bind fun t234 => ((cmp_isNaN_int.f a1).bind fun t235 => (if t234 = true then (if t235 = true then (some 0) else (some (-1))) else (if t235 = true then (some 1) else (if a0 < a1 then (some (-1)) else (if a0 > a1 then (some 1) else (some 0))))))
set_option maxHeartbeats 8000000 in
set_option maxRecDepth 100000 in
theorem cmp_Compare_int.calls (a0 : Int) (a1 : Int) (r : Int) (w : World) (h : cmp_Compare_int.f a0 a1 = some r) :
  Calls Tryd.prog 101 #[.int .i64 a0, .int .i64 a1] w fun e w' => e = .returned (.int .i64 r) ∧ Drawn0 w w' := by
 have H : ((cmp_isNaN_int.f a0).bind fun t234 => ((cmp_isNaN_int.f a1).bind fun t235 => (if t234 = true then (if t235 = true then (some 0) else (some (-1))) else (if t235 = true then (some 1) else (if a0 < a1 then (some (-1)) else (if a0 > a1 then (some 1) else (some 0))))))) = some r := h; clear h; replace H := Option.bind_eq_some_iff.mp H; obtain ⟨t234, A30, H⟩ := H; replace H : ((cmp_isNaN_int.f a1).bind fun t235 => (if t234 = true then (if t235 = true then (some 0) else (some (-1))) else (if t235 = true then (some 1) else (if a0 < a1 then (some (-1)) else (if a0 > a1 then (some 1) else (some 0)))))) = some r := H; have A3 := Aside0.mk A30; clear A30; replace H := Option.bind_eq_some_iff.mp H; obtain ⟨t235, A40, H⟩ := H; replace H : (if t234 = true then (if t235 = true then (some 0) else (some (-1))) else (if t235 = true then (some 1) else (if a0 < a1 then (some (-1)) else (if a0 > a1 then (some 1) else (some 0))))) = some r := H; have A4 := Aside0.mk A40; clear A40; by_cases c5 : t234 = true
 ·subst c5; have H1 : (if t235 = true then (some 0) else (some (-1))) = some r := by rw [if_pos rfl] at H; first | exact H | (simp only [if_true, eq_self] at H ⊢; exact H)
  clear H; have H := H1; clear H1; by_cases c6 : t235 = true
  ·subst c6; have H1 : (some 0) = some r := by rw [if_pos rfl] at H; first | exact H | (simp only [if_true, eq_self] at H ⊢; exact H)
   clear H; have H := H1; clear H1; obtain rfl := Option.some.inj H; go_enter Tryd.func101, Tryd.ntmps101
   go_wp2_with (first | ((with_reducible refine gate_callee (f := 129) rfl ?_); refine goesL_ (some 8) rfl rfl Tryd.func129 (by kernel_rfl) rfl #[.int .i64 a0] rfl vm ?_; (with_reducible refine (cmp_isNaN_int.calls a0 true _ A3.out).mono ?_); rintro e w' ⟨rfl, ⟨nd, rfl⟩⟩; refine ⟨_, rfl, ?_⟩) | ((with_reducible refine gate_callee (f := 129) rfl ?_); refine goesL_ (some 10) rfl rfl Tryd.func129 (by kernel_rfl) rfl #[.int .i64 a1] rfl vm ?_; (with_reducible refine (cmp_isNaN_int.calls a1 true _ A4.out).mono ?_); rintro e w' ⟨rfl, ⟨nd, rfl⟩⟩; refine ⟨_, rfl, ?_⟩))
   go_ret
   exact ⟨by first | rfl | (simp; done) | (simp [*]; done), by repeat (first | exact Drawn0.refl _ | apply Drawn0.step)⟩
  ·replace c6 := Bool.eq_false_iff.mpr c6; subst c6; have H1 : (some (-1)) = some r := by rw [if_neg (show ¬ (false = true) by decide)] at H; first | exact H | (simp only [if_true, eq_self] at H ⊢; exact H)
   clear H; have H := H1; clear H1; obtain rfl := Option.some.inj H; go_enter Tryd.func101, Tryd.ntmps101
   go_wp2_with (first | ((with_reducible refine gate_callee (f := 129) rfl ?_); refine goesL_ (some 8) rfl rfl Tryd.func129 (by kernel_rfl) rfl #[.int .i64 a0] rfl vm ?_; (with_reducible refine (cmp_isNaN_int.calls a0 true _ A3.out).mono ?_); rintro e w' ⟨rfl, ⟨nd, rfl⟩⟩; refine ⟨_, rfl, ?_⟩) | ((with_reducible refine gate_callee (f := 129) rfl ?_); refine goesL_ (some 10) rfl rfl Tryd.func129 (by kernel_rfl) rfl #[.int .i64 a1] rfl vm ?_; (with_reducible refine (cmp_isNaN_int.calls a1 false _ A4.out).mono ?_); rintro e w' ⟨rfl, ⟨nd, rfl⟩⟩; refine ⟨_, rfl, ?_⟩))
   go_ret
   exact ⟨by first | rfl | (simp; done) | (simp [*]; done), by repeat (first | exact Drawn0.refl _ | apply Drawn0.step)⟩
 ·replace c5 := Bool.eq_false_iff.mpr c5; subst c5; have H1 : (if t235 = true then (some 1) else (if a0 < a1 then (some (-1)) else (if a0 > a1 then (some 1) else (some 0)))) = some r := by rw [if_neg (show ¬ (false = true) by decide)] at H; first | exact H | (simp only [if_true, eq_self] at H ⊢; exact H)
  clear H; have H := H1; clear H1; by_cases c7 : t235 = true
  ·subst c7; have H1 : (some 1) = some r := by rw [if_pos rfl] at H; first | exact H | (simp only [if_true, eq_self] at H ⊢; exact H)
   clear H; have H := H1; clear H1; obtain rfl := Option.some.inj H; go_enter Tryd.func101, Tryd.ntmps101
   go_wp2_with (first | ((with_reducible refine gate_callee (f := 129) rfl ?_); refine goesL_ (some 8) rfl rfl Tryd.func129 (by kernel_rfl) rfl #[.int .i64 a0] rfl vm ?_; (with_reducible refine (cmp_isNaN_int.calls a0 false _ A3.out).mono ?_); rintro e w' ⟨rfl, ⟨nd, rfl⟩⟩; refine ⟨_, rfl, ?_⟩) | ((with_reducible refine gate_callee (f := 129) rfl ?_); refine goesL_ (some 10) rfl rfl Tryd.func129 (by kernel_rfl) rfl #[.int .i64 a1] rfl vm ?_; (with_reducible refine (cmp_isNaN_int.calls a1 true _ A4.out).mono ?_); rintro e w' ⟨rfl, ⟨nd, rfl⟩⟩; refine ⟨_, rfl, ?_⟩))
   go_ret
   exact ⟨by first | rfl | (simp; done) | (simp [*]; done), by repeat (first | exact Drawn0.refl _ | apply Drawn0.step)⟩
  ·replace c7 := Bool.eq_false_iff.mpr c7; subst c7; have H1 : (if a0 < a1 then (some (-1)) else (if a0 > a1 then (some 1) else (some 0))) = some r := by rw [if_neg (show ¬ (false = true) by decide)] at H; first | exact H | (simp only [if_true, eq_self] at H ⊢; exact H)
   clear H; have H := H1; clear H1; by_cases c8 : a0 < a1
   ·rw [if_pos c8] at H
    have c8b0 : decide (a0 < a1) = true := decide_eq_true c8; clear c8; obtain rfl := Option.some.inj H; go_enter Tryd.func101, Tryd.ntmps101
    go_wp2_with (first | ((with_reducible refine gate_callee (f := 129) rfl ?_); refine goesL_ (some 8) rfl rfl Tryd.func129 (by kernel_rfl) rfl #[.int .i64 a0] rfl vm ?_; (with_reducible refine (cmp_isNaN_int.calls a0 false _ A3.out).mono ?_); rintro e w' ⟨rfl, ⟨nd, rfl⟩⟩; refine ⟨_, rfl, ?_⟩) | ((with_reducible refine gate_callee (f := 129) rfl ?_); refine goesL_ (some 10) rfl rfl Tryd.func129 (by kernel_rfl) rfl #[.int .i64 a1] rfl vm ?_; (with_reducible refine (cmp_isNaN_int.calls a1 false _ A4.out).mono ?_); rintro e w' ⟨rfl, ⟨nd, rfl⟩⟩; refine ⟨_, rfl, ?_⟩))
    go_ret
    exact ⟨by first | rfl | (simp; done) | (simp [*]; done), by repeat (first | exact Drawn0.refl _ | apply Drawn0.step)⟩
   ·rw [if_neg c8] at H
    have c8b0 : decide (a0 < a1) = false := decide_eq_false c8; clear c8; by_cases c9 : a0 > a1
    ·rw [if_pos c9] at H
     have c9b0 : decide (a1 < a0) = true := decide_eq_true c9; clear c9; obtain rfl := Option.some.inj H; go_enter Tryd.func101, Tryd.ntmps101
     go_wp2_with (first | ((with_reducible refine gate_callee (f := 129) rfl ?_); refine goesL_ (some 8) rfl rfl Tryd.func129 (by kernel_rfl) rfl #[.int .i64 a0] rfl vm ?_; (with_reducible refine (cmp_isNaN_int.calls a0 false _ A3.out).mono ?_); rintro e w' ⟨rfl, ⟨nd, rfl⟩⟩; refine ⟨_, rfl, ?_⟩) | ((with_reducible refine gate_callee (f := 129) rfl ?_); refine goesL_ (some 10) rfl rfl Tryd.func129 (by kernel_rfl) rfl #[.int .i64 a1] rfl vm ?_; (with_reducible refine (cmp_isNaN_int.calls a1 false _ A4.out).mono ?_); rintro e w' ⟨rfl, ⟨nd, rfl⟩⟩; refine ⟨_, rfl, ?_⟩))
     go_ret
     exact ⟨by first | rfl | (simp; done) | (simp [*]; done), by repeat (first | exact Drawn0.refl _ | apply Drawn0.step)⟩
    ·rw [if_neg c9] at H
     have c9b0 : decide (a1 < a0) = false := decide_eq_false c9; clear c9; obtain rfl := Option.some.inj H; go_enter Tryd.func101, Tryd.ntmps101
     go_wp2_with (first | ((with_reducible refine gate_callee (f := 129) rfl ?_); refine goesL_ (some 8) rfl rfl Tryd.func129 (by kernel_rfl) rfl #[.int .i64 a0] rfl vm ?_; (with_reducible refine (cmp_isNaN_int.calls a0 false _ A3.out).mono ?_); rintro e w' ⟨rfl, ⟨nd, rfl⟩⟩; refine ⟨_, rfl, ?_⟩) | ((with_reducible refine gate_callee (f := 129) rfl ?_); refine goesL_ (some 10) rfl rfl Tryd.func129 (by kernel_rfl) rfl #[.int .i64 a1] rfl vm ?_; (with_reducible refine (cmp_isNaN_int.calls a1 false _ A4.out).mono ?_); rintro e w' ⟨rfl, ⟨nd, rfl⟩⟩; refine ⟨_, rfl, ?_⟩))
     go_ret
     exact ⟨by first | rfl | (simp; done) | (simp [*]; done), by repeat (first | exact Drawn0.refl _ | apply Drawn0.step)⟩

/-! ### slices_SortFunc_int_int: function 66 -/
def slices_SortFunc_int_int_.key (k : Nat) (t : List ByteArray) (x : Int) : Int := (impl_nodeOf.f k (rdOf ByteArray.empty t x)).getD 0
def slices_SortFunc_int_int_.ok (k : Nat) (l : List Int) (t : List ByteArray) : Prop := l.length < 4611686018427387904 ∧ (∀ x ∈ l, 0 ≤ x ∧ x < (t.length : Int)) ∧ (∀ m ∈ t, (impl_nodeOf.f k m).isSome = true) ∧ (t.map fun m => (impl_nodeOf.f k m).getD 0).Nodup
instance (k : Nat) (l : List Int) (t : List ByteArray) : Decidable (slices_SortFunc_int_int_.ok k l t) := inferInstanceAs (Decidable (_ ∧ _ ∧ _ ∧ _))
def slices_SortFunc_int_int.f (k : Nat) (l : List Int) (t : List ByteArray) : Option (List Int) := if slices_SortFunc_int_int_.ok k l t then some (l.mergeSort fun x y => decide (slices_SortFunc_int_int_.key k t x ≤ slices_SortFunc_int_int_.key k t y)) else none
theorem slices_SortFunc_int_int_.rd_mem (t : List ByteArray) (x : Int) (h : 0 ≤ x ∧ x < (t.length : Int)) : ∃ hx : x.toNat < t.length, rdOf ByteArray.empty t x = t[x.toNat] := by
 have hx : x.toNat < t.length := by omega
 refine ⟨hx, ?_⟩; unfold rdOf
 rw [List.getD_eq_getElem?_getD, List.getElem?_eq_getElem hx]
 rfl
theorem slices_SortFunc_int_int_.up (k : Nat) (m : ByteArray) (h : (impl_nodeOf.f k m).isSome = true) : impl_nodeOf.f (k + 1) m = impl_nodeOf.f k m := by
 obtain ⟨d, hd⟩ := Option.isSome_iff_exists.1 h; rw [hd]
 exact impl_nodeOf.mono _ k d hd
theorem slices_SortFunc_int_int.mono (l : List Int) (t : List ByteArray) (k : Nat) : LeO (slices_SortFunc_int_int.f k l t) (slices_SortFunc_int_int.f (k + 1) l t) := by
 intro r h; unfold slices_SortFunc_int_int.f at h ⊢
 by_cases c : slices_SortFunc_int_int_.ok k l t
 ·rw [if_pos c] at h
  have e1 : (t.map fun m => (impl_nodeOf.f (k + 1) m).getD 0) = (t.map fun m => (impl_nodeOf.f k m).getD 0) := List.map_congr_left (fun m hm => by rw [slices_SortFunc_int_int_.up k m (c.2.2.1 m hm)]); have e2 : slices_SortFunc_int_int_.ok (k + 1) l t := ⟨c.1, c.2.1, fun m hm => by rw [slices_SortFunc_int_int_.up k m (c.2.2.1 m hm)]; exact c.2.2.1 m hm, by rw [e1]; exact c.2.2.2⟩
  have e3 : ∀ x ∈ l, slices_SortFunc_int_int_.key (k + 1) t x = slices_SortFunc_int_int_.key k t x := fun x hx => by
   obtain ⟨hlt, e⟩ := slices_SortFunc_int_int_.rd_mem t x (c.2.1 x hx); unfold slices_SortFunc_int_int_.key
   rw [e, slices_SortFunc_int_int_.up k _ (c.2.2.1 _ (List.getElem_mem hlt))]
  rw [if_pos e2, ← h]
  congr 1
  have e4 := List.map_mergeSort (l := l) (f := id) (r := fun x y => decide (slices_SortFunc_int_int_.key (k + 1) t x ≤ slices_SortFunc_int_int_.key (k + 1) t y)) (s := fun x y => decide (slices_SortFunc_int_int_.key k t x ≤ slices_SortFunc_int_int_.key k t y)) (fun x hx y hy => by simp only [id, e3 x hx, e3 y hy]); simpa using e4
 ·rw [if_neg c] at h
  cases h
set_option maxHeartbeats 8000000 in
set_option maxRecDepth 100000 in
theorem slices_SortFunc_int_int_.closure (k : Nat) (t : List ByteArray) (ad : Addr) (ct gb : Nat) (W : World) (hb : W.cell? ⟨gb, 0, none⟩ = some (.slice (some ad) t.length ct)) (x y : Int) (hx : 0 ≤ x ∧ x < (t.length : Int)) (hy : 0 ≤ y ∧ y < (t.length : Int)) (hxc : W.cell? (ad.add x.toNat) = some (.string (rdOf ByteArray.empty t x))) (hyc : W.cell? (ad.add y.toNat) = some (.string (rdOf ByteArray.empty t y)))
  (va vb : Int) (ha : impl_nodeOf.f k (rdOf ByteArray.empty t x) = some va) (hb2 : impl_nodeOf.f k (rdOf ByteArray.empty t y) = some vb) (r : Int) (hr : cmp_Compare_int.f va vb = some r) :
  Calls Tryd.prog 100 #[.int .i64 x, .int .i64 y, .pointer (some ⟨gb, 0, none⟩)] W fun e w' => e = .returned (.int .i64 r) ∧ ∃ n, w' = W.drewN n := by
 have HA := ak (fun w => (impl_nodeOf.calls k _ va w ha).mono (R' := fun e w' => e = .returned (.int .i64 va) ∧ ∃ n, w' = w.drewN n) (fun e w' h => ⟨h.1, h.2.out⟩)); have HB := ak (fun w => (impl_nodeOf.calls k _ vb w hb2).mono (R' := fun e w' => e = .returned (.int .i64 vb) ∧ ∃ n, w' = w.drewN n) (fun e w' h => ⟨h.1, h.2.out⟩)); have HC := ak (fun w => (cmp_Compare_int.calls va vb r w hr).mono (R' := fun e w' => e = .returned (.int .i64 r) ∧ ∃ n, w' = w.drewN n) (fun e w' h => ⟨h.1, h.2.out⟩)); have q1 : (0 ≤ x) = True := eq_true hx.1; have q2 : (x < (t.length : Int)) = True := eq_true hx.2; have q3 : (0 ≤ y) = True := eq_true hy.1; have q4 : (y < (t.length : Int)) = True := eq_true hy.2; have hu3 := Tryd.underlying3; have hu9 := Tryd.underlying9; have hut := Tryd.underlying28; clear ha hb2 hr hx hy; go_enter Tryd.func100, Tryd.ntmps100
 go_wp2
 go_quiet (first
  | (go_at_call 101; exact Calls.quiet_of (HC.out _))
  | (go_at_call_of 94 (Value.string (rdOf ByteArray.empty t x)); exact Calls.quiet_of (HA.out _))
  | (go_at_call_of 94 (Value.string (rdOf ByteArray.empty t y)); exact Calls.quiet_of (HB.out _)))
 go_wp2
 go_ret
 exact ⟨rfl, _, rfl⟩
def slices_SortFunc_int_int_.cf (k : Nat) (t : List ByteArray) (x y : {x : Int // 0 ≤ x ∧ x < (t.length : Int)}) : Int := if slices_SortFunc_int_int_.key k t x.1 < slices_SortFunc_int_int_.key k t y.1 then -1 else if slices_SortFunc_int_int_.key k t x.1 > slices_SortFunc_int_int_.key k t y.1 then 1 else 0
theorem slices_SortFunc_int_int_.cmpq (x y : Int) : cmp_Compare_int.f x y = some (if x < y then -1 else if x > y then 1 else 0) := by
 have e : ∀ z, cmp_isNaN_int.f z = some false := fun z => by
  unfold cmp_isNaN_int.f
  simp
 unfold cmp_Compare_int.f
 rw [e, e, Option.bind_some, Option.bind_some, if_neg (by simp), if_neg (by simp)]
 by_cases c : x < y
 ·rw [if_pos c, if_pos c]
 ·by_cases c2 : x > y
  ·rw [if_neg c, if_neg c, if_pos c2, if_pos c2]
  ·rw [if_neg c, if_neg c, if_neg c2, if_neg c2]
theorem slices_SortFunc_int_int_.cells {α : Type} [Inhabited α] (enc : α → Value) (v : α → Int) (h : ∀ x, enc x = .int .i64 (v x)) (d : Array α) (w : World) (g : Nat) : Go.Sort.putRow enc w g 0 d = Go.Sort.putRow (Value.int .i64) w g 0 (d.map v) := by
 have e : Go.Sort.putCells enc 0 d = Go.Sort.putCells (Value.int .i64) 0 (d.map v) := by
  funext c
  unfold Go.Sort.putCells
  congr 1
  funext i x
  by_cases hi : i < d.size
  ·simp [hi, h]
  ·simp [hi]
 unfold Go.Sort.putRow
 rw [e]
set_option maxHeartbeats 8000000 in
set_option maxRecDepth 100000 in
theorem slices_SortFunc_int_int.calls (k : Nat) (P0_ : Nat → Prop) (u9000_ : Value) (l0 : List Int) (gb : Nat) (At : Option Addr) (ct : Nat) (t : List ByteArray) (r : List Int) (w0 w : World) (hB : Below w0.heap.size w0 w) (ho0 : Kd.R (Kd.int .i64) 3 w w0.heap.size P0_ u9000_ l0) (hbx : w.heap[gb]? = some (.cells #[.slice At t.length ct] 28 (0, 0))) (hrt : Kd.C Kd.string w0 At t.length t) (hct : t.length ≤ ct) (h : slices_SortFunc_int_int.f k l0 t = some r) :
  Calls Tryd.prog 66 #[u9000_, .func (.func 100) #[] #[.pointer (some ⟨gb, 0, none⟩)]] w fun e w' => e = .returned (.tuple #[]) ∧ Kd.R (Kd.int .i64) 3 w' w0.heap.size (fun k_ => (P0_ k_ ∨ w.heap.size ≤ k_)) u9000_ r ∧ Below w0.heap.size w0 w' ∧ Kept w w' (fun k_ => P0_ k_) := by
 unfold slices_SortFunc_int_int.f at h
 by_cases c : slices_SortFunc_int_int_.ok k l0 t
 ·rw [if_pos c] at h
  obtain rfl := Option.some.inj h; obtain ⟨hl, hin, hsome, hnd⟩ := c; rcases Given.row_open ho0 with ⟨rfl, rfl⟩ | ⟨g, cap, cur, rfl, hok, hg, hlt, hh, hlc, hcm, hcs, hH⟩
  ·refine (AnyF.slices_SortFunc_none (P := Tryd.prog) (ρ := Tryd.sortFuncInt_ren) { Tryd.sortFuncInt with } none 0 _ w).mono ?_; rintro e w' ⟨rfl, hw⟩; subst hw; exact ⟨rfl, by rw [List.mergeSort_nil]; exact Kd.R_nil _ _ _ _ _, hB, Kept.refl _ _⟩
  ·by_cases h0 : l0 = []
   ·subst h0; refine (AnyF.slices_SortFunc_none (P := Tryd.prog) (ρ := Tryd.sortFuncInt_ren) { Tryd.sortFuncInt with } (some ⟨g, 0, none⟩) cap _ w).mono ?_; rintro e w' ⟨rfl, hw⟩; subst hw; exact ⟨rfl, by rw [List.mergeSort_nil]; exact Kd.R_mono ho0 (fun _ h => .inl h), hB, Kept.refl _ _⟩
   ·obtain ⟨x0, hx0⟩ := List.exists_mem_of_ne_nil l0 h0; have hx0' := hin x0 hx0; have ht0 : 0 < t.length := by omega
    letI : Inhabited {x : Int // 0 ≤ x ∧ x < (t.length : Int)} := ⟨⟨x0, hx0'⟩⟩
    have hkey : ∀ x : Int, 0 ≤ x ∧ x < (t.length : Int) → impl_nodeOf.f k (rdOf ByteArray.empty t x) = some (slices_SortFunc_int_int_.key k t x) := fun x hx => by
     obtain ⟨hlt', e⟩ := slices_SortFunc_int_int_.rd_mem t x hx; obtain ⟨d, hd⟩ := Option.isSome_iff_exists.1 (hsome _ (List.getElem_mem hlt')); unfold slices_SortFunc_int_int_.key
     rw [e, hd]
     rfl
    have hinj : ∀ x y : {x : Int // 0 ≤ x ∧ x < (t.length : Int)}, slices_SortFunc_int_int_.key k t x.1 = slices_SortFunc_int_int_.key k t y.1 → x = y := fun x y h => by
     obtain ⟨h1, e1⟩ := slices_SortFunc_int_int_.rd_mem t x.1 x.2; obtain ⟨h2, e2⟩ := slices_SortFunc_int_int_.rd_mem t y.1 y.2; unfold slices_SortFunc_int_int_.key at h
     rw [e1, e2] at h
     have h3 := (List.getElem_inj (xs := t.map fun m => (impl_nodeOf.f k m).getD 0) (i := x.1.toNat) (j := y.1.toNat) (h₀ := by rw [List.length_map]; exact h1) (h₁ := by rw [List.length_map]; exact h2) hnd).1 (by rw [List.getElem_map, List.getElem_map]; exact h); exact Subtype.ext (by have := x.2; have := y.2; omega)
    have hlt2 : ∀ x y : {x : Int // 0 ≤ x ∧ x < (t.length : Int)}, ltOf (slices_SortFunc_int_int_.cf k t) x y = decide (slices_SortFunc_int_int_.key k t x.1 < slices_SortFunc_int_int_.key k t y.1) := fun x y => by
     unfold ltOf slices_SortFunc_int_int_.cf
     rw [decide_eq_decide]
     by_cases c1 : slices_SortFunc_int_int_.key k t x.1 < slices_SortFunc_int_int_.key k t y.1
     ·rw [if_pos c1]; omega
     ·rw [if_neg c1]
      by_cases c2 : slices_SortFunc_int_int_.key k t x.1 > slices_SortFunc_int_int_.key k t y.1
      ·rw [if_pos c2]; omega
      ·rw [if_neg c2]; omega
    have hO : Go.Sort.SWO (ltOf (slices_SortFunc_int_int_.cf k t)) := ⟨fun x => by rw [hlt2]; simp, fun x y z h1 h2 => by
     rw [hlt2, decide_eq_true_eq] at h1 h2 ⊢
     omega, fun x y z h1 h2 => by
     rw [hlt2, decide_eq_false_iff_not] at h1 h2 ⊢
     omega⟩
    have hT : ∀ x y, (ltOf (slices_SortFunc_int_int_.cf k t)) x y = false → (ltOf (slices_SortFunc_int_int_.cf k t)) y x = false → x = y := fun x y h1 h2 => by
     rw [hlt2, decide_eq_false_iff_not] at h1 h2
     exact hinj x y (by omega)
    have hne : gb ≠ g := fun e => by
     rw [e, hh] at hbx
     injection hbx with hbx
     injection hbx with _ h2 _
     exact absurd h2 (by decide)
    have hcellW : ∀ (m : Nat) (os : Array Obj) (dk : Array {x : Int // 0 ≤ x ∧ x < (t.length : Int)}) (p : Addr) (v : Value), p.block ≠ g → w.cell? p = some v → (sortWorld (fun x : {x : Int // 0 ≤ x ∧ x < (t.length : Int)} => Value.int .i64 x.1) w g 0 m dk os).cell? p = some v := fun m os dk p v hp hv => by
     have hpl := World.block_lt_of_cell? w _ hv; unfold sortWorld
     rw [Go.Sort.cell?_grow _ _ _ (by simpa [Go.Sort.putRow, Go.Sort.mapBlock, Sort.ahead] using hpl), Go.Sort.cell?_putRow_other _ _ _ _ _ _ (.inl hp)]
     exact hv
    have hcmp : CmpLays1 Tryd.prog 100 #[.pointer (some ⟨gb, 0, none⟩)] (fun x : {x : Int // 0 ≤ x ∧ x < (t.length : Int)} => Value.int .i64 x.1) (slices_SortFunc_int_int_.cf k t) g 0 (l0.pmap Subtype.mk hin).toArray.size w := fun m os dk _ x y => by
     obtain ⟨ad, ead, hxc⟩ := Kd.at_string hrt x.1 x.2.1 x.2.2; obtain ⟨ad2, ead2, hyc⟩ := Kd.at_string hrt y.1 y.2.1 y.2.2; obtain rfl : ad = ad2 := by rw [ead] at ead2; injection ead2
     have hbl : ∀ (p : Addr) (v : Value), w0.cell? p = some v → w.cell? p = some v ∧ p.block ≠ g := fun p v hv => by
      have h1 := World.block_lt_of_cell? w0 _ hv; exact ⟨(hB.cell h1).trans hv, by omega⟩
     have hbc := hcellW m os dk ⟨gb, 0, none⟩ (.slice At t.length ct) hne ((blk_cell hbx 0).trans rfl); rw [ead] at hbc
     have hx1 := hbl _ _ hxc; have hy1 := hbl _ _ hyc; refine (slices_SortFunc_int_int_.closure k t ad ct gb _ hbc x.1 y.1 x.2 y.2 (hcellW m os dk _ _ hx1.2 hx1.1) (hcellW m os dk _ _ hy1.2 hy1.1) _ _ (hkey x.1 x.2) (hkey y.1 y.2) (slices_SortFunc_int_int_.cf k t x y) (slices_SortFunc_int_int_.cmpq _ _)).mono ?_; rintro e w' ⟨rfl, q, rfl⟩; exact ⟨rfl, q, #[], by rw [Go.Sort.grow_empty]⟩
    have hsz : (l0.pmap Subtype.mk hin).toArray.size = l0.length := by simp
    have hHd : Go.Sort.Holds (fun x : {x : Int // 0 ≤ x ∧ x < (t.length : Int)} => Value.int .i64 x.1) w g 0 (l0.pmap Subtype.mk hin).toArray := fun j hj => by
     have hj' : j < l0.length := by rw [hsz] at hj; exact hj
     have h1 := hH j (by simpa using hj'); simpa [hj'] using h1
    have eg : ∀ args w, (callFunc 100 args).run Tryd.prog w = .ok (.enter 100 args) w := enters_of Tryd.func100 (by kernel_rfl) rfl; have hmain := Any.slices_SortFunc_total Tryd.sortFuncInt (fun x : {x : Int // 0 ≤ x ∧ x < (t.length : Int)} => Value.int .i64 x.1) (fun _ => rfl) (slices_SortFunc_int_int_.cf k t) hO 100 #[.pointer (some ⟨gb, 0, none⟩)] g 0 cap (l0.pmap Subtype.mk hin).toArray w eg hcmp hHd hlt (by rw [hsz]; exact hl) hT; rw [hsz] at hmain
    refine hmain.mono ?_; rintro e w' ⟨rfl, n, os, rfl⟩
    have hmap : ((l0.pmap Subtype.mk hin).toArray.toList.mergeSort fun x y => !(ltOf (slices_SortFunc_int_int_.cf k t)) y x).map (fun x => x.1) = l0.mergeSort fun x y => decide (slices_SortFunc_int_int_.key k t x ≤ slices_SortFunc_int_int_.key k t y) := by
     rw [List.map_mergeSort (s := fun x y => decide (slices_SortFunc_int_int_.key k t x ≤ slices_SortFunc_int_int_.key k t y)) (fun x _ y _ => by
      rw [hlt2, Bool.eq_iff_iff]
      simp only [Bool.not_eq_true', decide_eq_false_iff_not, decide_eq_true_eq]; omega)]
     congr 1
     simp [List.map_pmap]
    have hm : (l0.mergeSort fun x y => decide (slices_SortFunc_int_int_.key k t x ≤ slices_SortFunc_int_int_.key k t y)).length = l0.length := List.length_mergeSort _; have h := Given.row_put (enc := Value.int .i64) (h1 := fun _ => rfl) (os := os) (n := n) (m := l0.length) (zs := l0.mergeSort fun x y => decide (slices_SortFunc_int_int_.key k t x ≤ slices_SortFunc_int_int_.key k t y)) hB hok hg hh hcm hcs (by omega) (by omega); rw [List.take_of_length_le (by omega)] at h
    have hw : sortWorld (fun x : {x : Int // 0 ≤ x ∧ x < (t.length : Int)} => Value.int .i64 x.1) w g 0 n ((l0.pmap Subtype.mk hin).toArray.toList.mergeSort fun x y => !(ltOf (slices_SortFunc_int_int_.cf k t)) y x).toArray os = Go.Sort.grow (Go.Sort.putRow (Value.int .i64) (Sort.ahead w n) g 0 (l0.mergeSort fun x y => decide (slices_SortFunc_int_int_.key k t x ≤ slices_SortFunc_int_int_.key k t y)).toArray) os := by
     unfold sortWorld
     rw [slices_SortFunc_int_int_.cells (fun x : {x : Int // 0 ≤ x ∧ x < (t.length : Int)} => Value.int .i64 x.1) (fun x => x.1) (fun _ => rfl), List.map_toArray, hmap]
    rw [hw]
    exact ⟨rfl, h.1, h.2.1, h.2.2⟩
 ·rw [if_neg c] at h
  cases h

/-! ### impl_byNode: function 67 -/
set_option maxHeartbeats 8000000 in
set_option maxRecDepth 100000 in
theorem impl_byNode.calls (A : Option Addr) (n c : Nat) (w : World) :
  Calls Tryd.prog 67 #[.agg #[.slice A n c]] w fun e w' => e = .returned (.func (.func 100) #[] #[.pointer (some ⟨w.heap.size, 0, none⟩)]) ∧ w'.heap[w.heap.size]? = some (.cells #[.slice A n c] 28 (0, 0)) ∧ Below w.heap.size w w' := by
 have hu := Tryd.underlying28; go_enter Tryd.func67, Tryd.ntmps67
 go_wp2
 go_ret
 exact ⟨rfl, blk_new w _, below_alloc (Below.refl _ _) _⟩
theorem impl_byNode.event {ops : Array Oper} {rest : List Oper} {o : Oper} {a : Act} {Q : Exit → Act → World → Prop} {W : World} (hgd : o.guard = none) {N : Tmp} (hd : o.dst = some N) {cs : Array Value} {t : TypeId}
  (ho : ∃ x ts, o.op = .call { callee := .value (.func 67), args := #[x], argTypes := ts } ∧ t = 28 ∧ ∃ A n c, a.eval x = .agg #[.slice A n c] ∧ cs = #[.slice A n c])
  (h : ∀ g, g = W.heap.size → ∀ w1, w1.heap[g]? = some (.cells cs t (0, 0)) → Below W.heap.size W w1 → wpList Tryd.prog ops Q rest (a.put o.dst (.func (.func 100) #[] #[.pointer (some ⟨g, 0, none⟩)])) w1) : wpList Tryd.prog ops Q (o :: rest) a W := by
 obtain ⟨x, ts, ho, rfl, A, n, c, hx, rfl⟩ := ho; refine goesL_ (some N) hd hgd Tryd.func67 (by kernel_rfl) rfl #[.agg #[.slice A n c]] ho (by simp [hx]) ((impl_byNode.calls A n c W).mono ?_); rintro e w' ⟨rfl, hb, hB⟩; refine ⟨_, rfl, ?_⟩; rw [← hd]
 exact h _ rfl _ hb hB

end Go.Proofs.YtgpjcfkohlhknaaDoor.PFnExactSortTable
