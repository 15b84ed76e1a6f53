-- Written by a program of this session (the kit's print with this session's additions, wip/tools): Lean checks it. (pressed)
import Derived.Test.YtlgmccliclmbaaaAbbr
import Derived.Test.YtlgmccliclmbaaaPFnExactWaitsOfx0
import Derived.Test.YtlgmccliclmbaaaPFnExactWaitsOfx2
namespace Go.Proofs.Ytlgmccliclmbaaa.PFnExactWaitsOf
open Go.RowKit Go.Proofs.YtlgmccliclmbaaaW.PrintWords Go.Proofs.YtlgmccliclmbaaaW.PrintLast Go.Proofs.YtlgmccliclmbaaaW.PrintMore
attribute [local go_sem] max2_int min2_int max_two min_two max_three min_three max_four min_four   -- for this text's walks alone
set_option linter.unusedVariables false
set_option linter.unusedSimpArgs false

/-! ### spec_l10Clash: function 61 -/
def spec_l10Clash.j0 : Nat → List (S63) → Bool → Int → Int → Int → Int → Int → Int → Option (Bool)
 | 0, _, _, _, _, _, _, _, _ => none
 | k + 1, x0, x34, x149000, x149001, x149002, x150000, x150001, x150002 => if x34 = true then (some false) else ((spec_l10Next.f x0 x149000 x149001 x149002).bind fun t152 => ((spec_l10Next.f x0 x150000 x150001 x150002).bind fun t153 => (if x149001 = x150001 then (some true) else (if x149001 = t153 then (some true) else (if t152 = x150001 then (some true) else (some (t152 == t153)))))))
def spec_l10Clash.f (k : Nat) (l0 : List (S63)) (a1_0 : Int) (a1_1 : Int) (a1_2 : Int) (a2_0 : Int) (a2_1 : Int) (a2_2 : Int) : Option (Bool) := if 0 ≤ a1_0 then (if a1_0 < (l0.length : Int) then (if (wrap64 (a1_2 + ((rd_T63 l0 a1_0).f2))) ≤ a2_2 then (spec_l10Clash.j0 k l0 true a1_0 a1_1 a1_2 a2_0 a2_1 a2_2) else (if 0 ≤ a2_0 then (if a2_0 < (l0.length : Int) then (spec_l10Clash.j0 k l0 (decide ((wrap64 (a2_2 + ((rd_T63 l0 a2_0).f2))) ≤ a1_2)) a1_0 a1_1 a1_2 a2_0 a2_1 a2_2) else (none)) else (none))) else (none)) else (none)
theorem spec_l10Clash.mono_l : ∀ k, (∀ y0 y1 y2 y3 y4 y5 y6 y7, LeO (spec_l10Clash.j0 k y0 y1 y2 y3 y4 y5 y6 y7) (spec_l10Clash.j0 (k + 1) y0 y1 y2 y3 y4 y5 y6 y7))
 | 0 => fun _ _ _ _ _ _ _ _ r h => by simp [spec_l10Clash.j0] at h
 | k + 1 => by
  have ih0 := spec_l10Clash.mono_l k
  ·intro y0 y1 y2 y3 y4 y5 y6 y7; unfold spec_l10Clash.j0
   repeat' first
   | (with_reducible exact ih0 _ _ _ _ _ _ _ _)
   | (with_reducible exact LeO.refl _)
   | (with_reducible exact LeO.none _)
   | (with_reducible refine LeO.ite ?_ ?_)
   | (with_reducible refine LeO.bind ?_ (fun _ => ?_))
   | exact ih0 _ _ _ _ _ _ _ _
   | exact LeO.none _
   | refine LeO.ite ?_ ?_
   | refine LeO.bind ?_ (fun _ => ?_)
theorem spec_l10Clash.mono : ∀ a0 a1 a2 a3 a4 a5 a6 k, LeO (spec_l10Clash.f k a0 a1 a2 a3 a4 a5 a6) (spec_l10Clash.f (k + 1) a0 a1 a2 a3 a4 a5 a6) := by
 intro a0 a1 a2 a3 a4 a5 a6 k; have ih0 := spec_l10Clash.mono_l k; unfold spec_l10Clash.f
 repeat' first
   | (with_reducible exact ih0 _ _ _ _ _ _ _ _)
   | (with_reducible exact LeO.refl _)
   | (with_reducible exact LeO.none _)
   | (with_reducible refine LeO.ite ?_ ?_)
   | (with_reducible refine LeO.bind ?_ (fun _ => ?_))
   | exact ih0 _ _ _ _ _ _ _ _
   | exact LeO.none _
   | refine LeO.ite ?_ ?_
   | refine LeO.bind ?_ (fun _ => ?_)
def spec_l10Clash.T1 : Bool × List (List Nat × List Nat) := (true, [([], []), ([0], [0]), ([], []), ([], []), ([3], [3]), ([2, 4], [2, 4]), ([5], [5]), ([6], [6]), ([1, 7], [1, 7]), ([], []), ([9], [9]), ([8, 10], [8, 10]), ([11], [11]), ([12], [12]), ([13, 12], [12, 13]), ([12], [12]), ([12], [12]), ([16, 12], [12, 16]), ([15, 17, 12], [12, 15, 17]), ([18, 12], [12, 18]), ([19, 12], [12, 19]), ([14, 20, 12], [12, 14, 20]), ([12], [12]), ([22, 12], [12, 22]), ([21, 23, 12], [12, 21, 23]), ([12, 24], [12, 24])])
def spec_l10Clash.B1 : List Nat := [0, 1, 0, 0, 8, 28, 60, 124, 255, 0, 512, 2047, 4095, 8191, 16383, 8191, 8191, 73727, 237567, 499711, 1023999, 2097151, 8191, 4202495, 16777215, 33554431]
theorem spec_l10Clash.tab1 : rtab .any (opsOf Try.f61 1) = spec_l10Clash.T1 := by kernel_rfl
theorem spec_l10Clash.bits1 : waitsOk spec_l10Clash.T1.2 spec_l10Clash.B1 = true := by kernel_rfl
def spec_l10Clash.T3 : Bool × List (List Nat × List Nat) := (true, [([], []), ([], []), ([0, 1], [0, 1]), ([], []), ([], []), ([3, 4, 2], [3, 4]), ([2, 5, 0, 1, 2], [2]), ([5, 6, 0, 1, 2, 3, 4, 5, 6], [5])])
def spec_l10Clash.B3 : List Nat := [0, 0, 3, 0, 0, 31, 63, 127]
theorem spec_l10Clash.tab3 : rtab .any (opsOf Try.f61 3) = spec_l10Clash.T3 := by kernel_rfl
theorem spec_l10Clash.bits3 : waitsOk spec_l10Clash.T3.2 spec_l10Clash.B3 = true := by kernel_rfl
set_option maxHeartbeats 8000000 in
set_option maxRecDepth 100000 in
theorem spec_l10Clash.calls (k : Nat) (A0 : Option Addr) (c0 : Nat) (l0 : List (S63)) (a1_0 : Int) (a1_1 : Int) (a1_2 : Int) (a2_0 : Int) (a2_1 : Int) (a2_2 : Int) (r : Bool) (w : World) (hr0 : Kd.C k63 w A0 l0.length l0) (hc0 : l0.length ≤ c0) (h : spec_l10Clash.f k l0 a1_0 a1_1 a1_2 a2_0 a2_1 a2_2 = some r) :
  Calls Try.prog 61 #[.slice A0 l0.length c0, .agg #[.int .i64 a1_0, .int .i64 a1_1, .int .i64 a1_2], .agg #[.int .i64 a2_0, .int .i64 a2_1, .int .i64 a2_2]] w fun e w' => e = .returned (.bool r) ∧ Below w.heap.size w w' := by
 have hu67 := Try.underlying67; have HR0 := Aside0.mk hr0; have HC0 := Aside0.mk hc0; clear hr0 hc0; have HB := ak (Below.refl w.heap.size w); have H : (if 0 ≤ a1_0 then (if a1_0 < (l0.length : Int) then (if (wrap64 (a1_2 + ((rd_T63 l0 a1_0).f2))) ≤ a2_2 then (spec_l10Clash.j0 k l0 true a1_0 a1_1 a1_2 a2_0 a2_1 a2_2) else (if 0 ≤ a2_0 then (if a2_0 < (l0.length : Int) then (spec_l10Clash.j0 k l0 (decide ((wrap64 (a2_2 + ((rd_T63 l0 a2_0).f2))) ≤ a1_2)) a1_0 a1_1 a1_2 a2_0 a2_1 a2_2) else (none)) else (none))) else (none)) else (none)) = some r := h; clear h; have HC4 := Aside0.mk H; clear H; go_enter Try.func61, Try.ntmps61
 go_upto_region 1 with (first | ((with_reducible refine gate_dst (N := 4) rfl ?_); refine vbe (N := 4) (cs := #[.int .i64 a1_0, .int .i64 a1_1, .int .i64 a1_2]) (t := 67) ?_; intro gb148 hg w5 hbox hb; have n0_ := ak (below_step (vh HB.out) hb); have n1_ := ak (hbox); have n2_ := ak (vg hg (vh HB.out)); have n3_ := ak (vg hg (vh HB.out)); clear HB; have HB := n0_; have BK148 := n1_; have GW148 := n2_; have GE148 := n3_; clear n0_ n1_ n2_ n3_; clear hb hbox hg) | ((with_reducible refine gate_dst (N := 5) rfl ?_); refine vbe (N := 5) (cs := #[.int .i64 a2_0, .int .i64 a2_1, .int .i64 a2_2]) (t := 67) ?_; intro gb149 hg w6 hbox hb; have n0_ := ak (blk_below (vb BK148.out) hb); have n1_ := ak (below_step (vs1 HB.out GE148.out) hb); have n2_ := ak (hbox); have n3_ := ak (vg hg (vs1 HB.out GE148.out)); have n4_ := ak (vg hg (vs1 HB.out GE148.out)); have n5_ := ak (vn hg (vb BK148.out)); have n6_ := ak (vn' hg (vb BK148.out)); clear BK148; clear HB; have BK148 := n0_; have HB := n1_; have BK149 := n2_; have GW149 := n3_; have GE149 := n4_; have NB148_149 := n5_; have NB149_148 := n6_; clear n0_ n1_ n2_ n3_ n4_ n5_ n6_; clear hb hbox hg))
 (try simp only [Act.put, List.setIfInBounds_toArray, List.set_cons_zero, List.set_cons_succ]); go_cut [34] (fun v34 wc => ∃ (kq : Nat) (x34_3 : Bool), v34 = .bool x34_3 ∧ Aside0 (spec_l10Clash.j0 kq l0 x34_3 a1_0 a1_1 a1_2 a2_0 a2_1 a2_2 = some r) ∧ Aside0 (kq ≤ k) ∧ Aside0 (wc.heap[gb148]? = some (.cells #[.int .i64 a1_0, .int .i64 a1_1, .int .i64 a1_2] 67 (0, 0))) ∧ Aside0 (wc.heap[gb149]? = some (.cells #[.int .i64 a2_0, .int .i64 a2_1, .int .i64 a2_2] 67 (0, 0))) ∧ Aside0 (Below w.heap.size w wc))
 case first =>
  have H := HC4.out; clear HC4; by_cases c7 : 0 ≤ a1_0
  ·rw [if_pos c7] at H
   have c7b0 : decide (0 ≤ a1_0) = true := decide_eq_true c7; clear c7; (first | rw [c7b0] | (simp only [i64_w, i32_w]; rw [c7b0]) | skip); by_cases c8 : a1_0 < (l0.length : Int)
   ·rw [if_pos c8] at H
    have c8b0 : decide (a1_0 < (l0.length : Int)) = true := decide_eq_true c8; clear c8; by_cases c9 : (wrap64 (a1_2 + ((rd_T63 l0 a1_0).f2))) ≤ a2_2
    ·rw [if_pos c9] at H
     have c9b0 : decide ((wrap64 (a1_2 + ((rd_T63 l0 a1_0).f2))) ≤ a2_2) = true := decide_eq_true c9; clear c9; have H' := Aside0.mk H; clear H; try go_wp2
     have n0_ := ak (blk_drew BK148.out); have n1_ := ak (blk_drew BK149.out); have n2_ := ak (below_drew1 HB.out); clear BK148; clear BK149; clear HB; have BK148 := n0_; have BK149 := n1_; have HB := n2_; clear n0_ n1_ n2_; have p150 : 0 ≤ (a1_0 : Int) := of_decide_eq_true va; have q150 : a1_0 < (l0.length : Int) := of_decide_eq_true va; obtain ⟨ad150, e150, hx150_0, hx150_1, hx150_2, hx150_3⟩ := at_T63 HR0.out a1_0 p150 q150; have hw150_3 := hx150_3; have hw150_2 := hx150_2; have hw150_1 := hx150_1; have hw150_0 := hx150_0; cases e150; (try replace hx150_0 := vl HB.out hx150_0); (try replace hx150_1 := vl HB.out hx150_1); (try replace hx150_2 := vl HB.out hx150_2); (try replace hx150_3 := vl HB.out hx150_3); replace p150 := eq_true p150; replace q150 := eq_true q150; refine start_ (n := 26) (S := fun w' => w'.cell? ⟨gb148, 0, none⟩ = some (.int .i64 a1_0) ∧ w'.cell? ⟨gb148, 1, none⟩ = some (.int .i64 a1_1) ∧ w'.cell? ⟨gb148, 2, none⟩ = some (.int .i64 a1_2) ∧ w'.cell? ⟨gb149, 0, none⟩ = some (.int .i64 a2_0) ∧ w'.cell? ⟨gb149, 1, none⟩ = some (.int .i64 a2_1) ∧ w'.cell? ⟨gb149, 2, none⟩ = some (.int .i64 a2_2) ∧ w'.cell? (ad150.add ((a1_0).toNat * 4)) = some (.int .i64 ((rd_T63 l0 a1_0).f0)) ∧ w'.cell? ⟨(ad150.add ((a1_0).toNat * 4)).block, (ad150.add ((a1_0).toNat * 4)).off + 1, none⟩ = some (.int .i64 ((rd_T63 l0 a1_0).f1)) ∧ w'.cell? ⟨(ad150.add ((a1_0).toNat * 4)).block, (ad150.add ((a1_0).toNat * 4)).off + 2, none⟩ = some (.int .i64 ((rd_T63 l0 a1_0).f2)) ∧ w'.cell? ⟨(ad150.add ((a1_0).toNat * 4)).block, (ad150.add ((a1_0).toNat * 4)).off + 3, none⟩ = some (.int .i64 ((rd_T63 l0 a1_0).f3))) (ds := []) #[false, false, false, false, false, false, false, false, false, false, false, false, false, false, false, false, false, false, false, false, false, false, false, false, false, false] (by kernel_rfl) rfl rfl ⟨(blk_cell BK148.out 0).trans rfl, (blk_cell BK148.out 1).trans rfl, (blk_cell BK148.out 2).trans rfl, (blk_cell BK149.out 0).trans rfl, (blk_cell BK149.out 1).trans rfl, (blk_cell BK149.out 2).trans rfl, (vl HB.out hw150_0 :), (vl HB.out hw150_1 :), (vl HB.out hw150_2 :), (vl HB.out hw150_3 :)⟩ (fun hHeld => ?_); refine with_tabW spec_l10Clash.tab1 spec_l10Clash.bits1 (fun HT_ HW_ => ?_); generalize w6.drew = w10 at BK148 BK149 HB hx150_0 hx150_1 hx150_2 hx150_3 hHeld ⊢
     refine px 0 9 #[true, false, false, false, false, false, false, false, false, false, false, false, false, false, false, false, false, false, false, false, false, false, false, false, false, false] rfl HT_.out ?_ (.inl ⟨by rfl, ?_⟩) ?_ ?_ ?_; rotate_left
     ·intro w'; go_simp; with_reducible rfl
     rotate_left
     ·simp only [ap1, ap2, ap3, ap4, i64_w, i32_w]; rfl
     refine px 2 11 #[true, false, true, false, false, false, false, false, false, false, false, false, false, false, false, false, false, false, false, false, false, false, false, false, false, false] rfl HT_.out ?_ (.inl ⟨by rfl, ?_⟩) ?_ ?_ ?_; rotate_left
     ·intro w'; go_simp; with_reducible rfl
     rotate_left
     ·simp only [ap1, ap2, ap3, ap4, i64_w, i32_w]; rfl
     refine px 3 12 #[true, false, true, true, false, false, false, false, false, false, false, false, false, false, false, false, false, false, false, false, false, false, false, false, false, false] rfl HT_.out ?_ (.inl ⟨by rfl, ?_⟩) ?_ ?_ ?_; rotate_left
     ·intro w'; go_simp; with_reducible rfl
     rotate_left
     ·simp only [ap1, ap2, ap3, ap4, i64_w, i32_w]; rfl
     refine px 9 18 #[true, false, true, true, false, false, false, false, false, true, false, false, false, false, false, false, false, false, false, false, false, false, false, false, false, false] rfl HT_.out ?_ (.inl ⟨by rfl, ?_⟩) ?_ ?_ ?_; rotate_left
     ·intro w'; go_simp; with_reducible rfl
     rotate_left
     ·simp only [ap1, ap2, ap3, ap4, i64_w, i32_w]; rfl
     refine tx 1 10 #[true, true, true, true, false, false, false, false, false, true, false, false, false, false, false, false, false, false, false, false, false, false, false, false, false, false] rfl HT_.out HW_.out hHeld ?_ (.inl ⟨by rfl, ?_⟩) ?_ ?_ ?_; rotate_left
     ·rintro w' ⟨s0, s1, s2, s3, s4, s5, s6, s7, s8, s9⟩; go_simp; with_reducible rfl
     rotate_left
     ·simp only [ap1, ap2, ap3, ap4, i64_w, i32_w]; rfl
     refine tx 4 13 #[true, true, true, true, true, false, false, false, false, true, false, false, false, false, false, false, false, false, false, false, false, false, false, false, false, false] rfl HT_.out HW_.out hHeld ?_ (.inl ⟨by rfl, ?_⟩) ?_ ?_ ?_; rotate_left
     ·rintro w' ⟨s0, s1, s2, s3, s4, s5, s6, s7, s8, s9⟩; go_simp; with_reducible rfl
     rotate_left
     ·simp only [ap1, ap2, ap3, ap4, i64_w, i32_w]; rfl
     refine px 5 14 #[true, true, true, true, true, true, false, false, false, true, false, false, false, false, false, false, false, false, false, false, false, false, false, false, false, false] rfl HT_.out ?_ (.inl ⟨by rfl, ?_⟩) ?_ ?_ ?_; rotate_left
     ·intro w'; go_simp; with_reducible rfl
     rotate_left
     ·simp only [ap1, ap2, ap3, ap4, i64_w, i32_w]; rfl
     refine px 6 15 #[true, true, true, true, true, true, true, false, false, true, false, false, false, false, false, false, false, false, false, false, false, false, false, false, false, false] rfl HT_.out ?_ (.inl ⟨by rfl, ?_⟩) ?_ ?_ ?_; rotate_left
     ·intro w'; go_simp; with_reducible rfl
     rotate_left
     ·simp only [ap1, ap2, ap3, ap4, i64_w, i32_w]; rfl
     refine tx 7 16 #[true, true, true, true, true, true, true, true, false, true, false, false, false, false, false, false, false, false, false, false, false, false, false, false, false, false] rfl HT_.out HW_.out hHeld ?_ (.inl ⟨by rfl, ?_⟩) ?_ ?_ ?_; rotate_left
     ·rintro w' ⟨s0, s1, s2, s3, s4, s5, s6, s7, s8, s9⟩; go_simp; with_reducible rfl
     rotate_left
     ·simp only [ap1, ap2, ap3, ap4, i64_w, i32_w]; rfl
     refine px 8 17 #[true, true, true, true, true, true, true, true, true, true, false, false, false, false, false, false, false, false, false, false, false, false, false, false, false, false] rfl HT_.out ?_ (.inl ⟨by rfl, ?_⟩) ?_ ?_ ?_; rotate_left
     ·intro w'; go_simp; with_reducible rfl
     rotate_left
     ·simp only [ap1, ap2, ap3, ap4, i64_w, i32_w]; rfl
     refine tx 10 19 #[true, true, true, true, true, true, true, true, true, true, true, false, false, false, false, false, false, false, false, false, false, false, false, false, false, false] rfl HT_.out HW_.out hHeld ?_ (.inl ⟨by rfl, ?_⟩) ?_ ?_ ?_; rotate_left
     ·rintro w' ⟨s0, s1, s2, s3, s4, s5, s6, s7, s8, s9⟩; go_simp; with_reducible rfl
     rotate_left
     ·simp only [ap1, ap2, ap3, ap4, i64_w, i32_w]; rfl
     refine px 11 20 #[true, true, true, true, true, true, true, true, true, true, true, true, false, false, false, false, false, false, false, false, false, false, false, false, false, false] rfl HT_.out ?_ (.inl ⟨by rfl, ?_⟩) ?_ ?_ ?_; rotate_left
     ·intro w'; go_simp; with_reducible rfl
     rotate_left
     ·simp only [ap1, ap2, ap3, ap4, i64_w, i32_w]; rfl
     refine px 12 21 #[true, true, true, true, true, true, true, true, true, true, true, true, true, false, false, false, false, false, false, false, false, false, false, false, false, false] rfl HT_.out ?_ (.inl ⟨by rfl, ?_⟩) ?_ ?_ ?_; rotate_left
     ·intro w'; go_simp; with_reducible rfl
     rotate_left
     ·simp only [ap1, ap2, ap3, ap4, i64_w, i32_w]; rfl
     refine pure_ (i := 13) (N := some 22) (v := undef) (a' := ?_) #[true, true, true, true, true, true, true, true, true, true, true, true, true, true, false, false, false, false, false, false, false, false, false, false, false, false] rfl rfl (ao HT_.out) (fun _ _ _ h => h) (Or.inr ⟨by rfl, rfl⟩) ?_ ?_; rotate_left
     ·simp only [ap1, ap2, ap3, ap4, i64_w, i32_w]; rfl
     refine pure_ (i := 14) (N := some 23) (v := undef) (a' := ?_) #[true, true, true, true, true, true, true, true, true, true, true, true, true, true, true, false, false, false, false, false, false, false, false, false, false, false] rfl rfl (ao HT_.out) (fun _ _ _ h => h) (Or.inr ⟨by rfl, rfl⟩) ?_ ?_; rotate_left
     ·simp only [ap1, ap2, ap3, ap4, i64_w, i32_w]; rfl
     refine pure_ (i := 15) (N := some 24) (v := undef) (a' := ?_) #[true, true, true, true, true, true, true, true, true, true, true, true, true, true, true, true, false, false, false, false, false, false, false, false, false, false] rfl rfl (ao HT_.out) (fun _ _ _ h => h) (Or.inr ⟨by rfl, rfl⟩) ?_ ?_; rotate_left
     ·simp only [ap1, ap2, ap3, ap4, i64_w, i32_w]; rfl
     refine pure_ (i := 16) (N := some 25) (v := undef) (a' := ?_) #[true, true, true, true, true, true, true, true, true, true, true, true, true, true, true, true, true, false, false, false, false, false, false, false, false, false] rfl rfl (ao HT_.out) (fun _ _ _ h => h) (Or.inr ⟨by rfl, rfl⟩) ?_ ?_; rotate_left
     ·simp only [ap1, ap2, ap3, ap4, i64_w, i32_w]; rfl
     refine pure_ (i := 17) (N := some 26) (v := undef) (a' := ?_) #[true, true, true, true, true, true, true, true, true, true, true, true, true, true, true, true, true, true, false, false, false, false, false, false, false, false] rfl rfl (ao HT_.out) (fun _ _ _ h => h) (Or.inr ⟨by rfl, rfl⟩) ?_ ?_; rotate_left
     ·simp only [ap1, ap2, ap3, ap4, i64_w, i32_w]; rfl
     refine pure_ (i := 18) (N := some 27) (v := undef) (a' := ?_) #[true, true, true, true, true, true, true, true, true, true, true, true, true, true, true, true, true, true, true, false, false, false, false, false, false, false] rfl rfl (ao HT_.out) (fun _ _ _ h => h) (Or.inr ⟨by rfl, rfl⟩) ?_ ?_; rotate_left
     ·simp only [ap1, ap2, ap3, ap4, i64_w, i32_w]; rfl
     refine pure_ (i := 19) (N := some 28) (v := undef) (a' := ?_) #[true, true, true, true, true, true, true, true, true, true, true, true, true, true, true, true, true, true, true, true, false, false, false, false, false, false] rfl rfl (ao HT_.out) (fun _ _ _ h => h) (Or.inr ⟨by rfl, rfl⟩) ?_ ?_; rotate_left
     ·simp only [ap1, ap2, ap3, ap4, i64_w, i32_w]; rfl
     refine pure_ (i := 20) (N := some 29) (v := undef) (a' := ?_) #[true, true, true, true, true, true, true, true, true, true, true, true, true, true, true, true, true, true, true, true, true, false, false, false, false, false] rfl rfl (ao HT_.out) (fun _ _ _ h => h) (Or.inr ⟨by rfl, rfl⟩) ?_ ?_; rotate_left
     ·simp only [ap1, ap2, ap3, ap4, i64_w, i32_w]; rfl
     refine pure_ (i := 21) (N := some 30) (v := undef) (a' := ?_) #[true, true, true, true, true, true, true, true, true, true, true, true, true, true, true, true, true, true, true, true, true, true, false, false, false, false] rfl rfl (ao HT_.out) (fun _ _ _ h => h) (Or.inr ⟨by rfl, rfl⟩) ?_ ?_; rotate_left
     ·simp only [ap1, ap2, ap3, ap4, i64_w, i32_w]; rfl
     refine pure_ (i := 22) (N := some 31) (v := undef) (a' := ?_) #[true, true, true, true, true, true, true, true, true, true, true, true, true, true, true, true, true, true, true, true, true, true, true, false, false, false] rfl rfl (ao HT_.out) (fun _ _ _ h => h) (Or.inr ⟨by rfl, rfl⟩) ?_ ?_; rotate_left
     ·simp only [ap1, ap2, ap3, ap4, i64_w, i32_w]; rfl
     refine pure_ (i := 23) (N := some 32) (v := undef) (a' := ?_) #[true, true, true, true, true, true, true, true, true, true, true, true, true, true, true, true, true, true, true, true, true, true, true, true, false, false] rfl rfl (ao HT_.out) (fun _ _ _ h => h) (Or.inr ⟨by rfl, rfl⟩) ?_ ?_; rotate_left
     ·simp only [ap1, ap2, ap3, ap4, i64_w, i32_w]; rfl
     refine pure_ (i := 24) (N := some 33) (v := undef) (a' := ?_) #[true, true, true, true, true, true, true, true, true, true, true, true, true, true, true, true, true, true, true, true, true, true, true, true, true, false] rfl rfl (ao HT_.out) (fun _ _ _ h => h) (Or.inr ⟨by rfl, rfl⟩) ?_ ?_; rotate_left
     ·simp only [ap1, ap2, ap3, ap4, i64_w, i32_w]; rfl
     refine px 25 34 #[true, true, true, true, true, true, true, true, true, true, true, true, true, true, true, true, true, true, true, true, true, true, true, true, true, true] rfl HT_.out ?_ (.inl ⟨by rfl, ?_⟩) ?_ ?_ ?_; rotate_left
     ·intro w'; go_simp; with_reducible rfl
     rotate_left
     ·simp only [ap1, ap2, ap3, ap4, i64_w, i32_w]; rfl
     refine done_ (done_of HT_.out (by kernel_rfl)) ?_; try go_wp2
     go_meet
     case rel => exact ⟨_, (true), (by first | rfl | (simp; done) | (simp [*]; done)), H', ⟨by first | omega | exact Nat.le_refl _⟩, ⟨by exact vb BK148.out⟩, ⟨by exact vb BK149.out⟩, ⟨by exact vs2 HB.out GE148.out GE149.out⟩⟩
    ·rw [if_neg c9] at H
     have c9b0 : decide ((wrap64 (a1_2 + ((rd_T63 l0 a1_0).f2))) ≤ a2_2) = false := decide_eq_false c9; clear c9; by_cases c11 : 0 ≤ a2_0
     ·rw [if_pos c11] at H
      have c11b0 : decide (0 ≤ a2_0) = true := decide_eq_true c11; clear c11; by_cases c12 : a2_0 < (l0.length : Int)
      ·rw [if_pos c12] at H
       have c12b0 : decide (a2_0 < (l0.length : Int)) = true := decide_eq_true c12; clear c12; have H' := Aside0.mk H; clear H; try go_wp2
       have n0_ := ak (blk_drew BK148.out); have n1_ := ak (blk_drew BK149.out); have n2_ := ak (below_drew1 HB.out); clear BK148; clear BK149; clear HB; have BK148 := n0_; have BK149 := n1_; have HB := n2_; clear n0_ n1_ n2_; have p150 : 0 ≤ (a1_0 : Int) := of_decide_eq_true va; have q150 : a1_0 < (l0.length : Int) := of_decide_eq_true va; obtain ⟨ad150, e150, hx150_0, hx150_1, hx150_2, hx150_3⟩ := at_T63 HR0.out a1_0 p150 q150; have hw150_3 := hx150_3; have hw150_2 := hx150_2; have hw150_1 := hx150_1; have hw150_0 := hx150_0; cases e150; (try replace hx150_0 := vl HB.out hx150_0); (try replace hx150_1 := vl HB.out hx150_1); (try replace hx150_2 := vl HB.out hx150_2); (try replace hx150_3 := vl HB.out hx150_3); replace p150 := eq_true p150; replace q150 := eq_true q150; have p151 : 0 ≤ (a2_0 : Int) := of_decide_eq_true va; have q151 : a2_0 < (l0.length : Int) := of_decide_eq_true va; obtain ⟨ad151, e151, hx151_0, hx151_1, hx151_2, hx151_3⟩ := at_T63 HR0.out a2_0 p151 q151; have hw151_3 := hx151_3; have hw151_2 := hx151_2; have hw151_1 := hx151_1; have hw151_0 := hx151_0; obtain rfl : ad150 = ad151 := (by injection e151); (try replace hx151_0 := vl HB.out hx151_0); (try replace hx151_1 := vl HB.out hx151_1); (try replace hx151_2 := vl HB.out hx151_2); (try replace hx151_3 := vl HB.out hx151_3); replace p151 := eq_true p151; replace q151 := eq_true q151; refine start_ (n := 26) (S := fun w' => w'.cell? ⟨gb148, 0, none⟩ = some (.int .i64 a1_0) ∧ w'.cell? ⟨gb148, 1, none⟩ = some (.int .i64 a1_1) ∧ w'.cell? ⟨gb148, 2, none⟩ = some (.int .i64 a1_2) ∧ w'.cell? ⟨gb149, 0, none⟩ = some (.int .i64 a2_0) ∧ w'.cell? ⟨gb149, 1, none⟩ = some (.int .i64 a2_1) ∧ w'.cell? ⟨gb149, 2, none⟩ = some (.int .i64 a2_2) ∧ w'.cell? (ad150.add ((a1_0).toNat * 4)) = some (.int .i64 ((rd_T63 l0 a1_0).f0)) ∧ w'.cell? ⟨(ad150.add ((a1_0).toNat * 4)).block, (ad150.add ((a1_0).toNat * 4)).off + 1, none⟩ = some (.int .i64 ((rd_T63 l0 a1_0).f1)) ∧ w'.cell? ⟨(ad150.add ((a1_0).toNat * 4)).block, (ad150.add ((a1_0).toNat * 4)).off + 2, none⟩ = some (.int .i64 ((rd_T63 l0 a1_0).f2)) ∧ w'.cell? ⟨(ad150.add ((a1_0).toNat * 4)).block, (ad150.add ((a1_0).toNat * 4)).off + 3, none⟩ = some (.int .i64 ((rd_T63 l0 a1_0).f3)) ∧ w'.cell? (ad150.add ((a2_0).toNat * 4)) = some (.int .i64 ((rd_T63 l0 a2_0).f0)) ∧ w'.cell? ⟨(ad150.add ((a2_0).toNat * 4)).block, (ad150.add ((a2_0).toNat * 4)).off + 1, none⟩ = some (.int .i64 ((rd_T63 l0 a2_0).f1)) ∧ w'.cell? ⟨(ad150.add ((a2_0).toNat * 4)).block, (ad150.add ((a2_0).toNat * 4)).off + 2, none⟩ = some (.int .i64 ((rd_T63 l0 a2_0).f2)) ∧ w'.cell? ⟨(ad150.add ((a2_0).toNat * 4)).block, (ad150.add ((a2_0).toNat * 4)).off + 3, none⟩ = some (.int .i64 ((rd_T63 l0 a2_0).f3))) (ds := []) #[false, false, false, false, false, false, false, false, false, false, false, false, false, false, false, false, false, false, false, false, false, false, false, false, false, false] (by kernel_rfl) rfl rfl ⟨(blk_cell BK148.out 0).trans rfl, (blk_cell BK148.out 1).trans rfl, (blk_cell BK148.out 2).trans rfl, (blk_cell BK149.out 0).trans rfl, (blk_cell BK149.out 1).trans rfl, (blk_cell BK149.out 2).trans rfl, (vl HB.out hw150_0 :), (vl HB.out hw150_1 :), (vl HB.out hw150_2 :), (vl HB.out hw150_3 :), (vl HB.out hw151_0 :), (vl HB.out hw151_1 :), (vl HB.out hw151_2 :), (vl HB.out hw151_3 :)⟩ (fun hHeld => ?_); refine with_tabW spec_l10Clash.tab1 spec_l10Clash.bits1 (fun HT_ HW_ => ?_); generalize w6.drew = w13 at BK148 BK149 HB hx150_0 hx150_1 hx150_2 hx150_3 hx151_0 hx151_1 hx151_2 hx151_3 hHeld ⊢
       refine px 0 9 #[true, false, false, false, false, false, false, false, false, false, false, false, false, false, false, false, false, false, false, false, false, false, false, false, false, false] rfl HT_.out ?_ (.inl ⟨by rfl, ?_⟩) ?_ ?_ ?_; rotate_left
       ·intro w'; go_simp; with_reducible rfl
       rotate_left
       ·simp only [ap1, ap2, ap3, ap4, i64_w, i32_w]; rfl
       refine px 2 11 #[true, false, true, false, false, false, false, false, false, false, false, false, false, false, false, false, false, false, false, false, false, false, false, false, false, false] rfl HT_.out ?_ (.inl ⟨by rfl, ?_⟩) ?_ ?_ ?_; rotate_left
       ·intro w'; go_simp; with_reducible rfl
       rotate_left
       ·simp only [ap1, ap2, ap3, ap4, i64_w, i32_w]; rfl
       refine px 3 12 #[true, false, true, true, false, false, false, false, false, false, false, false, false, false, false, false, false, false, false, false, false, false, false, false, false, false] rfl HT_.out ?_ (.inl ⟨by rfl, ?_⟩) ?_ ?_ ?_; rotate_left
       ·intro w'; go_simp; with_reducible rfl
       rotate_left
       ·simp only [ap1, ap2, ap3, ap4, i64_w, i32_w]; rfl
       refine px 9 18 #[true, false, true, true, false, false, false, false, false, true, false, false, false, false, false, false, false, false, false, false, false, false, false, false, false, false] rfl HT_.out ?_ (.inl ⟨by rfl, ?_⟩) ?_ ?_ ?_; rotate_left
       ·intro w'; go_simp; with_reducible rfl
       rotate_left
       ·simp only [ap1, ap2, ap3, ap4, i64_w, i32_w]; rfl
       refine tx 1 10 #[true, true, true, true, false, false, false, false, false, true, false, false, false, false, false, false, false, false, false, false, false, false, false, false, false, false] rfl HT_.out HW_.out hHeld ?_ (.inl ⟨by rfl, ?_⟩) ?_ ?_ ?_; rotate_left
       ·rintro w' ⟨s0, s1, s2, s3, s4, s5, s6, s7, s8, s9, s10, s11, s12, s13⟩; go_simp; with_reducible rfl
       rotate_left
       ·simp only [ap1, ap2, ap3, ap4, i64_w, i32_w]; rfl
       refine tx 4 13 #[true, true, true, true, true, false, false, false, false, true, false, false, false, false, false, false, false, false, false, false, false, false, false, false, false, false] rfl HT_.out HW_.out hHeld ?_ (.inl ⟨by rfl, ?_⟩) ?_ ?_ ?_; rotate_left
       ·rintro w' ⟨s0, s1, s2, s3, s4, s5, s6, s7, s8, s9, s10, s11, s12, s13⟩; go_simp; with_reducible rfl
       rotate_left
       ·simp only [ap1, ap2, ap3, ap4, i64_w, i32_w]; rfl
       refine px 5 14 #[true, true, true, true, true, true, false, false, false, true, false, false, false, false, false, false, false, false, false, false, false, false, false, false, false, false] rfl HT_.out ?_ (.inl ⟨by rfl, ?_⟩) ?_ ?_ ?_; rotate_left
       ·intro w'; go_simp; with_reducible rfl
       rotate_left
       ·simp only [ap1, ap2, ap3, ap4, i64_w, i32_w]; rfl
       refine px 6 15 #[true, true, true, true, true, true, true, false, false, true, false, false, false, false, false, false, false, false, false, false, false, false, false, false, false, false] rfl HT_.out ?_ (.inl ⟨by rfl, ?_⟩) ?_ ?_ ?_; rotate_left
       ·intro w'; go_simp; with_reducible rfl
       rotate_left
       ·simp only [ap1, ap2, ap3, ap4, i64_w, i32_w]; rfl
       refine tx 7 16 #[true, true, true, true, true, true, true, true, false, true, false, false, false, false, false, false, false, false, false, false, false, false, false, false, false, false] rfl HT_.out HW_.out hHeld ?_ (.inl ⟨by rfl, ?_⟩) ?_ ?_ ?_; rotate_left
       ·rintro w' ⟨s0, s1, s2, s3, s4, s5, s6, s7, s8, s9, s10, s11, s12, s13⟩; go_simp; with_reducible rfl
       rotate_left
       ·simp only [ap1, ap2, ap3, ap4, i64_w, i32_w]; rfl
       refine px 8 17 #[true, true, true, true, true, true, true, true, true, true, false, false, false, false, false, false, false, false, false, false, false, false, false, false, false, false] rfl HT_.out ?_ (.inl ⟨by rfl, ?_⟩) ?_ ?_ ?_; rotate_left
       ·intro w'; go_simp; with_reducible rfl
       rotate_left
       ·simp only [ap1, ap2, ap3, ap4, i64_w, i32_w]; rfl
       refine tx 10 19 #[true, true, true, true, true, true, true, true, true, true, true, false, false, false, false, false, false, false, false, false, false, false, false, false, false, false] rfl HT_.out HW_.out hHeld ?_ (.inl ⟨by rfl, ?_⟩) ?_ ?_ ?_; rotate_left
       ·rintro w' ⟨s0, s1, s2, s3, s4, s5, s6, s7, s8, s9, s10, s11, s12, s13⟩; go_simp; with_reducible rfl
       rotate_left
       ·simp only [ap1, ap2, ap3, ap4, i64_w, i32_w]; rfl
       refine px 11 20 #[true, true, true, true, true, true, true, true, true, true, true, true, false, false, false, false, false, false, false, false, false, false, false, false, false, false] rfl HT_.out ?_ (.inl ⟨by rfl, ?_⟩) ?_ ?_ ?_; rotate_left
       ·intro w'; go_simp; with_reducible rfl
       rotate_left
       ·simp only [ap1, ap2, ap3, ap4, i64_w, i32_w]; rfl
       refine px 12 21 #[true, true, true, true, true, true, true, true, true, true, true, true, true, false, false, false, false, false, false, false, false, false, false, false, false, false] rfl HT_.out ?_ (.inl ⟨by rfl, ?_⟩) ?_ ?_ ?_; rotate_left
       ·intro w'; go_simp; with_reducible rfl
       rotate_left
       ·simp only [ap1, ap2, ap3, ap4, i64_w, i32_w]; rfl
       refine px 13 22 #[true, true, true, true, true, true, true, true, true, true, true, true, true, true, false, false, false, false, false, false, false, false, false, false, false, false] rfl HT_.out ?_ (.inl ⟨by rfl, ?_⟩) ?_ ?_ ?_; rotate_left
       ·intro w'; go_simp; with_reducible rfl
       rotate_left
       ·simp only [ap1, ap2, ap3, ap4, i64_w, i32_w]; rfl
       refine px 15 24 #[true, true, true, true, true, true, true, true, true, true, true, true, true, true, false, true, false, false, false, false, false, false, false, false, false, false] rfl HT_.out ?_ (.inl ⟨by rfl, ?_⟩) ?_ ?_ ?_; rotate_left
       ·intro w'; go_simp; with_reducible rfl
       rotate_left
       ·simp only [ap1, ap2, ap3, ap4, i64_w, i32_w]; rfl
       refine px 16 25 #[true, true, true, true, true, true, true, true, true, true, true, true, true, true, false, true, true, false, false, false, false, false, false, false, false, false] rfl HT_.out ?_ (.inl ⟨by rfl, ?_⟩) ?_ ?_ ?_; rotate_left
       ·intro w'; go_simp; with_reducible rfl
       rotate_left
       ·simp only [ap1, ap2, ap3, ap4, i64_w, i32_w]; rfl
       refine px 22 31 #[true, true, true, true, true, true, true, true, true, true, true, true, true, true, false, true, true, false, false, false, false, false, true, false, false, false] rfl HT_.out ?_ (.inl ⟨by rfl, ?_⟩) ?_ ?_ ?_; rotate_left
       ·intro w'; go_simp; with_reducible rfl
       rotate_left
       ·simp only [ap1, ap2, ap3, ap4, i64_w, i32_w]; rfl
       refine tx 14 23 #[true, true, true, true, true, true, true, true, true, true, true, true, true, true, true, true, true, false, false, false, false, false, true, false, false, false] rfl HT_.out HW_.out hHeld ?_ (.inl ⟨by rfl, ?_⟩) ?_ ?_ ?_; rotate_left
       ·rintro w' ⟨s0, s1, s2, s3, s4, s5, s6, s7, s8, s9, s10, s11, s12, s13⟩; go_simp; with_reducible rfl
       rotate_left
       ·simp only [ap1, ap2, ap3, ap4, i64_w, i32_w]; rfl
       refine tx 17 26 #[true, true, true, true, true, true, true, true, true, true, true, true, true, true, true, true, true, true, false, false, false, false, true, false, false, false] rfl HT_.out HW_.out hHeld ?_ (.inl ⟨by rfl, ?_⟩) ?_ ?_ ?_; rotate_left
       ·rintro w' ⟨s0, s1, s2, s3, s4, s5, s6, s7, s8, s9, s10, s11, s12, s13⟩; go_simp; with_reducible rfl
       rotate_left
       ·simp only [ap1, ap2, ap3, ap4, i64_w, i32_w]; rfl
       refine px 18 27 #[true, true, true, true, true, true, true, true, true, true, true, true, true, true, true, true, true, true, true, false, false, false, true, false, false, false] rfl HT_.out ?_ (.inl ⟨by rfl, ?_⟩) ?_ ?_ ?_; rotate_left
       ·intro w'; go_simp; with_reducible rfl
       rotate_left
       ·simp only [ap1, ap2, ap3, ap4, i64_w, i32_w]; rfl
       refine px 19 28 #[true, true, true, true, true, true, true, true, true, true, true, true, true, true, true, true, true, true, true, true, false, false, true, false, false, false] rfl HT_.out ?_ (.inl ⟨by rfl, ?_⟩) ?_ ?_ ?_; rotate_left
       ·intro w'; go_simp; with_reducible rfl
       rotate_left
       ·simp only [ap1, ap2, ap3, ap4, i64_w, i32_w]; rfl
       refine tx 20 29 #[true, true, true, true, true, true, true, true, true, true, true, true, true, true, true, true, true, true, true, true, true, false, true, false, false, false] rfl HT_.out HW_.out hHeld ?_ (.inl ⟨by rfl, ?_⟩) ?_ ?_ ?_; rotate_left
       ·rintro w' ⟨s0, s1, s2, s3, s4, s5, s6, s7, s8, s9, s10, s11, s12, s13⟩; go_simp; with_reducible rfl
       rotate_left
       ·simp only [ap1, ap2, ap3, ap4, i64_w, i32_w]; rfl
       refine px 21 30 #[true, true, true, true, true, true, true, true, true, true, true, true, true, true, true, true, true, true, true, true, true, true, true, false, false, false] rfl HT_.out ?_ (.inl ⟨by rfl, ?_⟩) ?_ ?_ ?_; rotate_left
       ·intro w'; go_simp; with_reducible rfl
       rotate_left
       ·simp only [ap1, ap2, ap3, ap4, i64_w, i32_w]; rfl
       refine tx 23 32 #[true, true, true, true, true, true, true, true, true, true, true, true, true, true, true, true, true, true, true, true, true, true, true, true, false, false] rfl HT_.out HW_.out hHeld ?_ (.inl ⟨by rfl, ?_⟩) ?_ ?_ ?_; rotate_left
       ·rintro w' ⟨s0, s1, s2, s3, s4, s5, s6, s7, s8, s9, s10, s11, s12, s13⟩; go_simp; with_reducible rfl
       rotate_left
       ·simp only [ap1, ap2, ap3, ap4, i64_w, i32_w]; rfl
       refine px 24 33 #[true, true, true, true, true, true, true, true, true, true, true, true, true, true, true, true, true, true, true, true, true, true, true, true, true, false] rfl HT_.out ?_ (.inl ⟨by rfl, ?_⟩) ?_ ?_ ?_; rotate_left
       ·intro w'; go_simp; with_reducible rfl
       rotate_left
       ·simp only [ap1, ap2, ap3, ap4, i64_w, i32_w]; rfl
       refine px 25 34 #[true, true, true, true, true, true, true, true, true, true, true, true, true, true, true, true, true, true, true, true, true, true, true, true, true, true] rfl HT_.out ?_ (.inl ⟨by rfl, ?_⟩) ?_ ?_ ?_; rotate_left
       ·intro w'; go_simp; with_reducible rfl
       rotate_left
       ·simp only [ap1, ap2, ap3, ap4, i64_w, i32_w]; rfl
       refine done_ (done_of HT_.out (by kernel_rfl)) ?_; try go_wp2
       go_meet
       case rel => exact ⟨_, (decide ((wrap64 (a2_2 + ((rd_T63 l0 a2_0).f2))) ≤ a1_2)), vq, H', ⟨by first | omega | exact Nat.le_refl _⟩, ⟨by exact vb BK148.out⟩, ⟨by exact vb BK149.out⟩, ⟨by exact vs2 HB.out GE148.out GE149.out⟩⟩
      ·rw [if_neg c12] at H
       exact absurd H (by simp)
     ·rw [if_neg c11] at H
      exact absurd H (by simp)
   ·rw [if_neg c8] at H
    exact absurd H (by simp)
  ·rw [if_neg c7] at H
   exact absurd H (by simp)
 case rest =>
  clear HC4; try clear c1
  try clear p1
  try clear q1
  try clear hx1
  try clear p2
  try clear c6
  try clear p6
  try clear c7
  try clear c7b0
  try clear c8
  try clear c8b0
  try clear c9
  try clear c9b0
  try clear c11
  try clear c11b0
  try clear c12
  try clear c12b0
  try clear hx150_0
  try clear hx150_1
  try clear hx150_2
  try clear hx150_3
  try clear hx151_0
  try clear hx151_1
  try clear hx151_2
  try clear hx151_3
  try clear p150
  try clear p151
  try clear q150
  try clear q151
  obtain ⟨kq, x34_3, rfl, HA, HJ3, BK148, BK149, HB⟩ := hcut; cases kq with
  | zero => exact absurd HA.out (by simp [spec_l10Clash.j0])
  | succ kj3 =>
   have H := HA.out; clear HA; simp only [spec_l10Clash.j0] at H
   by_cases c14 : x34_3 = true
   ·subst c14; have H1 : (some false) = some r := by rw [if_pos rfl] at H; first | exact H | (simp only [if_true, eq_self] at H ⊢; exact H)
    clear H; have H := H1; clear H1; obtain rfl := Option.some.inj H; go_wp2
    go_ret
    exact ⟨by first | rfl | (simp [errW_none, errW_some] <;> rfl) | (simp [*, errW_none, errW_some] <;> rfl), by exact vs2 HB.out GE148.out GE149.out⟩
   ·replace c14 := Bool.eq_false_iff.mpr c14; subst c14; have H1 : ((spec_l10Next.f l0 a1_0 a1_1 a1_2).bind fun t152 => ((spec_l10Next.f l0 a2_0 a2_1 a2_2).bind fun t153 => (if a1_1 = a2_1 then (some true) else (if a1_1 = t153 then (some true) else (if t152 = a2_1 then (some true) else (some (t152 == t153))))))) = some r := by rw [if_neg (show ¬ (false = true) by decide)] at H; first | exact H | (simp only [if_true, eq_self] at H ⊢; exact H)
    clear H; have H := H1; clear H1; replace H := Option.bind_eq_some_iff.mp H; obtain ⟨t152, A150, H⟩ := H; replace H : ((spec_l10Next.f l0 a2_0 a2_1 a2_2).bind fun t153 => (if a1_1 = a2_1 then (some true) else (if a1_1 = t153 then (some true) else (if t152 = a2_1 then (some true) else (some (t152 == t153)))))) = some r := H; have A15 := Aside0.mk A150; clear A150; replace H := Option.bind_eq_some_iff.mp H; obtain ⟨t153, A160, H⟩ := H; replace H : (if a1_1 = a2_1 then (some true) else (if a1_1 = t153 then (some true) else (if t152 = a2_1 then (some true) else (some (t152 == t153))))) = some r := H; have A16 := Aside0.mk A160; clear A160; by_cases c17 : a1_1 = a2_1
    ·rw [if_pos c17] at H
     have c17b0 : (a1_1 == a2_1) = true := beq_iff_eq.mpr c17; have c17b1 : (a1_1 != a2_1) = false := bne_eq_false_iff_eq.mpr c17; clear c17; obtain rfl := Option.some.inj H; try go_wp2
     have n0_ := ak (blk_drew BK148.out); have n1_ := ak (blk_drew BK149.out); have n2_ := ak (below_drew1 HB.out); clear BK148; clear BK149; clear HB; have BK148 := n0_; have BK149 := n1_; have HB := n2_; clear n0_ n1_ n2_; refine start_ (n := 8) (S := fun w' => w'.cell? ⟨gb148, 0, none⟩ = some (.int .i64 a1_0) ∧ w'.cell? ⟨gb148, 1, none⟩ = some (.int .i64 a1_1) ∧ w'.cell? ⟨gb148, 2, none⟩ = some (.int .i64 a1_2) ∧ w'.cell? ⟨gb149, 0, none⟩ = some (.int .i64 a2_0) ∧ w'.cell? ⟨gb149, 1, none⟩ = some (.int .i64 a2_1) ∧ w'.cell? ⟨gb149, 2, none⟩ = some (.int .i64 a2_2)) (ds := []) #[false, false, false, false, false, false, false, false] (by kernel_rfl) rfl rfl ⟨(blk_cell BK148.out 0).trans rfl, (blk_cell BK148.out 1).trans rfl, (blk_cell BK148.out 2).trans rfl, (blk_cell BK149.out 0).trans rfl, (blk_cell BK149.out 1).trans rfl, (blk_cell BK149.out 2).trans rfl⟩ (fun hHeld => ?_); refine with_tabW spec_l10Clash.tab3 spec_l10Clash.bits3 (fun HT_ HW_ => ?_); generalize wc.drew = w18 at BK148 BK149 HB hHeld ⊢
     refine px 0 35 #[true, false, false, false, false, false, false, false] rfl HT_.out ?_ (.inl ⟨by rfl, ?_⟩) ?_ ?_ ?_; rotate_left
     ·intro w'; go_simp; with_reducible rfl
     rotate_left
     ·simp only [ap1, ap2, ap3, ap4, i64_w, i32_w]; rfl
     refine px 3 38 #[true, false, false, true, false, false, false, false] rfl HT_.out ?_ (.inl ⟨by rfl, ?_⟩) ?_ ?_ ?_; rotate_left
     ·intro w'; go_simp; with_reducible rfl
     rotate_left
     ·simp only [ap1, ap2, ap3, ap4, i64_w, i32_w]; rfl
     refine tx 1 36 #[true, true, false, true, false, false, false, false] rfl HT_.out HW_.out hHeld ?_ (.inl ⟨by rfl, ?_⟩) ?_ ?_ ?_; rotate_left
     ·rintro w' ⟨s0, s1, s2, s3, s4, s5⟩; go_simp; with_reducible rfl
     rotate_left
     ·simp only [ap1, ap2, ap3, ap4, i64_w, i32_w]; rfl
     refine tx 4 39 #[true, true, false, true, true, false, false, false] rfl HT_.out HW_.out hHeld ?_ (.inl ⟨by rfl, ?_⟩) ?_ ?_ ?_; rotate_left
     ·rintro w' ⟨s0, s1, s2, s3, s4, s5⟩; go_simp; with_reducible rfl
     rotate_left
     ·simp only [ap1, ap2, ap3, ap4, i64_w, i32_w]; rfl
     refine one_ (i := 2) (N := some 37) #[true, true, true, true, true, false, false, false] rfl rfl (one_of HT_.out (by kernel_rfl)) (by decide) (fun K hK => ?_); refine goes_ Try.func70 (by kernel_rfl) rfl #[.slice A0 l0.length c0, .agg #[.int .i64 a1_0, .int .i64 a1_1, .int .i64 a1_2]] (by rfl) rfl rfl vm ?_; with_reducible refine (spec_l10Next.calls _ _ l0 a1_0 a1_1 a1_2 t152 _ ?side1 ?side2 A15.out).mono ?_
     (case side1 => exact vc HR0.out HB.out)
     (case side2 => exact HC0.out)
     rintro e w19 ⟨rfl, hb⟩; refine ⟨_, rfl, ?_⟩; have n0_ := ak (blk_below (vb BK148.out) hb); have n1_ := ak (blk_below (vb BK149.out) hb); have n2_ := ak (below_step (vs2 HB.out GE148.out GE149.out) hb); clear BK148; clear BK149; clear HB; have BK148 := n0_; have BK149 := n1_; have HB := n2_; clear n0_ n1_ n2_; (try clear hb); (try clear hb2); (try clear hk); (try clear hi); refine hK.out _ _ ⟨(blk_cell BK148.out 0).trans rfl, (blk_cell BK148.out 1).trans rfl, (blk_cell BK148.out 2).trans rfl, (blk_cell BK149.out 0).trans rfl, (blk_cell BK149.out 1).trans rfl, (blk_cell BK149.out 2).trans rfl⟩ (fun hHeld => ?_); clear hK K; refine norm_ (a' := ?_) ?_ ?_; rotate_left
     ·show Act.put _ (some 37) _ = _; simp only [ap1, ap2, ap3, ap4, i64_w, i32_w]; rfl
     refine one_ (i := 5) (N := some 40) #[true, true, true, true, true, true, false, false] rfl rfl (one_of HT_.out (by kernel_rfl)) (by decide) (fun K hK => ?_); refine goes_ Try.func70 (by kernel_rfl) rfl #[.slice A0 l0.length c0, .agg #[.int .i64 a2_0, .int .i64 a2_1, .int .i64 a2_2]] (by rfl) rfl rfl vm ?_; with_reducible refine (spec_l10Next.calls _ _ l0 a2_0 a2_1 a2_2 t153 _ ?side1 ?side2 A16.out).mono ?_
     (case side1 => exact vc HR0.out HB.out)
     (case side2 => exact HC0.out)
     rintro e w20 ⟨rfl, hb⟩; refine ⟨_, rfl, ?_⟩; have n0_ := ak (blk_below (vb BK148.out) hb); have n1_ := ak (blk_below (vb BK149.out) hb); have n2_ := ak (below_step (vs2 HB.out GE148.out GE149.out) hb); clear BK148; clear BK149; clear HB; have BK148 := n0_; have BK149 := n1_; have HB := n2_; clear n0_ n1_ n2_; (try clear hb); (try clear hb2); (try clear hk); (try clear hi); refine hK.out _ _ ⟨(blk_cell BK148.out 0).trans rfl, (blk_cell BK148.out 1).trans rfl, (blk_cell BK148.out 2).trans rfl, (blk_cell BK149.out 0).trans rfl, (blk_cell BK149.out 1).trans rfl, (blk_cell BK149.out 2).trans rfl⟩ (fun hHeld => ?_); clear hK K; refine norm_ (a' := ?_) ?_ ?_; rotate_left
     ·show Act.put _ (some 40) _ = _; simp only [ap1, ap2, ap3, ap4, i64_w, i32_w]; rfl
     refine px 6 7 #[true, true, true, true, true, true, true, false] rfl HT_.out ?_ (.inl ⟨by rfl, ?_⟩) ?_ ?_ ?_; rotate_left
     ·intro w'; go_simp; with_reducible rfl
     rotate_left
     ·simp only [ap1, ap2, ap3, ap4, i64_w, i32_w]; rfl
     refine px 7 8 #[true, true, true, true, true, true, true, true] rfl HT_.out ?_ (.inl ⟨by rfl, ?_⟩) ?_ ?_ ?_; rotate_left
     ·intro w'; go_simp; with_reducible rfl
     rotate_left
     ·simp only [ap1, ap2, ap3, ap4, i64_w, i32_w]; rfl
     refine done_ (done_of HT_.out (by kernel_rfl)) ?_; have hnb21 := NB148_149.out; have hnc21 := NB149_148.out; have hcz22_0 : w20.cell? ⟨gb148, 0, none⟩ = some (.int .i64 a1_0) := (blk_cell BK148.out 0).trans rfl; have hcz22_1 : w20.cell? ⟨gb148, 1, none⟩ = some (.int .i64 a1_1) := (blk_cell BK148.out 1).trans rfl; have hcz22_2 : w20.cell? ⟨gb148, 2, none⟩ = some (.int .i64 a1_2) := (blk_cell BK148.out 2).trans rfl; have hfz22_0 := blk_frozen BK148.out 0; have hfz22_1 := blk_frozen BK148.out 1; have hfz22_2 := blk_frozen BK148.out 2; have hcz23_0 : w20.cell? ⟨gb149, 0, none⟩ = some (.int .i64 a2_0) := (blk_cell BK149.out 0).trans rfl; have hcz23_1 : w20.cell? ⟨gb149, 1, none⟩ = some (.int .i64 a2_1) := (blk_cell BK149.out 1).trans rfl; have hcz23_2 : w20.cell? ⟨gb149, 2, none⟩ = some (.int .i64 a2_2) := (blk_cell BK149.out 2).trans rfl; have hfz23_0 := blk_frozen BK149.out 0; have hfz23_1 := blk_frozen BK149.out 1; have hfz23_2 := blk_frozen BK149.out 2; try go_wp2
     go_ret
     exact ⟨by first | rfl | (simp [errW_none, errW_some] <;> rfl) | (simp [*, errW_none, errW_some] <;> rfl), by exact vs2 HB.out GE148.out GE149.out⟩
    ·rw [if_neg c17] at H
     have c17b0 : (a1_1 == a2_1) = false := beq_eq_false_iff_ne.mpr c17; have c17b1 : (a1_1 != a2_1) = true := bne_iff_ne.mpr c17; by_cases c24 : a1_1 = t153
     ·rw [if_pos c24] at H
      have c24b0 : (a1_1 == t153) = true := beq_iff_eq.mpr c24; have c24b1 : (a1_1 != t153) = false := bne_eq_false_iff_eq.mpr c24; clear c24; obtain rfl := Option.some.inj H; try go_wp2
      have n0_ := ak (blk_drew BK148.out); have n1_ := ak (blk_drew BK149.out); have n2_ := ak (below_drew1 HB.out); clear BK148; clear BK149; clear HB; have BK148 := n0_; have BK149 := n1_; have HB := n2_; clear n0_ n1_ n2_; refine start_ (n := 8) (S := fun w' => w'.cell? ⟨gb148, 0, none⟩ = some (.int .i64 a1_0) ∧ w'.cell? ⟨gb148, 1, none⟩ = some (.int .i64 a1_1) ∧ w'.cell? ⟨gb148, 2, none⟩ = some (.int .i64 a1_2) ∧ w'.cell? ⟨gb149, 0, none⟩ = some (.int .i64 a2_0) ∧ w'.cell? ⟨gb149, 1, none⟩ = some (.int .i64 a2_1) ∧ w'.cell? ⟨gb149, 2, none⟩ = some (.int .i64 a2_2)) (ds := []) #[false, false, false, false, false, false, false, false] (by kernel_rfl) rfl rfl ⟨(blk_cell BK148.out 0).trans rfl, (blk_cell BK148.out 1).trans rfl, (blk_cell BK148.out 2).trans rfl, (blk_cell BK149.out 0).trans rfl, (blk_cell BK149.out 1).trans rfl, (blk_cell BK149.out 2).trans rfl⟩ (fun hHeld => ?_); refine with_tabW spec_l10Clash.tab3 spec_l10Clash.bits3 (fun HT_ HW_ => ?_); generalize wc.drew = w25 at BK148 BK149 HB hHeld ⊢
      refine px 0 35 #[true, false, false, false, false, false, false, false] rfl HT_.out ?_ (.inl ⟨by rfl, ?_⟩) ?_ ?_ ?_; rotate_left
      ·intro w'; go_simp; with_reducible rfl
      rotate_left
      ·simp only [ap1, ap2, ap3, ap4, i64_w, i32_w]; rfl
      refine px 3 38 #[true, false, false, true, false, false, false, false] rfl HT_.out ?_ (.inl ⟨by rfl, ?_⟩) ?_ ?_ ?_; rotate_left
      ·intro w'; go_simp; with_reducible rfl
      rotate_left
      ·simp only [ap1, ap2, ap3, ap4, i64_w, i32_w]; rfl
      refine tx 1 36 #[true, true, false, true, false, false, false, false] rfl HT_.out HW_.out hHeld ?_ (.inl ⟨by rfl, ?_⟩) ?_ ?_ ?_; rotate_left
      ·rintro w' ⟨s0, s1, s2, s3, s4, s5⟩; go_simp; with_reducible rfl
      rotate_left
      ·simp only [ap1, ap2, ap3, ap4, i64_w, i32_w]; rfl
      refine tx 4 39 #[true, true, false, true, true, false, false, false] rfl HT_.out HW_.out hHeld ?_ (.inl ⟨by rfl, ?_⟩) ?_ ?_ ?_; rotate_left
      ·rintro w' ⟨s0, s1, s2, s3, s4, s5⟩; go_simp; with_reducible rfl
      rotate_left
      ·simp only [ap1, ap2, ap3, ap4, i64_w, i32_w]; rfl
      refine one_ (i := 2) (N := some 37) #[true, true, true, true, true, false, false, false] rfl rfl (one_of HT_.out (by kernel_rfl)) (by decide) (fun K hK => ?_); refine goes_ Try.func70 (by kernel_rfl) rfl #[.slice A0 l0.length c0, .agg #[.int .i64 a1_0, .int .i64 a1_1, .int .i64 a1_2]] (by rfl) rfl rfl vm ?_; with_reducible refine (spec_l10Next.calls _ _ l0 a1_0 a1_1 a1_2 t152 _ ?side1 ?side2 A15.out).mono ?_
      (case side1 => exact vc HR0.out HB.out)
      (case side2 => exact HC0.out)
      rintro e w26 ⟨rfl, hb⟩; refine ⟨_, rfl, ?_⟩; have n0_ := ak (blk_below (vb BK148.out) hb); have n1_ := ak (blk_below (vb BK149.out) hb); have n2_ := ak (below_step (vs2 HB.out GE148.out GE149.out) hb); clear BK148; clear BK149; clear HB; have BK148 := n0_; have BK149 := n1_; have HB := n2_; clear n0_ n1_ n2_; (try clear hb); (try clear hb2); (try clear hk); (try clear hi); refine hK.out _ _ ⟨(blk_cell BK148.out 0).trans rfl, (blk_cell BK148.out 1).trans rfl, (blk_cell BK148.out 2).trans rfl, (blk_cell BK149.out 0).trans rfl, (blk_cell BK149.out 1).trans rfl, (blk_cell BK149.out 2).trans rfl⟩ (fun hHeld => ?_); clear hK K; refine norm_ (a' := ?_) ?_ ?_; rotate_left
      ·show Act.put _ (some 37) _ = _; simp only [ap1, ap2, ap3, ap4, i64_w, i32_w]; rfl
      refine one_ (i := 5) (N := some 40) #[true, true, true, true, true, true, false, false] rfl rfl (one_of HT_.out (by kernel_rfl)) (by decide) (fun K hK => ?_); refine goes_ Try.func70 (by kernel_rfl) rfl #[.slice A0 l0.length c0, .agg #[.int .i64 a2_0, .int .i64 a2_1, .int .i64 a2_2]] (by rfl) rfl rfl vm ?_; with_reducible refine (spec_l10Next.calls _ _ l0 a2_0 a2_1 a2_2 t153 _ ?side1 ?side2 A16.out).mono ?_
      (case side1 => exact vc HR0.out HB.out)
      (case side2 => exact HC0.out)
      rintro e w27 ⟨rfl, hb⟩; refine ⟨_, rfl, ?_⟩; have n0_ := ak (blk_below (vb BK148.out) hb); have n1_ := ak (blk_below (vb BK149.out) hb); have n2_ := ak (below_step (vs2 HB.out GE148.out GE149.out) hb); clear BK148; clear BK149; clear HB; have BK148 := n0_; have BK149 := n1_; have HB := n2_; clear n0_ n1_ n2_; (try clear hb); (try clear hb2); (try clear hk); (try clear hi); refine hK.out _ _ ⟨(blk_cell BK148.out 0).trans rfl, (blk_cell BK148.out 1).trans rfl, (blk_cell BK148.out 2).trans rfl, (blk_cell BK149.out 0).trans rfl, (blk_cell BK149.out 1).trans rfl, (blk_cell BK149.out 2).trans rfl⟩ (fun hHeld => ?_); clear hK K; refine norm_ (a' := ?_) ?_ ?_; rotate_left
      ·show Act.put _ (some 40) _ = _; simp only [ap1, ap2, ap3, ap4, i64_w, i32_w]; rfl
      refine px 6 7 #[true, true, true, true, true, true, true, false] rfl HT_.out ?_ (.inl ⟨by rfl, ?_⟩) ?_ ?_ ?_; rotate_left
      ·intro w'; go_simp; with_reducible rfl
      rotate_left
      ·simp only [ap1, ap2, ap3, ap4, i64_w, i32_w]; rfl
      refine px 7 8 #[true, true, true, true, true, true, true, true] rfl HT_.out ?_ (.inl ⟨by rfl, ?_⟩) ?_ ?_ ?_; rotate_left
      ·intro w'; go_simp; with_reducible rfl
      rotate_left
      ·simp only [ap1, ap2, ap3, ap4, i64_w, i32_w]; rfl
      refine done_ (done_of HT_.out (by kernel_rfl)) ?_; have hnb28 := NB148_149.out; have hnc28 := NB149_148.out; have hcz29_0 : w27.cell? ⟨gb148, 0, none⟩ = some (.int .i64 a1_0) := (blk_cell BK148.out 0).trans rfl; have hcz29_1 : w27.cell? ⟨gb148, 1, none⟩ = some (.int .i64 a1_1) := (blk_cell BK148.out 1).trans rfl; have hcz29_2 : w27.cell? ⟨gb148, 2, none⟩ = some (.int .i64 a1_2) := (blk_cell BK148.out 2).trans rfl; have hfz29_0 := blk_frozen BK148.out 0; have hfz29_1 := blk_frozen BK148.out 1; have hfz29_2 := blk_frozen BK148.out 2; have hcz30_0 : w27.cell? ⟨gb149, 0, none⟩ = some (.int .i64 a2_0) := (blk_cell BK149.out 0).trans rfl; have hcz30_1 : w27.cell? ⟨gb149, 1, none⟩ = some (.int .i64 a2_1) := (blk_cell BK149.out 1).trans rfl; have hcz30_2 : w27.cell? ⟨gb149, 2, none⟩ = some (.int .i64 a2_2) := (blk_cell BK149.out 2).trans rfl; have hfz30_0 := blk_frozen BK149.out 0; have hfz30_1 := blk_frozen BK149.out 1; have hfz30_2 := blk_frozen BK149.out 2; try go_wp2
      go_ret
      exact ⟨by first | rfl | (simp [errW_none, errW_some] <;> rfl) | (simp [*, errW_none, errW_some] <;> rfl), by exact vs2 HB.out GE148.out GE149.out⟩
     ·rw [if_neg c24] at H
      have c24b0 : (a1_1 == t153) = false := beq_eq_false_iff_ne.mpr c24; have c24b1 : (a1_1 != t153) = true := bne_iff_ne.mpr c24; by_cases c31 : t152 = a2_1
      ·rw [if_pos c31] at H
       have c31b0 : (t152 == a2_1) = true := beq_iff_eq.mpr c31; have c31b1 : (t152 != a2_1) = false := bne_eq_false_iff_eq.mpr c31; clear c31; obtain rfl := Option.some.inj H; try go_wp2
       have n0_ := ak (blk_drew BK148.out); have n1_ := ak (blk_drew BK149.out); have n2_ := ak (below_drew1 HB.out); clear BK148; clear BK149; clear HB; have BK148 := n0_; have BK149 := n1_; have HB := n2_; clear n0_ n1_ n2_; refine start_ (n := 8) (S := fun w' => w'.cell? ⟨gb148, 0, none⟩ = some (.int .i64 a1_0) ∧ w'.cell? ⟨gb148, 1, none⟩ = some (.int .i64 a1_1) ∧ w'.cell? ⟨gb148, 2, none⟩ = some (.int .i64 a1_2) ∧ w'.cell? ⟨gb149, 0, none⟩ = some (.int .i64 a2_0) ∧ w'.cell? ⟨gb149, 1, none⟩ = some (.int .i64 a2_1) ∧ w'.cell? ⟨gb149, 2, none⟩ = some (.int .i64 a2_2)) (ds := []) #[false, false, false, false, false, false, false, false] (by kernel_rfl) rfl rfl ⟨(blk_cell BK148.out 0).trans rfl, (blk_cell BK148.out 1).trans rfl, (blk_cell BK148.out 2).trans rfl, (blk_cell BK149.out 0).trans rfl, (blk_cell BK149.out 1).trans rfl, (blk_cell BK149.out 2).trans rfl⟩ (fun hHeld => ?_); refine with_tabW spec_l10Clash.tab3 spec_l10Clash.bits3 (fun HT_ HW_ => ?_); generalize wc.drew = w32 at BK148 BK149 HB hHeld ⊢
       refine px 0 35 #[true, false, false, false, false, false, false, false] rfl HT_.out ?_ (.inl ⟨by rfl, ?_⟩) ?_ ?_ ?_; rotate_left
       ·intro w'; go_simp; with_reducible rfl
       rotate_left
       ·simp only [ap1, ap2, ap3, ap4, i64_w, i32_w]; rfl
       refine px 3 38 #[true, false, false, true, false, false, false, false] rfl HT_.out ?_ (.inl ⟨by rfl, ?_⟩) ?_ ?_ ?_; rotate_left
       ·intro w'; go_simp; with_reducible rfl
       rotate_left
       ·simp only [ap1, ap2, ap3, ap4, i64_w, i32_w]; rfl
       refine tx 1 36 #[true, true, false, true, false, false, false, false] rfl HT_.out HW_.out hHeld ?_ (.inl ⟨by rfl, ?_⟩) ?_ ?_ ?_; rotate_left
       ·rintro w' ⟨s0, s1, s2, s3, s4, s5⟩; go_simp; with_reducible rfl
       rotate_left
       ·simp only [ap1, ap2, ap3, ap4, i64_w, i32_w]; rfl
       refine tx 4 39 #[true, true, false, true, true, false, false, false] rfl HT_.out HW_.out hHeld ?_ (.inl ⟨by rfl, ?_⟩) ?_ ?_ ?_; rotate_left
       ·rintro w' ⟨s0, s1, s2, s3, s4, s5⟩; go_simp; with_reducible rfl
       rotate_left
       ·simp only [ap1, ap2, ap3, ap4, i64_w, i32_w]; rfl
       refine one_ (i := 2) (N := some 37) #[true, true, true, true, true, false, false, false] rfl rfl (one_of HT_.out (by kernel_rfl)) (by decide) (fun K hK => ?_); refine goes_ Try.func70 (by kernel_rfl) rfl #[.slice A0 l0.length c0, .agg #[.int .i64 a1_0, .int .i64 a1_1, .int .i64 a1_2]] (by rfl) rfl rfl vm ?_; with_reducible refine (spec_l10Next.calls _ _ l0 a1_0 a1_1 a1_2 t152 _ ?side1 ?side2 A15.out).mono ?_
       (case side1 => exact vc HR0.out HB.out)
       (case side2 => exact HC0.out)
       rintro e w33 ⟨rfl, hb⟩; refine ⟨_, rfl, ?_⟩; have n0_ := ak (blk_below (vb BK148.out) hb); have n1_ := ak (blk_below (vb BK149.out) hb); have n2_ := ak (below_step (vs2 HB.out GE148.out GE149.out) hb); clear BK148; clear BK149; clear HB; have BK148 := n0_; have BK149 := n1_; have HB := n2_; clear n0_ n1_ n2_; (try clear hb); (try clear hb2); (try clear hk); (try clear hi); refine hK.out _ _ ⟨(blk_cell BK148.out 0).trans rfl, (blk_cell BK148.out 1).trans rfl, (blk_cell BK148.out 2).trans rfl, (blk_cell BK149.out 0).trans rfl, (blk_cell BK149.out 1).trans rfl, (blk_cell BK149.out 2).trans rfl⟩ (fun hHeld => ?_); clear hK K; refine norm_ (a' := ?_) ?_ ?_; rotate_left
       ·show Act.put _ (some 37) _ = _; simp only [ap1, ap2, ap3, ap4, i64_w, i32_w]; rfl
       refine one_ (i := 5) (N := some 40) #[true, true, true, true, true, true, false, false] rfl rfl (one_of HT_.out (by kernel_rfl)) (by decide) (fun K hK => ?_); refine goes_ Try.func70 (by kernel_rfl) rfl #[.slice A0 l0.length c0, .agg #[.int .i64 a2_0, .int .i64 a2_1, .int .i64 a2_2]] (by rfl) rfl rfl vm ?_; with_reducible refine (spec_l10Next.calls _ _ l0 a2_0 a2_1 a2_2 t153 _ ?side1 ?side2 A16.out).mono ?_
       (case side1 => exact vc HR0.out HB.out)
       (case side2 => exact HC0.out)
       rintro e w34 ⟨rfl, hb⟩; refine ⟨_, rfl, ?_⟩; have n0_ := ak (blk_below (vb BK148.out) hb); have n1_ := ak (blk_below (vb BK149.out) hb); have n2_ := ak (below_step (vs2 HB.out GE148.out GE149.out) hb); clear BK148; clear BK149; clear HB; have BK148 := n0_; have BK149 := n1_; have HB := n2_; clear n0_ n1_ n2_; (try clear hb); (try clear hb2); (try clear hk); (try clear hi); refine hK.out _ _ ⟨(blk_cell BK148.out 0).trans rfl, (blk_cell BK148.out 1).trans rfl, (blk_cell BK148.out 2).trans rfl, (blk_cell BK149.out 0).trans rfl, (blk_cell BK149.out 1).trans rfl, (blk_cell BK149.out 2).trans rfl⟩ (fun hHeld => ?_); clear hK K; refine norm_ (a' := ?_) ?_ ?_; rotate_left
       ·show Act.put _ (some 40) _ = _; simp only [ap1, ap2, ap3, ap4, i64_w, i32_w]; rfl
       refine px 6 7 #[true, true, true, true, true, true, true, false] rfl HT_.out ?_ (.inl ⟨by rfl, ?_⟩) ?_ ?_ ?_; rotate_left
       ·intro w'; go_simp; with_reducible rfl
       rotate_left
       ·simp only [ap1, ap2, ap3, ap4, i64_w, i32_w]; rfl
       refine px 7 8 #[true, true, true, true, true, true, true, true] rfl HT_.out ?_ (.inl ⟨by rfl, ?_⟩) ?_ ?_ ?_; rotate_left
       ·intro w'; go_simp; with_reducible rfl
       rotate_left
       ·simp only [ap1, ap2, ap3, ap4, i64_w, i32_w]; rfl
       refine done_ (done_of HT_.out (by kernel_rfl)) ?_; have hnb35 := NB148_149.out; have hnc35 := NB149_148.out; have hcz36_0 : w34.cell? ⟨gb148, 0, none⟩ = some (.int .i64 a1_0) := (blk_cell BK148.out 0).trans rfl; have hcz36_1 : w34.cell? ⟨gb148, 1, none⟩ = some (.int .i64 a1_1) := (blk_cell BK148.out 1).trans rfl; have hcz36_2 : w34.cell? ⟨gb148, 2, none⟩ = some (.int .i64 a1_2) := (blk_cell BK148.out 2).trans rfl; have hfz36_0 := blk_frozen BK148.out 0; have hfz36_1 := blk_frozen BK148.out 1; have hfz36_2 := blk_frozen BK148.out 2; have hcz37_0 : w34.cell? ⟨gb149, 0, none⟩ = some (.int .i64 a2_0) := (blk_cell BK149.out 0).trans rfl; have hcz37_1 : w34.cell? ⟨gb149, 1, none⟩ = some (.int .i64 a2_1) := (blk_cell BK149.out 1).trans rfl; have hcz37_2 : w34.cell? ⟨gb149, 2, none⟩ = some (.int .i64 a2_2) := (blk_cell BK149.out 2).trans rfl; have hfz37_0 := blk_frozen BK149.out 0; have hfz37_1 := blk_frozen BK149.out 1; have hfz37_2 := blk_frozen BK149.out 2; try go_wp2
       go_ret
       exact ⟨by first | rfl | (simp [errW_none, errW_some] <;> rfl) | (simp [*, errW_none, errW_some] <;> rfl), by exact vs2 HB.out GE148.out GE149.out⟩
      ·rw [if_neg c31] at H
       have c31b0 : (t152 == a2_1) = false := beq_eq_false_iff_ne.mpr c31; have c31b1 : (t152 != a2_1) = true := bne_iff_ne.mpr c31; obtain rfl := Option.some.inj H; try go_wp2
       have n0_ := ak (blk_drew BK148.out); have n1_ := ak (blk_drew BK149.out); have n2_ := ak (below_drew1 HB.out); clear BK148; clear BK149; clear HB; have BK148 := n0_; have BK149 := n1_; have HB := n2_; clear n0_ n1_ n2_; refine start_ (n := 8) (S := fun w' => w'.cell? ⟨gb148, 0, none⟩ = some (.int .i64 a1_0) ∧ w'.cell? ⟨gb148, 1, none⟩ = some (.int .i64 a1_1) ∧ w'.cell? ⟨gb148, 2, none⟩ = some (.int .i64 a1_2) ∧ w'.cell? ⟨gb149, 0, none⟩ = some (.int .i64 a2_0) ∧ w'.cell? ⟨gb149, 1, none⟩ = some (.int .i64 a2_1) ∧ w'.cell? ⟨gb149, 2, none⟩ = some (.int .i64 a2_2)) (ds := []) #[false, false, false, false, false, false, false, false] (by kernel_rfl) rfl rfl ⟨(blk_cell BK148.out 0).trans rfl, (blk_cell BK148.out 1).trans rfl, (blk_cell BK148.out 2).trans rfl, (blk_cell BK149.out 0).trans rfl, (blk_cell BK149.out 1).trans rfl, (blk_cell BK149.out 2).trans rfl⟩ (fun hHeld => ?_); refine with_tabW spec_l10Clash.tab3 spec_l10Clash.bits3 (fun HT_ HW_ => ?_); generalize wc.drew = w38 at BK148 BK149 HB hHeld ⊢
       refine px 0 35 #[true, false, false, false, false, false, false, false] rfl HT_.out ?_ (.inl ⟨by rfl, ?_⟩) ?_ ?_ ?_; rotate_left
       ·intro w'; go_simp; with_reducible rfl
       rotate_left
       ·simp only [ap1, ap2, ap3, ap4, i64_w, i32_w]; rfl
       refine px 3 38 #[true, false, false, true, false, false, false, false] rfl HT_.out ?_ (.inl ⟨by rfl, ?_⟩) ?_ ?_ ?_; rotate_left
       ·intro w'; go_simp; with_reducible rfl
       rotate_left
       ·simp only [ap1, ap2, ap3, ap4, i64_w, i32_w]; rfl
       refine tx 1 36 #[true, true, false, true, false, false, false, false] rfl HT_.out HW_.out hHeld ?_ (.inl ⟨by rfl, ?_⟩) ?_ ?_ ?_; rotate_left
       ·rintro w' ⟨s0, s1, s2, s3, s4, s5⟩; go_simp; with_reducible rfl
       rotate_left
       ·simp only [ap1, ap2, ap3, ap4, i64_w, i32_w]; rfl
       refine tx 4 39 #[true, true, false, true, true, false, false, false] rfl HT_.out HW_.out hHeld ?_ (.inl ⟨by rfl, ?_⟩) ?_ ?_ ?_; rotate_left
       ·rintro w' ⟨s0, s1, s2, s3, s4, s5⟩; go_simp; with_reducible rfl
       rotate_left
       ·simp only [ap1, ap2, ap3, ap4, i64_w, i32_w]; rfl
       refine one_ (i := 2) (N := some 37) #[true, true, true, true, true, false, false, false] rfl rfl (one_of HT_.out (by kernel_rfl)) (by decide) (fun K hK => ?_); refine goes_ Try.func70 (by kernel_rfl) rfl #[.slice A0 l0.length c0, .agg #[.int .i64 a1_0, .int .i64 a1_1, .int .i64 a1_2]] (by rfl) rfl rfl vm ?_; with_reducible refine (spec_l10Next.calls _ _ l0 a1_0 a1_1 a1_2 t152 _ ?side1 ?side2 A15.out).mono ?_
       (case side1 => exact vc HR0.out HB.out)
       (case side2 => exact HC0.out)
       rintro e w39 ⟨rfl, hb⟩; refine ⟨_, rfl, ?_⟩; have n0_ := ak (blk_below (vb BK148.out) hb); have n1_ := ak (blk_below (vb BK149.out) hb); have n2_ := ak (below_step (vs2 HB.out GE148.out GE149.out) hb); clear BK148; clear BK149; clear HB; have BK148 := n0_; have BK149 := n1_; have HB := n2_; clear n0_ n1_ n2_; (try clear hb); (try clear hb2); (try clear hk); (try clear hi); refine hK.out _ _ ⟨(blk_cell BK148.out 0).trans rfl, (blk_cell BK148.out 1).trans rfl, (blk_cell BK148.out 2).trans rfl, (blk_cell BK149.out 0).trans rfl, (blk_cell BK149.out 1).trans rfl, (blk_cell BK149.out 2).trans rfl⟩ (fun hHeld => ?_); clear hK K; refine norm_ (a' := ?_) ?_ ?_; rotate_left
       ·show Act.put _ (some 37) _ = _; simp only [ap1, ap2, ap3, ap4, i64_w, i32_w]; rfl
       refine one_ (i := 5) (N := some 40) #[true, true, true, true, true, true, false, false] rfl rfl (one_of HT_.out (by kernel_rfl)) (by decide) (fun K hK => ?_); refine goes_ Try.func70 (by kernel_rfl) rfl #[.slice A0 l0.length c0, .agg #[.int .i64 a2_0, .int .i64 a2_1, .int .i64 a2_2]] (by rfl) rfl rfl vm ?_; with_reducible refine (spec_l10Next.calls _ _ l0 a2_0 a2_1 a2_2 t153 _ ?side1 ?side2 A16.out).mono ?_
       (case side1 => exact vc HR0.out HB.out)
       (case side2 => exact HC0.out)
       rintro e w40 ⟨rfl, hb⟩; refine ⟨_, rfl, ?_⟩; have n0_ := ak (blk_below (vb BK148.out) hb); have n1_ := ak (blk_below (vb BK149.out) hb); have n2_ := ak (below_step (vs2 HB.out GE148.out GE149.out) hb); clear BK148; clear BK149; clear HB; have BK148 := n0_; have BK149 := n1_; have HB := n2_; clear n0_ n1_ n2_; (try clear hb); (try clear hb2); (try clear hk); (try clear hi); refine hK.out _ _ ⟨(blk_cell BK148.out 0).trans rfl, (blk_cell BK148.out 1).trans rfl, (blk_cell BK148.out 2).trans rfl, (blk_cell BK149.out 0).trans rfl, (blk_cell BK149.out 1).trans rfl, (blk_cell BK149.out 2).trans rfl⟩ (fun hHeld => ?_); clear hK K; refine norm_ (a' := ?_) ?_ ?_; rotate_left
       ·show Act.put _ (some 40) _ = _; simp only [ap1, ap2, ap3, ap4, i64_w, i32_w]; rfl
       refine px 6 7 #[true, true, true, true, true, true, true, false] rfl HT_.out ?_ (.inl ⟨by rfl, ?_⟩) ?_ ?_ ?_; rotate_left
       ·intro w'; go_simp; with_reducible rfl
       rotate_left
       ·simp only [ap1, ap2, ap3, ap4, i64_w, i32_w]; rfl
       refine px 7 8 #[true, true, true, true, true, true, true, true] rfl HT_.out ?_ (.inl ⟨by rfl, ?_⟩) ?_ ?_ ?_; rotate_left
       ·intro w'; go_simp; with_reducible rfl
       rotate_left
       ·simp only [ap1, ap2, ap3, ap4, i64_w, i32_w]; rfl
       refine done_ (done_of HT_.out (by kernel_rfl)) ?_; have hnb41 := NB148_149.out; have hnc41 := NB149_148.out; have hcz42_0 : w40.cell? ⟨gb148, 0, none⟩ = some (.int .i64 a1_0) := (blk_cell BK148.out 0).trans rfl; have hcz42_1 : w40.cell? ⟨gb148, 1, none⟩ = some (.int .i64 a1_1) := (blk_cell BK148.out 1).trans rfl; have hcz42_2 : w40.cell? ⟨gb148, 2, none⟩ = some (.int .i64 a1_2) := (blk_cell BK148.out 2).trans rfl; have hfz42_0 := blk_frozen BK148.out 0; have hfz42_1 := blk_frozen BK148.out 1; have hfz42_2 := blk_frozen BK148.out 2; have hcz43_0 : w40.cell? ⟨gb149, 0, none⟩ = some (.int .i64 a2_0) := (blk_cell BK149.out 0).trans rfl; have hcz43_1 : w40.cell? ⟨gb149, 1, none⟩ = some (.int .i64 a2_1) := (blk_cell BK149.out 1).trans rfl; have hcz43_2 : w40.cell? ⟨gb149, 2, none⟩ = some (.int .i64 a2_2) := (blk_cell BK149.out 2).trans rfl; have hfz43_0 := blk_frozen BK149.out 0; have hfz43_1 := blk_frozen BK149.out 1; have hfz43_2 := blk_frozen BK149.out 2; try go_wp2
       go_ret
       exact ⟨by first | rfl | (simp [errW_none, errW_some] <;> rfl) | (simp [*, errW_none, errW_some] <;> rfl), by exact vs2 HB.out GE148.out GE149.out⟩

end Go.Proofs.Ytlgmccliclmbaaa.PFnExactWaitsOf
