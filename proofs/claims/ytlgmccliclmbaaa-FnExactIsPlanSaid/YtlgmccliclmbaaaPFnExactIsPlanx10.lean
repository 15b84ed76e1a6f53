-- Written by a program of this session (the kit's print with this session's additions, wip/tools): Lean checks it. (pressed)
import Derived.Test.YtlgmccliclmbaaaAbbr
import Derived.Test.YtlgmccliclmbaaaPFnExactIsPlanx0
import Derived.Test.YtlgmccliclmbaaaPFnExactIsPlanx1
import Derived.Test.YtlgmccliclmbaaaPFnExactIsPlanx5
import Derived.Test.YtlgmccliclmbaaaPFnExactIsPlanx9
namespace Go.Proofs.Ytlgmccliclmbaaa.PFnExactIsPlan
open Go.RowKit Go.Proofs.YtlgmccliclmbaaaW.PrintWords Go.Proofs.YtlgmccliclmbaaaW.PrintLast Go.Proofs.YtlgmccliclmbaaaW.PrintMore
attribute [local go_sem] max2_int min2_int max_two min_two max_three min_three max_four min_four   -- for this text's walks alone
set_option linter.unusedVariables false
set_option linter.unusedSimpArgs false

/-! ### laws_eqHopS: function 19 -/
def laws_eqHopS.l0 : Nat → List (S67) → List (S67) → Int → Option (Bool)
 | 0, _, _, _ => none
 | k + 1, x0, x1, x5 => if x5 < (x0.length : Int) then (if 0 ≤ x5 then (if x5 < (x1.length : Int) then ((laws_eqHop.f ((rd_T67 x0 x5).f0) ((rd_T67 x0 x5).f1) ((rd_T67 x0 x5).f2) ((rd_T67 x1 x5).f0) ((rd_T67 x1 x5).f1) ((rd_T67 x1 x5).f2)).bind fun t253 => (if t253 = true then (laws_eqHopS.l0 k x0 x1 (wrap64 (x5 + 1))) else (some false))) else (none)) else (none)) else (some true)
def laws_eqHopS.f (k : Nat) (l0 : List (S67)) (l1 : List (S67)) : Option (Bool) := if (l0.length : Int) = (l1.length : Int) then (laws_eqHopS.l0 k l0 l1 0) else (some false)
theorem laws_eqHopS.mono_l : ∀ k, (∀ y0 y1 y2, LeO (laws_eqHopS.l0 k y0 y1 y2) (laws_eqHopS.l0 (k + 1) y0 y1 y2))
 | 0 => fun _ _ _ r h => by simp [laws_eqHopS.l0] at h
 | k + 1 => by
  have ih0 := laws_eqHopS.mono_l k
  ·intro y0 y1 y2; unfold laws_eqHopS.l0
   repeat' first
   | (with_reducible exact ih0 _ _ _)
   | (with_reducible exact LeO.refl _)
   | (with_reducible exact LeO.none _)
   | (with_reducible refine LeO.ite ?_ ?_)
   | (with_reducible refine LeO.bind ?_ (fun _ => ?_))
   | exact ih0 _ _ _
   | exact LeO.none _
   | refine LeO.ite ?_ ?_
   | refine LeO.bind ?_ (fun _ => ?_)
theorem laws_eqHopS.mono : ∀ a0 a1 k, LeO (laws_eqHopS.f k a0 a1) (laws_eqHopS.f (k + 1) a0 a1) := by
 intro a0 a1 k; have ih0 := laws_eqHopS.mono_l k; unfold laws_eqHopS.f
 repeat' first
   | (with_reducible exact ih0 _ _ _)
   | (with_reducible exact LeO.refl _)
   | (with_reducible exact LeO.none _)
   | (with_reducible refine LeO.ite ?_ ?_)
   | (with_reducible refine LeO.bind ?_ (fun _ => ?_))
   | exact ih0 _ _ _
   | exact LeO.none _
   | refine LeO.ite ?_ ?_
   | refine LeO.bind ?_ (fun _ => ?_)
def laws_eqHopS.T6 : Bool × List (List Nat × List Nat) := (true, [([], []), ([], []), ([0, 1], [0, 1]), ([2], [2]), ([], []), ([], []), ([4, 5], [4, 5]), ([6], [6]), ([3, 7], [3, 7]), ([8], [8])])
def laws_eqHopS.B6 : List Nat := [0, 0, 3, 7, 0, 0, 48, 112, 255, 511]
theorem laws_eqHopS.tab6 : rtab .any (opsOf Try.f19 6) = laws_eqHopS.T6 := by kernel_rfl
theorem laws_eqHopS.bits6 : waitsOk laws_eqHopS.T6.2 laws_eqHopS.B6 = true := by kernel_rfl
set_option maxHeartbeats 8000000 in
set_option maxRecDepth 100000 in
theorem laws_eqHopS.calls (k : Nat) (A0 : Option Addr) (c0 : Nat) (l0 : List (S67)) (A1 : Option Addr) (c1 : Nat) (l1 : List (S67)) (r : Bool) (w : World) (hr0 : Kd.C k67 w A0 l0.length l0) (hc0 : l0.length ≤ c0) (hr1 : Kd.C k67 w A1 l1.length l1) (hc1 : l1.length ≤ c1) (h : laws_eqHopS.f k l0 l1 = some r) :
  Calls Try.prog 19 #[.slice A0 l0.length c0, .slice A1 l1.length c1] w fun e w' => e = .returned (.bool r) ∧ Below w.heap.size w w' := by
 have hu67 := Try.underlying67; have HR0 := Aside0.mk hr0; have HC0 := Aside0.mk hc0; clear hr0 hc0; have HR1 := Aside0.mk hr1; have HC1 := Aside0.mk hc1; clear hr1 hc1; have HB := ak (Below.refl w.heap.size w); have H : (if (l0.length : Int) = (l1.length : Int) then (laws_eqHopS.l0 k l0 l1 0) else (some false)) = some r := h; clear h; by_cases c3 : (l0.length : Int) = (l1.length : Int)
 ·rw [if_pos c3] at H
  have c3b0 : ((l0.length : Int) == (l1.length : Int)) = true := beq_iff_eq.mpr c3; have c3b1 : ((l0.length : Int) != (l1.length : Int)) = false := bne_eq_false_iff_eq.mpr c3; have c3b2 : (l0.length == l1.length) = true := by first | simpa using c3 | (simp at c3 ⊢; omega)
  clear c3; have H' := Aside0.mk H; clear H; go_enter Try.func19, Try.ntmps19
  go_wp2
  go_loopg [5] k (fun kq v5 w' => ∃ (x5_1 : Int), v5 = .int .i64 x5_1 ∧ Aside0 (laws_eqHopS.l0 kq l0 l1 x5_1 = some r) ∧ Aside0 (kq ≤ k) ∧ Aside0 (Below w.heap.size w w'))
  case atStart => exact ⟨(0), (by first | rfl | (simp; done) | (simp [*]; done)), H', ⟨Nat.le_refl _⟩, ⟨by exact vh HB.out⟩⟩
  case round =>
   clear H'; try clear c1
   try clear p2
   try clear c3
   try clear c3b0
   try clear c3b1
   try clear c3b2
   obtain ⟨x5_1, rfl, HA, HK1, HB⟩ := hrel; cases gk with
   | zero => exact absurd HA.out (by simp [laws_eqHopS.l0])
   | succ k1 =>
    have H := HA.out; clear HA; simp only [laws_eqHopS.l0] at H
    by_cases c4 : x5_1 < (l0.length : Int)
    ·rw [if_pos c4] at H
     have c4b0 : decide (x5_1 < (l0.length : Int)) = true := decide_eq_true c4; clear c4; by_cases c5 : 0 ≤ x5_1
     ·rw [if_pos c5] at H
      have c5b0 : decide (0 ≤ x5_1) = true := decide_eq_true c5; clear c5; by_cases c6 : x5_1 < (l1.length : Int)
      ·rw [if_pos c6] at H
       have c6b0 : decide (x5_1 < (l1.length : Int)) = true := decide_eq_true c6; clear c6; replace H := Option.bind_eq_some_iff.mp H; obtain ⟨t253, A70, H⟩ := H; replace H : (if t253 = true then (laws_eqHopS.l0 k1 l0 l1 (wrap64 (x5_1 + 1))) else (some false)) = some r := H; have A7 := Aside0.mk A70; clear A70; by_cases c8 : t253 = true
       ·subst c8; have H1 : (laws_eqHopS.l0 k1 l0 l1 (wrap64 (x5_1 + 1))) = some r := by rw [if_pos rfl] at H; first | exact H | (simp only [if_true, eq_self] at H ⊢; exact H)
        clear H; have H := H1; clear H1; have H' := Aside0.mk H; clear H; try go_wp2
        have n0_ := ak (below_drew1 HB.out); clear HB; have HB := n0_; clear n0_; have p251 : 0 ≤ (x5_1 : Int) := of_decide_eq_true va; have q251 : x5_1 < (l0.length : Int) := of_decide_eq_true va; obtain ⟨ad251, e251, hx251_0, hx251_1, hx251_2⟩ := at_T67 HR0.out x5_1 p251 q251; have hw251_2 := hx251_2; have hw251_1 := hx251_1; have hw251_0 := hx251_0; cases e251; (try replace hx251_0 := vl HB.out hx251_0); (try replace hx251_1 := vl HB.out hx251_1); (try replace hx251_2 := vl HB.out hx251_2); replace p251 := eq_true p251; replace q251 := eq_true q251; have p252 : 0 ≤ (x5_1 : Int) := of_decide_eq_true va; have q252 : x5_1 < (l1.length : Int) := of_decide_eq_true va; obtain ⟨ad252, e252, hx252_0, hx252_1, hx252_2⟩ := at_T67 HR1.out x5_1 p252 q252; have hw252_2 := hx252_2; have hw252_1 := hx252_1; have hw252_0 := hx252_0; cases e252; (try replace hx252_0 := vl HB.out hx252_0); (try replace hx252_1 := vl HB.out hx252_1); (try replace hx252_2 := vl HB.out hx252_2); replace p252 := eq_true p252; replace q252 := eq_true q252; refine start_ (n := 10) (S := fun w' => w'.cell? (ad251.add ((x5_1).toNat * 3)) = some (.int .i64 ((rd_T67 l0 x5_1).f0)) ∧ w'.cell? ⟨(ad251.add ((x5_1).toNat * 3)).block, (ad251.add ((x5_1).toNat * 3)).off + 1, none⟩ = some (.int .i64 ((rd_T67 l0 x5_1).f1)) ∧ w'.cell? ⟨(ad251.add ((x5_1).toNat * 3)).block, (ad251.add ((x5_1).toNat * 3)).off + 2, none⟩ = some (.int .i64 ((rd_T67 l0 x5_1).f2)) ∧ w'.cell? (ad252.add ((x5_1).toNat * 3)) = some (.int .i64 ((rd_T67 l1 x5_1).f0)) ∧ w'.cell? ⟨(ad252.add ((x5_1).toNat * 3)).block, (ad252.add ((x5_1).toNat * 3)).off + 1, none⟩ = some (.int .i64 ((rd_T67 l1 x5_1).f1)) ∧ w'.cell? ⟨(ad252.add ((x5_1).toNat * 3)).block, (ad252.add ((x5_1).toNat * 3)).off + 2, none⟩ = some (.int .i64 ((rd_T67 l1 x5_1).f2))) (ds := []) #[false, false, false, false, false, false, false, false, false, false] (by kernel_rfl) rfl rfl ⟨(vl HB.out hw251_0 :), (vl HB.out hw251_1 :), (vl HB.out hw251_2 :), (vl HB.out hw252_0 :), (vl HB.out hw252_1 :), (vl HB.out hw252_2 :)⟩ (fun hHeld => ?_); refine with_tabW laws_eqHopS.tab6 laws_eqHopS.bits6 (fun HT_ HW_ => ?_); generalize wr.drew = w9 at HB hx251_0 hx251_1 hx251_2 hx252_0 hx252_1 hx252_2 hHeld ⊢
        refine px 0 17 #[true, false, false, false, false, false, false, false, false, false] rfl HT_.out ?_ (.inl ⟨by rfl, ?_⟩) ?_ ?_ ?_; rotate_left
        ·intro w'; go_simp; with_reducible rfl
        rotate_left
        ·simp only [ap1, ap2, ap3, ap4, i64_w, i32_w]; rfl
        refine px 1 18 #[true, true, false, false, false, false, false, false, false, false] rfl HT_.out ?_ (.inl ⟨by rfl, ?_⟩) ?_ ?_ ?_; rotate_left
        ·intro w'; go_simp; with_reducible rfl
        rotate_left
        ·simp only [ap1, ap2, ap3, ap4, i64_w, i32_w]; rfl
        refine px 2 19 #[true, true, true, false, false, false, false, false, false, false] rfl HT_.out ?_ (.inl ⟨by rfl, ?_⟩) ?_ ?_ ?_; rotate_left
        ·intro w'; go_simp; with_reducible rfl
        rotate_left
        ·simp only [ap1, ap2, ap3, ap4, i64_w, i32_w]; rfl
        refine px 4 21 #[true, true, true, false, true, false, false, false, false, false] rfl HT_.out ?_ (.inl ⟨by rfl, ?_⟩) ?_ ?_ ?_; rotate_left
        ·intro w'; go_simp; with_reducible rfl
        rotate_left
        ·simp only [ap1, ap2, ap3, ap4, i64_w, i32_w]; rfl
        refine px 5 22 #[true, true, true, false, true, true, false, false, false, false] rfl HT_.out ?_ (.inl ⟨by rfl, ?_⟩) ?_ ?_ ?_; rotate_left
        ·intro w'; go_simp; with_reducible rfl
        rotate_left
        ·simp only [ap1, ap2, ap3, ap4, i64_w, i32_w]; rfl
        refine px 6 23 #[true, true, true, false, true, true, true, false, false, false] rfl HT_.out ?_ (.inl ⟨by rfl, ?_⟩) ?_ ?_ ?_; rotate_left
        ·intro w'; go_simp; with_reducible rfl
        rotate_left
        ·simp only [ap1, ap2, ap3, ap4, i64_w, i32_w]; rfl
        refine tx 3 20 #[true, true, true, true, true, true, true, false, false, false] rfl HT_.out HW_.out hHeld ?_ (.inl ⟨by rfl, ?_⟩) ?_ ?_ ?_; rotate_left
        ·rintro w' ⟨s0, s1, s2, s3, s4, s5⟩; go_simp; with_reducible rfl
        rotate_left
        ·simp only [ap1, ap2, ap3, ap4, i64_w, i32_w]; rfl
        refine tx 7 24 #[true, true, true, true, true, true, true, true, false, false] rfl HT_.out HW_.out hHeld ?_ (.inl ⟨by rfl, ?_⟩) ?_ ?_ ?_; rotate_left
        ·rintro w' ⟨s0, s1, s2, s3, s4, s5⟩; go_simp; with_reducible rfl
        rotate_left
        ·simp only [ap1, ap2, ap3, ap4, i64_w, i32_w]; rfl
        refine one_ (i := 8) (N := some 25) #[true, true, true, true, true, true, true, true, true, false] rfl rfl (one_of HT_.out (by kernel_rfl)) (by decide) (fun K hK => ?_); refine goes_ Try.func51 (by kernel_rfl) rfl #[.agg #[.int .i64 ((rd_T67 l0 x5_1).f0), .int .i64 ((rd_T67 l0 x5_1).f1), .int .i64 ((rd_T67 l0 x5_1).f2)], .agg #[.int .i64 ((rd_T67 l1 x5_1).f0), .int .i64 ((rd_T67 l1 x5_1).f1), .int .i64 ((rd_T67 l1 x5_1).f2)]] (by rfl) rfl rfl vm ?_; with_reducible refine (laws_eqHop.calls ((rd_T67 l0 x5_1).f0) ((rd_T67 l0 x5_1).f1) ((rd_T67 l0 x5_1).f2) ((rd_T67 l1 x5_1).f0) ((rd_T67 l1 x5_1).f1) ((rd_T67 l1 x5_1).f2) true _ A7.out).mono ?_
        rintro e w10 ⟨rfl, hb⟩; refine ⟨_, rfl, ?_⟩; have n0_ := ak (below_step (vh HB.out) hb); clear HB; have HB := n0_; clear n0_; (try clear hb); (try clear hb2); (try clear hk); (try clear hi); refine hK.out _ _ ⟨(vl HB.out hw251_0 :), (vl HB.out hw251_1 :), (vl HB.out hw251_2 :), (vl HB.out hw252_0 :), (vl HB.out hw252_1 :), (vl HB.out hw252_2 :)⟩ (fun hHeld => ?_); clear hK K; refine norm_ (a' := ?_) ?_ ?_; rotate_left
        ·show Act.put _ (some 25) _ = _; simp only [ap1, ap2, ap3, ap4, i64_w, i32_w]; rfl
        refine px 9 26 #[true, true, true, true, true, true, true, true, true, true] rfl HT_.out ?_ (.inl ⟨by rfl, ?_⟩) ?_ ?_ ?_; rotate_left
        ·intro w'; go_simp; with_reducible rfl
        rotate_left
        ·simp only [ap1, ap2, ap3, ap4, i64_w, i32_w]; rfl
        refine done_ (done_of HT_.out (by kernel_rfl)) ?_; try go_wp2
        go_roundg k1
        case measure => have := HK1.out; omega
        case rel => exact ⟨(wrap64 (x5_1 + 1)), vq, H', ⟨by have := HK1.out; omega⟩, ⟨by exact vh HB.out⟩⟩
       ·replace c8 := Bool.eq_false_iff.mpr c8; subst c8; have H1 : (some false) = some r := by rw [if_neg (show ¬ (false = true) by decide)] at H; first | exact H | (simp only [if_true, eq_self] at H ⊢; exact H)
        clear H; have H := H1; clear H1; obtain rfl := Option.some.inj H; try go_wp2
        have n0_ := ak (below_drew1 HB.out); clear HB; have HB := n0_; clear n0_; have p251 : 0 ≤ (x5_1 : Int) := of_decide_eq_true va; have q251 : x5_1 < (l0.length : Int) := of_decide_eq_true va; obtain ⟨ad251, e251, hx251_0, hx251_1, hx251_2⟩ := at_T67 HR0.out x5_1 p251 q251; have hw251_2 := hx251_2; have hw251_1 := hx251_1; have hw251_0 := hx251_0; cases e251; (try replace hx251_0 := vl HB.out hx251_0); (try replace hx251_1 := vl HB.out hx251_1); (try replace hx251_2 := vl HB.out hx251_2); replace p251 := eq_true p251; replace q251 := eq_true q251; have p252 : 0 ≤ (x5_1 : Int) := of_decide_eq_true va; have q252 : x5_1 < (l1.length : Int) := of_decide_eq_true va; obtain ⟨ad252, e252, hx252_0, hx252_1, hx252_2⟩ := at_T67 HR1.out x5_1 p252 q252; have hw252_2 := hx252_2; have hw252_1 := hx252_1; have hw252_0 := hx252_0; cases e252; (try replace hx252_0 := vl HB.out hx252_0); (try replace hx252_1 := vl HB.out hx252_1); (try replace hx252_2 := vl HB.out hx252_2); replace p252 := eq_true p252; replace q252 := eq_true q252; refine start_ (n := 10) (S := fun w' => w'.cell? (ad251.add ((x5_1).toNat * 3)) = some (.int .i64 ((rd_T67 l0 x5_1).f0)) ∧ w'.cell? ⟨(ad251.add ((x5_1).toNat * 3)).block, (ad251.add ((x5_1).toNat * 3)).off + 1, none⟩ = some (.int .i64 ((rd_T67 l0 x5_1).f1)) ∧ w'.cell? ⟨(ad251.add ((x5_1).toNat * 3)).block, (ad251.add ((x5_1).toNat * 3)).off + 2, none⟩ = some (.int .i64 ((rd_T67 l0 x5_1).f2)) ∧ w'.cell? (ad252.add ((x5_1).toNat * 3)) = some (.int .i64 ((rd_T67 l1 x5_1).f0)) ∧ w'.cell? ⟨(ad252.add ((x5_1).toNat * 3)).block, (ad252.add ((x5_1).toNat * 3)).off + 1, none⟩ = some (.int .i64 ((rd_T67 l1 x5_1).f1)) ∧ w'.cell? ⟨(ad252.add ((x5_1).toNat * 3)).block, (ad252.add ((x5_1).toNat * 3)).off + 2, none⟩ = some (.int .i64 ((rd_T67 l1 x5_1).f2))) (ds := []) #[false, false, false, false, false, false, false, false, false, false] (by kernel_rfl) rfl rfl ⟨(vl HB.out hw251_0 :), (vl HB.out hw251_1 :), (vl HB.out hw251_2 :), (vl HB.out hw252_0 :), (vl HB.out hw252_1 :), (vl HB.out hw252_2 :)⟩ (fun hHeld => ?_); refine with_tabW laws_eqHopS.tab6 laws_eqHopS.bits6 (fun HT_ HW_ => ?_); generalize wr.drew = w11 at HB hx251_0 hx251_1 hx251_2 hx252_0 hx252_1 hx252_2 hHeld ⊢
        refine px 0 17 #[true, false, false, false, false, false, false, false, false, false] rfl HT_.out ?_ (.inl ⟨by rfl, ?_⟩) ?_ ?_ ?_; rotate_left
        ·intro w'; go_simp; with_reducible rfl
        rotate_left
        ·simp only [ap1, ap2, ap3, ap4, i64_w, i32_w]; rfl
        refine px 1 18 #[true, true, false, false, false, false, false, false, false, false] rfl HT_.out ?_ (.inl ⟨by rfl, ?_⟩) ?_ ?_ ?_; rotate_left
        ·intro w'; go_simp; with_reducible rfl
        rotate_left
        ·simp only [ap1, ap2, ap3, ap4, i64_w, i32_w]; rfl
        refine px 2 19 #[true, true, true, false, false, false, false, false, false, false] rfl HT_.out ?_ (.inl ⟨by rfl, ?_⟩) ?_ ?_ ?_; rotate_left
        ·intro w'; go_simp; with_reducible rfl
        rotate_left
        ·simp only [ap1, ap2, ap3, ap4, i64_w, i32_w]; rfl
        refine px 4 21 #[true, true, true, false, true, false, false, false, false, false] rfl HT_.out ?_ (.inl ⟨by rfl, ?_⟩) ?_ ?_ ?_; rotate_left
        ·intro w'; go_simp; with_reducible rfl
        rotate_left
        ·simp only [ap1, ap2, ap3, ap4, i64_w, i32_w]; rfl
        refine px 5 22 #[true, true, true, false, true, true, false, false, false, false] rfl HT_.out ?_ (.inl ⟨by rfl, ?_⟩) ?_ ?_ ?_; rotate_left
        ·intro w'; go_simp; with_reducible rfl
        rotate_left
        ·simp only [ap1, ap2, ap3, ap4, i64_w, i32_w]; rfl
        refine px 6 23 #[true, true, true, false, true, true, true, false, false, false] rfl HT_.out ?_ (.inl ⟨by rfl, ?_⟩) ?_ ?_ ?_; rotate_left
        ·intro w'; go_simp; with_reducible rfl
        rotate_left
        ·simp only [ap1, ap2, ap3, ap4, i64_w, i32_w]; rfl
        refine tx 3 20 #[true, true, true, true, true, true, true, false, false, false] rfl HT_.out HW_.out hHeld ?_ (.inl ⟨by rfl, ?_⟩) ?_ ?_ ?_; rotate_left
        ·rintro w' ⟨s0, s1, s2, s3, s4, s5⟩; go_simp; with_reducible rfl
        rotate_left
        ·simp only [ap1, ap2, ap3, ap4, i64_w, i32_w]; rfl
        refine tx 7 24 #[true, true, true, true, true, true, true, true, false, false] rfl HT_.out HW_.out hHeld ?_ (.inl ⟨by rfl, ?_⟩) ?_ ?_ ?_; rotate_left
        ·rintro w' ⟨s0, s1, s2, s3, s4, s5⟩; go_simp; with_reducible rfl
        rotate_left
        ·simp only [ap1, ap2, ap3, ap4, i64_w, i32_w]; rfl
        refine one_ (i := 8) (N := some 25) #[true, true, true, true, true, true, true, true, true, false] rfl rfl (one_of HT_.out (by kernel_rfl)) (by decide) (fun K hK => ?_); refine goes_ Try.func51 (by kernel_rfl) rfl #[.agg #[.int .i64 ((rd_T67 l0 x5_1).f0), .int .i64 ((rd_T67 l0 x5_1).f1), .int .i64 ((rd_T67 l0 x5_1).f2)], .agg #[.int .i64 ((rd_T67 l1 x5_1).f0), .int .i64 ((rd_T67 l1 x5_1).f1), .int .i64 ((rd_T67 l1 x5_1).f2)]] (by rfl) rfl rfl vm ?_; with_reducible refine (laws_eqHop.calls ((rd_T67 l0 x5_1).f0) ((rd_T67 l0 x5_1).f1) ((rd_T67 l0 x5_1).f2) ((rd_T67 l1 x5_1).f0) ((rd_T67 l1 x5_1).f1) ((rd_T67 l1 x5_1).f2) false _ A7.out).mono ?_
        rintro e w12 ⟨rfl, hb⟩; refine ⟨_, rfl, ?_⟩; have n0_ := ak (below_step (vh HB.out) hb); clear HB; have HB := n0_; clear n0_; (try clear hb); (try clear hb2); (try clear hk); (try clear hi); refine hK.out _ _ ⟨(vl HB.out hw251_0 :), (vl HB.out hw251_1 :), (vl HB.out hw251_2 :), (vl HB.out hw252_0 :), (vl HB.out hw252_1 :), (vl HB.out hw252_2 :)⟩ (fun hHeld => ?_); clear hK K; refine norm_ (a' := ?_) ?_ ?_; rotate_left
        ·show Act.put _ (some 25) _ = _; simp only [ap1, ap2, ap3, ap4, i64_w, i32_w]; rfl
        refine px 9 26 #[true, true, true, true, true, true, true, true, true, true] rfl HT_.out ?_ (.inl ⟨by rfl, ?_⟩) ?_ ?_ ?_; rotate_left
        ·intro w'; go_simp; with_reducible rfl
        rotate_left
        ·simp only [ap1, ap2, ap3, ap4, i64_w, i32_w]; rfl
        refine done_ (done_of HT_.out (by kernel_rfl)) ?_; try go_wp2
        go_ret
        exact ⟨by first | rfl | (simp [errW_none, errW_some] <;> rfl) | (simp [*, errW_none, errW_some] <;> rfl), by exact vh HB.out⟩
      ·rw [if_neg c6] at H
       exact absurd H (by simp)
     ·rw [if_neg c5] at H
      exact absurd H (by simp)
    ·rw [if_neg c4] at H
     have c4b0 : decide (x5_1 < (l0.length : Int)) = false := decide_eq_false c4; clear c4; obtain rfl := Option.some.inj H; go_wp2
     go_ret
     exact ⟨by first | rfl | (simp [errW_none, errW_some] <;> rfl) | (simp [*, errW_none, errW_some] <;> rfl), by exact vh HB.out⟩
 ·rw [if_neg c3] at H
  have c3b0 : ((l0.length : Int) == (l1.length : Int)) = false := beq_eq_false_iff_ne.mpr c3; have c3b1 : ((l0.length : Int) != (l1.length : Int)) = true := bne_iff_ne.mpr c3; have c3b2 : (l0.length == l1.length) = false := by first | simpa using c3 | (simp at c3 ⊢; omega)
  obtain rfl := Option.some.inj H; go_enter Try.func19, Try.ntmps19
  go_wp2
  go_ret
  exact ⟨by first | rfl | (simp [errW_none, errW_some] <;> rfl) | (simp [*, errW_none, errW_some] <;> rfl), by exact vh HB.out⟩

/-! ### laws_FnExactIsPlan: function 4 -/
def laws_FnExactIsPlan.j0 : Nat → List (S65) → List (S69) → List (S63) → List (S67) → Bool → Option (Bool)
 | 0, _, _, _, _, _ => none
 | k + 1, x1, x2, x10, x11, x51 => if x51 = true then (some false) else ((laws_toJobS.f k x1).bind fun t272 => ((laws_eqJobS.f k x10 t272).bind fun t275 => (if t275 = true then ((laws_toHopS.f k x2).bind fun t276 => ((laws_eqHopS.f k x11 t276).bind fun t279 => (if t279 = true then (some true) else (some false)))) else (some false))))
def laws_FnExactIsPlan.f (k : Nat) (a0 : Int) (l1 : List (S65)) (l2 : List (S69)) : Option (Bool) := (laws_szJobS.f l1 1048576).bind fun t254 => (if t254 < 0 then (some true) else ((laws_szHopS.f l2 t254).bind fun t255 => (if t255 < 0 then (some true) else ((laws_toJobS.f k l1).bind fun t256 => ((laws_toHopS.f k l2).bind fun t259 => ((spec_IsPlan.f k a0 t256 t259).bind fun bt262 => ((laws_toJobS.f k l1).bind fun t264 => ((laws_toHopS.f k l2).bind fun t267 => ((impl_IsPlan.f k a0 t264 t267).bind fun bt270 => (if (bt270.1 != bt262.1) = true then (laws_FnExactIsPlan.j0 k l1 l2 t264 t267 true) else (laws_FnExactIsPlan.j0 k l1 l2 t264 t267 (bt270.2 != bt262.2))))))))))))
theorem laws_FnExactIsPlan.mono_l : ∀ k, (∀ y0 y1 y2 y3 y4, LeO (laws_FnExactIsPlan.j0 k y0 y1 y2 y3 y4) (laws_FnExactIsPlan.j0 (k + 1) y0 y1 y2 y3 y4))
 | 0 => fun _ _ _ _ _ r h => by simp [laws_FnExactIsPlan.j0] at h
 | k + 1 => by
  have ih0 := laws_FnExactIsPlan.mono_l k
  ·intro y0 y1 y2 y3 y4; unfold laws_FnExactIsPlan.j0
   repeat' first
   | (with_reducible exact ih0 _ _ _ _ _)
   | (with_reducible exact impl_IsPlan.mono _ _ _ _)
   | (with_reducible exact laws_eqHopS.mono _ _ _)
   | (with_reducible exact laws_eqJobS.mono _ _ _)
   | (with_reducible exact laws_toHopS.mono _ _)
   | (with_reducible exact laws_toJobS.mono _ _)
   | (with_reducible exact spec_IsPlan.mono _ _ _ _)
   | (with_reducible exact LeO.refl _)
   | (with_reducible exact LeO.none _)
   | (with_reducible refine LeO.ite ?_ ?_)
   | (with_reducible refine LeO.bind ?_ (fun _ => ?_))
   | exact ih0 _ _ _ _ _
   | exact impl_IsPlan.mono _ _ _ _
   | exact laws_eqHopS.mono _ _ _
   | exact laws_eqJobS.mono _ _ _
   | exact laws_toHopS.mono _ _
   | exact laws_toJobS.mono _ _
   | exact spec_IsPlan.mono _ _ _ _
   | exact LeO.none _
   | refine LeO.ite ?_ ?_
   | refine LeO.bind ?_ (fun _ => ?_)
theorem laws_FnExactIsPlan.mono : ∀ a0 a1 a2 k, LeO (laws_FnExactIsPlan.f k a0 a1 a2) (laws_FnExactIsPlan.f (k + 1) a0 a1 a2) := by
 intro a0 a1 a2 k; have ih0 := laws_FnExactIsPlan.mono_l k; unfold laws_FnExactIsPlan.f
 repeat' first
   | (with_reducible exact ih0 _ _ _ _ _)
   | (with_reducible exact impl_IsPlan.mono _ _ _ _)
   | (with_reducible exact laws_eqHopS.mono _ _ _)
   | (with_reducible exact laws_eqJobS.mono _ _ _)
   | (with_reducible exact laws_toHopS.mono _ _)
   | (with_reducible exact laws_toJobS.mono _ _)
   | (with_reducible exact spec_IsPlan.mono _ _ _ _)
   | (with_reducible exact LeO.refl _)
   | (with_reducible exact LeO.none _)
   | (with_reducible refine LeO.ite ?_ ?_)
   | (with_reducible refine LeO.bind ?_ (fun _ => ?_))
   | exact ih0 _ _ _ _ _
   | exact impl_IsPlan.mono _ _ _ _
   | exact laws_eqHopS.mono _ _ _
   | exact laws_eqJobS.mono _ _ _
   | exact laws_toHopS.mono _ _
   | exact laws_toJobS.mono _ _
   | exact spec_IsPlan.mono _ _ _ _
   | exact LeO.none _
   | refine LeO.ite ?_ ?_
   | refine LeO.bind ?_ (fun _ => ?_)
set_option maxHeartbeats 8000000 in
set_option maxRecDepth 100000 in
theorem laws_FnExactIsPlan.calls (k : Nat) (a0 : Int) (A1 : Option Addr) (c1 : Nat) (l1 : List (S65)) (A2 : Option Addr) (c2 : Nat) (l2 : List (S69)) (r : Bool) (w : World) (hr1 : Kd.C k65 w A1 l1.length l1) (hc1 : l1.length ≤ c1) (hr2 : Kd.C k69 w A2 l2.length l2) (hc2 : l2.length ≤ c2) (h : laws_FnExactIsPlan.f k a0 l1 l2 = some r) :
  Calls Try.prog 4 #[.int .i64 a0, .slice A1 l1.length c1, .slice A2 l2.length c2] w fun e w' => e = .returned (.bool r) ∧ Below w.heap.size w w' := by
 have HR1 := Aside0.mk hr1; have HC1 := Aside0.mk hc1; clear hr1 hc1; have HR2 := Aside0.mk hr2; have HC2 := Aside0.mk hc2; clear hr2 hc2; have HB := ak (Below.refl w.heap.size w); have H : ((laws_szJobS.f l1 1048576).bind fun t254 => (if t254 < 0 then (some true) else ((laws_szHopS.f l2 t254).bind fun t255 => (if t255 < 0 then (some true) else ((laws_toJobS.f k l1).bind fun t256 => ((laws_toHopS.f k l2).bind fun t259 => ((spec_IsPlan.f k a0 t256 t259).bind fun bt262 => ((laws_toJobS.f k l1).bind fun t264 => ((laws_toHopS.f k l2).bind fun t267 => ((impl_IsPlan.f k a0 t264 t267).bind fun bt270 => (if (bt270.1 != bt262.1) = true then (laws_FnExactIsPlan.j0 k l1 l2 t264 t267 true) else (laws_FnExactIsPlan.j0 k l1 l2 t264 t267 (bt270.2 != bt262.2))))))))))))) = some r := h; clear h; replace H := Option.bind_eq_some_iff.mp H; obtain ⟨t254, A40, H⟩ := H; replace H : (if t254 < 0 then (some true) else ((laws_szHopS.f l2 t254).bind fun t255 => (if t255 < 0 then (some true) else ((laws_toJobS.f k l1).bind fun t256 => ((laws_toHopS.f k l2).bind fun t259 => ((spec_IsPlan.f k a0 t256 t259).bind fun bt262 => ((laws_toJobS.f k l1).bind fun t264 => ((laws_toHopS.f k l2).bind fun t267 => ((impl_IsPlan.f k a0 t264 t267).bind fun bt270 => (if (bt270.1 != bt262.1) = true then (laws_FnExactIsPlan.j0 k l1 l2 t264 t267 true) else (laws_FnExactIsPlan.j0 k l1 l2 t264 t267 (bt270.2 != bt262.2)))))))))))) = some r := H; have A4 := Aside0.mk A40; clear A40; by_cases c5 : t254 < 0
 ·rw [if_pos c5] at H
  have c5b0 : decide (t254 < 0) = true := decide_eq_true c5; clear c5; obtain rfl := Option.some.inj H; go_enter Try.func4, Try.ntmps4
  go_wp2_with (first | ((with_reducible refine gate_callee (f := 12) rfl ?_); refine goesL_ (some 16) rfl rfl Try.func12 (by kernel_rfl) rfl #[.slice A1 l1.length c1, .int .i64 1048576] rfl vm ?_; (with_reducible refine (laws_szJobS.calls _ _ l1 1048576 t254 _ ?side1 ?side2 A4.out).mono ?_); (case side1 => repeat (first | exact HR1.out | (with_reducible refine Kd.C_alloc ?_ _) | (with_reducible refine Kd.C_drewN ?_ _) | (with_reducible refine Kd.C_drew ?_))); (case side2 => exact HC1.out); rintro e w' ⟨rfl, ⟨nd, rfl⟩⟩; refine ⟨_, rfl, ?_⟩))
  go_ret
  exact ⟨by first | rfl | (simp [errW_none, errW_some] <;> rfl) | (simp [*, errW_none, errW_some] <;> rfl), by exact vh HB.out⟩
 ·rw [if_neg c5] at H
  have c5b0 : decide (t254 < 0) = false := decide_eq_false c5; clear c5; replace H := Option.bind_eq_some_iff.mp H; obtain ⟨t255, A60, H⟩ := H; replace H : (if t255 < 0 then (some true) else ((laws_toJobS.f k l1).bind fun t256 => ((laws_toHopS.f k l2).bind fun t259 => ((spec_IsPlan.f k a0 t256 t259).bind fun bt262 => ((laws_toJobS.f k l1).bind fun t264 => ((laws_toHopS.f k l2).bind fun t267 => ((impl_IsPlan.f k a0 t264 t267).bind fun bt270 => (if (bt270.1 != bt262.1) = true then (laws_FnExactIsPlan.j0 k l1 l2 t264 t267 true) else (laws_FnExactIsPlan.j0 k l1 l2 t264 t267 (bt270.2 != bt262.2)))))))))) = some r := H; have A6 := Aside0.mk A60; clear A60; by_cases c7 : t255 < 0
  ·rw [if_pos c7] at H
   have c7b0 : decide (t255 < 0) = true := decide_eq_true c7; clear c7; obtain rfl := Option.some.inj H; go_enter Try.func4, Try.ntmps4
   go_wp2_with (first | ((with_reducible refine gate_callee (f := 12) rfl ?_); refine goesL_ (some 16) rfl rfl Try.func12 (by kernel_rfl) rfl #[.slice A1 l1.length c1, .int .i64 1048576] rfl vm ?_; (with_reducible refine (laws_szJobS.calls _ _ l1 1048576 t254 _ ?side1 ?side2 A4.out).mono ?_); (case side1 => repeat (first | exact HR1.out | (with_reducible refine Kd.C_alloc ?_ _) | (with_reducible refine Kd.C_drewN ?_ _) | (with_reducible refine Kd.C_drew ?_))); (case side2 => exact HC1.out); rintro e w' ⟨rfl, ⟨nd, rfl⟩⟩; refine ⟨_, rfl, ?_⟩) | ((with_reducible refine gate_callee (f := 13) rfl ?_); refine goesL_ (some 21) rfl rfl Try.func13 (by kernel_rfl) rfl #[.slice A2 l2.length c2, .int .i64 t254] rfl vm ?_; (with_reducible refine (laws_szHopS.calls _ _ l2 t254 t255 _ ?side1 ?side2 A6.out).mono ?_); (case side1 => repeat (first | exact HR2.out | (with_reducible refine Kd.C_alloc ?_ _) | (with_reducible refine Kd.C_drewN ?_ _) | (with_reducible refine Kd.C_drew ?_))); (case side2 => exact HC2.out); rintro e w' ⟨rfl, ⟨nd, rfl⟩⟩; refine ⟨_, rfl, ?_⟩))
   go_ret
   exact ⟨by first | rfl | (simp [errW_none, errW_some] <;> rfl) | (simp [*, errW_none, errW_some] <;> rfl), by exact vh HB.out⟩
  ·rw [if_neg c7] at H
   have c7b0 : decide (t255 < 0) = false := decide_eq_false c7; clear c7; replace H := Option.bind_eq_some_iff.mp H; obtain ⟨t256, A80, H⟩ := H; replace H : ((laws_toHopS.f k l2).bind fun t259 => ((spec_IsPlan.f k a0 t256 t259).bind fun bt262 => ((laws_toJobS.f k l1).bind fun t264 => ((laws_toHopS.f k l2).bind fun t267 => ((impl_IsPlan.f k a0 t264 t267).bind fun bt270 => (if (bt270.1 != bt262.1) = true then (laws_FnExactIsPlan.j0 k l1 l2 t264 t267 true) else (laws_FnExactIsPlan.j0 k l1 l2 t264 t267 (bt270.2 != bt262.2)))))))) = some r := H; have A8 := Aside0.mk A80; clear A80; replace H := Option.bind_eq_some_iff.mp H; obtain ⟨t259, A90, H⟩ := H; replace H : ((spec_IsPlan.f k a0 t256 t259).bind fun bt262 => ((laws_toJobS.f k l1).bind fun t264 => ((laws_toHopS.f k l2).bind fun t267 => ((impl_IsPlan.f k a0 t264 t267).bind fun bt270 => (if (bt270.1 != bt262.1) = true then (laws_FnExactIsPlan.j0 k l1 l2 t264 t267 true) else (laws_FnExactIsPlan.j0 k l1 l2 t264 t267 (bt270.2 != bt262.2))))))) = some r := H; have A9 := Aside0.mk A90; clear A90; replace H := Option.bind_eq_some_iff.mp H; obtain ⟨⟨t262, t263⟩, A100, H⟩ := H; replace H : ((laws_toJobS.f k l1).bind fun t264 => ((laws_toHopS.f k l2).bind fun t267 => ((impl_IsPlan.f k a0 t264 t267).bind fun bt270 => (if (bt270.1 != t262) = true then (laws_FnExactIsPlan.j0 k l1 l2 t264 t267 true) else (laws_FnExactIsPlan.j0 k l1 l2 t264 t267 (bt270.2 != t263)))))) = some r := H; have A10 := Aside0.mk A100; clear A100; replace H := Option.bind_eq_some_iff.mp H; obtain ⟨t264, A110, H⟩ := H; replace H : ((laws_toHopS.f k l2).bind fun t267 => ((impl_IsPlan.f k a0 t264 t267).bind fun bt270 => (if (bt270.1 != t262) = true then (laws_FnExactIsPlan.j0 k l1 l2 t264 t267 true) else (laws_FnExactIsPlan.j0 k l1 l2 t264 t267 (bt270.2 != t263))))) = some r := H; have A11 := Aside0.mk A110; clear A110; replace H := Option.bind_eq_some_iff.mp H; obtain ⟨t267, A120, H⟩ := H; replace H : ((impl_IsPlan.f k a0 t264 t267).bind fun bt270 => (if (bt270.1 != t262) = true then (laws_FnExactIsPlan.j0 k l1 l2 t264 t267 true) else (laws_FnExactIsPlan.j0 k l1 l2 t264 t267 (bt270.2 != t263)))) = some r := H; have A12 := Aside0.mk A120; clear A120; replace H := Option.bind_eq_some_iff.mp H; obtain ⟨⟨t270, t271⟩, A130, H⟩ := H; replace H : (if (t270 != t262) = true then (laws_FnExactIsPlan.j0 k l1 l2 t264 t267 true) else (laws_FnExactIsPlan.j0 k l1 l2 t264 t267 (t271 != t263))) = some r := H; have A13 := Aside0.mk A130; clear A130; have HC14 := Aside0.mk H; clear H; go_enter Try.func4, Try.ntmps4
   go_upto_region 12 with (first | ((with_reducible refine gate_callee (f := 12) rfl ?_); refine goesL_ (some 16) rfl rfl Try.func12 (by kernel_rfl) rfl #[.slice A1 l1.length c1, .int .i64 1048576] rfl vm ?_; (with_reducible refine (laws_szJobS.calls _ _ l1 1048576 t254 _ ?side1 ?side2 A4.out).mono ?_); (case side1 => repeat (first | exact HR1.out | (with_reducible refine Kd.C_alloc ?_ _) | (with_reducible refine Kd.C_drewN ?_ _) | (with_reducible refine Kd.C_drew ?_))); (case side2 => exact HC1.out); rintro e w' ⟨rfl, ⟨nd, rfl⟩⟩; refine ⟨_, rfl, ?_⟩) | ((with_reducible refine gate_callee (f := 13) rfl ?_); refine goesL_ (some 21) rfl rfl Try.func13 (by kernel_rfl) rfl #[.slice A2 l2.length c2, .int .i64 t254] rfl vm ?_; (with_reducible refine (laws_szHopS.calls _ _ l2 t254 t255 _ ?side1 ?side2 A6.out).mono ?_); (case side1 => repeat (first | exact HR2.out | (with_reducible refine Kd.C_alloc ?_ _) | (with_reducible refine Kd.C_drewN ?_ _) | (with_reducible refine Kd.C_drew ?_))); (case side2 => exact HC2.out); rintro e w' ⟨rfl, ⟨nd, rfl⟩⟩; refine ⟨_, rfl, ?_⟩) | ((with_reducible refine gate_callee (f := 15) rfl ?_); refine goesL_ (some 27) rfl rfl Try.func15 (by kernel_rfl) rfl #[.slice A1 l1.length c1] rfl vm ?_; (with_reducible refine (laws_toJobS.calls k _ _ l1 t256 _ ?side1 ?side2 A8.out).mono ?_); (case side1 => repeat (first | exact HR1.out | (with_reducible refine Kd.C_alloc ?_ _) | (with_reducible refine Kd.C_drewN ?_ _) | (with_reducible refine Kd.C_drew ?_))); (case side2 => exact HC1.out); rintro e w15 ⟨v257, rfl, ho0, hb⟩; refine ⟨_, rfl, ?_⟩; have n0_ := ak (Kd.R_lower ho0 (below_size (vh HB.out))); have n1_ := ak (below_step (vh HB.out) hb); clear HB; have HO258 := n0_; have HB := n1_; clear n0_ n1_; (try clear hb); (try clear hb2); (try clear hk); (try clear hi); (try clear ho0)) | ((with_reducible refine gate_callee (f := 16) rfl ?_); refine goesL_ (some 29) rfl rfl Try.func16 (by kernel_rfl) rfl #[.slice A2 l2.length c2] rfl vm ?_; (with_reducible refine (laws_toHopS.calls k _ _ l2 t259 _ ?side1 ?side2 A9.out).mono ?_); (case side1 => exact vc HR2.out HB.out); (case side2 => exact HC2.out); rintro e w16 ⟨v260, rfl, ho0, hb⟩; refine ⟨_, rfl, ?_⟩; have n0_ := ak (Kd.R_below (vr HO258.out) hb); have n1_ := ak (Kd.R_lower ho0 (below_size (vh HB.out))); have n2_ := ak (below_step (vh HB.out) hb); clear HO258; clear HB; have HO258 := n0_; have HO261 := n1_; have HB := n2_; clear n0_ n1_ n2_; (try clear hb); (try clear hb2); (try clear hk); (try clear hi); (try clear ho0); obtain ⟨Ao17, co17, eo17⟩ := Kd.R_slice HO258.out; subst eo17; obtain ⟨Ao18, co18, eo18⟩ := Kd.R_slice HO261.out; subst eo18) | ((with_reducible refine gate_callee (f := 14) rfl ?_); refine goesL_ (some 30) rfl rfl Try.func14 (by kernel_rfl) rfl #[.int .i64 a0, .slice Ao17 t256.length co17, .slice Ao18 t259.length co18] rfl vm ?_; (with_reducible refine (spec_IsPlan.calls k a0 _ _ t256 _ _ t259 t262 t263 _ ?side1 ?side2 ?side3 ?side4 A10.out).mono ?_); (case side1 => repeat (first | exact (Kd.R_reads' HO258.out).2.2 | (with_reducible refine Kd.C_alloc ?_ _) | (with_reducible refine Kd.C_drewN ?_ _) | (with_reducible refine Kd.C_drew ?_))); (case side2 => exact (Kd.R_reads' HO258.out).2.1); (case side3 => repeat (first | exact (Kd.R_reads' HO261.out).2.2 | (with_reducible refine Kd.C_alloc ?_ _) | (with_reducible refine Kd.C_drewN ?_ _) | (with_reducible refine Kd.C_drew ?_))); (case side4 => exact (Kd.R_reads' HO261.out).2.1); rintro e w19 ⟨rfl, hb⟩; refine ⟨_, rfl, ?_⟩; have n0_ := ak (Kd.R_below (vr HO258.out) hb); have n1_ := ak (Kd.R_below (vr HO261.out) hb); have n2_ := ak (below_step (vh HB.out) hb); clear HO258; clear HO261; clear HB; have HO258 := n0_; have HO261 := n1_; have HB := n2_; clear n0_ n1_ n2_; (try clear hb); (try clear hb2); (try clear hk); (try clear hi)) | ((with_reducible refine gate_callee (f := 15) rfl ?_); refine goesL_ (some 34) rfl rfl Try.func15 (by kernel_rfl) rfl #[.slice A1 l1.length c1] rfl vm ?_; (with_reducible refine (laws_toJobS.calls k _ _ l1 t264 _ ?side1 ?side2 A11.out).mono ?_); (case side1 => exact vc HR1.out HB.out); (case side2 => exact HC1.out); rintro e w20 ⟨v265, rfl, ho0, hb⟩; refine ⟨_, rfl, ?_⟩; have n0_ := ak (Kd.R_elder' (vr HO258.out) (Kd.R_base ho0) hb); have n1_ := ak (Kd.R_below (vr HO261.out) hb); have n2_ := ak (Kd.R_lower (Kd.R_new' ho0 (Kd.R_lt (vr HO258.out))) (below_size (vh HB.out))); have n3_ := ak (below_step (vh HB.out) hb); clear HO258; clear HO261; clear HB; have HO258 := n0_; have HO261 := n1_; have HO266 := n2_; have HB := n3_; clear n0_ n1_ n2_ n3_; (try clear hb); (try clear hb2); (try clear hk); (try clear hi); (try clear ho0)) | ((with_reducible refine gate_callee (f := 16) rfl ?_); refine goesL_ (some 36) rfl rfl Try.func16 (by kernel_rfl) rfl #[.slice A2 l2.length c2] rfl vm ?_; (with_reducible refine (laws_toHopS.calls k _ _ l2 t267 _ ?side1 ?side2 A12.out).mono ?_); (case side1 => exact vc HR2.out HB.out); (case side2 => exact HC2.out); rintro e w21 ⟨v268, rfl, ho0, hb⟩; refine ⟨_, rfl, ?_⟩; have n0_ := ak (Kd.R_below (vr HO258.out) hb); have n1_ := ak (Kd.R_elder' (vr HO261.out) (Kd.R_base ho0) hb); have n2_ := ak (Kd.R_below (vr HO266.out) hb); have n3_ := ak (Kd.R_lower (Kd.R_new' ho0 (Kd.R_lt (vr HO261.out))) (below_size (vh HB.out))); have n4_ := ak (below_step (vh HB.out) hb); clear HO258; clear HO261; clear HO266; clear HB; have HO258 := n0_; have HO261 := n1_; have HO266 := n2_; have HO269 := n3_; have HB := n4_; clear n0_ n1_ n2_ n3_ n4_; (try clear hb); (try clear hb2); (try clear hk); (try clear hi); (try clear ho0); obtain ⟨Ao22, co22, eo22⟩ := Kd.R_slice HO266.out; subst eo22; obtain ⟨Ao23, co23, eo23⟩ := Kd.R_slice HO269.out; subst eo23) | ((with_reducible refine gate_callee (f := 17) rfl ?_); refine goesL_ (some 41) rfl rfl Try.func17 (by kernel_rfl) rfl #[.int .i64 a0, .slice Ao22 t264.length co22, .slice Ao23 t267.length co23] rfl vm ?_; (with_reducible refine (impl_IsPlan.calls k a0 _ _ t264 _ _ t267 t270 t271 _ ?side1 ?side2 ?side3 ?side4 A13.out).mono ?_); (case side1 => repeat (first | exact (Kd.R_reads' HO266.out).2.2 | (with_reducible refine Kd.C_alloc ?_ _) | (with_reducible refine Kd.C_drewN ?_ _) | (with_reducible refine Kd.C_drew ?_))); (case side2 => exact (Kd.R_reads' HO266.out).2.1); (case side3 => repeat (first | exact (Kd.R_reads' HO269.out).2.2 | (with_reducible refine Kd.C_alloc ?_ _) | (with_reducible refine Kd.C_drewN ?_ _) | (with_reducible refine Kd.C_drew ?_))); (case side4 => exact (Kd.R_reads' HO269.out).2.1); rintro e w24 ⟨rfl, hb⟩; refine ⟨_, rfl, ?_⟩; have n0_ := ak (Kd.R_below (vr HO258.out) hb); have n1_ := ak (Kd.R_below (vr HO261.out) hb); have n2_ := ak (Kd.R_below (vr HO266.out) hb); have n3_ := ak (Kd.R_below (vr HO269.out) hb); have n4_ := ak (below_step (vh HB.out) hb); clear HO258; clear HO261; clear HO266; clear HO269; clear HB; have HO258 := n0_; have HO261 := n1_; have HO266 := n2_; have HO269 := n3_; have HB := n4_; clear n0_ n1_ n2_ n3_ n4_; (try clear hb); (try clear hb2); (try clear hk); (try clear hi)))
   (try simp only [Act.put, List.setIfInBounds_toArray, List.set_cons_zero, List.set_cons_succ]); go_cut [51] (fun v51 wc => ∃ (kq : Nat) (x51_13 : Bool), v51 = .bool x51_13 ∧ Aside0 (laws_FnExactIsPlan.j0 kq l1 l2 t264 t267 x51_13 = some r) ∧ Aside0 (kq ≤ k) ∧ Aside0 (Kd.R k63 63 wc w.heap.size (fun _ => True) (.slice Ao22 t264.length co22) t264) ∧ Aside0 (Kd.R k67 67 wc w.heap.size (fun _ => True) (.slice Ao23 t267.length co23) t267) ∧ Aside0 (Below w.heap.size w wc))
   case first =>
    have H := HC14.out; clear HC14; by_cases c25 : (t270 != t262) = true
    ·rw [if_pos c25] at H
     have c25b0 : (t270 != t262) = true := c25; (try (have c25b1 : decide (t270 = t262) = false := by simpa using c25)); (try (have c25b2 : (t270 == t262) = false := by simpa using c25)); (try (have c25b3 : ¬ (t270 = t262) := by simpa using c25)); clear c25; (first | rw [c25b0] | (simp only [i64_w, i32_w]; rw [c25b0]) | skip); have H' := Aside0.mk H; clear H; go_wp2
     go_meet
     case rel => exact ⟨_, (true), (by first | rfl | (simp; done) | (simp [*]; done)), H', ⟨by first | omega | exact Nat.le_refl _⟩, ⟨by exact vr (Kd.R_mono HO266.out (fun _ hk => trivial))⟩, ⟨by exact vr (Kd.R_mono HO269.out (fun _ hk => trivial))⟩, ⟨by exact vh HB.out⟩⟩
    ·rw [if_neg c25] at H
     have c25b0 : (t270 != t262) = false := by simpa using c25
     (try (have c25b1 : decide (t270 = t262) = true := by simpa using c25)); (try (have c25b2 : (t270 == t262) = true := by simpa using c25)); clear c25; (first | rw [c25b0] | (simp only [i64_w, i32_w]; rw [c25b0]) | skip); have H' := Aside0.mk H; clear H; go_wp2
     go_meet
     case rel => exact ⟨_, ((t271 != t263)), (by first | rfl | (simp; done) | (simp [*]; done)), H', ⟨by first | omega | exact Nat.le_refl _⟩, ⟨by exact vr (Kd.R_mono HO266.out (fun _ hk => trivial))⟩, ⟨by exact vr (Kd.R_mono HO269.out (fun _ hk => trivial))⟩, ⟨by exact vh HB.out⟩⟩
   case rest =>
    clear HC14; try clear c1
    try clear c2
    try clear p2
    try clear c4
    try clear c5
    try clear c5b0
    try clear c7
    try clear c7b0
    try clear c12
    try clear c13
    try clear c14
    try clear c15
    try clear c16
    try clear c17
    try clear c25
    try clear c25b0
    try clear c25b1
    try clear c25b2
    obtain ⟨kq, x51_13, rfl, HA, HJ13, HO_10, HO_11, HB⟩ := hcut; cases kq with
    | zero => exact absurd HA.out (by simp [laws_FnExactIsPlan.j0])
    | succ kj13 =>
     have H := HA.out; clear HA; simp only [laws_FnExactIsPlan.j0] at H
     by_cases c26 : x51_13 = true
     ·subst c26; have H1 : (some false) = some r := by rw [if_pos rfl] at H; first | exact H | (simp only [if_true, eq_self] at H ⊢; exact H)
      clear H; have H := H1; clear H1; obtain rfl := Option.some.inj H; go_wp2
      go_ret
      exact ⟨by first | rfl | (simp [errW_none, errW_some] <;> rfl) | (simp [*, errW_none, errW_some] <;> rfl), by exact vh HB.out⟩
     ·replace c26 := Bool.eq_false_iff.mpr c26; subst c26; have H1 : ((laws_toJobS.f kj13 l1).bind fun t272 => ((laws_eqJobS.f kj13 t264 t272).bind fun t275 => (if t275 = true then ((laws_toHopS.f kj13 l2).bind fun t276 => ((laws_eqHopS.f kj13 t267 t276).bind fun t279 => (if t279 = true then (some true) else (some false)))) else (some false)))) = some r := by rw [if_neg (show ¬ (false = true) by decide)] at H; first | exact H | (simp only [if_true, eq_self] at H ⊢; exact H)
      clear H; have H := H1; clear H1; replace H := Option.bind_eq_some_iff.mp H; obtain ⟨t272, A270, H⟩ := H; replace H : ((laws_eqJobS.f kj13 t264 t272).bind fun t275 => (if t275 = true then ((laws_toHopS.f kj13 l2).bind fun t276 => ((laws_eqHopS.f kj13 t267 t276).bind fun t279 => (if t279 = true then (some true) else (some false)))) else (some false))) = some r := H; have A27 := Aside0.mk A270; clear A270; replace H := Option.bind_eq_some_iff.mp H; obtain ⟨t275, A280, H⟩ := H; replace H : (if t275 = true then ((laws_toHopS.f kj13 l2).bind fun t276 => ((laws_eqHopS.f kj13 t267 t276).bind fun t279 => (if t279 = true then (some true) else (some false)))) else (some false)) = some r := H; have A28 := Aside0.mk A280; clear A280; by_cases c29 : t275 = true
      ·subst c29; have H1 : ((laws_toHopS.f kj13 l2).bind fun t276 => ((laws_eqHopS.f kj13 t267 t276).bind fun t279 => (if t279 = true then (some true) else (some false)))) = some r := by rw [if_pos rfl] at H; first | exact H | (simp only [if_true, eq_self] at H ⊢; exact H)
       clear H; have H := H1; clear H1; replace H := Option.bind_eq_some_iff.mp H; obtain ⟨t276, A300, H⟩ := H; replace H : ((laws_eqHopS.f kj13 t267 t276).bind fun t279 => (if t279 = true then (some true) else (some false))) = some r := H; have A30 := Aside0.mk A300; clear A300; replace H := Option.bind_eq_some_iff.mp H; obtain ⟨t279, A310, H⟩ := H; replace H : (if t279 = true then (some true) else (some false)) = some r := H; have A31 := Aside0.mk A310; clear A310; by_cases c32 : t279 = true
       ·subst c32; have H1 : (some true) = some r := by rw [if_pos rfl] at H; first | exact H | (simp only [if_true, eq_self] at H ⊢; exact H)
        clear H; have H := H1; clear H1; obtain rfl := Option.some.inj H; go_wp2_with (first | ((with_reducible refine gate_callee (f := 15) rfl ?_); refine goesL_ (some 54) rfl rfl Try.func15 (by kernel_rfl) rfl #[.slice A1 l1.length c1] rfl vm ?_; (with_reducible refine (laws_toJobS.calls kj13 _ _ l1 t272 _ ?side1 ?side2 A27.out).mono ?_); (case side1 => exact vc HR1.out HB.out); (case side2 => exact HC1.out); rintro e w33 ⟨v273, rfl, ho0, hb⟩; refine ⟨_, rfl, ?_⟩; have n0_ := ak (Kd.R_elder' (vr HO_10.out) (Kd.R_base ho0) hb); have n1_ := ak (Kd.R_below (vr HO_11.out) hb); have n2_ := ak (Kd.R_lower (Kd.R_new' ho0 (Kd.R_lt (vr HO_10.out))) (below_size (vh HB.out))); have n3_ := ak (below_step (vh HB.out) hb); clear HO_10; clear HO_11; clear HB; have HO_10 := n0_; have HO_11 := n1_; have HO274 := n2_; have HB := n3_; clear n0_ n1_ n2_ n3_; (try clear hb); (try clear hb2); (try clear hk); (try clear hi); (try clear ho0); obtain ⟨Ao34, co34, eo34⟩ := Kd.R_slice HO274.out; subst eo34) | ((with_reducible refine gate_callee (f := 18) rfl ?_); refine goesL_ (some 55) rfl rfl Try.func18 (by kernel_rfl) rfl #[.slice Ao22 t264.length co22, .slice Ao34 t272.length co34] rfl vm ?_; (with_reducible refine (laws_eqJobS.calls kj13 _ _ t264 _ _ t272 true _ ?side1 ?side2 ?side3 ?side4 A28.out).mono ?_); (case side1 => repeat (first | exact (Kd.R_reads' HO_10.out).2.2 | (with_reducible refine Kd.C_alloc ?_ _) | (with_reducible refine Kd.C_drewN ?_ _) | (with_reducible refine Kd.C_drew ?_))); (case side2 => exact (Kd.R_reads' HO_10.out).2.1); (case side3 => repeat (first | exact (Kd.R_reads' HO274.out).2.2 | (with_reducible refine Kd.C_alloc ?_ _) | (with_reducible refine Kd.C_drewN ?_ _) | (with_reducible refine Kd.C_drew ?_))); (case side4 => exact (Kd.R_reads' HO274.out).2.1); rintro e w35 ⟨rfl, hb⟩; refine ⟨_, rfl, ?_⟩; have n0_ := ak (Kd.R_below (vr HO_10.out) hb); have n1_ := ak (Kd.R_below (vr HO_11.out) hb); have n2_ := ak (Kd.R_below (vr HO274.out) hb); have n3_ := ak (below_step (vh HB.out) hb); clear HO_10; clear HO_11; clear HO274; clear HB; have HO_10 := n0_; have HO_11 := n1_; have HO274 := n2_; have HB := n3_; clear n0_ n1_ n2_ n3_; (try clear hb); (try clear hb2); (try clear hk); (try clear hi)) | ((with_reducible refine gate_callee (f := 16) rfl ?_); refine goesL_ (some 59) rfl rfl Try.func16 (by kernel_rfl) rfl #[.slice A2 l2.length c2] rfl vm ?_; (with_reducible refine (laws_toHopS.calls kj13 _ _ l2 t276 _ ?side1 ?side2 A30.out).mono ?_); (case side1 => exact vc HR2.out HB.out); (case side2 => exact HC2.out); rintro e w36 ⟨v277, rfl, ho0, hb⟩; refine ⟨_, rfl, ?_⟩; have n0_ := ak (Kd.R_below (vr HO_10.out) hb); have n1_ := ak (Kd.R_elder' (vr HO_11.out) (Kd.R_base ho0) hb); have n2_ := ak (Kd.R_below (vr HO274.out) hb); have n3_ := ak (Kd.R_lower (Kd.R_new' ho0 (Kd.R_lt (vr HO_11.out))) (below_size (vh HB.out))); have n4_ := ak (below_step (vh HB.out) hb); clear HO_10; clear HO_11; clear HO274; clear HB; have HO_10 := n0_; have HO_11 := n1_; have HO274 := n2_; have HO278 := n3_; have HB := n4_; clear n0_ n1_ n2_ n3_ n4_; (try clear hb); (try clear hb2); (try clear hk); (try clear hi); (try clear ho0); obtain ⟨Ao37, co37, eo37⟩ := Kd.R_slice HO278.out; subst eo37) | ((with_reducible refine gate_callee (f := 19) rfl ?_); refine goesL_ (some 60) rfl rfl Try.func19 (by kernel_rfl) rfl #[.slice Ao23 t267.length co23, .slice Ao37 t276.length co37] rfl vm ?_; (with_reducible refine (laws_eqHopS.calls kj13 _ _ t267 _ _ t276 true _ ?side1 ?side2 ?side3 ?side4 A31.out).mono ?_); (case side1 => repeat (first | exact (Kd.R_reads' HO_11.out).2.2 | (with_reducible refine Kd.C_alloc ?_ _) | (with_reducible refine Kd.C_drewN ?_ _) | (with_reducible refine Kd.C_drew ?_))); (case side2 => exact (Kd.R_reads' HO_11.out).2.1); (case side3 => repeat (first | exact (Kd.R_reads' HO278.out).2.2 | (with_reducible refine Kd.C_alloc ?_ _) | (with_reducible refine Kd.C_drewN ?_ _) | (with_reducible refine Kd.C_drew ?_))); (case side4 => exact (Kd.R_reads' HO278.out).2.1); rintro e w38 ⟨rfl, hb⟩; refine ⟨_, rfl, ?_⟩; have n0_ := ak (Kd.R_below (vr HO_10.out) hb); have n1_ := ak (Kd.R_below (vr HO_11.out) hb); have n2_ := ak (Kd.R_below (vr HO274.out) hb); have n3_ := ak (Kd.R_below (vr HO278.out) hb); have n4_ := ak (below_step (vh HB.out) hb); clear HO_10; clear HO_11; clear HO274; clear HO278; clear HB; have HO_10 := n0_; have HO_11 := n1_; have HO274 := n2_; have HO278 := n3_; have HB := n4_; clear n0_ n1_ n2_ n3_ n4_; (try clear hb); (try clear hb2); (try clear hk); (try clear hi)))
        go_ret
        exact ⟨by first | rfl | (simp [errW_none, errW_some] <;> rfl) | (simp [*, errW_none, errW_some] <;> rfl), by exact vh HB.out⟩
       ·replace c32 := Bool.eq_false_iff.mpr c32; subst c32; have H1 : (some false) = some r := by rw [if_neg (show ¬ (false = true) by decide)] at H; first | exact H | (simp only [if_true, eq_self] at H ⊢; exact H)
        clear H; have H := H1; clear H1; obtain rfl := Option.some.inj H; go_wp2_with (first | ((with_reducible refine gate_callee (f := 15) rfl ?_); refine goesL_ (some 54) rfl rfl Try.func15 (by kernel_rfl) rfl #[.slice A1 l1.length c1] rfl vm ?_; (with_reducible refine (laws_toJobS.calls kj13 _ _ l1 t272 _ ?side1 ?side2 A27.out).mono ?_); (case side1 => exact vc HR1.out HB.out); (case side2 => exact HC1.out); rintro e w39 ⟨v273, rfl, ho0, hb⟩; refine ⟨_, rfl, ?_⟩; have n0_ := ak (Kd.R_elder' (vr HO_10.out) (Kd.R_base ho0) hb); have n1_ := ak (Kd.R_below (vr HO_11.out) hb); have n2_ := ak (Kd.R_lower (Kd.R_new' ho0 (Kd.R_lt (vr HO_10.out))) (below_size (vh HB.out))); have n3_ := ak (below_step (vh HB.out) hb); clear HO_10; clear HO_11; clear HB; have HO_10 := n0_; have HO_11 := n1_; have HO274 := n2_; have HB := n3_; clear n0_ n1_ n2_ n3_; (try clear hb); (try clear hb2); (try clear hk); (try clear hi); (try clear ho0); obtain ⟨Ao40, co40, eo40⟩ := Kd.R_slice HO274.out; subst eo40) | ((with_reducible refine gate_callee (f := 18) rfl ?_); refine goesL_ (some 55) rfl rfl Try.func18 (by kernel_rfl) rfl #[.slice Ao22 t264.length co22, .slice Ao40 t272.length co40] rfl vm ?_; (with_reducible refine (laws_eqJobS.calls kj13 _ _ t264 _ _ t272 true _ ?side1 ?side2 ?side3 ?side4 A28.out).mono ?_); (case side1 => repeat (first | exact (Kd.R_reads' HO_10.out).2.2 | (with_reducible refine Kd.C_alloc ?_ _) | (with_reducible refine Kd.C_drewN ?_ _) | (with_reducible refine Kd.C_drew ?_))); (case side2 => exact (Kd.R_reads' HO_10.out).2.1); (case side3 => repeat (first | exact (Kd.R_reads' HO274.out).2.2 | (with_reducible refine Kd.C_alloc ?_ _) | (with_reducible refine Kd.C_drewN ?_ _) | (with_reducible refine Kd.C_drew ?_))); (case side4 => exact (Kd.R_reads' HO274.out).2.1); rintro e w41 ⟨rfl, hb⟩; refine ⟨_, rfl, ?_⟩; have n0_ := ak (Kd.R_below (vr HO_10.out) hb); have n1_ := ak (Kd.R_below (vr HO_11.out) hb); have n2_ := ak (Kd.R_below (vr HO274.out) hb); have n3_ := ak (below_step (vh HB.out) hb); clear HO_10; clear HO_11; clear HO274; clear HB; have HO_10 := n0_; have HO_11 := n1_; have HO274 := n2_; have HB := n3_; clear n0_ n1_ n2_ n3_; (try clear hb); (try clear hb2); (try clear hk); (try clear hi)) | ((with_reducible refine gate_callee (f := 16) rfl ?_); refine goesL_ (some 59) rfl rfl Try.func16 (by kernel_rfl) rfl #[.slice A2 l2.length c2] rfl vm ?_; (with_reducible refine (laws_toHopS.calls kj13 _ _ l2 t276 _ ?side1 ?side2 A30.out).mono ?_); (case side1 => exact vc HR2.out HB.out); (case side2 => exact HC2.out); rintro e w42 ⟨v277, rfl, ho0, hb⟩; refine ⟨_, rfl, ?_⟩; have n0_ := ak (Kd.R_below (vr HO_10.out) hb); have n1_ := ak (Kd.R_elder' (vr HO_11.out) (Kd.R_base ho0) hb); have n2_ := ak (Kd.R_below (vr HO274.out) hb); have n3_ := ak (Kd.R_lower (Kd.R_new' ho0 (Kd.R_lt (vr HO_11.out))) (below_size (vh HB.out))); have n4_ := ak (below_step (vh HB.out) hb); clear HO_10; clear HO_11; clear HO274; clear HB; have HO_10 := n0_; have HO_11 := n1_; have HO274 := n2_; have HO278 := n3_; have HB := n4_; clear n0_ n1_ n2_ n3_ n4_; (try clear hb); (try clear hb2); (try clear hk); (try clear hi); (try clear ho0); obtain ⟨Ao43, co43, eo43⟩ := Kd.R_slice HO278.out; subst eo43) | ((with_reducible refine gate_callee (f := 19) rfl ?_); refine goesL_ (some 60) rfl rfl Try.func19 (by kernel_rfl) rfl #[.slice Ao23 t267.length co23, .slice Ao43 t276.length co43] rfl vm ?_; (with_reducible refine (laws_eqHopS.calls kj13 _ _ t267 _ _ t276 false _ ?side1 ?side2 ?side3 ?side4 A31.out).mono ?_); (case side1 => repeat (first | exact (Kd.R_reads' HO_11.out).2.2 | (with_reducible refine Kd.C_alloc ?_ _) | (with_reducible refine Kd.C_drewN ?_ _) | (with_reducible refine Kd.C_drew ?_))); (case side2 => exact (Kd.R_reads' HO_11.out).2.1); (case side3 => repeat (first | exact (Kd.R_reads' HO278.out).2.2 | (with_reducible refine Kd.C_alloc ?_ _) | (with_reducible refine Kd.C_drewN ?_ _) | (with_reducible refine Kd.C_drew ?_))); (case side4 => exact (Kd.R_reads' HO278.out).2.1); rintro e w44 ⟨rfl, hb⟩; refine ⟨_, rfl, ?_⟩; have n0_ := ak (Kd.R_below (vr HO_10.out) hb); have n1_ := ak (Kd.R_below (vr HO_11.out) hb); have n2_ := ak (Kd.R_below (vr HO274.out) hb); have n3_ := ak (Kd.R_below (vr HO278.out) hb); have n4_ := ak (below_step (vh HB.out) hb); clear HO_10; clear HO_11; clear HO274; clear HO278; clear HB; have HO_10 := n0_; have HO_11 := n1_; have HO274 := n2_; have HO278 := n3_; have HB := n4_; clear n0_ n1_ n2_ n3_ n4_; (try clear hb); (try clear hb2); (try clear hk); (try clear hi)))
        go_ret
        exact ⟨by first | rfl | (simp [errW_none, errW_some] <;> rfl) | (simp [*, errW_none, errW_some] <;> rfl), by exact vh HB.out⟩
      ·replace c29 := Bool.eq_false_iff.mpr c29; subst c29; have H1 : (some false) = some r := by rw [if_neg (show ¬ (false = true) by decide)] at H; first | exact H | (simp only [if_true, eq_self] at H ⊢; exact H)
       clear H; have H := H1; clear H1; obtain rfl := Option.some.inj H; go_wp2_with (first | ((with_reducible refine gate_callee (f := 15) rfl ?_); refine goesL_ (some 54) rfl rfl Try.func15 (by kernel_rfl) rfl #[.slice A1 l1.length c1] rfl vm ?_; (with_reducible refine (laws_toJobS.calls kj13 _ _ l1 t272 _ ?side1 ?side2 A27.out).mono ?_); (case side1 => exact vc HR1.out HB.out); (case side2 => exact HC1.out); rintro e w45 ⟨v273, rfl, ho0, hb⟩; refine ⟨_, rfl, ?_⟩; have n0_ := ak (Kd.R_elder' (vr HO_10.out) (Kd.R_base ho0) hb); have n1_ := ak (Kd.R_below (vr HO_11.out) hb); have n2_ := ak (Kd.R_lower (Kd.R_new' ho0 (Kd.R_lt (vr HO_10.out))) (below_size (vh HB.out))); have n3_ := ak (below_step (vh HB.out) hb); clear HO_10; clear HO_11; clear HB; have HO_10 := n0_; have HO_11 := n1_; have HO274 := n2_; have HB := n3_; clear n0_ n1_ n2_ n3_; (try clear hb); (try clear hb2); (try clear hk); (try clear hi); (try clear ho0); obtain ⟨Ao46, co46, eo46⟩ := Kd.R_slice HO274.out; subst eo46) | ((with_reducible refine gate_callee (f := 18) rfl ?_); refine goesL_ (some 55) rfl rfl Try.func18 (by kernel_rfl) rfl #[.slice Ao22 t264.length co22, .slice Ao46 t272.length co46] rfl vm ?_; (with_reducible refine (laws_eqJobS.calls kj13 _ _ t264 _ _ t272 false _ ?side1 ?side2 ?side3 ?side4 A28.out).mono ?_); (case side1 => repeat (first | exact (Kd.R_reads' HO_10.out).2.2 | (with_reducible refine Kd.C_alloc ?_ _) | (with_reducible refine Kd.C_drewN ?_ _) | (with_reducible refine Kd.C_drew ?_))); (case side2 => exact (Kd.R_reads' HO_10.out).2.1); (case side3 => repeat (first | exact (Kd.R_reads' HO274.out).2.2 | (with_reducible refine Kd.C_alloc ?_ _) | (with_reducible refine Kd.C_drewN ?_ _) | (with_reducible refine Kd.C_drew ?_))); (case side4 => exact (Kd.R_reads' HO274.out).2.1); rintro e w47 ⟨rfl, hb⟩; refine ⟨_, rfl, ?_⟩; have n0_ := ak (Kd.R_below (vr HO_10.out) hb); have n1_ := ak (Kd.R_below (vr HO_11.out) hb); have n2_ := ak (Kd.R_below (vr HO274.out) hb); have n3_ := ak (below_step (vh HB.out) hb); clear HO_10; clear HO_11; clear HO274; clear HB; have HO_10 := n0_; have HO_11 := n1_; have HO274 := n2_; have HB := n3_; clear n0_ n1_ n2_ n3_; (try clear hb); (try clear hb2); (try clear hk); (try clear hi)))
       go_ret
       exact ⟨by first | rfl | (simp [errW_none, errW_some] <;> rfl) | (simp [*, errW_none, errW_some] <;> rfl), by exact vh HB.out⟩

/-- THE ONE PURE STATEMENT of laws_FnExactIsPlan: yours. -/
def laws_FnExactIsPlan.Pure : Prop := ∀ (a0 : Int) (l1 : List (S65)) (l2 : List (S69)), ((Lit.int .i64 a0).wf = true) → (l1.length ≤ 9223372036854775807) → (∀ y_ ∈ l1, ((Lit.int .i64 y_.f0).wf = true) ∧ ((Lit.int .i64 y_.f1).wf = true) ∧ ((Lit.int .i64 y_.f2).wf = true) ∧ ((Lit.int .i64 y_.f3).wf = true)) → (l2.length ≤ 9223372036854775807) → (∀ y_ ∈ l2, ((Lit.int .i64 y_.f0).wf = true) ∧ ((Lit.int .i64 y_.f1).wf = true) ∧ ((Lit.int .i64 y_.f2).wf = true)) → ∃ k, laws_FnExactIsPlan.f k a0 l1 l2 = some true

end Go.Proofs.Ytlgmccliclmbaaa.PFnExactIsPlan
