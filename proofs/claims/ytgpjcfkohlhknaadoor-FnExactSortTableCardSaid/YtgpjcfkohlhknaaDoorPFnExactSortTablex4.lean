-- Written by a program of this session (the kit's print with this session's additions, wip/tools): Lean checks it. (pressed)
import Derived.Test.YtgpjcfkohlhknaaDoorAbbr
import Derived.Test.YtgpjcfkohlhknaaDoorPFnExactSortTablex0
import Derived.Test.YtgpjcfkohlhknaaDoorPFnExactSortTablex2
import Derived.Test.YtgpjcfkohlhknaaDoorPFnExactSortTablex3
namespace Go.Proofs.YtgpjcfkohlhknaaDoor.PFnExactSortTable
open Go.RowKit Go.Proofs.YtgpjcfkohlhknaaDoorW.PrintWords Go.Proofs.YtgpjcfkohlhknaaDoorW.PrintLast Go.Proofs.YtgpjcfkohlhknaaDoorW.PrintMore
attribute [local go_sem] max2_int min2_int max_two min_two max_three min_three max_four min_four   -- for this text's walks alone
set_option linter.unusedVariables false
set_option linter.unusedSimpArgs false

/-! ### spec_l9Node: function 91 -/
def spec_l9Node.l0 : Nat → ByteArray → Int → Int → Option (Int)
 | 0, _, _, _ => none
 | k + 1, x0, x3, x4 => if x4 < (x0.size : Int) then (if 0 ≤ x4 then (if (bt x0 x4) = 45 then (spec_l9Node.l0 k x0 (wrap64 ((wrap64 (2 * x3)) + 1)) (wrap64 (x4 + 1))) else (spec_l9Node.l0 k x0 (wrap64 (2 * x3)) (wrap64 (x4 + 1)))) else (none)) else (some x3)
def spec_l9Node.f (k : Nat) (a0 : ByteArray) : Option (Int) := spec_l9Node.l0 k a0 1 0
theorem spec_l9Node.mono_l : ∀ k, (∀ y0 y1 y2, LeO (spec_l9Node.l0 k y0 y1 y2) (spec_l9Node.l0 (k + 1) y0 y1 y2))
 | 0 => fun _ _ _ r h => by simp [spec_l9Node.l0] at h
 | k + 1 => by
  have ih0 := spec_l9Node.mono_l k
  ·intro y0 y1 y2; unfold spec_l9Node.l0
   repeat' first
   | (with_reducible exact ih0 _ _ _)
   | (with_reducible exact LeO.refl _)
   | (with_reducible exact LeO.none _)
   | (with_reducible refine LeO.ite ?_ ?_)
   | (with_reducible refine LeO.bind ?_ (fun _ => ?_))
   | exact ih0 _ _ _
   | exact LeO.none _
   | refine LeO.ite ?_ ?_
   | refine LeO.bind ?_ (fun _ => ?_)
theorem spec_l9Node.mono : ∀ a0 k, LeO (spec_l9Node.f k a0) (spec_l9Node.f (k + 1) a0) := by
 intro a0 k; have ih0 := spec_l9Node.mono_l k; unfold spec_l9Node.f
 repeat' first
   | (with_reducible exact ih0 _ _ _)
   | (with_reducible exact LeO.refl _)
   | (with_reducible exact LeO.none _)
   | (with_reducible refine LeO.ite ?_ ?_)
   | (with_reducible refine LeO.bind ?_ (fun _ => ?_))
   | exact ih0 _ _ _
   | exact LeO.none _
   | refine LeO.ite ?_ ?_
   | refine LeO.bind ?_ (fun _ => ?_)
set_option maxHeartbeats 8000000 in
set_option maxRecDepth 100000 in
theorem spec_l9Node.calls (k : Nat) (a0 : ByteArray) (r : Int) (w : World) (h : spec_l9Node.f k a0 = some r) :
  Calls Tryd.prog 91 #[.string a0] w fun e w' => e = .returned (.int .i64 r) ∧ Drawn0 w w' := by
 have H : (spec_l9Node.l0 k a0 1 0) = some r := h; clear h; have H' := Aside0.mk H; clear H; go_enter Tryd.func91, Tryd.ntmps91
 go_wp2
 go_loopg [3, 4] k (fun kq v3 v4 w' => ∃ (x3_1 : Int) (x4_1 : Int), v3 = .int .i64 x3_1 ∧ v4 = .int .i64 x4_1 ∧ Aside0 (spec_l9Node.l0 kq a0 x3_1 x4_1 = some r) ∧ Aside0 (kq ≤ k) ∧ Drawn0 w w')
 case atStart => exact ⟨(1), (0), (by first | rfl | (simp; done) | (simp [*]; done)), (by first | rfl | (simp; done) | (simp [*]; done)), H', ⟨Nat.le_refl _⟩, by repeat (first | exact Drawn0.refl _ | apply Drawn0.step)⟩
 case round =>
  clear H'; obtain ⟨x3_1, x4_1, rfl, rfl, HA, HK1, ⟨m1, rfl⟩⟩ := hrel; cases gk with
  | zero => exact absurd HA.out (by simp [spec_l9Node.l0])
  | succ k1 =>
   have H := HA.out; clear HA; simp only [spec_l9Node.l0] at H
   by_cases c2 : x4_1 < (a0.size : Int)
   ·rw [if_pos c2] at H
    have c2b0 : decide (x4_1 < (a0.size : Int)) = true := decide_eq_true c2; clear c2; by_cases c3 : 0 ≤ x4_1
    ·rw [if_pos c3] at H
     have c3b0 : decide (0 ≤ x4_1) = true := decide_eq_true c3; clear c3; by_cases c5 : (bt a0 x4_1) = 45
     ·rw [if_pos c5] at H
      have c5b0 : ((bt a0 x4_1) == 45) = true := beq_iff_eq.mpr c5; have c5b1 : ((bt a0 x4_1) != 45) = false := bne_eq_false_iff_eq.mpr c5; clear c5; have H' := Aside0.mk H; clear H; have p4 : 0 ≤ (x4_1 : Int) := of_decide_eq_true va; have q4 : x4_1 < (a0.size : Int) := of_decide_eq_true va; have hx4 := bt_at a0 x4_1; replace p4 := eq_true p4; replace q4 := eq_true q4; go_wp2
      go_roundg k1
      case measure => have := HK1.out; omega
      case rel => exact ⟨(wrap64 ((wrap64 (2 * x3_1)) + 1)), (wrap64 (x4_1 + 1)), vq, vq, H', ⟨by have := HK1.out; omega⟩, by repeat (first | exact Drawn0.refl _ | apply Drawn0.step)⟩
     ·rw [if_neg c5] at H
      have c5b0 : ((bt a0 x4_1) == 45) = false := beq_eq_false_iff_ne.mpr c5; have c5b1 : ((bt a0 x4_1) != 45) = true := bne_iff_ne.mpr c5; have H' := Aside0.mk H; clear H; have p4 : 0 ≤ (x4_1 : Int) := of_decide_eq_true va; have q4 : x4_1 < (a0.size : Int) := of_decide_eq_true va; have hx4 := bt_at a0 x4_1; replace p4 := eq_true p4; replace q4 := eq_true q4; go_wp2
      go_roundg k1
      case measure => have := HK1.out; omega
      case rel => exact ⟨(wrap64 (2 * x3_1)), (wrap64 (x4_1 + 1)), vq, vq, H', ⟨by have := HK1.out; omega⟩, by repeat (first | exact Drawn0.refl _ | apply Drawn0.step)⟩
    ·rw [if_neg c3] at H
     exact absurd H (by simp)
   ·rw [if_neg c2] at H
    have c2b0 : decide (x4_1 < (a0.size : Int)) = false := decide_eq_false c2; clear c2; obtain rfl := Option.some.inj H; go_wp2
    go_ret
    exact ⟨by first | rfl | (simp; done) | (simp [*]; done), by repeat (first | exact Drawn0.refl _ | apply Drawn0.step)⟩

/-! ### spec_l9Filled: function 55 -/
def spec_l9Filled.l0 : Nat → List Int → Int → List ByteArray → Option (List Int)
 | 0, _, _, _ => none
 | k + 1, x3, x4, x193000 => if x4 < (x193000.length : Int) then (if 0 ≤ x4 then ((spec_l9Node.f k (rdOf ByteArray.empty x193000 x4)).bind fun t197 => ((spec_l1Put.f k x3 t197).bind fun t198 => (spec_l9Filled.l0 k t198 (wrap64 (x4 + 1)) x193000))) else (none)) else (some x3)
def spec_l9Filled.f (k : Nat) (l0_0 : List ByteArray) : Option (List Int) := spec_l9Filled.l0 k (([] : List Int)) 0 l0_0
theorem spec_l9Filled.mono_l : ∀ k, (∀ y0 y1 y2, LeO (spec_l9Filled.l0 k y0 y1 y2) (spec_l9Filled.l0 (k + 1) y0 y1 y2))
 | 0 => fun _ _ _ r h => by simp [spec_l9Filled.l0] at h
 | k + 1 => by
  have ih0 := spec_l9Filled.mono_l k
  ·intro y0 y1 y2; unfold spec_l9Filled.l0
   repeat' first
   | (with_reducible exact ih0 _ _ _)
   | (with_reducible exact spec_l1Put.mono _ _ _)
   | (with_reducible exact spec_l9Node.mono _ _)
   | (with_reducible exact LeO.refl _)
   | (with_reducible exact LeO.none _)
   | (with_reducible refine LeO.ite ?_ ?_)
   | (with_reducible refine LeO.bind ?_ (fun _ => ?_))
   | exact ih0 _ _ _
   | exact spec_l1Put.mono _ _ _
   | exact spec_l9Node.mono _ _
   | exact LeO.none _
   | refine LeO.ite ?_ ?_
   | refine LeO.bind ?_ (fun _ => ?_)
theorem spec_l9Filled.mono : ∀ a0 k, LeO (spec_l9Filled.f k a0) (spec_l9Filled.f (k + 1) a0) := by
 intro a0 k; have ih0 := spec_l9Filled.mono_l k; unfold spec_l9Filled.f
 repeat' first
   | (with_reducible exact ih0 _ _ _)
   | (with_reducible exact spec_l1Put.mono _ _ _)
   | (with_reducible exact spec_l9Node.mono _ _)
   | (with_reducible exact LeO.refl _)
   | (with_reducible exact LeO.none _)
   | (with_reducible refine LeO.ite ?_ ?_)
   | (with_reducible refine LeO.bind ?_ (fun _ => ?_))
   | exact ih0 _ _ _
   | exact spec_l1Put.mono _ _ _
   | exact spec_l9Node.mono _ _
   | exact LeO.none _
   | refine LeO.ite ?_ ?_
   | refine LeO.bind ?_ (fun _ => ?_)
set_option maxHeartbeats 8000000 in
set_option maxRecDepth 100000 in
theorem spec_l9Filled.calls (k : Nat) (A0_0 : Option Addr) (c0_0 : Nat) (l0_0 : List ByteArray) (r : List Int) (w : World) (hr0_0 : Kd.C Kd.string w A0_0 l0_0.length l0_0) (hc0_0 : l0_0.length ≤ c0_0) (h : spec_l9Filled.f k l0_0 = some r) :
  Calls Tryd.prog 55 #[.agg #[.slice A0_0 l0_0.length c0_0]] w fun e w' => ∃ v0_ : Value, e = .returned (v0_) ∧ Kd.V (Kd.int .i64) 3 w' w.heap.size (fun k_ => (w.heap.size ≤ k_)) v0_ r ∧ Below w.heap.size w w' := by
 have hu28 := Tryd.underlying28; have HR0_0 := Aside0.mk hr0_0; have HC0_0 := Aside0.mk hc0_0; clear hr0_0 hc0_0; have HB := ak (Below.refl w.heap.size w); have H : (spec_l9Filled.l0 k (([] : List Int)) 0 l0_0) = some r := h; clear h; obtain ⟨y193, hy193⟩ : ∃ y_ : List Int, y_ = (([] : List Int)) := ⟨_, rfl⟩; replace H : (spec_l9Filled.l0 k y193 0 l0_0) = some r := by first | (rw [hy193]; with_reducible exact H) | (have H2_ := (Option.bind_some _ _).symm.trans H; rw [hy193]; with_reducible exact H2_) | (have H2_ := (Option.bind_some _ _).symm.trans H; with_reducible exact H2_) | with_reducible exact H | (rw [hy193]; exact H) | exact H
 have Ny193 := Aside0.mk hy193; clear hy193; have H' := Aside0.mk H; clear H; go_enter Tryd.func55, Tryd.ntmps55
 go_wp2_with (first | ((with_reducible refine gate_dst (N := 1) rfl ?_); refine vbe (N := 1) (cs := #[.slice A0_0 l0_0.length c0_0]) (t := 28) ?_; intro gb192 hg w2 hbox hb; have n0_ := ak (below_step (vh HB.out) hb); have n1_ := ak (hbox); have n2_ := ak (vg hg (vh HB.out)); have n3_ := ak (vg hg (vh HB.out)); clear HB; have HB := n0_; have BK192 := n1_; have GW192 := n2_; have GE192 := n3_; clear n0_ n1_ n2_ n3_; clear hb hbox hg) | ((with_reducible refine gate_dst (N := 5) rfl ?_); refine Kd.R_lit (Kd.int .i64) _ 3 ?hg (N := 5) ?hd (xs := ([] : List Int)) (inner := []) (ok := fun _ => True) (okp := fun _ => True) ?hr ?hp (fun _ hk => hk) trivial (Below.refl _ _) (Nat.le_refl _) (by simp) ?_; (case hd => rfl); (case hg => rfl); (case hr => first | (go_simp; done) | (go_simp; rfl)); (case hp => exact (Reps.none _ _)); intro v194 w3 ho4 hb hg_ hnew_; clear hg_ hnew_; (first | rw [← Ny193.out] at ho4 | (simp only [Int.reduceToNat] at ho4; rw [← Ny193.out] at ho4)); have n0_ := ak (Kd.R_lower (Kd.R_newM (M := fun k_ => (w.heap.size ≤ k_)) ho4 (below_size (vs1 HB.out GE192.out)) (fun k_ h_ => h_)) (below_size (vs1 HB.out GE192.out))); have n1_ := ak (blk_below (vb BK192.out) hb); have n2_ := ak (below_step (vs1 HB.out GE192.out) hb); clear BK192; clear HB; have HO195 := n0_; have BK192 := n1_; have HB := n2_; clear n0_ n1_ n2_; clear hb ho4))
 go_loopg [3, 4] k (fun kq v3 v4 w' => ∃ (x3_1 : List Int) (x4_1 : Int), v4 = .int .i64 x4_1 ∧ Aside0 (spec_l9Filled.l0 kq x3_1 x4_1 l0_0 = some r) ∧ Aside0 (kq ≤ k) ∧ Aside0 (Kd.V (Kd.int .i64) 3 w' w.heap.size (fun k_ => (w.heap.size ≤ k_) ∧ k_ ≠ gb192) v3 x3_1) ∧ Aside0 (w'.heap[gb192]? = some (.cells #[(.slice A0_0 l0_0.length c0_0)] 28 (0, 0))) ∧ Aside0 (Below w.heap.size w w'))
 case atStart => exact ⟨(y193), (0), (by first | rfl | (simp; done) | (simp [*]; done)), H', ⟨Nat.le_refl _⟩, ⟨Kd.R_V (by (with_reducible repeat (first | apply Kd.R_alloc | apply Kd.R_drewN | apply Kd.R_drew)); exact Kd.R_mono (Kd.R_types HO195.out BK192.out (by decide)) (fun _ hk => ⟨hk.1.1, hk.2⟩))⟩, ⟨by exact vb BK192.out⟩, ⟨by exact vs1 HB.out GE192.out⟩⟩
 case round =>
  clear H'; try clear p2
  obtain ⟨x3_1, x4_1, rfl, HA, HK1, HO_3, BK192, HB⟩ := hrel; cases gk with
  | zero => exact absurd HA.out (by simp [spec_l9Filled.l0])
  | succ k1 =>
   have H := HA.out; clear HA; simp only [spec_l9Filled.l0] at H
   by_cases c5 : x4_1 < (l0_0.length : Int)
   ·rw [if_pos c5] at H
    have c5b0 : decide (x4_1 < (l0_0.length : Int)) = true := decide_eq_true c5; clear c5; by_cases c6 : 0 ≤ x4_1
    ·rw [if_pos c6] at H
     have c6b0 : decide (0 ≤ x4_1) = true := decide_eq_true c6; clear c6; replace H := Option.bind_eq_some_iff.mp H; obtain ⟨t197, A70, H⟩ := H; replace H : ((spec_l1Put.f k1 x3_1 t197).bind fun t198 => (spec_l9Filled.l0 k1 t198 (wrap64 (x4_1 + 1)) l0_0)) = some r := H; have A7 := Aside0.mk A70; clear A70; replace H := Option.bind_eq_some_iff.mp H; obtain ⟨t198, A80, H⟩ := H; replace H : (spec_l9Filled.l0 k1 t198 (wrap64 (x4_1 + 1)) l0_0) = some r := H; have A8 := Aside0.mk A80; clear A80; have H' := Aside0.mk H; clear H; (try (have hnw10 := Kd.R_ne HO_3.out BK192.out (by decide); change some gb192 ≠ some _ at hnw10; have how10 := fun (e_ : gb192 = _) => hnw10 (congrArg some e_); have hpw10 := fun e_ => how10 (Eq.symm e_); clear hnw10; replace how10 := eq_false how10; replace hpw10 := eq_false hpw10)); have hcz9_0 : wr.cell? ⟨gb192, 0, none⟩ = some (.slice A0_0 l0_0.length c0_0) := (blk_cell BK192.out 0).trans rfl; have hfz9_0 := blk_frozen BK192.out 0; have p196 : 0 ≤ (x4_1 : Int) := of_decide_eq_true va; have q196 : x4_1 < (l0_0.length : Int) := of_decide_eq_true va; obtain ⟨ad196, e196, hx196_0⟩ := Kd.at_string HR0_0.out x4_1 p196 q196; cases e196; (try replace hx196_0 := vl HB.out hx196_0); replace p196 := eq_true p196; replace q196 := eq_true q196; go_wp2_with (first | ((with_reducible refine gate_callee (f := 91) rfl ?_); refine goesL_ (some 19) rfl rfl Tryd.func91 (by kernel_rfl) rfl #[.string (rdOf ByteArray.empty l0_0 x4_1)] rfl vm ?_; (with_reducible refine (spec_l9Node.calls k1 (rdOf ByteArray.empty l0_0 x4_1) t197 _ A7.out).mono ?_); rintro e w' ⟨rfl, ⟨nd, rfl⟩⟩; refine ⟨_, rfl, ?_⟩; obtain ⟨Ao11, co11, eo11⟩ := Kd.V_slice HO_3.out; subst eo11) | ((with_reducible refine gate_callee (f := 87) rfl ?_); refine goesL_ (some 20) rfl rfl Tryd.func87 (by kernel_rfl) rfl #[.slice Ao11 x3_1.length co11, .int .i64 t197] rfl vm ?_; (with_reducible refine (spec_l1Put.calls k1 (fun k_ => ((w.heap.size ≤ k_) ∧ k_ ≠ gb192)) _ _ x3_1 t197 t198 _ ?side1 A8.out).mono ?_); (case side1 => exact HO_3.out); rintro e w12 ⟨v199, rfl, ho0, hb⟩; refine ⟨_, rfl, ?_⟩; have n0_ := ak (Kd.V_below (by (with_reducible repeat (first | apply Kd.V_alloc | apply Kd.V_drewN | apply Kd.V_drew)); exact HO_3.out) hb); have n1_ := ak (Kd.V_lower (Kd.V_mono (ok' := fun k_ => (w.heap.size ≤ k_) ∧ k_ ≠ gb192) ho0 (fun k_ hk_ => ⟨Or.elim hk_ (fun hs_ => hs_.1) (fun hn_ => (Nat.le_trans (below_size (vs1 HB.out GE192.out)) hn_)), Or.elim hk_ (fun hs_ => hs_.2) (fun hn_ => (Kd.freshB (g := gb192) (o := .cells #[.slice (some ad196) l0_0.length c0_0] 28 (0, 0)) (vb BK192.out) k_ hn_))⟩)) (below_size (vs1 HB.out GE192.out))); have n2_ := ak (blk_below (vb BK192.out) hb); have n3_ := ak (below_step (vs1 HB.out GE192.out) hb); clear HO_3; clear BK192; clear HB; have HO_3 := n0_; have HO200 := n1_; have BK192 := n2_; have HB := n3_; clear n0_ n1_ n2_ n3_; (try clear hb); (try clear hb2); (try clear hk); (try clear hi); (try clear ho0)))
     go_roundg k1
     case measure => have := HK1.out; omega
     case rel => exact ⟨(t198), (wrap64 (x4_1 + 1)), vq, H', ⟨by have := HK1.out; omega⟩, ⟨by (with_reducible repeat (first | apply Kd.V_alloc | apply Kd.V_drewN | apply Kd.V_drew)); exact HO200.out⟩, ⟨by exact vb BK192.out⟩, ⟨by exact vs1 HB.out GE192.out⟩⟩
    ·rw [if_neg c6] at H
     exact absurd H (by simp)
   ·rw [if_neg c5] at H
    have c5b0 : decide (x4_1 < (l0_0.length : Int)) = false := decide_eq_false c5; clear c5; obtain rfl := Option.some.inj H; (try (have hnw14 := Kd.R_ne HO_3.out BK192.out (by decide); change some gb192 ≠ some _ at hnw14; have how14 := fun (e_ : gb192 = _) => hnw14 (congrArg some e_); have hpw14 := fun e_ => how14 (Eq.symm e_); clear hnw14; replace how14 := eq_false how14; replace hpw14 := eq_false hpw14)); have hcz13_0 : wr.cell? ⟨gb192, 0, none⟩ = some (.slice A0_0 l0_0.length c0_0) := (blk_cell BK192.out 0).trans rfl; have hfz13_0 := blk_frozen BK192.out 0; go_wp2
    go_ret
    exact ⟨_, by first | rfl | (simp [errW_none, errW_some] <;> rfl) | (simp [*, errW_none, errW_some] <;> rfl), by (with_reducible repeat (first | apply Kd.V_alloc | apply Kd.V_drewN | apply Kd.V_drew)); exact Kd.V_mono HO_3.out (fun _ hk => hk.1), by exact vs1 HB.out GE192.out⟩

/-! ### spec_l9Marks: function 61 -/
def spec_l9Marks.l0 : Nat → Int → ByteArray → Option (ByteArray)
 | 0, _, _ => none
 | k + 1, x0, x3 => if x0 > 1 then (if (Int.tmod x0 2) = 1 then (if 1 + x3.size ≤ 9223372036854775807 then (spec_l9Marks.l0 k (wrap64 (Int.tdiv x0 2)) ((⟨#[45]⟩ : ByteArray) ++ x3)) else (none)) else (if 1 + x3.size ≤ 9223372036854775807 then (spec_l9Marks.l0 k (wrap64 (Int.tdiv x0 2)) ((⟨#[46]⟩ : ByteArray) ++ x3)) else (none))) else (some x3)
def spec_l9Marks.f (k : Nat) (a0 : Int) : Option (ByteArray) := spec_l9Marks.l0 k a0 (⟨#[]⟩ : ByteArray)
theorem spec_l9Marks.mono_l : ∀ k, (∀ y0 y1, LeO (spec_l9Marks.l0 k y0 y1) (spec_l9Marks.l0 (k + 1) y0 y1))
 | 0 => fun _ _ r h => by simp [spec_l9Marks.l0] at h
 | k + 1 => by
  have ih0 := spec_l9Marks.mono_l k
  ·intro y0 y1; unfold spec_l9Marks.l0
   repeat' first
   | (with_reducible exact ih0 _ _)
   | (with_reducible exact LeO.refl _)
   | (with_reducible exact LeO.none _)
   | (with_reducible refine LeO.ite ?_ ?_)
   | (with_reducible refine LeO.bind ?_ (fun _ => ?_))
   | exact ih0 _ _
   | exact LeO.none _
   | refine LeO.ite ?_ ?_
   | refine LeO.bind ?_ (fun _ => ?_)
theorem spec_l9Marks.mono : ∀ a0 k, LeO (spec_l9Marks.f k a0) (spec_l9Marks.f (k + 1) a0) := by
 intro a0 k; have ih0 := spec_l9Marks.mono_l k; unfold spec_l9Marks.f
 repeat' first
   | (with_reducible exact ih0 _ _)
   | (with_reducible exact LeO.refl _)
   | (with_reducible exact LeO.none _)
   | (with_reducible refine LeO.ite ?_ ?_)
   | (with_reducible refine LeO.bind ?_ (fun _ => ?_))
   | exact ih0 _ _
   | exact LeO.none _
   | refine LeO.ite ?_ ?_
   | refine LeO.bind ?_ (fun _ => ?_)
set_option maxHeartbeats 8000000 in
set_option maxRecDepth 100000 in
theorem spec_l9Marks.calls (k : Nat) (a0 : Int) (r : ByteArray) (w : World) (h : spec_l9Marks.f k a0 = some r) :
  Calls Tryd.prog 61 #[.int .i64 a0] w fun e w' => e = .returned (.string r) ∧ Drawn0 w w' := by
 have H : (spec_l9Marks.l0 k a0 (⟨#[]⟩ : ByteArray)) = some r := h; clear h; have H' := Aside0.mk H; clear H; go_enter Tryd.func61, Tryd.ntmps61
 go_wp2
 go_loopg [0, 3] k (fun kq v0 v3 w' => ∃ (x0_1 : Int) (x3_1 : ByteArray), v0 = .int .i64 x0_1 ∧ v3 = .string x3_1 ∧ Aside0 (spec_l9Marks.l0 kq x0_1 x3_1 = some r) ∧ Aside0 (kq ≤ k) ∧ Drawn0 w w')
 case atStart => exact ⟨(a0), ((⟨#[]⟩ : ByteArray)), (by first | rfl | (simp; done) | (simp [*]; done)), (by first | rfl | (simp; done) | (simp [*]; done)), H', ⟨Nat.le_refl _⟩, by repeat (first | exact Drawn0.refl _ | apply Drawn0.step)⟩
 case round =>
  clear H'; obtain ⟨x0_1, x3_1, rfl, rfl, HA, HK1, ⟨m1, rfl⟩⟩ := hrel; cases gk with
  | zero => exact absurd HA.out (by simp [spec_l9Marks.l0])
  | succ k1 =>
   have H := HA.out; clear HA; simp only [spec_l9Marks.l0] at H
   by_cases c2 : x0_1 > 1
   ·rw [if_pos c2] at H
    have c2b0 : decide (1 < x0_1) = true := decide_eq_true c2; clear c2; by_cases c3 : (Int.tmod x0_1 2) = 1
    ·rw [if_pos c3] at H
     have c3b0 : ((Int.tmod x0_1 2) == 1) = true := beq_iff_eq.mpr c3; have c3b1 : ((Int.tmod x0_1 2) != 1) = false := bne_eq_false_iff_eq.mpr c3; clear c3; by_cases c4 : 1 + x3_1.size ≤ 9223372036854775807
     ·rw [if_pos c4] at H
      have c4b0 := eq_true c4; have c4b1 : decide (1 + x3_1.size ≤ 9223372036854775807) = true := decide_eq_true c4; try have c4b2 : (9223372036854775807 < 1 + x3_1.size) = False := eq_false (Nat.not_lt.2 c4)
      have H' := Aside0.mk H; clear H; go_wp2
      go_roundg k1
      case measure => have := HK1.out; omega
      case rel => exact ⟨(wrap64 (Int.tdiv x0_1 2)), ((⟨#[45]⟩ : ByteArray) ++ x3_1), vq, (by first | rfl | (simp; done) | (simp [*]; done)), H', ⟨by have := HK1.out; omega⟩, by repeat (first | exact Drawn0.refl _ | apply Drawn0.step)⟩
     ·rw [if_neg c4] at H
      exact absurd H (by simp)
    ·rw [if_neg c3] at H
     have c3b0 : ((Int.tmod x0_1 2) == 1) = false := beq_eq_false_iff_ne.mpr c3; have c3b1 : ((Int.tmod x0_1 2) != 1) = true := bne_iff_ne.mpr c3; by_cases c5 : 1 + x3_1.size ≤ 9223372036854775807
     ·rw [if_pos c5] at H
      have c5b0 := eq_true c5; have c5b1 : decide (1 + x3_1.size ≤ 9223372036854775807) = true := decide_eq_true c5; try have c5b2 : (9223372036854775807 < 1 + x3_1.size) = False := eq_false (Nat.not_lt.2 c5)
      have H' := Aside0.mk H; clear H; go_wp2
      go_roundg k1
      case measure => have := HK1.out; omega
      case rel => exact ⟨(wrap64 (Int.tdiv x0_1 2)), ((⟨#[46]⟩ : ByteArray) ++ x3_1), vq, (by first | rfl | (simp; done) | (simp [*]; done)), H', ⟨by have := HK1.out; omega⟩, by repeat (first | exact Drawn0.refl _ | apply Drawn0.step)⟩
     ·rw [if_neg c5] at H
      exact absurd H (by simp)
   ·rw [if_neg c2] at H
    have c2b0 : decide (1 < x0_1) = false := decide_eq_false c2; clear c2; obtain rfl := Option.some.inj H; go_wp2
    go_ret
    exact ⟨by first | rfl | (simp; done) | (simp [*]; done), by repeat (first | exact Drawn0.refl _ | apply Drawn0.step)⟩

/-! ### spec_SortTable: function 27 -/
def spec_SortTable.l0 : Nat → List Int → List Int → Int → List ByteArray → List ByteArray → Option (List ByteArray × List Int × Bool)
 | 0, _, _, _, _, _ => none
 | k + 1, x6, x7, x8, x202000, x210000 => if x8 < (x7.length : Int) then (if 0 ≤ x8 then ((spec_l9Marks.f k (rd x7 x8)).bind fun t215 => (if x210000.length < 8796093022208 then ((spec_l2Place.f k x202000 t215).bind fun t219 => (if x6.length < 17592186044416 then (spec_SortTable.l0 k (x6 ++ [t219]) x7 (wrap64 (x8 + 1)) x202000 (x210000 ++ [t215])) else (none))) else (none))) else (none)) else (some (x210000, x6, true))
def spec_SortTable.f (k : Nat) (l0_0 : List ByteArray) : Option (List ByteArray × List Int × Bool) := (some (([] : List Int) : List Int)).bind fun y206 => ((spec_l2Table.f k l0_0).bind fun t210 => (if t210 = true then ((spec_l9Filled.f k l0_0).bind fun t211 => (spec_SortTable.l0 k y206 t211 0 l0_0 (([] : List ByteArray)))) else (some (([] : List ByteArray), y206, false))))
theorem spec_SortTable.mono_l : ∀ k, (∀ y0 y1 y2 y3 y4, LeO (spec_SortTable.l0 k y0 y1 y2 y3 y4) (spec_SortTable.l0 (k + 1) y0 y1 y2 y3 y4))
 | 0 => fun _ _ _ _ _ r h => by simp [spec_SortTable.l0] at h
 | k + 1 => by
  have ih0 := spec_SortTable.mono_l k
  ·intro y0 y1 y2 y3 y4; unfold spec_SortTable.l0
   repeat' first
   | (with_reducible exact ih0 _ _ _ _ _)
   | (with_reducible exact spec_l2Place.mono _ _ _)
   | (with_reducible exact spec_l2Table.mono _ _)
   | (with_reducible exact spec_l9Filled.mono _ _)
   | (with_reducible exact spec_l9Marks.mono _ _)
   | (with_reducible exact LeO.refl _)
   | (with_reducible exact LeO.none _)
   | (with_reducible refine LeO.ite ?_ ?_)
   | (with_reducible refine LeO.bind ?_ (fun _ => ?_))
   | exact ih0 _ _ _ _ _
   | exact spec_l2Place.mono _ _ _
   | exact spec_l2Table.mono _ _
   | exact spec_l9Filled.mono _ _
   | exact spec_l9Marks.mono _ _
   | exact LeO.none _
   | refine LeO.ite ?_ ?_
   | refine LeO.bind ?_ (fun _ => ?_)
theorem spec_SortTable.mono : ∀ a0 k, LeO (spec_SortTable.f k a0) (spec_SortTable.f (k + 1) a0) := by
 intro a0 k; have ih0 := spec_SortTable.mono_l k; unfold spec_SortTable.f
 repeat' first
   | (with_reducible exact ih0 _ _ _ _ _)
   | (with_reducible exact spec_l2Place.mono _ _ _)
   | (with_reducible exact spec_l2Table.mono _ _)
   | (with_reducible exact spec_l9Filled.mono _ _)
   | (with_reducible exact spec_l9Marks.mono _ _)
   | (with_reducible exact LeO.refl _)
   | (with_reducible exact LeO.none _)
   | (with_reducible refine LeO.ite ?_ ?_)
   | (with_reducible refine LeO.bind ?_ (fun _ => ?_))
   | exact ih0 _ _ _ _ _
   | exact spec_l2Place.mono _ _ _
   | exact spec_l2Table.mono _ _
   | exact spec_l9Filled.mono _ _
   | exact spec_l9Marks.mono _ _
   | exact LeO.none _
   | refine LeO.ite ?_ ?_
   | refine LeO.bind ?_ (fun _ => ?_)
set_option maxHeartbeats 8000000 in
set_option maxRecDepth 100000 in
theorem spec_SortTable.calls (k : Nat) (A0_0 : Option Addr) (c0_0 : Nat) (l0_0 : List ByteArray) (r1 : List ByteArray) (r2 : List Int) (r3 : Bool) (w : World) (hr0_0 : Kd.C Kd.string w A0_0 l0_0.length l0_0) (hc0_0 : l0_0.length ≤ c0_0) (h : spec_SortTable.f k l0_0 = some (r1, r2, r3)) :
  Calls Tryd.prog 27 #[.agg #[.slice A0_0 l0_0.length c0_0]] w fun e w' => ∃ v0_ v1_ : Value, e = .returned (.tuple #[.agg #[v0_], v1_, .bool r3]) ∧ Kd.R Kd.string 9 w' w.heap.size (fun _ => True) v0_ r1 ∧ Kd.R (Kd.int .i64) 3 w' w.heap.size (fun _ => True) v1_ r2 ∧ Below w.heap.size w w' := by
 have hu28 := Tryd.underlying28; have HR0_0 := Aside0.mk hr0_0; have HC0_0 := Aside0.mk hc0_0; clear hr0_0 hc0_0; have HB := ak (Below.refl w.heap.size w); have H : ((some (([] : List Int) : List Int)).bind fun y206 => ((spec_l2Table.f k l0_0).bind fun t210 => (if t210 = true then ((spec_l9Filled.f k l0_0).bind fun t211 => (spec_SortTable.l0 k y206 t211 0 l0_0 (([] : List ByteArray)))) else (some (([] : List ByteArray), y206, false))))) = some (r1, r2, r3) := h; clear h; obtain ⟨y203, hy203⟩ : ∃ y_ : List ByteArray, y_ = (([] : List ByteArray)) := ⟨_, rfl⟩; replace H : ((some (([] : List Int) : List Int)).bind fun y206 => ((spec_l2Table.f k l0_0).bind fun t210 => (if t210 = true then ((spec_l9Filled.f k l0_0).bind fun t211 => (spec_SortTable.l0 k y206 t211 0 l0_0 y203)) else (some (([] : List ByteArray), y206, false))))) = some (r1, r2, r3) := by first | (rw [hy203]; with_reducible exact H) | (have H2_ := (Option.bind_some _ _).symm.trans H; rw [hy203]; with_reducible exact H2_) | (have H2_ := (Option.bind_some _ _).symm.trans H; with_reducible exact H2_) | with_reducible exact H | (rw [hy203]; exact H) | exact H
 have Ny203 := Aside0.mk hy203; clear hy203; obtain ⟨y206, hy206⟩ : ∃ y_ : List Int, y_ = (([] : List Int)) := ⟨_, rfl⟩; replace H : ((spec_l2Table.f k l0_0).bind fun t210 => (if t210 = true then ((spec_l9Filled.f k l0_0).bind fun t211 => (spec_SortTable.l0 k y206 t211 0 l0_0 y203)) else (some (([] : List ByteArray), y206, false)))) = some (r1, r2, r3) := by first | (rw [hy206]; with_reducible exact H) | (have H2_ := (Option.bind_some _ _).symm.trans H; rw [hy206]; with_reducible exact H2_) | (have H2_ := (Option.bind_some _ _).symm.trans H; with_reducible exact H2_) | with_reducible exact H | (rw [hy206]; exact H) | exact H
 have Ny206 := Aside0.mk hy206; clear hy206; replace H := Option.bind_eq_some_iff.mp H; obtain ⟨t210, A20, H⟩ := H; replace H : (if t210 = true then ((spec_l9Filled.f k l0_0).bind fun t211 => (spec_SortTable.l0 k y206 t211 0 l0_0 y203)) else (some (([] : List ByteArray), y206, false))) = some (r1, r2, r3) := H; have A2 := Aside0.mk A20; clear A20; by_cases c3 : t210 = true
 ·subst c3; have H1 : ((spec_l9Filled.f k l0_0).bind fun t211 => (spec_SortTable.l0 k y206 t211 0 l0_0 y203)) = some (r1, r2, r3) := by rw [if_pos rfl] at H; first | exact H | (simp only [if_true, eq_self] at H ⊢; exact H)
  clear H; have H := H1; clear H1; replace H := Option.bind_eq_some_iff.mp H; obtain ⟨t211, A40, H⟩ := H; replace H : (spec_SortTable.l0 k y206 t211 0 l0_0 y203) = some (r1, r2, r3) := H; have A4 := Aside0.mk A40; clear A40; have H' := Aside0.mk H; clear H; go_enter Tryd.func27, Tryd.ntmps27
  go_wp2_with (first | ((with_reducible refine gate_dst (N := 1) rfl ?_); refine vbe (N := 1) (cs := #[.slice A0_0 l0_0.length c0_0]) (t := 28) ?_; intro gb201 hg w5 hbox hb; have n0_ := ak (below_step (vh HB.out) hb); have n1_ := ak (hbox); have n2_ := ak (vg hg (vh HB.out)); have n3_ := ak (vg hg (vh HB.out)); clear HB; have HB := n0_; have BK201 := n1_; have GW201 := n2_; have GE201 := n3_; clear n0_ n1_ n2_ n3_; clear hb hbox hg) | ((with_reducible refine gate_dst (N := 2) rfl ?_); refine vbe (N := 2) (cs := #[.slice none 0 0]) (t := 28) ?_; intro gb202 hg w6 hbox hb; have n0_ := ak (blk_below (vb BK201.out) hb); have n1_ := ak (below_step (vs1 HB.out GE201.out) hb); have n2_ := ak (hbox); have n3_ := ak (vg hg (vs1 HB.out GE201.out)); have n4_ := ak (vg hg (vs1 HB.out GE201.out)); have n5_ := ak (vn hg (vb BK201.out)); have n6_ := ak (vn' hg (vb BK201.out)); clear BK201; clear HB; have BK201 := n0_; have HB := n1_; have BK202 := n2_; have GW202 := n3_; have GE202 := n4_; have NB201_202 := n5_; have NB202_201 := n6_; clear n0_ n1_ n2_ n3_ n4_ n5_ n6_; clear hb hbox hg) | ((with_reducible refine gate_dst (N := 10) rfl ?_); refine Kd.R_lit Kd.string _ 9 ?hg (N := 10) ?hd (xs := ([] : List ByteArray)) (inner := []) (ok := fun _ => True) (okp := fun _ => True) ?hr ?hp (fun _ hk => hk) trivial (Below.refl _ _) (Nat.le_refl _) (by simp) ?_; (case hd => rfl); (case hg => rfl); (case hr => first | (go_simp; done) | (go_simp; rfl)); (case hp => exact (Reps.none _ _)); intro v204 w7 ho8 hb hg_ hnew_; clear hg_ hnew_; (first | rw [← Ny203.out] at ho8 | (simp only [Int.reduceToNat] at ho8; rw [← Ny203.out] at ho8)); have n0_ := ak (Kd.R_lower ho8 (below_size (vs2 HB.out GE201.out GE202.out))); have n1_ := ak (blk_below (vb BK201.out) hb); have n2_ := ak (blk_below (vb BK202.out) hb); have n3_ := ak (below_step (vs2 HB.out GE201.out GE202.out) hb); clear BK201; clear BK202; clear HB; have HO205 := n0_; have BK201 := n1_; have BK202 := n2_; have HB := n3_; clear n0_ n1_ n2_ n3_; clear hb ho8; obtain ⟨Ao9, co9, eo9⟩ := Kd.R_slice HO205.out; subst eo9) | ((with_reducible refine gate_dst (N := 12) rfl ?_); refine Kd.R_lit (Kd.int .i64) _ 3 ?hg (N := 12) ?hd (xs := ([] : List Int)) (inner := []) (ok := fun _ => True) (okp := fun _ => True) ?hr ?hp (fun _ hk => hk) trivial (Below.refl _ _) (Nat.le_refl _) (by simp) ?_; (case hd => rfl); (case hg => rfl); (case hr => first | (go_simp; done) | (go_simp; rfl)); (case hp => exact (Reps.none _ _)); intro v207 w10 ho11 hb hg_ hnew_; clear hg_ hnew_; (first | rw [← Ny206.out] at ho11 | (simp only [Int.reduceToNat] at ho11; rw [← Ny206.out] at ho11)); have n0_ := ak (Kd.R_below (vr HO205.out) hb); have n1_ := ak (Kd.R_lower ho11 (below_size (vs2 HB.out GE201.out GE202.out))); have n2_ := ak (blk_below (vb BK201.out) hb); have n3_ := ak (blk_below (vb BK202.out) hb); have n4_ := ak (below_step (vs2 HB.out GE201.out GE202.out) hb); clear HO205; clear BK201; clear BK202; clear HB; have HO205 := n0_; have HO208 := n1_; have BK201 := n2_; have BK202 := n3_; have HB := n4_; clear n0_ n1_ n2_ n3_ n4_; clear hb ho11) | ((with_reducible refine gate_dst (N := 5) rfl ?_); refine vbe (N := 5) (cs := #[.slice none 0 0]) (t := 28) ?_; intro gb209 hg w12 hbox hb; have n0_ := ak (Kd.R_below (vr HO205.out) hb); have n1_ := ak (Kd.R_below (vr HO208.out) hb); have n2_ := ak (blk_below (vb BK201.out) hb); have n3_ := ak (blk_below (vb BK202.out) hb); have n4_ := ak (below_step (vs2 HB.out GE201.out GE202.out) hb); have n5_ := ak (hbox); have n6_ := ak (vg hg (vs2 HB.out GE201.out GE202.out)); have n7_ := ak (vg hg (vs2 HB.out GE201.out GE202.out)); have n8_ := ak (vn hg (vb BK201.out)); have n9_ := ak (vn' hg (vb BK201.out)); have n10_ := ak (vn hg (vb BK202.out)); have n11_ := ak (vn' hg (vb BK202.out)); clear HO205; clear HO208; clear BK201; clear BK202; clear HB; have HO205 := n0_; have HO208 := n1_; have BK201 := n2_; have BK202 := n3_; have HB := n4_; have BK209 := n5_; have GW209 := n6_; have GE209 := n7_; have NB201_209 := n8_; have NB209_201 := n9_; have NB202_209 := n10_; have NB209_202 := n11_; clear n0_ n1_ n2_ n3_ n4_ n5_ n6_ n7_ n8_ n9_ n10_ n11_; clear hb hbox hg; have hnb13 := NB209_201.out; have hnc13 := NB201_209.out; have hnb14 := NB209_202.out; have hnc14 := NB202_209.out; (try (have hnw16 := Kd.R_ne HO205.out BK209.out (by decide); change some gb209 ≠ some _ at hnw16; have how16 := fun (e_ : gb209 = _) => hnw16 (congrArg some e_); have hpw16 := fun e_ => how16 (Eq.symm e_); clear hnw16; replace how16 := eq_false how16; replace hpw16 := eq_false hpw16)); (try (have hnw17 := Kd.R_ne HO208.out BK209.out (by decide); change some gb209 ≠ some _ at hnw17; have how17 := fun (e_ : gb209 = _) => hnw17 (congrArg some e_); have hpw17 := fun e_ => how17 (Eq.symm e_); clear hnw17; replace how17 := eq_false how17; replace hpw17 := eq_false hpw17)); have hcz15_0 : w12.cell? ⟨gb209, 0, none⟩ = some (.slice none 0 0) := (blk_cell BK209.out 0).trans rfl; have hfz15_0 := blk_frozen BK209.out 0; have hnb18 := NB201_202.out; have hnc18 := NB202_201.out; (try (have hnw20 := Kd.R_ne HO205.out BK201.out (by decide); change some gb201 ≠ some _ at hnw20; have how20 := fun (e_ : gb201 = _) => hnw20 (congrArg some e_); have hpw20 := fun e_ => how20 (Eq.symm e_); clear hnw20; replace how20 := eq_false how20; replace hpw20 := eq_false hpw20)); (try (have hnw21 := Kd.R_ne HO208.out BK201.out (by decide); change some gb201 ≠ some _ at hnw21; have how21 := fun (e_ : gb201 = _) => hnw21 (congrArg some e_); have hpw21 := fun e_ => how21 (Eq.symm e_); clear hnw21; replace how21 := eq_false how21; replace hpw21 := eq_false hpw21)); have hcz19_0 : w12.cell? ⟨gb201, 0, none⟩ = some (.slice A0_0 l0_0.length c0_0) := (blk_cell BK201.out 0).trans rfl; have hfz19_0 := blk_frozen BK201.out 0) | ((with_reducible refine gate_callee (f := 40) rfl ?_); refine goesL_ (some 14) rfl rfl Tryd.func40 (by kernel_rfl) rfl #[.agg #[.slice A0_0 l0_0.length c0_0]] rfl vm ?_; (with_reducible refine (spec_l2Table.calls k _ _ l0_0 true _ ?side1 ?side2 A2.out).mono ?_); (case side1 => exact Kd.C_below HR0_0.out (vs3 HB.out GE201.out GE202.out GE209.out)); (case side2 => exact HC0_0.out); rintro e w22 ⟨rfl, hb⟩; refine ⟨_, rfl, ?_⟩; have n0_ := ak (Kd.R_below (by (with_reducible repeat (first | apply Kd.R_alloc | apply Kd.R_drewN | apply Kd.R_drew)); exact (Kd.R_mono (Kd.R_far (p := ⟨gb209, 0, none⟩) (Kd.R_types HO205.out BK209.out (by decide)) (fun _ hk => hk.2) (.slice Ao9 y203.length co9)) (fun _ h_ => h_.1))) hb); have n1_ := ak (Kd.R_below (by (with_reducible repeat (first | apply Kd.R_alloc | apply Kd.R_drewN | apply Kd.R_drew)); exact (Kd.R_mono (Kd.R_far (p := ⟨gb209, 0, none⟩) (Kd.R_types HO208.out BK209.out (by decide)) (fun _ hk => hk.2) (.slice Ao9 y203.length co9)) (fun _ h_ => h_.1))) hb); have n2_ := ak (blk_below (g := gb201) (o := .cells #[.slice A0_0 l0_0.length c0_0] 28 (0, 0)) (by (with_reducible repeat (first | refine blk_drewN ?_ _ | refine blk_drew ?_ | refine blk_alloc ?_ _)); refine blk_far ?_ NB201_209.out _; exact vb BK201.out) hb); have n3_ := ak (blk_below (g := gb202) (o := .cells #[.slice none 0 0] 28 (0, 0)) (by (with_reducible repeat (first | refine blk_drewN ?_ _ | refine blk_drew ?_ | refine blk_alloc ?_ _)); refine blk_far ?_ NB202_209.out _; exact vb BK202.out) hb); have n4_ := ak (blk_below (g := gb209) (o := .cells #[.slice Ao9 y203.length co9] 28 (0, 0)) (by (with_reducible repeat (first | refine blk_drewN ?_ _ | refine blk_drew ?_ | refine blk_alloc ?_ _)); refine blk_put (cs := #[.slice none 0 0]) ?_ 0 _ rfl; exact vb BK209.out) hb); have n5_ := ak (below_step (vs3 HB.out GE201.out GE202.out GE209.out) hb); clear HO205; clear HO208; clear BK201; clear BK202; clear BK209; clear HB; have HO205 := n0_; have HO208 := n1_; have BK201 := n2_; have BK202 := n3_; have BK209 := n4_; have HB := n5_; clear n0_ n1_ n2_ n3_ n4_ n5_; (try clear hb); (try clear hb2); (try clear hk); (try clear hi); (try (have hnw24 := Kd.R_ne HO205.out BK201.out (by decide); change some gb201 ≠ some _ at hnw24; have how24 := fun (e_ : gb201 = _) => hnw24 (congrArg some e_); have hpw24 := fun e_ => how24 (Eq.symm e_); clear hnw24; replace how24 := eq_false how24; replace hpw24 := eq_false hpw24)); (try (have hnw25 := Kd.R_ne HO208.out BK201.out (by decide); change some gb201 ≠ some _ at hnw25; have how25 := fun (e_ : gb201 = _) => hnw25 (congrArg some e_); have hpw25 := fun e_ => how25 (Eq.symm e_); clear hnw25; replace how25 := eq_false how25; replace hpw25 := eq_false hpw25)); have hcz23_0 : w22.cell? ⟨gb201, 0, none⟩ = some (.slice A0_0 l0_0.length c0_0) := (blk_cell BK201.out 0).trans rfl; have hfz23_0 := blk_frozen BK201.out 0) | ((with_reducible refine gate_callee (f := 55) rfl ?_); refine goesL_ (some 19) rfl rfl Tryd.func55 (by kernel_rfl) rfl #[.agg #[.slice A0_0 l0_0.length c0_0]] rfl vm ?_; (with_reducible refine (spec_l9Filled.calls k _ _ l0_0 t211 _ ?side1 ?side2 A4.out).mono ?_); (case side1 => exact vc HR0_0.out HB.out); (case side2 => exact HC0_0.out); rintro e w26 ⟨v212, rfl, ho0, hb⟩; refine ⟨_, rfl, ?_⟩; have n0_ := ak (Kd.R_below (vr HO205.out) hb); have n1_ := ak (Kd.R_below (vr HO208.out) hb); have n2_ := ak (Kd.V_lower (Kd.V_mono (ok' := fun k_ => some k_ ≠ (.slice Ao9 y203.length co9 : Value).ownBlock ∧ some k_ ≠ (v207 : Value).ownBlock ∧ k_ ≠ gb201 ∧ k_ ≠ gb202 ∧ k_ ≠ gb209) ho0 (fun k_ hk_ => ⟨(Kd.fresh' (Kd.R_lt (vr HO205.out)) k_ hk_), (Kd.fresh' (Kd.R_lt (vr HO208.out)) k_ hk_), (Kd.freshB (g := gb201) (o := .cells #[.slice A0_0 l0_0.length c0_0] 28 (0, 0)) (vb BK201.out) k_ hk_), (Kd.freshB (g := gb202) (o := .cells #[.slice none 0 0] 28 (0, 0)) (vb BK202.out) k_ hk_), (Kd.freshB (g := gb209) (o := .cells #[.slice Ao9 y203.length co9] 28 (0, 0)) (vb BK209.out) k_ hk_)⟩)) (below_size (vs3 HB.out GE201.out GE202.out GE209.out))); have n3_ := ak (blk_below (vb BK201.out) hb); have n4_ := ak (blk_below (vb BK202.out) hb); have n5_ := ak (blk_below (vb BK209.out) hb); have n6_ := ak (below_step (vs3 HB.out GE201.out GE202.out GE209.out) hb); clear HO205; clear HO208; clear BK201; clear BK202; clear BK209; clear HB; have HO205 := n0_; have HO208 := n1_; have HO213 := n2_; have BK201 := n3_; have BK202 := n4_; have BK209 := n5_; have HB := n6_; clear n0_ n1_ n2_ n3_ n4_ n5_ n6_; (try clear hb); (try clear hb2); (try clear hk); (try clear hi); (try clear ho0)))
  go_loopg [6, 8] k (fun kq v6 v8 w' => ∃ (x6_1 : List Int) (x8_1 : Int) (x210000_1 : List ByteArray) (u210000 : Value), v8 = .int .i64 x8_1 ∧ Aside0 (spec_SortTable.l0 kq x6_1 t211 x8_1 l0_0 x210000_1 = some (r1, r2, r3)) ∧ Aside0 (kq ≤ k) ∧ Aside0 (Kd.R (Kd.int .i64) 3 w' w.heap.size (fun _ => True) v6 x6_1) ∧ Aside0 (Kd.V (Kd.int .i64) 3 w' w.heap.size (fun k_ => some k_ ≠ (v6 : Value).ownBlock ∧ some k_ ≠ (u210000 : Value).ownBlock ∧ k_ ≠ gb201 ∧ k_ ≠ gb202 ∧ k_ ≠ gb209) v212 t211) ∧ Aside0 (Kd.R Kd.string 9 w' w.heap.size (fun _ => True) u210000 x210000_1) ∧ Aside0 (w'.heap[gb201]? = some (.cells #[(.slice A0_0 l0_0.length c0_0)] 28 (0, 0))) ∧ Aside0 (w'.heap[gb202]? = some (.cells #[(.slice none 0 0)] 28 (0, 0))) ∧ Aside0 (w'.heap[gb209]? = some (.cells #[u210000] 28 (0, 0))) ∧ Aside0 (Below w.heap.size w w'))
  case atStart => exact ⟨(y206), (0), (y203), (.slice Ao9 y203.length co9), (by first | rfl | (simp; done) | (simp [*]; done)), H', ⟨Nat.le_refl _⟩, ⟨by exact vr HO208.out⟩, ⟨by (with_reducible repeat (first | apply Kd.V_alloc | apply Kd.V_drewN | apply Kd.V_drew)); exact Kd.V_mono HO213.out (fun _ hk => (by first | exact ⟨hk.2.1, ⟨hk.1, ⟨hk.2.2.1, ⟨hk.2.2.2.1, hk.2.2.2.2⟩⟩⟩⟩ | ((repeat' apply And.intro) <;> first | exact hk.1 | exact hk.2.1 | exact hk.2.2.1 | exact hk.2.2.2.1 | exact hk.2.2.2.2.1 | exact hk.2.2.2.2 | exact hk.2.2.2 | exact hk.2.2 | exact hk.2)))⟩, ⟨by exact vr HO205.out⟩, ⟨by exact vb BK201.out⟩, ⟨by exact vb BK202.out⟩, ⟨by exact vb BK209.out⟩, ⟨by exact vs3 HB.out GE201.out GE202.out GE209.out⟩⟩
  case round =>
   clear H'; try clear c1
   try clear c2
   try clear p2
   try clear c3
   try clear c4
   try clear c5
   try clear c13
   try clear c14
   try clear c18
   try clear hcz15_0
   try clear hcz19_0
   try clear hcz23_0
   try clear hfz15_0
   try clear hfz19_0
   try clear hfz23_0
   obtain ⟨x6_1, x8_1, x210000_1, u210000, rfl, HA, HK1, HO_6, HO_7, HO_210000, BK201, BK202, BK209, HB⟩ := hrel; cases gk with
   | zero => exact absurd HA.out (by simp [spec_SortTable.l0])
   | succ k1 =>
    have H := HA.out; clear HA; simp only [spec_SortTable.l0] at H
    by_cases c27 : x8_1 < (t211.length : Int)
    ·rw [if_pos c27] at H
     have c27b0 : decide (x8_1 < (t211.length : Int)) = true := decide_eq_true c27; clear c27; by_cases c28 : 0 ≤ x8_1
     ·rw [if_pos c28] at H
      have c28b0 : decide (0 ≤ x8_1) = true := decide_eq_true c28; clear c28; replace H := Option.bind_eq_some_iff.mp H; obtain ⟨t215, A290, H⟩ := H; replace H : (if x210000_1.length < 8796093022208 then ((spec_l2Place.f k1 l0_0 t215).bind fun t219 => (if x6_1.length < 17592186044416 then (spec_SortTable.l0 k1 (x6_1 ++ [t219]) t211 (wrap64 (x8_1 + 1)) l0_0 (x210000_1 ++ [t215])) else (none))) else (none)) = some (r1, r2, r3) := H; have A29 := Aside0.mk A290; clear A290; by_cases c30 : x210000_1.length < 8796093022208
      ·rw [if_pos c30] at H
       have LMc30 := Aside0.mk c30; clear c30; obtain ⟨y216, hy216⟩ : ∃ y_ : List ByteArray, y_ = (x210000_1 ++ [t215]) := ⟨_, rfl⟩; replace H : ((spec_l2Place.f k1 l0_0 t215).bind fun t219 => (if x6_1.length < 17592186044416 then (spec_SortTable.l0 k1 (x6_1 ++ [t219]) t211 (wrap64 (x8_1 + 1)) l0_0 y216) else (none))) = some (r1, r2, r3) := by first | (rw [hy216]; with_reducible exact H) | (have H2_ := (Option.bind_some _ _).symm.trans H; rw [hy216]; with_reducible exact H2_) | (have H2_ := (Option.bind_some _ _).symm.trans H; with_reducible exact H2_) | with_reducible exact H | (rw [hy216]; exact H) | exact H
       have Ny216 := Aside0.mk hy216; clear hy216; replace H := Option.bind_eq_some_iff.mp H; obtain ⟨t219, A310, H⟩ := H; replace H : (if x6_1.length < 17592186044416 then (spec_SortTable.l0 k1 (x6_1 ++ [t219]) t211 (wrap64 (x8_1 + 1)) l0_0 y216) else (none)) = some (r1, r2, r3) := H; have A31 := Aside0.mk A310; clear A310; by_cases c32 : x6_1.length < 17592186044416
       ·rw [if_pos c32] at H
        have LMc32 := Aside0.mk c32; clear c32; obtain ⟨y220, hy220⟩ : ∃ y_ : List Int, y_ = (x6_1 ++ [t219]) := ⟨_, rfl⟩; replace H : (spec_SortTable.l0 k1 y220 t211 (wrap64 (x8_1 + 1)) l0_0 y216) = some (r1, r2, r3) := by first | (rw [hy220]; with_reducible exact H) | (have H2_ := (Option.bind_some _ _).symm.trans H; rw [hy220]; with_reducible exact H2_) | (have H2_ := (Option.bind_some _ _).symm.trans H; with_reducible exact H2_) | with_reducible exact H | (rw [hy220]; exact H) | exact H
        have Ny220 := Aside0.mk hy220; clear hy220; have H' := Aside0.mk H; clear H; obtain ⟨Ao33, co33, eo33⟩ := Kd.V_slice HO_7.out; subst eo33; have p214 : 0 ≤ (x8_1 : Int) := of_decide_eq_true va; have q214 : x8_1 < (t211.length : Int) := of_decide_eq_true va; obtain ⟨ad214, e214, hx214_0⟩ := Kd.at_int (Kd.V_reads' HO_7.out).2.2 x8_1 p214 q214; cases e214; replace p214 := eq_true p214; replace q214 := eq_true q214; go_wp2_with (first | ((with_reducible refine gate_callee (f := 61) rfl ?_); refine goesL_ (some 30) rfl rfl Tryd.func61 (by kernel_rfl) rfl #[.int .i64 (rd t211 x8_1)] rfl vm ?_; (with_reducible refine (spec_l9Marks.calls k1 (rd t211 x8_1) t215 _ A29.out).mono ?_); rintro e w' ⟨rfl, ⟨nd, rfl⟩⟩; refine ⟨_, rfl, ?_⟩; (try (rw [drewN_self wr]; generalize hq_ : World.drewN wr _ = wr; have n0_ : Aside0 (Kd.R Kd.string 9 wr w.heap.size (fun _ => True) u210000 x210000_1) := ⟨by rw [← hq_]; exact (vr HO_210000.out)⟩; have n1_ : Aside0 (Kd.R (Kd.int .i64) 3 wr w.heap.size (fun _ => True) u6 x6_1) := ⟨by rw [← hq_]; exact (vr HO_6.out)⟩; have n2_ : Aside0 (Kd.V (Kd.int .i64) 3 wr w.heap.size (fun k_ => some k_ ≠ (u210000 : Value).ownBlock ∧ some k_ ≠ (u6 : Value).ownBlock ∧ k_ ≠ gb201 ∧ k_ ≠ gb202 ∧ k_ ≠ gb209) (.slice (some ad214) t211.length co33) t211) := ⟨by rw [← hq_]; exact (by (with_reducible repeat (first | apply Kd.V_alloc | apply Kd.V_drewN | apply Kd.V_drew)); exact Kd.V_mono HO_7.out (fun _ hk => (by first | exact ⟨hk.2.1, ⟨hk.1, ⟨hk.2.2.1, ⟨hk.2.2.2.1, hk.2.2.2.2⟩⟩⟩⟩ | ((repeat' apply And.intro) <;> first | exact hk.1 | exact hk.2.1 | exact hk.2.2.1 | exact hk.2.2.2.1 | exact hk.2.2.2.2.1 | exact hk.2.2.2.2 | exact hk.2.2.2 | exact hk.2.2 | exact hk.2))))⟩; have n3_ : Aside0 (wr.heap[gb201]? = some (.cells #[.slice A0_0 l0_0.length c0_0] 28 (0, 0))) := ⟨by rw [← hq_]; exact (vb BK201.out)⟩; have n4_ : Aside0 (wr.heap[gb202]? = some (.cells #[.slice none 0 0] 28 (0, 0))) := ⟨by rw [← hq_]; exact (vb BK202.out)⟩; have n5_ : Aside0 (wr.heap[gb209]? = some (.cells #[u210000] 28 (0, 0))) := ⟨by rw [← hq_]; exact (vb BK209.out)⟩; have n6_ : Aside0 (Below w.heap.size w wr) := ⟨by rw [← hq_]; exact (vs3 HB.out GE201.out GE202.out GE209.out)⟩; clear HO_210000 HO_6 HO_7 BK201 BK202 BK209 HB hq_; have HO_210000 := n0_; have HO_6 := n1_; have HO_7 := n2_; have BK201 := n3_; have BK202 := n4_; have BK209 := n5_; have HB := n6_; clear n0_ n1_ n2_ n3_ n4_ n5_ n6_)); have hnb34 := NB209_201.out; have hnc34 := NB201_209.out; have hnb35 := NB209_202.out; have hnc35 := NB202_209.out; (try (have hnw37 := Kd.R_ne HO_6.out BK209.out (by decide); change some gb209 ≠ some _ at hnw37; have how37 := fun (e_ : gb209 = _) => hnw37 (congrArg some e_); have hpw37 := fun e_ => how37 (Eq.symm e_); clear hnw37; replace how37 := eq_false how37; replace hpw37 := eq_false hpw37)); (try (have hnw38 := Kd.R_ne HO_7.out BK209.out (by decide); change some gb209 ≠ some _ at hnw38; have how38 := fun (e_ : gb209 = _) => hnw38 (congrArg some e_); have hpw38 := fun e_ => how38 (Eq.symm e_); clear hnw38; replace how38 := eq_false how38; replace hpw38 := eq_false hpw38)); (try (have hnw39 := Kd.R_ne HO_210000.out BK209.out (by decide); change some gb209 ≠ some _ at hnw39; have how39 := fun (e_ : gb209 = _) => hnw39 (congrArg some e_); have hpw39 := fun e_ => how39 (Eq.symm e_); clear hnw39; replace how39 := eq_false how39; replace hpw39 := eq_false hpw39)); have hcz36_0 : wr.cell? ⟨gb209, 0, none⟩ = some (u210000) := (blk_cell BK209.out 0).trans rfl; have hfz36_0 := blk_frozen BK209.out 0) | ((with_reducible refine gate_builtin (b := .append) (xs := #[.tmp 32, .tmp 34]) rfl ?_); at_builtin; refine Kd.R_append Kd.string (w0 := w) w.heap.size rfl (.tmp 32) (.tmp 34) 22 9 (.string ⟨#[]⟩) 16 rfl Tryd.underlying22 info9 rfl (by decide) (by omega) u210000 x210000_1 t215 [.string t215] (fun _ => True) (fun _ => False) rfl rfl ?aP (fun _ hk => hk.elim) ?aF ?aO ?aB ?aS ?aL ?_; (case aP => exact rfl); (case aB => exact (vs3 HB.out GE201.out GE202.out GE209.out)); (case aF => exact (fun _ _ => trivial)); (case aO => exact (vr HO_210000.out)); (case aS => exact (below_size (vs3 HB.out GE201.out GE202.out GE209.out))); (case aL => have := LMc30.out; omega); intro v217 w40 ho hb hg hat; rw [← Ny216.out] at ho; have n0_ := ak (Kd.R_over' (vr HO_6.out) (Kd.R_typed (vr HO_210000.out)) (by decide) hg); have n1_ := ak (Kd.V_afterv (ok := (fun k_ => some k_ ≠ (u6 : Value).ownBlock ∧ k_ ≠ gb201 ∧ k_ ≠ gb202 ∧ k_ ≠ gb209)) (by (with_reducible repeat (first | apply Kd.V_alloc | apply Kd.V_drewN | apply Kd.V_drew)); exact Kd.V_mono HO_7.out (fun _ hk => (by first | exact ⟨⟨hk.1, ⟨hk.2.2.1, ⟨hk.2.2.2.1, hk.2.2.2.2⟩⟩⟩, hk.2.1⟩ | ((repeat' apply And.intro) <;> first | exact hk.1 | exact hk.2.1 | exact hk.2.2.1 | exact hk.2.2.2.1 | exact hk.2.2.2.2.1 | exact hk.2.2.2.2 | exact hk.2.2.2 | exact hk.2.2 | exact hk.2)))) hg hat); have n2_ := ak (blk_grown (g := gb201) (o := .cells #[.slice A0_0 l0_0.length c0_0] 28 (0, 0)) (vb BK201.out) hg (Kd.R_ne HO_210000.out BK201.out (by decide))); have n3_ := ak (blk_grown (g := gb202) (o := .cells #[.slice none 0 0] 28 (0, 0)) (vb BK202.out) hg (Kd.R_ne HO_210000.out BK202.out (by decide))); have n4_ := ak (blk_grown (g := gb209) (o := .cells #[u210000] 28 (0, 0)) (vb BK209.out) hg (Kd.R_ne HO_210000.out BK209.out (by decide))); have n5_ := ak (hb); have n6_ := ak (ho); clear HO_6; clear HO_7; clear BK201; clear BK202; clear BK209; clear HB; clear HO_210000; have HO_6 := n0_; have HO_7 := n1_; have BK201 := n2_; have BK202 := n3_; have BK209 := n4_; have HB := n5_; have HO218 := n6_; clear n0_ n1_ n2_ n3_ n4_ n5_ n6_; clear ho hb hg hat; obtain ⟨Ao41, co41, eo41⟩ := Kd.R_slice HO218.out; subst eo41; (try (have hnw43 := Kd.R_ne HO_6.out BK209.out (by decide); change some gb209 ≠ some _ at hnw43; have how43 := fun (e_ : gb209 = _) => hnw43 (congrArg some e_); have hpw43 := fun e_ => how43 (Eq.symm e_); clear hnw43; replace how43 := eq_false how43; replace hpw43 := eq_false hpw43)); (try (have hnw44 := Kd.R_ne HO_7.out BK209.out (by decide); change some gb209 ≠ some _ at hnw44; have how44 := fun (e_ : gb209 = _) => hnw44 (congrArg some e_); have hpw44 := fun e_ => how44 (Eq.symm e_); clear hnw44; replace how44 := eq_false how44; replace hpw44 := eq_false hpw44)); (try (have hnw45 := Kd.R_ne HO218.out BK209.out (by decide); change some gb209 ≠ some _ at hnw45; have how45 := fun (e_ : gb209 = _) => hnw45 (congrArg some e_); have hpw45 := fun e_ => how45 (Eq.symm e_); clear hnw45; replace how45 := eq_false how45; replace hpw45 := eq_false hpw45)); have hcz42_0 : w40.cell? ⟨gb209, 0, none⟩ = some (u210000) := (blk_cell BK209.out 0).trans rfl; have hfz42_0 := blk_frozen BK209.out 0; have hnb46 := NB201_202.out; have hnc46 := NB202_201.out; (try (have hnw48 := Kd.R_ne HO_6.out BK201.out (by decide); change some gb201 ≠ some _ at hnw48; have how48 := fun (e_ : gb201 = _) => hnw48 (congrArg some e_); have hpw48 := fun e_ => how48 (Eq.symm e_); clear hnw48; replace how48 := eq_false how48; replace hpw48 := eq_false hpw48)); (try (have hnw49 := Kd.R_ne HO_7.out BK201.out (by decide); change some gb201 ≠ some _ at hnw49; have how49 := fun (e_ : gb201 = _) => hnw49 (congrArg some e_); have hpw49 := fun e_ => how49 (Eq.symm e_); clear hnw49; replace how49 := eq_false how49; replace hpw49 := eq_false hpw49)); (try (have hnw50 := Kd.R_ne HO218.out BK201.out (by decide); change some gb201 ≠ some _ at hnw50; have how50 := fun (e_ : gb201 = _) => hnw50 (congrArg some e_); have hpw50 := fun e_ => how50 (Eq.symm e_); clear hnw50; replace how50 := eq_false how50; replace hpw50 := eq_false hpw50)); have hcz47_0 : w40.cell? ⟨gb201, 0, none⟩ = some (.slice A0_0 l0_0.length c0_0) := (blk_cell BK201.out 0).trans rfl; have hfz47_0 := blk_frozen BK201.out 0) | ((with_reducible refine gate_callee (f := 63) rfl ?_); refine goesL_ (some 41) rfl rfl Tryd.func63 (by kernel_rfl) rfl #[.slice A0_0 l0_0.length c0_0, .string t215] rfl vm ?_; (with_reducible refine (spec_l2Place.calls k1 _ _ l0_0 t215 t219 _ ?side1 ?side2 A31.out).mono ?_); (case side1 => exact Kd.C_below HR0_0.out (vs3 HB.out GE201.out GE202.out GE209.out)); (case side2 => exact HC0_0.out); rintro e w' ⟨rfl, ⟨nd, rfl⟩⟩; refine ⟨_, rfl, ?_⟩) | ((with_reducible refine gate_builtin (b := .append) (xs := #[.tmp 37, .tmp 42]) rfl ?_); at_builtin; refine Kd.R_append (Kd.int .i64) (w0 := w) w.heap.size rfl (.tmp 37) (.tmp 42) 35 3 (.int .i64 0) 8 rfl Tryd.underlying35 info3 rfl (by decide) (by omega) u6 x6_1 t219 [.int .i64 t219] (fun _ => True) (fun _ => False) rfl (by first | (go_simp; done) | (go_simp; rfl)) ?aP (fun _ hk => hk.elim) ?aF ?aO ?aB ?aS ?aL ?_; (case aP => exact rfl); (case aB => exact (vs3 HB.out GE201.out GE202.out GE209.out)); (case aF => exact (fun _ _ => trivial)); (case aO => exact (by (with_reducible repeat (first | apply Kd.R_alloc | apply Kd.R_drewN | apply Kd.R_drew)); exact Kd.R_mono (Kd.R_far (p := ⟨gb209, 0, none⟩) (Kd.R_types HO_6.out BK209.out (by decide)) (fun _ hk => hk.2) (.slice Ao41 y216.length co41)) (fun _ hk => trivial))); (case aS => exact (below_size (vs3 HB.out GE201.out GE202.out GE209.out))); (case aL => have := LMc32.out; omega); intro v221 w51 ho hb hg hat; rw [← Ny220.out] at ho; have n0_ := ak (Kd.V_afterv (ok := (fun k_ => some k_ ≠ (.slice Ao41 y216.length co41 : Value).ownBlock ∧ k_ ≠ gb201 ∧ k_ ≠ gb202 ∧ k_ ≠ gb209)) (by (with_reducible repeat (first | apply Kd.V_alloc | apply Kd.V_drewN | apply Kd.V_drew)); exact Kd.V_mono (Kd.V_far (p := ⟨gb209, 0, none⟩) (Kd.V_mono HO_7.out (fun k_ hk => (⟨hk, hk.1.2.2.2⟩ : _ ∧ k_ ≠ gb209))) (fun _ hk => hk.2) (.slice Ao41 y216.length co41)) (fun _ hk => ⟨⟨hk.1.2, ⟨hk.1.1.2.1, ⟨hk.1.1.2.2.1, hk.1.1.2.2.2⟩⟩⟩, hk.1.1.1⟩)) hg hat); have n1_ := ak (blk_grown (g := gb201) (o := .cells #[.slice A0_0 l0_0.length c0_0] 28 (0, 0)) (by (with_reducible repeat (first | refine blk_drewN ?_ _ | refine blk_drew ?_ | refine blk_alloc ?_ _)); refine blk_far ?_ NB201_209.out _; exact vb BK201.out) hg (Kd.R_ne HO_6.out BK201.out (by decide))); have n2_ := ak (blk_grown (g := gb202) (o := .cells #[.slice none 0 0] 28 (0, 0)) (by (with_reducible repeat (first | refine blk_drewN ?_ _ | refine blk_drew ?_ | refine blk_alloc ?_ _)); refine blk_far ?_ NB202_209.out _; exact vb BK202.out) hg (Kd.R_ne HO_6.out BK202.out (by decide))); have n3_ := ak (blk_grown (g := gb209) (o := .cells #[.slice Ao41 y216.length co41] 28 (0, 0)) (by (with_reducible repeat (first | refine blk_drewN ?_ _ | refine blk_drew ?_ | refine blk_alloc ?_ _)); refine blk_put (cs := #[u210000]) ?_ 0 _ rfl; exact vb BK209.out) hg (Kd.R_ne HO_6.out BK209.out (by decide))); have n4_ := ak (Kd.R_over' (by (with_reducible repeat (first | apply Kd.R_alloc | apply Kd.R_drewN | apply Kd.R_drew)); exact (Kd.R_mono (Kd.R_far (p := ⟨gb209, 0, none⟩) (Kd.R_types HO218.out BK209.out (by decide)) (fun _ hk => hk.2) (.slice Ao41 y216.length co41)) (fun _ h_ => h_.1))) (Kd.R_typed (by (with_reducible repeat (first | apply Kd.R_alloc | apply Kd.R_drewN | apply Kd.R_drew)); exact (Kd.R_mono (Kd.R_far (p := ⟨gb209, 0, none⟩) (Kd.R_types HO_6.out BK209.out (by decide)) (fun _ hk => hk.2) (.slice Ao41 y216.length co41)) (fun _ h_ => h_.1)))) (by decide) hg); have n5_ := ak (hb); have n6_ := ak (ho); clear HO_7; clear BK201; clear BK202; clear BK209; clear HO218; clear HB; clear HO_6; have HO_7 := n0_; have BK201 := n1_; have BK202 := n2_; have BK209 := n3_; have HO218 := n4_; have HB := n5_; have HO222 := n6_; clear n0_ n1_ n2_ n3_ n4_ n5_ n6_; clear ho hb hg hat))
        go_roundg k1
        case measure => have := HK1.out; omega
        case rel => exact ⟨(y220), (wrap64 (x8_1 + 1)), (y216), (.slice Ao41 y216.length co41), vq, H', ⟨by have := HK1.out; omega⟩, ⟨by exact vr HO222.out⟩, ⟨by (with_reducible repeat (first | apply Kd.V_alloc | apply Kd.V_drewN | apply Kd.V_drew)); exact Kd.V_mono HO_7.out (fun _ hk => (by first | exact ⟨hk.2, ⟨hk.1.1, ⟨hk.1.2.1, ⟨hk.1.2.2.1, hk.1.2.2.2⟩⟩⟩⟩ | ((repeat' apply And.intro) <;> first | exact hk.1 | exact hk.2.1 | exact hk.2.2.1 | exact hk.2.2.2.1 | exact hk.2.2.2.2.1 | exact hk.2.2.2.2 | exact hk.2.2.2 | exact hk.2.2 | exact hk.2)))⟩, ⟨by exact vr HO218.out⟩, ⟨by exact vb BK201.out⟩, ⟨by exact vb BK202.out⟩, ⟨by exact vb BK209.out⟩, ⟨by exact vs3 HB.out GE201.out GE202.out GE209.out⟩⟩
       ·rw [if_neg c32] at H
        exact absurd H (by simp)
      ·rw [if_neg c30] at H
       exact absurd H (by simp)
     ·rw [if_neg c28] at H
      exact absurd H (by simp)
    ·rw [if_neg c27] at H
     have c27b0 : decide (x8_1 < (t211.length : Int)) = false := decide_eq_false c27; clear c27; simp only [Option.some.injEq, Prod.mk.injEq] at H
     obtain ⟨rfl, rfl, rfl⟩ := H; obtain ⟨Ao52, co52, eo52⟩ := Kd.V_slice HO_7.out; subst eo52; have hnb53 := NB209_201.out; have hnc53 := NB201_209.out; have hnb54 := NB209_202.out; have hnc54 := NB202_209.out; (try (have hnw56 := Kd.R_ne HO_6.out BK209.out (by decide); change some gb209 ≠ some _ at hnw56; have how56 := fun (e_ : gb209 = _) => hnw56 (congrArg some e_); have hpw56 := fun e_ => how56 (Eq.symm e_); clear hnw56; replace how56 := eq_false how56; replace hpw56 := eq_false hpw56)); (try (have hnw57 := Kd.R_ne HO_7.out BK209.out (by decide); change some gb209 ≠ some _ at hnw57; have how57 := fun (e_ : gb209 = _) => hnw57 (congrArg some e_); have hpw57 := fun e_ => how57 (Eq.symm e_); clear hnw57; replace how57 := eq_false how57; replace hpw57 := eq_false hpw57)); (try (have hnw58 := Kd.R_ne HO_210000.out BK209.out (by decide); change some gb209 ≠ some _ at hnw58; have how58 := fun (e_ : gb209 = _) => hnw58 (congrArg some e_); have hpw58 := fun e_ => how58 (Eq.symm e_); clear hnw58; replace how58 := eq_false how58; replace hpw58 := eq_false hpw58)); have hcz55_0 : wr.cell? ⟨gb209, 0, none⟩ = some (u210000) := (blk_cell BK209.out 0).trans rfl; have hfz55_0 := blk_frozen BK209.out 0; obtain ⟨Ao59, co59, eo59⟩ := Kd.R_slice HO_210000.out; subst eo59; have hnb60 := NB202_201.out; have hnc60 := NB201_202.out; (try (have hnw62 := Kd.R_ne HO_6.out BK202.out (by decide); change some gb202 ≠ some _ at hnw62; have how62 := fun (e_ : gb202 = _) => hnw62 (congrArg some e_); have hpw62 := fun e_ => how62 (Eq.symm e_); clear hnw62; replace how62 := eq_false how62; replace hpw62 := eq_false hpw62)); (try (have hnw63 := Kd.R_ne HO_7.out BK202.out (by decide); change some gb202 ≠ some _ at hnw63; have how63 := fun (e_ : gb202 = _) => hnw63 (congrArg some e_); have hpw63 := fun e_ => how63 (Eq.symm e_); clear hnw63; replace how63 := eq_false how63; replace hpw63 := eq_false hpw63)); (try (have hnw64 := Kd.R_ne HO_210000.out BK202.out (by decide); change some gb202 ≠ some _ at hnw64; have how64 := fun (e_ : gb202 = _) => hnw64 (congrArg some e_); have hpw64 := fun e_ => how64 (Eq.symm e_); clear hnw64; replace how64 := eq_false how64; replace hpw64 := eq_false hpw64)); have hcz61_0 : wr.cell? ⟨gb202, 0, none⟩ = some (.slice none 0 0) := (blk_cell BK202.out 0).trans rfl; have hfz61_0 := blk_frozen BK202.out 0; go_wp2
     refine bodyPost_ret (results_ctt rfl _ _ gb202 28 #[.slice Ao59 x210000_1.length co59] (0, 0) _ rfl (by (with_reducible repeat (first | refine blk_drewN ?_ _ | refine blk_drew ?_ | refine blk_alloc ?_ _)); refine blk_put (cs := #[.slice none 0 0]) ?_ 0 _ rfl; exact vb BK202.out) Tryd.underlying28 rfl (by kernel_rfl)) rfl ?_; exact ⟨_, _, by first | rfl | (simp [errW_none, errW_some] <;> rfl) | (simp [*, errW_none, errW_some] <;> rfl), by (with_reducible repeat (first | apply Kd.R_alloc | apply Kd.R_drewN | apply Kd.R_drew)); exact Kd.R_mono (Kd.R_far (p := ⟨gb202, 0, none⟩) (Kd.R_types HO_210000.out BK202.out (by decide)) (fun _ hk => hk.2) (.slice Ao59 x210000_1.length co59)) (fun _ hk => trivial), by (with_reducible repeat (first | apply Kd.R_alloc | apply Kd.R_drewN | apply Kd.R_drew)); exact Kd.R_mono (Kd.R_far (p := ⟨gb202, 0, none⟩) (Kd.R_types HO_6.out BK202.out (by decide)) (fun _ hk => hk.2) (.slice Ao59 x210000_1.length co59)) (fun _ hk => trivial), by exact vs3 HB.out GE201.out GE202.out GE209.out⟩
 ·replace c3 := Bool.eq_false_iff.mpr c3; subst c3; have H1 : (some (([] : List ByteArray), y206, false)) = some (r1, r2, r3) := by rw [if_neg (show ¬ (false = true) by decide)] at H; first | exact H | (simp only [if_true, eq_self] at H ⊢; exact H)
  clear H; have H := H1; clear H1; simp only [Option.some.injEq, Prod.mk.injEq] at H
  obtain ⟨rfl, rfl, rfl⟩ := H; go_enter Tryd.func27, Tryd.ntmps27
  go_wp2_with (first | ((with_reducible refine gate_dst (N := 1) rfl ?_); refine vbe (N := 1) (cs := #[.slice A0_0 l0_0.length c0_0]) (t := 28) ?_; intro gb201 hg w65 hbox hb; have n0_ := ak (below_step (vh HB.out) hb); have n1_ := ak (hbox); have n2_ := ak (vg hg (vh HB.out)); have n3_ := ak (vg hg (vh HB.out)); clear HB; have HB := n0_; have BK201 := n1_; have GW201 := n2_; have GE201 := n3_; clear n0_ n1_ n2_ n3_; clear hb hbox hg) | ((with_reducible refine gate_dst (N := 2) rfl ?_); refine vbe (N := 2) (cs := #[.slice none 0 0]) (t := 28) ?_; intro gb202 hg w66 hbox hb; have n0_ := ak (blk_below (vb BK201.out) hb); have n1_ := ak (below_step (vs1 HB.out GE201.out) hb); have n2_ := ak (hbox); have n3_ := ak (vg hg (vs1 HB.out GE201.out)); have n4_ := ak (vg hg (vs1 HB.out GE201.out)); have n5_ := ak (vn hg (vb BK201.out)); have n6_ := ak (vn' hg (vb BK201.out)); clear BK201; clear HB; have BK201 := n0_; have HB := n1_; have BK202 := n2_; have GW202 := n3_; have GE202 := n4_; have NB201_202 := n5_; have NB202_201 := n6_; clear n0_ n1_ n2_ n3_ n4_ n5_ n6_; clear hb hbox hg) | ((with_reducible refine gate_dst (N := 10) rfl ?_); refine Kd.R_lit Kd.string _ 9 ?hg (N := 10) ?hd (xs := ([] : List ByteArray)) (inner := []) (ok := fun _ => True) (okp := fun _ => True) ?hr ?hp (fun _ hk => hk) trivial (Below.refl _ _) (Nat.le_refl _) (by simp) ?_; (case hd => rfl); (case hg => rfl); (case hr => first | (go_simp; done) | (go_simp; rfl)); (case hp => exact (Reps.none _ _)); intro v204 w67 ho68 hb hg_ hnew_; clear hg_ hnew_; (first | rw [← Ny203.out] at ho68 | (simp only [Int.reduceToNat] at ho68; rw [← Ny203.out] at ho68)); have n0_ := ak (Kd.R_lower ho68 (below_size (vs2 HB.out GE201.out GE202.out))); have n1_ := ak (blk_below (vb BK201.out) hb); have n2_ := ak (blk_below (vb BK202.out) hb); have n3_ := ak (below_step (vs2 HB.out GE201.out GE202.out) hb); clear BK201; clear BK202; clear HB; have HO205 := n0_; have BK201 := n1_; have BK202 := n2_; have HB := n3_; clear n0_ n1_ n2_ n3_; clear hb ho68; obtain ⟨Ao69, co69, eo69⟩ := Kd.R_slice HO205.out; subst eo69) | ((with_reducible refine gate_dst (N := 12) rfl ?_); refine Kd.R_lit (Kd.int .i64) _ 3 ?hg (N := 12) ?hd (xs := ([] : List Int)) (inner := []) (ok := fun _ => True) (okp := fun _ => True) ?hr ?hp (fun _ hk => hk) trivial (Below.refl _ _) (Nat.le_refl _) (by simp) ?_; (case hd => rfl); (case hg => rfl); (case hr => first | (go_simp; done) | (go_simp; rfl)); (case hp => exact (Reps.none _ _)); intro v207 w70 ho71 hb hg_ hnew_; clear hg_ hnew_; (first | rw [← Ny206.out] at ho71 | (simp only [Int.reduceToNat] at ho71; rw [← Ny206.out] at ho71)); have n0_ := ak (Kd.R_below (vr HO205.out) hb); have n1_ := ak (Kd.R_lower ho71 (below_size (vs2 HB.out GE201.out GE202.out))); have n2_ := ak (blk_below (vb BK201.out) hb); have n3_ := ak (blk_below (vb BK202.out) hb); have n4_ := ak (below_step (vs2 HB.out GE201.out GE202.out) hb); clear HO205; clear BK201; clear BK202; clear HB; have HO205 := n0_; have HO208 := n1_; have BK201 := n2_; have BK202 := n3_; have HB := n4_; clear n0_ n1_ n2_ n3_ n4_; clear hb ho71) | ((with_reducible refine gate_dst (N := 5) rfl ?_); refine vbe (N := 5) (cs := #[.slice none 0 0]) (t := 28) ?_; intro gb209 hg w72 hbox hb; have n0_ := ak (Kd.R_below (vr HO205.out) hb); have n1_ := ak (Kd.R_below (vr HO208.out) hb); have n2_ := ak (blk_below (vb BK201.out) hb); have n3_ := ak (blk_below (vb BK202.out) hb); have n4_ := ak (below_step (vs2 HB.out GE201.out GE202.out) hb); have n5_ := ak (hbox); have n6_ := ak (vg hg (vs2 HB.out GE201.out GE202.out)); have n7_ := ak (vg hg (vs2 HB.out GE201.out GE202.out)); have n8_ := ak (vn hg (vb BK201.out)); have n9_ := ak (vn' hg (vb BK201.out)); have n10_ := ak (vn hg (vb BK202.out)); have n11_ := ak (vn' hg (vb BK202.out)); clear HO205; clear HO208; clear BK201; clear BK202; clear HB; have HO205 := n0_; have HO208 := n1_; have BK201 := n2_; have BK202 := n3_; have HB := n4_; have BK209 := n5_; have GW209 := n6_; have GE209 := n7_; have NB201_209 := n8_; have NB209_201 := n9_; have NB202_209 := n10_; have NB209_202 := n11_; clear n0_ n1_ n2_ n3_ n4_ n5_ n6_ n7_ n8_ n9_ n10_ n11_; clear hb hbox hg; have hnb73 := NB209_201.out; have hnc73 := NB201_209.out; have hnb74 := NB209_202.out; have hnc74 := NB202_209.out; (try (have hnw76 := Kd.R_ne HO205.out BK209.out (by decide); change some gb209 ≠ some _ at hnw76; have how76 := fun (e_ : gb209 = _) => hnw76 (congrArg some e_); have hpw76 := fun e_ => how76 (Eq.symm e_); clear hnw76; replace how76 := eq_false how76; replace hpw76 := eq_false hpw76)); (try (have hnw77 := Kd.R_ne HO208.out BK209.out (by decide); change some gb209 ≠ some _ at hnw77; have how77 := fun (e_ : gb209 = _) => hnw77 (congrArg some e_); have hpw77 := fun e_ => how77 (Eq.symm e_); clear hnw77; replace how77 := eq_false how77; replace hpw77 := eq_false hpw77)); have hcz75_0 : w72.cell? ⟨gb209, 0, none⟩ = some (.slice none 0 0) := (blk_cell BK209.out 0).trans rfl; have hfz75_0 := blk_frozen BK209.out 0; have hnb78 := NB201_202.out; have hnc78 := NB202_201.out; (try (have hnw80 := Kd.R_ne HO205.out BK201.out (by decide); change some gb201 ≠ some _ at hnw80; have how80 := fun (e_ : gb201 = _) => hnw80 (congrArg some e_); have hpw80 := fun e_ => how80 (Eq.symm e_); clear hnw80; replace how80 := eq_false how80; replace hpw80 := eq_false hpw80)); (try (have hnw81 := Kd.R_ne HO208.out BK201.out (by decide); change some gb201 ≠ some _ at hnw81; have how81 := fun (e_ : gb201 = _) => hnw81 (congrArg some e_); have hpw81 := fun e_ => how81 (Eq.symm e_); clear hnw81; replace how81 := eq_false how81; replace hpw81 := eq_false hpw81)); have hcz79_0 : w72.cell? ⟨gb201, 0, none⟩ = some (.slice A0_0 l0_0.length c0_0) := (blk_cell BK201.out 0).trans rfl; have hfz79_0 := blk_frozen BK201.out 0) | ((with_reducible refine gate_callee (f := 40) rfl ?_); refine goesL_ (some 14) rfl rfl Tryd.func40 (by kernel_rfl) rfl #[.agg #[.slice A0_0 l0_0.length c0_0]] rfl vm ?_; (with_reducible refine (spec_l2Table.calls k _ _ l0_0 false _ ?side1 ?side2 A2.out).mono ?_); (case side1 => exact Kd.C_below HR0_0.out (vs3 HB.out GE201.out GE202.out GE209.out)); (case side2 => exact HC0_0.out); rintro e w82 ⟨rfl, hb⟩; refine ⟨_, rfl, ?_⟩; have n0_ := ak (Kd.R_below (by (with_reducible repeat (first | apply Kd.R_alloc | apply Kd.R_drewN | apply Kd.R_drew)); exact (Kd.R_mono (Kd.R_far (p := ⟨gb209, 0, none⟩) (Kd.R_types HO205.out BK209.out (by decide)) (fun _ hk => hk.2) (.slice Ao69 y203.length co69)) (fun _ h_ => h_.1))) hb); have n1_ := ak (Kd.R_below (by (with_reducible repeat (first | apply Kd.R_alloc | apply Kd.R_drewN | apply Kd.R_drew)); exact (Kd.R_mono (Kd.R_far (p := ⟨gb209, 0, none⟩) (Kd.R_types HO208.out BK209.out (by decide)) (fun _ hk => hk.2) (.slice Ao69 y203.length co69)) (fun _ h_ => h_.1))) hb); have n2_ := ak (blk_below (g := gb201) (o := .cells #[.slice A0_0 l0_0.length c0_0] 28 (0, 0)) (by (with_reducible repeat (first | refine blk_drewN ?_ _ | refine blk_drew ?_ | refine blk_alloc ?_ _)); refine blk_far ?_ NB201_209.out _; exact vb BK201.out) hb); have n3_ := ak (blk_below (g := gb202) (o := .cells #[.slice none 0 0] 28 (0, 0)) (by (with_reducible repeat (first | refine blk_drewN ?_ _ | refine blk_drew ?_ | refine blk_alloc ?_ _)); refine blk_far ?_ NB202_209.out _; exact vb BK202.out) hb); have n4_ := ak (blk_below (g := gb209) (o := .cells #[.slice Ao69 y203.length co69] 28 (0, 0)) (by (with_reducible repeat (first | refine blk_drewN ?_ _ | refine blk_drew ?_ | refine blk_alloc ?_ _)); refine blk_put (cs := #[.slice none 0 0]) ?_ 0 _ rfl; exact vb BK209.out) hb); have n5_ := ak (below_step (vs3 HB.out GE201.out GE202.out GE209.out) hb); clear HO205; clear HO208; clear BK201; clear BK202; clear BK209; clear HB; have HO205 := n0_; have HO208 := n1_; have BK201 := n2_; have BK202 := n3_; have BK209 := n4_; have HB := n5_; clear n0_ n1_ n2_ n3_ n4_ n5_; (try clear hb); (try clear hb2); (try clear hk); (try clear hi); (try (have hnw84 := Kd.R_ne HO205.out BK202.out (by decide); change some gb202 ≠ some _ at hnw84; have how84 := fun (e_ : gb202 = _) => hnw84 (congrArg some e_); have hpw84 := fun e_ => how84 (Eq.symm e_); clear hnw84; replace how84 := eq_false how84; replace hpw84 := eq_false hpw84)); (try (have hnw85 := Kd.R_ne HO208.out BK202.out (by decide); change some gb202 ≠ some _ at hnw85; have how85 := fun (e_ : gb202 = _) => hnw85 (congrArg some e_); have hpw85 := fun e_ => how85 (Eq.symm e_); clear hnw85; replace how85 := eq_false how85; replace hpw85 := eq_false hpw85)); have hcz83_0 : w82.cell? ⟨gb202, 0, none⟩ = some (.slice none 0 0) := (blk_cell BK202.out 0).trans rfl; have hfz83_0 := blk_frozen BK202.out 0))
  refine bodyPost_ret (results_ctt rfl _ _ gb202 28 #[.slice none 0 0] (0, 0) _ rfl (by (with_reducible repeat (first | refine blk_drewN ?_ _ | refine blk_drew ?_ | refine blk_alloc ?_ _)); refine blk_put (cs := #[.slice none 0 0]) ?_ 0 _ rfl; exact vb BK202.out) Tryd.underlying28 rfl (by kernel_rfl)) rfl ?_; exact ⟨_, _, by first | rfl | (simp [errW_none, errW_some] <;> rfl) | (simp [*, errW_none, errW_some] <;> rfl), by first | exact Kd.R_nil _ _ _ _ _ | exact Kd.N_nil _ _ _ _ _ | exact Kd.V_nil _ _ _ _ _ | exact Kd.Q_nil _ _ _ _ _ | exact Kd.S_nil _ _ _ _ _, by (with_reducible repeat (first | apply Kd.R_alloc | apply Kd.R_drewN | apply Kd.R_drew)); exact Kd.R_mono (Kd.R_far (p := ⟨gb202, 0, none⟩) (Kd.R_types HO208.out BK202.out (by decide)) (fun _ hk => hk.2) (.slice none 0 0)) (fun _ hk => trivial), by exact vs3 HB.out GE201.out GE202.out GE209.out⟩

/-! ### impl_in: function 81 -/
def impl_in.f (a0 : Int) (a1 : Int) (a2 : Int) : Option (Bool) := if a0 ≥ a1 then (some (decide (a0 ≤ a2))) else (some false)
set_option maxHeartbeats 8000000 in
set_option maxRecDepth 100000 in
theorem impl_in.calls (a0 : Int) (a1 : Int) (a2 : Int) (r : Bool) (w : World) (h : impl_in.f a0 a1 a2 = some r) :
  Calls Tryd.prog 81 #[.int .i64 a0, .int .i64 a1, .int .i64 a2] w fun e w' => e = .returned (.bool r) ∧ Drawn0 w w' := by
 have H : (if a0 ≥ a1 then (some (decide (a0 ≤ a2))) else (some false)) = some r := h; clear h; by_cases c4 : a0 ≥ a1
 ·rw [if_pos c4] at H
  have c4b0 : decide (a1 ≤ a0) = true := decide_eq_true c4; clear c4; obtain rfl := Option.some.inj H; go_enter Tryd.func81, Tryd.ntmps81
  go_wp2
  go_ret
  exact ⟨by first | rfl | (simp; done) | (simp [*]; done), by repeat (first | exact Drawn0.refl _ | apply Drawn0.step)⟩
 ·rw [if_neg c4] at H
  have c4b0 : decide (a1 ≤ a0) = false := decide_eq_false c4; clear c4; obtain rfl := Option.some.inj H; go_enter Tryd.func81, Tryd.ntmps81
  go_wp2
  go_ret
  exact ⟨by first | rfl | (simp; done) | (simp [*]; done), by repeat (first | exact Drawn0.refl _ | apply Drawn0.step)⟩

/-! ### strings_Trim: function 96 -/
def strings_Trim.f (a0 a1 : ByteArray) : Option ByteArray := if a0.size ≤ 9223372036854775807 then (if a1.data.toList = [46, 45] then some ⟨(Lib.trimS a0.data.toList [46, 45]).toArray⟩ else none) else none
theorem strings_Trim.calls (a0 a1 : ByteArray) (r : ByteArray) (w : World) (h : strings_Trim.f a0 a1 = some r) :
  Calls Tryd.prog 96 #[.string a0, .string a1] w fun e w' => e = .returned (.string r) ∧ Below w.heap.size w w' := by
 unfold strings_Trim.f at h
 by_cases h1 : a0.size ≤ 9223372036854775807
 ·rw [if_pos h1] at h
  by_cases h2 : a1.data.toList = [46, 45]
  ·rw [if_pos h2] at h
   obtain rfl := Option.some.inj h
   obtain rfl : a1 = ⟨#[46, 45]⟩ := by
    obtain ⟨⟨l⟩⟩ := a1; simp only at h2
    rw [h2]
   exact Tryd.strings_Trim_laid a0 ⟨#[46, 45]⟩ w h1 (by decide) (ascii_of_all (by decide))
  ·rw [if_neg h2] at h
   cases h
 ·rw [if_neg h1] at h
  cases h

/-! ### impl_areMarks: function 64 -/
def impl_areMarks.f (a0 : ByteArray) (a1 : Int) (a2 : Int) : Option (Bool) := (impl_in.f (a0.size : Int) a1 a2).bind fun t223 => (if t223 = true then ((strings_Trim.f a0 (⟨#[46, 45]⟩ : ByteArray)).bind fun t224 => (some (t224.toList == ([] : List UInt8)))) else (some false))
set_option maxHeartbeats 8000000 in
set_option maxRecDepth 100000 in
theorem impl_areMarks.calls (a0 : ByteArray) (a1 : Int) (a2 : Int) (r : Bool) (w : World) (h : impl_areMarks.f a0 a1 a2 = some r) :
  Calls Tryd.prog 64 #[.string a0, .int .i64 a1, .int .i64 a2] w fun e w' => e = .returned (.bool r) ∧ Below w.heap.size w w' := by
 have HB := ak (Below.refl w.heap.size w); have H : ((impl_in.f (a0.size : Int) a1 a2).bind fun t223 => (if t223 = true then ((strings_Trim.f a0 (⟨#[46, 45]⟩ : ByteArray)).bind fun t224 => (some (t224.toList == ([] : List UInt8)))) else (some false))) = some r := h; clear h; replace H := Option.bind_eq_some_iff.mp H; obtain ⟨t223, A40, H⟩ := H; replace H : (if t223 = true then ((strings_Trim.f a0 (⟨#[46, 45]⟩ : ByteArray)).bind fun t224 => (some (t224.toList == ([] : List UInt8)))) else (some false)) = some r := H; have A4 := Aside0.mk A40; clear A40; by_cases c5 : t223 = true
 ·subst c5; have H1 : ((strings_Trim.f a0 (⟨#[46, 45]⟩ : ByteArray)).bind fun t224 => (some (t224.toList == ([] : List UInt8)))) = some r := by rw [if_pos rfl] at H; first | exact H | (simp only [if_true, eq_self] at H ⊢; exact H)
  clear H; have H := H1; clear H1; replace H := Option.bind_eq_some_iff.mp H; obtain ⟨t224, A60, H⟩ := H; replace H : (some (t224.toList == ([] : List UInt8))) = some r := H; have A6 := Aside0.mk A60; clear A60; obtain rfl := Option.some.inj H; go_enter Tryd.func64, Tryd.ntmps64
  go_wp2_with (first | ((with_reducible refine gate_callee (f := 81) rfl ?_); refine goesL_ (some 11) rfl rfl Tryd.func81 (by kernel_rfl) rfl #[.int .i64 (a0.size : Int), .int .i64 a1, .int .i64 a2] rfl vm ?_; (with_reducible refine (impl_in.calls (a0.size : Int) a1 a2 true _ A4.out).mono ?_); rintro e w' ⟨rfl, ⟨nd, rfl⟩⟩; refine ⟨_, rfl, ?_⟩) | (go_at_call 96; (with_reducible refine (strings_Trim.calls a0 (⟨#[46, 45]⟩ : ByteArray) t224 _ A6.out).mono ?_); rintro e w7 ⟨rfl, hb⟩; have n0_ := ak (below_step (vh HB.out) hb); clear HB; have HB := n0_; clear n0_; (try clear hb); (try clear hb2); (try clear hk); (try clear hi)))
  go_ret
  exact ⟨by first | rfl | (simp [errW_none, errW_some] <;> rfl) | (simp [*, errW_none, errW_some] <;> rfl), by exact vh HB.out⟩
 ·replace c5 := Bool.eq_false_iff.mpr c5; subst c5; have H1 : (some false) = some r := by rw [if_neg (show ¬ (false = true) by decide)] at H; first | exact H | (simp only [if_true, eq_self] at H ⊢; exact H)
  clear H; have H := H1; clear H1; obtain rfl := Option.some.inj H; go_enter Tryd.func64, Tryd.ntmps64
  go_wp2_with (first | ((with_reducible refine gate_callee (f := 81) rfl ?_); refine goesL_ (some 11) rfl rfl Tryd.func81 (by kernel_rfl) rfl #[.int .i64 (a0.size : Int), .int .i64 a1, .int .i64 a2] rfl vm ?_; (with_reducible refine (impl_in.calls (a0.size : Int) a1 a2 false _ A4.out).mono ?_); rintro e w' ⟨rfl, ⟨nd, rfl⟩⟩; refine ⟨_, rfl, ?_⟩))
  go_ret
  exact ⟨by first | rfl | (simp [errW_none, errW_some] <;> rfl) | (simp [*, errW_none, errW_some] <;> rfl), by exact vh HB.out⟩

/-! ### impl_isLetterMarks: function 79 -/
def impl_isLetterMarks.f (a0 : ByteArray) : Option (Bool) := (impl_areMarks.f a0 1 5).bind fun t225 => (some t225)
set_option maxHeartbeats 8000000 in
set_option maxRecDepth 100000 in
theorem impl_isLetterMarks.calls (a0 : ByteArray) (r : Bool) (w : World) (h : impl_isLetterMarks.f a0 = some r) :
  Calls Tryd.prog 79 #[.string a0] w fun e w' => e = .returned (.bool r) ∧ Below w.heap.size w w' := by
 have HB := ak (Below.refl w.heap.size w); have H : ((impl_areMarks.f a0 1 5).bind fun t225 => (some t225)) = some r := h; clear h; replace H := Option.bind_eq_some_iff.mp H; obtain ⟨t225, A20, H⟩ := H; replace H : (some t225) = some r := H; have A2 := Aside0.mk A20; clear A20; obtain rfl := Option.some.inj H; go_enter Tryd.func79, Tryd.ntmps79
 go_wp2_with (first | ((with_reducible refine gate_callee (f := 64) rfl ?_); refine goesL_ (some 4) rfl rfl Tryd.func64 (by kernel_rfl) rfl #[.string a0, .int .i64 1, .int .i64 5] rfl vm ?_; (with_reducible refine (impl_areMarks.calls a0 1 5 t225 _ A2.out).mono ?_); rintro e w3 ⟨rfl, hb⟩; refine ⟨_, rfl, ?_⟩; have n0_ := ak (below_step (vh HB.out) hb); clear HB; have HB := n0_; clear n0_; (try clear hb); (try clear hb2); (try clear hk); (try clear hi)))
 go_ret
 exact ⟨by first | rfl | (simp [errW_none, errW_some] <;> rfl) | (simp [*, errW_none, errW_some] <;> rfl), by exact vh HB.out⟩

/-! ### slices_Index_string_string: function 106 -/
def slices_Index_string_string.l0 : Nat → List ByteArray → ByteArray → Int → Int → Option (Int)
 | 0, _, _, _, _ => none
 | k + 1, x0, x1, x7, x8 => if x8 < x7 then (if 0 ≤ x8 then (if x8 < (x0.length : Int) then (if x1.toList = (rdOf ByteArray.empty x0 x8).toList then (some x8) else (slices_Index_string_string.l0 k x0 x1 x7 (wrap64 (x8 + 1)))) else (none)) else (none)) else (some (-1))
def slices_Index_string_string.f (k : Nat) (l0 : List ByteArray) (a1 : ByteArray) : Option (Int) := slices_Index_string_string.l0 k l0 a1 (l0.length : Int) 0
theorem slices_Index_string_string.mono_l : ∀ k, (∀ y0 y1 y2 y3, LeO (slices_Index_string_string.l0 k y0 y1 y2 y3) (slices_Index_string_string.l0 (k + 1) y0 y1 y2 y3))
 | 0 => fun _ _ _ _ r h => by simp [slices_Index_string_string.l0] at h
 | k + 1 => by
  have ih0 := slices_Index_string_string.mono_l k
  ·intro y0 y1 y2 y3; unfold slices_Index_string_string.l0
   repeat' first
   | (with_reducible exact ih0 _ _ _ _)
   | (with_reducible exact LeO.refl _)
   | (with_reducible exact LeO.none _)
   | (with_reducible refine LeO.ite ?_ ?_)
   | (with_reducible refine LeO.bind ?_ (fun _ => ?_))
   | exact ih0 _ _ _ _
   | exact LeO.none _
   | refine LeO.ite ?_ ?_
   | refine LeO.bind ?_ (fun _ => ?_)
theorem slices_Index_string_string.mono : ∀ a0 a1 k, LeO (slices_Index_string_string.f k a0 a1) (slices_Index_string_string.f (k + 1) a0 a1) := by
 intro a0 a1 k; have ih0 := slices_Index_string_string.mono_l k; unfold slices_Index_string_string.f
 repeat' first
   | (with_reducible exact ih0 _ _ _ _)
   | (with_reducible exact LeO.refl _)
   | (with_reducible exact LeO.none _)
   | (with_reducible refine LeO.ite ?_ ?_)
   | (with_reducible refine LeO.bind ?_ (fun _ => ?_))
   | exact ih0 _ _ _ _
   | exact LeO.none _
   | refine LeO.ite ?_ ?_
   | refine LeO.bind ?_ (fun _ => ?_)
set_option maxHeartbeats 8000000 in
set_option maxRecDepth 100000 in
theorem slices_Index_string_string.calls (k : Nat) (A0 : Option Addr) (c0 : Nat) (l0 : List ByteArray) (a1 : ByteArray) (r : Int) (w : World) (hr0 : Kd.C Kd.string w A0 l0.length l0) (hc0 : l0.length ≤ c0) (h : slices_Index_string_string.f k l0 a1 = some r) :
  Calls Tryd.prog 106 #[.slice A0 l0.length c0, .string a1] w fun e w' => e = .returned (.int .i64 r) ∧ Drawn0 w w' := by
 have HR0 := Aside0.mk hr0; have HC0 := Aside0.mk hc0; clear hr0 hc0; have H : (slices_Index_string_string.l0 k l0 a1 (l0.length : Int) 0) = some r := h; clear h; have H' := Aside0.mk H; clear H; go_enter Tryd.func106, Tryd.ntmps106
 go_wp2
 go_loopg [8] k (fun kq v8 w' => ∃ (x8_1 : Int), v8 = .int .i64 x8_1 ∧ Aside0 (slices_Index_string_string.l0 kq l0 a1 (l0.length : Int) x8_1 = some r) ∧ Aside0 (kq ≤ k) ∧ Drawn0 w w')
 case atStart => exact ⟨(0), (by first | rfl | (simp; done) | (simp [*]; done)), H', ⟨Nat.le_refl _⟩, by repeat (first | exact Drawn0.refl _ | apply Drawn0.step)⟩
 case round =>
  clear H'; try clear c1
  try clear p2
  obtain ⟨x8_1, rfl, HA, HK1, ⟨m1, rfl⟩⟩ := hrel; cases gk with
  | zero => exact absurd HA.out (by simp [slices_Index_string_string.l0])
  | succ k1 =>
   have H := HA.out; clear HA; simp only [slices_Index_string_string.l0] at H
   by_cases c3 : x8_1 < (l0.length : Int)
   ·rw [if_pos c3] at H
    have c3b0 : decide (x8_1 < (l0.length : Int)) = true := decide_eq_true c3; clear c3; by_cases c4 : 0 ≤ x8_1
    ·rw [if_pos c4] at H
     have c4b0 : decide (0 ≤ x8_1) = true := decide_eq_true c4; clear c4; by_cases c5 : x8_1 < (l0.length : Int)
     ·rw [if_pos c5] at H
      have c5b0 : decide (x8_1 < (l0.length : Int)) = true := decide_eq_true c5; clear c5; by_cases c6 : a1.toList = (rdOf ByteArray.empty l0 x8_1).toList
      ·rw [if_pos c6] at H
       have c6b0 : (a1.toList == (rdOf ByteArray.empty l0 x8_1).toList) = true := beq_iff_eq.mpr c6; have c6b1 : (a1.toList != (rdOf ByteArray.empty l0 x8_1).toList) = false := bne_eq_false_iff_eq.mpr c6; clear c6; obtain rfl := Option.some.inj H; have p226 : 0 ≤ (x8_1 : Int) := of_decide_eq_true va; have q226 : x8_1 < (l0.length : Int) := of_decide_eq_true va; obtain ⟨ad226, e226, hx226_0⟩ := Kd.at_string HR0.out x8_1 p226 q226; cases e226; replace p226 := eq_true p226; replace q226 := eq_true q226; go_wp2
       go_ret
       exact ⟨by first | rfl | (simp; done) | (simp [*]; done), by repeat (first | exact Drawn0.refl _ | apply Drawn0.step)⟩
      ·rw [if_neg c6] at H
       have c6b0 : (a1.toList == (rdOf ByteArray.empty l0 x8_1).toList) = false := beq_eq_false_iff_ne.mpr c6; have c6b1 : (a1.toList != (rdOf ByteArray.empty l0 x8_1).toList) = true := bne_iff_ne.mpr c6; have H' := Aside0.mk H; clear H; have p226 : 0 ≤ (x8_1 : Int) := of_decide_eq_true va; have q226 : x8_1 < (l0.length : Int) := of_decide_eq_true va; obtain ⟨ad226, e226, hx226_0⟩ := Kd.at_string HR0.out x8_1 p226 q226; cases e226; replace p226 := eq_true p226; replace q226 := eq_true q226; go_wp2
       go_roundg k1
       case measure => have := HK1.out; omega
       case rel => exact ⟨(wrap64 (x8_1 + 1)), vq, H', ⟨by have := HK1.out; omega⟩, by repeat (first | exact Drawn0.refl _ | apply Drawn0.step)⟩
     ·rw [if_neg c5] at H
      exact absurd H (by simp)
    ·rw [if_neg c4] at H
     exact absurd H (by simp)
   ·rw [if_neg c3] at H
    have c3b0 : decide (x8_1 < (l0.length : Int)) = false := decide_eq_false c3; clear c3; obtain rfl := Option.some.inj H; go_wp2
    go_ret
    exact ⟨by first | rfl | (simp; done) | (simp [*]; done), by repeat (first | exact Drawn0.refl _ | apply Drawn0.step)⟩

/-! ### slices_Contains_string_string: function 80 -/
def slices_Contains_string_string.f (k : Nat) (l0 : List ByteArray) (a1 : ByteArray) : Option (Bool) := (slices_Index_string_string.f k l0 a1).bind fun t227 => (some (decide (t227 ≥ 0)))
theorem slices_Contains_string_string.mono : ∀ a0 a1 k, LeO (slices_Contains_string_string.f k a0 a1) (slices_Contains_string_string.f (k + 1) a0 a1) := by
 intro a0 a1 k; unfold slices_Contains_string_string.f
 repeat' first
   | (with_reducible exact slices_Index_string_string.mono _ _ _)
   | (with_reducible exact LeO.refl _)
   | (with_reducible exact LeO.none _)
   | (with_reducible refine LeO.ite ?_ ?_)
   | (with_reducible refine LeO.bind ?_ (fun _ => ?_))
   | exact slices_Index_string_string.mono _ _ _
   | exact LeO.none _
   | refine LeO.ite ?_ ?_
   | refine LeO.bind ?_ (fun _ => ?_)
set_option maxHeartbeats 8000000 in
set_option maxRecDepth 100000 in
theorem slices_Contains_string_string.calls (k : Nat) (A0 : Option Addr) (c0 : Nat) (l0 : List ByteArray) (a1 : ByteArray) (r : Bool) (w : World) (hr0 : Kd.C Kd.string w A0 l0.length l0) (hc0 : l0.length ≤ c0) (h : slices_Contains_string_string.f k l0 a1 = some r) :
  Calls Tryd.prog 80 #[.slice A0 l0.length c0, .string a1] w fun e w' => e = .returned (.bool r) ∧ Drawn0 w w' := by
 have HR0 := Aside0.mk hr0; have HC0 := Aside0.mk hc0; clear hr0 hc0; have H : ((slices_Index_string_string.f k l0 a1).bind fun t227 => (some (decide (t227 ≥ 0)))) = some r := h; clear h; replace H := Option.bind_eq_some_iff.mp H; obtain ⟨t227, A30, H⟩ := H; replace H : (some (decide (t227 ≥ 0))) = some r := H; have A3 := Aside0.mk A30; clear A30; obtain rfl := Option.some.inj H; go_enter Tryd.func80, Tryd.ntmps80
 go_wp2_with (first | ((with_reducible refine gate_callee (f := 106) rfl ?_); refine goesL_ (some 7) rfl rfl Tryd.func106 (by kernel_rfl) rfl #[.slice A0 l0.length c0, .string a1] rfl vm ?_; (with_reducible refine (slices_Index_string_string.calls k _ _ l0 a1 t227 _ ?side1 ?side2 A3.out).mono ?_); (case side1 => repeat (first | exact HR0.out | (with_reducible refine Kd.C_alloc ?_ _) | (with_reducible refine Kd.C_drewN ?_ _) | (with_reducible refine Kd.C_drew ?_))); (case side2 => exact HC0.out); rintro e w' ⟨rfl, ⟨nd, rfl⟩⟩; refine ⟨_, rfl, ?_⟩))
 go_ret
 exact ⟨by first | rfl | (simp; done) | (simp [*]; done), by repeat (first | exact Drawn0.refl _ | apply Drawn0.step)⟩

end Go.Proofs.YtgpjcfkohlhknaaDoor.PFnExactSortTable
