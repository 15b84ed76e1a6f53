-- Written by a program of this session (the kit's print with this session's additions, wip/tools): Lean checks it. (shrunk) (pressed)
import Derived.Test.YtlgmccliclmbaaaDoorAbbr
import Derived.Test.YtlgmccliclmbaaaDoorPFnExactMistakeChainx0
import Derived.Test.YtlgmccliclmbaaaDoorPFnExactMistakeChainx7
import Derived.Test.YtlgmccliclmbaaaDoorPFnExactMistakeChainx8
namespace Go.Proofs.YtlgmccliclmbaaaDoor.PFnExactMistakeChain
open Go.RowKit Go.Proofs.YtlgmccliclmbaaaDoorW.PrintWords Go.Proofs.YtlgmccliclmbaaaDoorW.PrintLast Go.Proofs.YtlgmccliclmbaaaDoorW.PrintMore
attribute [local go_sem] max2_int min2_int max_two min_two max_three min_three max_four min_four   -- for this text's walks alone
set_option linter.unusedVariables false
set_option linter.unusedSimpArgs false

/-! ### impl_MistakeChain: function 29 -/
mutual
def impl_MistakeChain.j0 : Nat → Int → Int → Bool → List ByteArray → Option (List Int × Bool)
 | 0, _, _, _, _ => none
 | k + 1, x1, x2, x30, x223000 => if x30 = true then (some (([] : List Int), false)) else ((slices_Repeat_int_int.f (([(-1)] : List Int)) (x223000.length : Int)).bind fun t229 => (if 0 ≤ x2 then (if x2 < (t229.length : Int) then (impl_MistakeChain.l0 k x1 x2 (t229.set (x2 : Int).toNat 0) (([x2] : List Int)) 0 x223000) else (none)) else (none)))
def impl_MistakeChain.l0 : Nat → Int → Int → List Int → List Int → Int → List ByteArray → Option (List Int × Bool)
 | 0, _, _, _, _, _, _ => none
 | k + 1, x1, x2, x8, x9, x10, x223000 => if x10 < (x9.length : Int) then (impl_MistakeChain.l1 k x1 x2 x8 x9 x10 x223000 (x223000.length : Int) 0 x223000) else (if 0 ≤ x1 then (if x1 < (x8.length : Int) then (if (rd x8 x1) < 0 then (some (([] : List Int), false)) else (impl_MistakeChain.l2 k x2 x8 (([x1] : List Int)) x1 x223000)) else (none)) else (none))
def impl_MistakeChain.l1 : Nat → Int → Int → List Int → List Int → Int → List ByteArray → Int → Int → List ByteArray → Option (List Int × Bool)
 | 0, _, _, _, _, _, _, _, _, _ => none
 | k + 1, x1, x2, x8, x9, x10, x48, x49, x50, x223000 => if x50 < x49 then (if 0 ≤ x50 then (if x50 < (x48.length : Int) then (if x50 < (x8.length : Int) then (if (rd x8 x50) < 0 then (if 0 ≤ x10 then (if x10 < (x9.length : Int) then (if 0 ≤ (rd x9 x10) then (if (rd x9 x10) < (x223000.length : Int) then ((impl_distance.f k (rdOf ByteArray.empty x48 x50) (rdOf ByteArray.empty x223000 (rd x9 x10))).bind fun t240 => (if t240 = 1 then (if (rd x9 x10) < (x8.length : Int) then (if x9.length < 17592186044416 then (impl_MistakeChain.l1 k x1 x2 (x8.set (x50 : Int).toNat (wrap64 ((rd x8 (rd x9 x10)) + 1))) (x9 ++ [x50]) x10 x48 x49 (wrap64 (x50 + 1)) x223000) else (none)) else (none)) else (impl_MistakeChain.l1 k x1 x2 x8 x9 x10 x48 x49 (wrap64 (x50 + 1)) x223000))) else (none)) else (none)) else (none)) else (none)) else (impl_MistakeChain.l1 k x1 x2 x8 x9 x10 x48 x49 (wrap64 (x50 + 1)) x223000)) else (none)) else (none)) else (none)) else (impl_MistakeChain.l0 k x1 x2 x8 x9 (wrap64 (x10 + 1)) x223000)
def impl_MistakeChain.l2 : Nat → Int → List Int → List Int → Int → List ByteArray → Option (List Int × Bool)
 | 0, _, _, _, _, _ => none
 | k + 1, x2, x8, x13, x14, x223000 => if x14 = x2 then (some (x13, true)) else (impl_MistakeChain.l3 k x2 x8 x13 x14 0 x223000)
def impl_MistakeChain.l3 : Nat → Int → List Int → List Int → Int → Int → List ByteArray → Option (List Int × Bool)
 | 0, _, _, _, _, _, _ => none
 | k + 1, x2, x8, x13, x14, x15, x223000 => if 0 ≤ x15 then (if x15 < (x8.length : Int) then (if 0 ≤ x14 then (if x14 < (x8.length : Int) then (if (rd x8 x15) = (wrap64 ((rd x8 x14) - 1)) then (if x15 < (x223000.length : Int) then (if x14 < (x223000.length : Int) then ((impl_distance.f k (rdOf ByteArray.empty x223000 x15) (rdOf ByteArray.empty x223000 x14)).bind fun t255 => (if t255 = 1 then (if x13.length < 17592186044416 then (impl_MistakeChain.l2 k x2 x8 (x13 ++ [x15]) x15 x223000) else (none)) else (impl_MistakeChain.l3 k x2 x8 x13 x14 (wrap64 (x15 + 1)) x223000))) else (none)) else (none)) else (impl_MistakeChain.l3 k x2 x8 x13 x14 (wrap64 (x15 + 1)) x223000)) else (none)) else (none)) else (none)) else (none)
end
def impl_MistakeChain.f (k : Nat) (l0_0 : List ByteArray) (a1 : Int) (a2 : Int) : Option (List Int × Bool) := (impl_isTable.f k l0_0).bind fun t223 => (if t223 = true then ((impl_isLetter.f l0_0 a1).bind fun t224 => (if t224 = true then ((impl_isLetter.f l0_0 a2).bind fun t225 => (impl_MistakeChain.j0 k a1 a2 (!t225) l0_0)) else (impl_MistakeChain.j0 k a1 a2 true l0_0))) else (impl_MistakeChain.j0 k a1 a2 true l0_0))
theorem impl_MistakeChain.mono_l : ∀ k, (∀ y0 y1 y2 y3, LeO (impl_MistakeChain.j0 k y0 y1 y2 y3) (impl_MistakeChain.j0 (k + 1) y0 y1 y2 y3)) ∧ (∀ y0 y1 y2 y3 y4 y5, LeO (impl_MistakeChain.l0 k y0 y1 y2 y3 y4 y5) (impl_MistakeChain.l0 (k + 1) y0 y1 y2 y3 y4 y5)) ∧ (∀ y0 y1 y2 y3 y4 y5 y6 y7 y8, LeO (impl_MistakeChain.l1 k y0 y1 y2 y3 y4 y5 y6 y7 y8) (impl_MistakeChain.l1 (k + 1) y0 y1 y2 y3 y4 y5 y6 y7 y8)) ∧ (∀ y0 y1 y2 y3 y4, LeO (impl_MistakeChain.l2 k y0 y1 y2 y3 y4) (impl_MistakeChain.l2 (k + 1) y0 y1 y2 y3 y4)) ∧ (∀ y0 y1 y2 y3 y4 y5, LeO (impl_MistakeChain.l3 k y0 y1 y2 y3 y4 y5) (impl_MistakeChain.l3 (k + 1) y0 y1 y2 y3 y4 y5))
 | 0 => ⟨fun _ _ _ _ r h => by simp [impl_MistakeChain.j0] at h, fun _ _ _ _ _ _ r h => by simp [impl_MistakeChain.l0] at h, fun _ _ _ _ _ _ _ _ _ r h => by simp [impl_MistakeChain.l1] at h, fun _ _ _ _ _ r h => by simp [impl_MistakeChain.l2] at h, fun _ _ _ _ _ _ r h => by simp [impl_MistakeChain.l3] at h⟩
 | k + 1 => by
  obtain ⟨ih0, ih1, ih2, ih3, ih4⟩ := impl_MistakeChain.mono_l k
  refine ⟨?_, ?_, ?_, ?_, ?_⟩
  ·intro y0 y1 y2 y3
   unfold impl_MistakeChain.j0
   repeat' first
   | (with_reducible exact ih0 _ _ _ _)
   | (with_reducible exact ih1 _ _ _ _ _ _)
   | (with_reducible exact ih2 _ _ _ _ _ _ _ _ _)
   | (with_reducible exact ih3 _ _ _ _ _)
   | (with_reducible exact ih4 _ _ _ _ _ _)
   | (with_reducible exact impl_distance.mono _ _ _)
   | (with_reducible exact impl_isTable.mono _ _)
   | (with_reducible exact LeO.refl _)
   | (with_reducible exact LeO.none _)
   | (with_reducible refine LeO.ite ?_ ?_)
   | (with_reducible refine LeO.bind ?_ (fun _ => ?_))
   | exact ih0 _ _ _ _
   | exact ih1 _ _ _ _ _ _
   | exact ih2 _ _ _ _ _ _ _ _ _
   | exact ih3 _ _ _ _ _
   | exact ih4 _ _ _ _ _ _
   | exact impl_distance.mono _ _ _
   | exact impl_isTable.mono _ _
   | exact LeO.none _
   | refine LeO.ite ?_ ?_
   | refine LeO.bind ?_ (fun _ => ?_)
  ·intro y0 y1 y2 y3 y4 y5
   unfold impl_MistakeChain.l0
   repeat' first
   | (with_reducible exact ih0 _ _ _ _)
   | (with_reducible exact ih1 _ _ _ _ _ _)
   | (with_reducible exact ih2 _ _ _ _ _ _ _ _ _)
   | (with_reducible exact ih3 _ _ _ _ _)
   | (with_reducible exact ih4 _ _ _ _ _ _)
   | (with_reducible exact impl_distance.mono _ _ _)
   | (with_reducible exact impl_isTable.mono _ _)
   | (with_reducible exact LeO.refl _)
   | (with_reducible exact LeO.none _)
   | (with_reducible refine LeO.ite ?_ ?_)
   | (with_reducible refine LeO.bind ?_ (fun _ => ?_))
   | exact ih0 _ _ _ _
   | exact ih1 _ _ _ _ _ _
   | exact ih2 _ _ _ _ _ _ _ _ _
   | exact ih3 _ _ _ _ _
   | exact ih4 _ _ _ _ _ _
   | exact impl_distance.mono _ _ _
   | exact impl_isTable.mono _ _
   | exact LeO.none _
   | refine LeO.ite ?_ ?_
   | refine LeO.bind ?_ (fun _ => ?_)
  ·intro y0 y1 y2 y3 y4 y5 y6 y7 y8
   unfold impl_MistakeChain.l1
   repeat' first
   | (with_reducible exact ih0 _ _ _ _)
   | (with_reducible exact ih1 _ _ _ _ _ _)
   | (with_reducible exact ih2 _ _ _ _ _ _ _ _ _)
   | (with_reducible exact ih3 _ _ _ _ _)
   | (with_reducible exact ih4 _ _ _ _ _ _)
   | (with_reducible exact impl_distance.mono _ _ _)
   | (with_reducible exact impl_isTable.mono _ _)
   | (with_reducible exact LeO.refl _)
   | (with_reducible exact LeO.none _)
   | (with_reducible refine LeO.ite ?_ ?_)
   | (with_reducible refine LeO.bind ?_ (fun _ => ?_))
   | exact ih0 _ _ _ _
   | exact ih1 _ _ _ _ _ _
   | exact ih2 _ _ _ _ _ _ _ _ _
   | exact ih3 _ _ _ _ _
   | exact ih4 _ _ _ _ _ _
   | exact impl_distance.mono _ _ _
   | exact impl_isTable.mono _ _
   | exact LeO.none _
   | refine LeO.ite ?_ ?_
   | refine LeO.bind ?_ (fun _ => ?_)
  ·intro y0 y1 y2 y3 y4
   unfold impl_MistakeChain.l2
   repeat' first
   | (with_reducible exact ih0 _ _ _ _)
   | (with_reducible exact ih1 _ _ _ _ _ _)
   | (with_reducible exact ih2 _ _ _ _ _ _ _ _ _)
   | (with_reducible exact ih3 _ _ _ _ _)
   | (with_reducible exact ih4 _ _ _ _ _ _)
   | (with_reducible exact impl_distance.mono _ _ _)
   | (with_reducible exact impl_isTable.mono _ _)
   | (with_reducible exact LeO.refl _)
   | (with_reducible exact LeO.none _)
   | (with_reducible refine LeO.ite ?_ ?_)
   | (with_reducible refine LeO.bind ?_ (fun _ => ?_))
   | exact ih0 _ _ _ _
   | exact ih1 _ _ _ _ _ _
   | exact ih2 _ _ _ _ _ _ _ _ _
   | exact ih3 _ _ _ _ _
   | exact ih4 _ _ _ _ _ _
   | exact impl_distance.mono _ _ _
   | exact impl_isTable.mono _ _
   | exact LeO.none _
   | refine LeO.ite ?_ ?_
   | refine LeO.bind ?_ (fun _ => ?_)
  ·intro y0 y1 y2 y3 y4 y5
   unfold impl_MistakeChain.l3
   repeat' first
   | (with_reducible exact ih0 _ _ _ _)
   | (with_reducible exact ih1 _ _ _ _ _ _)
   | (with_reducible exact ih2 _ _ _ _ _ _ _ _ _)
   | (with_reducible exact ih3 _ _ _ _ _)
   | (with_reducible exact ih4 _ _ _ _ _ _)
   | (with_reducible exact impl_distance.mono _ _ _)
   | (with_reducible exact impl_isTable.mono _ _)
   | (with_reducible exact LeO.refl _)
   | (with_reducible exact LeO.none _)
   | (with_reducible refine LeO.ite ?_ ?_)
   | (with_reducible refine LeO.bind ?_ (fun _ => ?_))
   | exact ih0 _ _ _ _
   | exact ih1 _ _ _ _ _ _
   | exact ih2 _ _ _ _ _ _ _ _ _
   | exact ih3 _ _ _ _ _
   | exact ih4 _ _ _ _ _ _
   | exact impl_distance.mono _ _ _
   | exact impl_isTable.mono _ _
   | exact LeO.none _
   | refine LeO.ite ?_ ?_
   | refine LeO.bind ?_ (fun _ => ?_)
theorem impl_MistakeChain.mono : ∀ a0 a1 a2 k, LeO (impl_MistakeChain.f k a0 a1 a2) (impl_MistakeChain.f (k + 1) a0 a1 a2) := by
 intro a0 a1 a2 k
 obtain ⟨ih0, ih1, ih2, ih3, ih4⟩ := impl_MistakeChain.mono_l k
 unfold impl_MistakeChain.f
 repeat' first
   | (with_reducible exact ih0 _ _ _ _)
   | (with_reducible exact ih1 _ _ _ _ _ _)
   | (with_reducible exact ih2 _ _ _ _ _ _ _ _ _)
   | (with_reducible exact ih3 _ _ _ _ _)
   | (with_reducible exact ih4 _ _ _ _ _ _)
   | (with_reducible exact impl_distance.mono _ _ _)
   | (with_reducible exact impl_isTable.mono _ _)
   | (with_reducible exact LeO.refl _)
   | (with_reducible exact LeO.none _)
   | (with_reducible refine LeO.ite ?_ ?_)
   | (with_reducible refine LeO.bind ?_ (fun _ => ?_))
   | exact ih0 _ _ _ _
   | exact ih1 _ _ _ _ _ _
   | exact ih2 _ _ _ _ _ _ _ _ _
   | exact ih3 _ _ _ _ _
   | exact ih4 _ _ _ _ _ _
   | exact impl_distance.mono _ _ _
   | exact impl_isTable.mono _ _
   | exact LeO.none _
   | refine LeO.ite ?_ ?_
   | refine LeO.bind ?_ (fun _ => ?_)
def impl_MistakeChain.T11 : Bool × List (List Nat × List Nat) := (true, [([], []), ([], []), ([0, 1], [0, 1]), ([2], [2]), ([3], [3]), ([4], [4]), ([5], [5]), ([5], [5]), ([7, 5], [5, 7]), ([5], [5]), ([5], [5]), ([9, 10, 5], [5, 9, 10]), ([11, 5], [5, 11]), ([8, 12, 5], [5, 8, 12]), ([13, 5], [5, 13]), ([6, 14, 5, 5], [5, 6, 14]), ([15, 5], [5, 15]), ([5, 16], [5, 16])])
def impl_MistakeChain.B11 : List Nat := [0, 0, 3, 7, 15, 31, 63, 63, 191, 63, 63, 1599, 3647, 8127, 16319, 32767, 65535, 131071]
theorem impl_MistakeChain.tab11 : rtab .any (opsOf Tryd.f29 11) = impl_MistakeChain.T11 := by kernel_rfl
theorem impl_MistakeChain.bits11 : waitsOk impl_MistakeChain.T11.2 impl_MistakeChain.B11 = true := by kernel_rfl
def impl_MistakeChain.T21 : Bool × List (List Nat × List Nat) := (true, [([], []), ([], []), ([0, 1], [0, 1]), ([2], [2]), ([], []), ([], []), ([4, 5], [4, 5]), ([6], [6]), ([7], [7]), ([3, 8], [3, 8]), ([9], [9]), ([10], [10]), ([11, 10], [10, 11]), ([10], [10]), ([12, 13, 10], [10, 12, 13]), ([14, 10], [10, 14]), ([10], [10]), ([16, 10], [10, 16]), ([10], [10]), ([17, 18, 10], [10, 17, 18]), ([19, 10], [10, 19]), ([15, 20, 10, 10], [10, 15, 20]), ([21, 10], [10, 21]), ([10, 22], [10, 22])])
def impl_MistakeChain.B21 : List Nat := [0, 0, 3, 7, 0, 0, 48, 112, 240, 511, 1023, 2047, 4095, 2047, 16383, 32767, 2047, 67583, 2047, 460799, 985087, 2097151, 4194303, 8388607]
theorem impl_MistakeChain.tab21 : rtab .any (opsOf Tryd.f29 21) = impl_MistakeChain.T21 := by kernel_rfl
theorem impl_MistakeChain.bits21 : waitsOk impl_MistakeChain.T21.2 impl_MistakeChain.B21 = true := by kernel_rfl
set_option maxHeartbeats 8000000 in
set_option maxRecDepth 100000 in
theorem impl_MistakeChain.calls (k : Nat) (A0_0 : Option Addr) (c0_0 : Nat) (l0_0 : List ByteArray) (a1 : Int) (a2 : Int) (r1 : List Int) (r2 : Bool) (w : World) (hr0_0 : Kd.C Kd.string w A0_0 l0_0.length l0_0) (hc0_0 : l0_0.length ≤ c0_0) (h : impl_MistakeChain.f k l0_0 a1 a2 = some (r1, r2)) :
  Calls Tryd.prog 29 #[.agg #[.slice A0_0 l0_0.length c0_0], .int .i64 a1, .int .i64 a2] w fun e w' => ∃ v0_ : Value, e = .returned (.tuple #[v0_, .bool r2]) ∧ Kd.R (Kd.int .i64) 3 w' w.heap.size (fun _ => True) v0_ r1 ∧ Below w.heap.size w w' := by
 have hu28 := Tryd.underlying28
 have HR0_0 := Aside0.mk hr0_0
 have HC0_0 := Aside0.mk hc0_0
 clear hr0_0 hc0_0
 have HB := ak (Below.refl w.heap.size w)
 have H : ((impl_isTable.f k l0_0).bind fun t223 => (if t223 = true then ((impl_isLetter.f l0_0 a1).bind fun t224 => (if t224 = true then ((impl_isLetter.f l0_0 a2).bind fun t225 => (impl_MistakeChain.j0 k a1 a2 (!t225) l0_0)) else (impl_MistakeChain.j0 k a1 a2 true l0_0))) else (impl_MistakeChain.j0 k a1 a2 true l0_0))) = some (r1, r2) := h
 clear h
 have HC4 := Aside0.mk H
 clear H
 go_enter Tryd.func29, Tryd.ntmps29
 go_upto_region 1 with (first | ((with_reducible refine gate_dst (N := 3) rfl ?_); refine box_event ?hg (N := 3) ?hd (cs := #[.slice A0_0 l0_0.length c0_0]) (t := 28) ?hr ?_; (case hd => rfl); (case hg => rfl); (case hr => first | (go_simp; done) | (go_simp; rfl)); intro gb222 hg w5 hbox hb; have n0_ := ak (below_step (vh HB.out) hb); have n1_ := ak (hbox); have n2_ := ak (vg hg (vh HB.out)); have n3_ := ak (vg hg (vh HB.out)); clear HB; have HB := n0_; have BK222 := n1_; have GW222 := n2_; have GE222 := n3_; clear n0_ n1_ n2_ n3_; clear hb hbox hg))
 (try simp only [Act.put, List.setIfInBounds_toArray, List.set_cons_zero, List.set_cons_succ])
 go_cut [30] (fun v30 wc => ∃ (kq : Nat) (x30_3 : Bool), v30 = .bool x30_3 ∧ Aside0 (impl_MistakeChain.j0 kq a1 a2 x30_3 l0_0 = some (r1, r2)) ∧ Aside0 (kq ≤ k) ∧ Aside0 (wc.heap[gb222]? = some (.cells #[(.slice A0_0 l0_0.length c0_0)] 28 (0, 0))) ∧ Aside0 (Below w.heap.size w wc))
 case first =>
  have H := HC4.out
  clear HC4
  replace H := Option.bind_eq_some_iff.mp H
  obtain ⟨t223, A60, H⟩ := H
  replace H : (if t223 = true then ((impl_isLetter.f l0_0 a1).bind fun t224 => (if t224 = true then ((impl_isLetter.f l0_0 a2).bind fun t225 => (impl_MistakeChain.j0 k a1 a2 (!t225) l0_0)) else (impl_MistakeChain.j0 k a1 a2 true l0_0))) else (impl_MistakeChain.j0 k a1 a2 true l0_0)) = some (r1, r2) := H
  have A6 := Aside0.mk A60
  clear A60
  by_cases c7 : t223 = true
  ·subst c7
   have H1 : ((impl_isLetter.f l0_0 a1).bind fun t224 => (if t224 = true then ((impl_isLetter.f l0_0 a2).bind fun t225 => (impl_MistakeChain.j0 k a1 a2 (!t225) l0_0)) else (impl_MistakeChain.j0 k a1 a2 true l0_0))) = some (r1, r2) := by rw [if_pos rfl] at H; first | exact H | (simp only [if_true, eq_self] at H ⊢; exact H)
   clear H
   have H := H1
   clear H1
   replace H := Option.bind_eq_some_iff.mp H
   obtain ⟨t224, A80, H⟩ := H
   replace H : (if t224 = true then ((impl_isLetter.f l0_0 a2).bind fun t225 => (impl_MistakeChain.j0 k a1 a2 (!t225) l0_0)) else (impl_MistakeChain.j0 k a1 a2 true l0_0)) = some (r1, r2) := H
   have A8 := Aside0.mk A80
   clear A80
   by_cases c9 : t224 = true
   ·subst c9
    have H1 : ((impl_isLetter.f l0_0 a2).bind fun t225 => (impl_MistakeChain.j0 k a1 a2 (!t225) l0_0)) = some (r1, r2) := by rw [if_pos rfl] at H; first | exact H | (simp only [if_true, eq_self] at H ⊢; exact H)
    clear H
    have H := H1
    clear H1
    replace H := Option.bind_eq_some_iff.mp H
    obtain ⟨t225, A100, H⟩ := H
    replace H : (impl_MistakeChain.j0 k a1 a2 (!t225) l0_0) = some (r1, r2) := H
    have A10 := Aside0.mk A100
    clear A100
    have H' := Aside0.mk H
    clear H
    have hcz11_0 : w5.cell? ⟨gb222, 0, none⟩ = some (.slice A0_0 l0_0.length c0_0) := (blk_cell BK222.out 0).trans rfl
    have hfz11_0 := blk_frozen BK222.out 0
    go_wp2_with (first | ((with_reducible refine gate_callee (f := 47) rfl ?_); refine goesL_ (some 17) rfl rfl Tryd.func47 (by kernel_rfl) rfl #[.agg #[.slice A0_0 l0_0.length c0_0]] rfl vm ?_; (with_reducible refine (impl_isTable.calls k _ _ l0_0 true _ ?side1 ?side2 A6.out).mono ?_); (case side1 => exact vc HR0_0.out HB.out); (case side2 => exact HC0_0.out); rintro e w12 ⟨rfl, hb⟩; refine ⟨_, rfl, ?_⟩; have n0_ := ak (blk_below (vb BK222.out) hb); have n1_ := ak (below_step (vs1 HB.out GE222.out) hb); clear BK222; clear HB; have BK222 := n0_; have HB := n1_; clear n0_ n1_; (try clear hb); (try clear hb2); (try clear hk); (try clear hi); have hcz13_0 : w12.cell? ⟨gb222, 0, none⟩ = some (.slice A0_0 l0_0.length c0_0) := (blk_cell BK222.out 0).trans rfl; have hfz13_0 := blk_frozen BK222.out 0) | (go_at_call 72; (with_reducible refine (impl_isLetter.calls _ _ l0_0 a1 true _ ?side1 ?side2 A8.out).mono ?_); (case side1 => exact vc HR0_0.out HB.out); (case side2 => exact HC0_0.out); rintro e w14 ⟨rfl, hb⟩; have n0_ := ak (blk_below (vb BK222.out) hb); have n1_ := ak (below_step (vs1 HB.out GE222.out) hb); clear BK222; clear HB; have BK222 := n0_; have HB := n1_; clear n0_ n1_; (try clear hb); (try clear hb2); (try clear hk); (try clear hi); have hcz15_0 : w14.cell? ⟨gb222, 0, none⟩ = some (.slice A0_0 l0_0.length c0_0) := (blk_cell BK222.out 0).trans rfl; have hfz15_0 := blk_frozen BK222.out 0) | (go_at_call 72; (with_reducible refine (impl_isLetter.calls _ _ l0_0 a2 t225 _ ?side1 ?side2 A10.out).mono ?_); (case side1 => exact vc HR0_0.out HB.out); (case side2 => exact HC0_0.out); rintro e w16 ⟨rfl, hb⟩; have n0_ := ak (blk_below (vb BK222.out) hb); have n1_ := ak (below_step (vs1 HB.out GE222.out) hb); clear BK222; clear HB; have BK222 := n0_; have HB := n1_; clear n0_ n1_; (try clear hb); (try clear hb2); (try clear hk); (try clear hi)))
    go_meet
    case rel => exact ⟨_, (!t225), (by first | rfl | (simp; done) | (simp [*]; done)), H', ⟨by first | omega | exact Nat.le_refl _⟩, ⟨by exact vb BK222.out⟩, ⟨by exact vs1 HB.out GE222.out⟩⟩
   ·replace c9 := Bool.eq_false_iff.mpr c9
    subst c9
    have H1 : (impl_MistakeChain.j0 k a1 a2 true l0_0) = some (r1, r2) := by rw [if_neg (show ¬ (false = true) by decide)] at H; first | exact H | (simp only [if_true, eq_self] at H ⊢; exact H)
    clear H
    have H := H1
    clear H1
    have H' := Aside0.mk H
    clear H
    have hcz17_0 : w5.cell? ⟨gb222, 0, none⟩ = some (.slice A0_0 l0_0.length c0_0) := (blk_cell BK222.out 0).trans rfl
    have hfz17_0 := blk_frozen BK222.out 0
    go_wp2_with (first | ((with_reducible refine gate_callee (f := 47) rfl ?_); refine goesL_ (some 17) rfl rfl Tryd.func47 (by kernel_rfl) rfl #[.agg #[.slice A0_0 l0_0.length c0_0]] rfl vm ?_; (with_reducible refine (impl_isTable.calls k _ _ l0_0 true _ ?side1 ?side2 A6.out).mono ?_); (case side1 => exact vc HR0_0.out HB.out); (case side2 => exact HC0_0.out); rintro e w18 ⟨rfl, hb⟩; refine ⟨_, rfl, ?_⟩; have n0_ := ak (blk_below (vb BK222.out) hb); have n1_ := ak (below_step (vs1 HB.out GE222.out) hb); clear BK222; clear HB; have BK222 := n0_; have HB := n1_; clear n0_ n1_; (try clear hb); (try clear hb2); (try clear hk); (try clear hi); have hcz19_0 : w18.cell? ⟨gb222, 0, none⟩ = some (.slice A0_0 l0_0.length c0_0) := (blk_cell BK222.out 0).trans rfl; have hfz19_0 := blk_frozen BK222.out 0) | (go_at_call 72; (with_reducible refine (impl_isLetter.calls _ _ l0_0 a1 false _ ?side1 ?side2 A8.out).mono ?_); (case side1 => exact vc HR0_0.out HB.out); (case side2 => exact HC0_0.out); rintro e w20 ⟨rfl, hb⟩; have n0_ := ak (blk_below (vb BK222.out) hb); have n1_ := ak (below_step (vs1 HB.out GE222.out) hb); clear BK222; clear HB; have BK222 := n0_; have HB := n1_; clear n0_ n1_; (try clear hb); (try clear hb2); (try clear hk); (try clear hi)))
    go_meet
    case rel => exact ⟨_, (true), (by first | rfl | (simp; done) | (simp [*]; done)), H', ⟨by first | omega | exact Nat.le_refl _⟩, ⟨by exact vb BK222.out⟩, ⟨by exact vs1 HB.out GE222.out⟩⟩
  ·replace c7 := Bool.eq_false_iff.mpr c7
   subst c7
   have H1 : (impl_MistakeChain.j0 k a1 a2 true l0_0) = some (r1, r2) := by rw [if_neg (show ¬ (false = true) by decide)] at H; first | exact H | (simp only [if_true, eq_self] at H ⊢; exact H)
   clear H
   have H := H1
   clear H1
   have H' := Aside0.mk H
   clear H
   have hcz21_0 : w5.cell? ⟨gb222, 0, none⟩ = some (.slice A0_0 l0_0.length c0_0) := (blk_cell BK222.out 0).trans rfl
   have hfz21_0 := blk_frozen BK222.out 0
   go_wp2_with (first | ((with_reducible refine gate_callee (f := 47) rfl ?_); refine goesL_ (some 17) rfl rfl Tryd.func47 (by kernel_rfl) rfl #[.agg #[.slice A0_0 l0_0.length c0_0]] rfl vm ?_; (with_reducible refine (impl_isTable.calls k _ _ l0_0 false _ ?side1 ?side2 A6.out).mono ?_); (case side1 => exact vc HR0_0.out HB.out); (case side2 => exact HC0_0.out); rintro e w22 ⟨rfl, hb⟩; refine ⟨_, rfl, ?_⟩; have n0_ := ak (blk_below (vb BK222.out) hb); have n1_ := ak (below_step (vs1 HB.out GE222.out) hb); clear BK222; clear HB; have BK222 := n0_; have HB := n1_; clear n0_ n1_; (try clear hb); (try clear hb2); (try clear hk); (try clear hi)))
   go_meet
   case rel => exact ⟨_, (true), (by first | rfl | (simp; done) | (simp [*]; done)), H', ⟨by first | omega | exact Nat.le_refl _⟩, ⟨by exact vb BK222.out⟩, ⟨by exact vs1 HB.out GE222.out⟩⟩
 case rest =>
  clear HC4
  try clear c2
  try clear p2
  try clear c4
  try clear c7
  try clear c9
  try clear hcz11_0
  try clear hcz13_0
  try clear hcz15_0
  try clear hcz17_0
  try clear hcz19_0
  try clear hcz21_0
  try clear hfz11_0
  try clear hfz13_0
  try clear hfz15_0
  try clear hfz17_0
  try clear hfz19_0
  try clear hfz21_0
  obtain ⟨kq, x30_3, rfl, HA, HJ3, BK222, HB⟩ := hcut
  cases kq with
  | zero => exact absurd HA.out (by simp [impl_MistakeChain.j0])
  | succ kj3 =>
   have H := HA.out
   clear HA
   simp only [impl_MistakeChain.j0] at H
   by_cases c23 : x30_3 = true
   ·subst c23
    have H1 : (some (([] : List Int), false)) = some (r1, r2) := by rw [if_pos rfl] at H; first | exact H | (simp only [if_true, eq_self] at H ⊢; exact H)
    clear H
    have H := H1
    clear H1
    simp only [Option.some.injEq, Prod.mk.injEq] at H
    obtain ⟨rfl, rfl⟩ := H
    go_wp2
    go_ret2
    exact ⟨_, by first | rfl | (simp [errW_none, errW_some] <;> rfl) | (simp [*, errW_none, errW_some] <;> rfl), by first | exact Kd.R_nil _ _ _ _ _ | exact Kd.N_nil _ _ _ _ _ | exact Kd.V_nil _ _ _ _ _ | exact Kd.Q_nil _ _ _ _ _ | exact Kd.S_nil _ _ _ _ _, by exact vs1 HB.out GE222.out⟩
   ·replace c23 := Bool.eq_false_iff.mpr c23
    subst c23
    have H1 : ((slices_Repeat_int_int.f (([(-1)] : List Int)) (l0_0.length : Int)).bind fun t229 => (if 0 ≤ a2 then (if a2 < (t229.length : Int) then (impl_MistakeChain.l0 kj3 a1 a2 (t229.set (a2 : Int).toNat 0) (([a2] : List Int)) 0 l0_0) else (none)) else (none))) = some (r1, r2) := by rw [if_neg (show ¬ (false = true) by decide)] at H; first | exact H | (simp only [if_true, eq_self] at H ⊢; exact H)
    clear H
    have H := H1
    clear H1
    obtain ⟨y226, hy226⟩ : ∃ y_ : List Int, y_ = (([(-1)] : List Int)) := ⟨_, rfl⟩
    replace H : ((slices_Repeat_int_int.f y226 (l0_0.length : Int)).bind fun t229 => (if 0 ≤ a2 then (if a2 < (t229.length : Int) then (impl_MistakeChain.l0 kj3 a1 a2 (t229.set (a2 : Int).toNat 0) (([a2] : List Int)) 0 l0_0) else (none)) else (none))) = some (r1, r2) := by first | (rw [hy226]; with_reducible exact H) | (have H2_ := (Option.bind_some _ _).symm.trans H; rw [hy226]; with_reducible exact H2_) | (have H2_ := (Option.bind_some _ _).symm.trans H; with_reducible exact H2_) | with_reducible exact H | (rw [hy226]; exact H) | exact H
    have Ny226 := Aside0.mk hy226
    clear hy226
    replace H := Option.bind_eq_some_iff.mp H
    obtain ⟨t229, A240, H⟩ := H
    replace H : (if 0 ≤ a2 then (if a2 < (t229.length : Int) then (impl_MistakeChain.l0 kj3 a1 a2 (t229.set (a2 : Int).toNat 0) (([a2] : List Int)) 0 l0_0) else (none)) else (none)) = some (r1, r2) := H
    have A24 := Aside0.mk A240
    clear A240
    obtain ⟨y232, hy232⟩ : ∃ y_ : List Int, y_ = (([a2] : List Int)) := ⟨_, rfl⟩
    replace H : (if 0 ≤ a2 then (if a2 < (t229.length : Int) then (impl_MistakeChain.l0 kj3 a1 a2 (t229.set (a2 : Int).toNat 0) y232 0 l0_0) else (none)) else (none)) = some (r1, r2) := by first | (rw [hy232]; with_reducible exact H) | (have H2_ := (Option.bind_some _ _).symm.trans H; rw [hy232]; with_reducible exact H2_) | (have H2_ := (Option.bind_some _ _).symm.trans H; with_reducible exact H2_) | with_reducible exact H | (rw [hy232]; exact H) | exact H
    have Ny232 := Aside0.mk hy232
    clear hy232
    by_cases c25 : 0 ≤ a2
    ·rw [if_pos c25] at H
     have c25b0 : decide (0 ≤ a2) = true := decide_eq_true c25
     clear c25
     by_cases c26 : a2 < (t229.length : Int)
     ·rw [if_pos c26] at H
      have c26b0 : decide (a2 < (t229.length : Int)) = true := decide_eq_true c26
      clear c26
      obtain ⟨y235, hy235⟩ : ∃ y_ : List Int, y_ = (t229.set (a2 : Int).toNat 0) := ⟨_, rfl⟩
      replace H : (impl_MistakeChain.l0 kj3 a1 a2 y235 y232 0 l0_0) = some (r1, r2) := by first | (rw [hy235]; with_reducible exact H) | (have H2_ := (Option.bind_some _ _).symm.trans H; rw [hy235]; with_reducible exact H2_) | (have H2_ := (Option.bind_some _ _).symm.trans H; with_reducible exact H2_) | with_reducible exact H | (rw [hy235]; exact H) | exact H
      have Ny235 := Aside0.mk hy235
      clear hy235
      have H' := Aside0.mk H
      clear H
      go_wp2_with (first | ((with_reducible refine gate_dst (N := 31) rfl ?_); refine Kd.R_lit (Kd.int .i64) _ 3 ?hg (N := 31) ?hd (xs := ([(-1)] : List Int)) (inner := [.int .i64 (-1)]) (ok := fun _ => True) (okp := fun _ => True) ?hr ?hp (fun _ hk => hk) trivial (Below.refl _ _) (Nat.le_refl _) (by simp) ?_; (case hd => rfl); (case hg => rfl); (case hr => first | (go_simp; done) | (go_simp; rfl)); (case hp => exact (Reps.one (show Kd.M (Kd.int .i64) _ _ _ (-1) [.int .i64 (-1)] from rfl) (Reps.none _ _))); intro v227 w28 ho29 hb hg_ hnew_; clear hg_ hnew_; (first | rw [← Ny226.out] at ho29 | (simp only [Int.reduceToNat] at ho29; rw [← Ny226.out] at ho29)); have n0_ := ak (Kd.R_lower ho29 (below_size (vs1 HB.out GE222.out))); have n1_ := ak (blk_below (vb BK222.out) hb); have n2_ := ak (below_step (vs1 HB.out GE222.out) hb); clear BK222; clear HB; have HO228 := n0_; have BK222 := n1_; have HB := n2_; clear n0_ n1_ n2_; clear hb ho29; (try (have hnw31 := Kd.R_ne HO228.out BK222.out (by decide); change some gb222 ≠ some _ at hnw31; have how31 := fun (e_ : gb222 = _) => hnw31 (congrArg some e_); have hpw31 := fun e_ => how31 (Eq.symm e_); clear hnw31; replace how31 := eq_false how31; replace hpw31 := eq_false hpw31)); have hcz30_0 : w28.cell? ⟨gb222, 0, none⟩ = some (.slice A0_0 l0_0.length c0_0) := (blk_cell BK222.out 0).trans rfl; have hfz30_0 := blk_frozen BK222.out 0; obtain ⟨Ao32, co32, eo32⟩ := Kd.R_slice HO228.out; subst eo32) | ((with_reducible refine gate_callee (f := 73) rfl ?_); refine goesL_ (some 35) rfl rfl Tryd.func73 (by kernel_rfl) rfl #[.slice Ao32 y226.length co32, .int .i64 (l0_0.length : Int)] rfl vm ?_; (with_reducible refine (slices_Repeat_int_int.calls _ _ y226 (l0_0.length : Int) t229 _ ?side1 ?side2 A24.out).mono ?_); (case side1 => repeat (first | exact (Kd.R_reads' HO228.out).2.2 | (with_reducible refine Kd.C_alloc ?_ _) | (with_reducible refine Kd.C_drewN ?_ _) | (with_reducible refine Kd.C_drew ?_))); (case side2 => exact (Kd.R_reads' HO228.out).2.1); rintro e w33 ⟨v230, rfl, ho0, hb⟩; refine ⟨_, rfl, ?_⟩; have n0_ := ak (Kd.R_elder' (vr HO228.out) (Kd.R_base ho0) hb); have n1_ := ak (Kd.R_lower (Kd.R_new' ho0 (Kd.R_lt (vr HO228.out))) (below_size (vs1 HB.out GE222.out))); have n2_ := ak (blk_below (vb BK222.out) hb); have n3_ := ak (below_step (vs1 HB.out GE222.out) hb); clear HO228; clear BK222; clear HB; have HO228 := n0_; have HO231 := n1_; have BK222 := n2_; have HB := n3_; clear n0_ n1_ n2_ n3_; (try clear hb); (try clear hb2); (try clear hk); (try clear hi); (try clear ho0)) | ((with_reducible refine gate_dst (N := 37) rfl ?_); refine Kd.R_lit (Kd.int .i64) _ 3 ?hg (N := 37) ?hd (xs := ([a2] : List Int)) (inner := [.int .i64 a2]) (ok := fun _ => True) (okp := fun _ => True) ?hr ?hp (fun _ hk => hk) trivial (Below.refl _ _) (Nat.le_refl _) (by simp) ?_; (case hd => rfl); (case hg => rfl); (case hr => first | (go_simp; done) | (go_simp; rfl)); (case hp => exact (Reps.one (show Kd.M (Kd.int .i64) _ _ _ a2 [.int .i64 a2] from rfl) (Reps.none _ _))); intro v233 w34 ho35 hb hg_ hnew_; clear hg_ hnew_; (first | rw [← Ny232.out] at ho35 | (simp only [Int.reduceToNat] at ho35; rw [← Ny232.out] at ho35)); have n0_ := ak (Kd.R_elder' (vr HO228.out) (Kd.R_base ho35) hb); have n1_ := ak (Kd.R_elder' (vr HO231.out) (Kd.R_base ho35) hb); have n2_ := ak (Kd.R_lower (Kd.R_new' (Kd.R_new' ho35 (Kd.R_lt (vr HO228.out))) (Kd.R_lt (vr HO231.out))) (below_size (vs1 HB.out GE222.out))); have n3_ := ak (blk_below (vb BK222.out) hb); have n4_ := ak (below_step (vs1 HB.out GE222.out) hb); clear HO228; clear HO231; clear BK222; clear HB; have HO228 := n0_; have HO231 := n1_; have HO234 := n2_; have BK222 := n3_; have HB := n4_; clear n0_ n1_ n2_ n3_ n4_; clear hb ho35; have p27 : 0 ≤ (a2 : Int) := of_decide_eq_true va; have q27 : (a2 : Int) < ((t229.length : Int) : Int) := of_decide_eq_true va; obtain ⟨go27, co27, eo27, gb27, gl27, cl27, HG27⟩ := Kd.R_form HO231.out (by omega); (first | cases eo27 | (injection eo27 with ea_ en_ ec_; (first | subst ea_ | (injection ea_ with ea_; subst ea_)); subst ec_; clear en_)); have GB27 := Aside0.mk gb27; have GG27 := Aside0.mk HG27; clear gb27 gl27 HG27; obtain ⟨hx27_0, hf27_0⟩ := Kd.R_celln 0 HO231.out (a2 : Int) p27 q27; replace p27 := eq_true p27; replace q27 := eq_true q27; have n_ := ak (Kd.R_mono (ok' := (fun k_ => some k_ ≠ (.slice Ao32 y226.length co32 : Value).ownBlock ∧ some k_ ≠ (v233 : Value).ownBlock)) HO231.out (fun k_ hk => ⟨hk.1.2, hk.2⟩)); clear HO231; have HO231 := n_; clear n_; obtain ⟨hy36_, hz36_⟩ := Kd.R_celln 0 HO231.out (a2 : Int) (of_decide_eq_true va) (of_decide_eq_true va); have HP36 := Kd.R_putg HO231.out (a2 : Int) 0) | ((with_reducible refine gate_store (t := 3) (p := 40) rfl ?_); refine store_event (t := 3) (p := 40) (v := ?vo_w37) (w1 := (w34.setCell ⟨go27, (a2 : Int).toNat, none⟩ (.int .i64 0))) ?hg ?ho ?hn ?hr ?_; (case ho => rfl); (case hg => rfl); (case hn => rfl); (case hr => first | (go_simp; done) | (go_simp; rfl)); intro w37 hw; have hg : w34.grownBy w37 (some go27) := (by rw [hw]; exact HP36.2); have hp_ : Kd.R (Kd.int .i64) 3 w37 w.heap.size (fun k_ => some k_ ≠ (.slice Ao32 y226.length co32 : Value).ownBlock ∧ some k_ ≠ (v233 : Value).ownBlock) (.slice (some ⟨go27, 0, none⟩) t229.length co27) y235 := (by rw [hw, Ny235.out]; exact HP36.1); clear HP36; have n0_ := ak (blk_grown (g := gb222) (o := .cells #[.slice A0_0 l0_0.length c0_0] 28 (0, 0)) (vb BK222.out) hg (Kd.R_ne HO231.out BK222.out (by decide))); have n1_ := ak (Kd.R_after (v := (.slice (some ⟨go27, 0, none⟩) t229.length co27)) (v1 := (.slice (some ⟨go27, 0, none⟩) t229.length co27)) (ok := (fun k_ => some k_ ≠ (v233 : Value).ownBlock)) (by exact vr (Kd.R_mono HO228.out (fun _ hk => ⟨hk.2, hk.1.2⟩))) hg (.inl rfl)); have n2_ := ak (hp_); have n3_ := ak (Kd.R_after (v := (.slice (some ⟨go27, 0, none⟩) t229.length co27)) (v1 := (.slice (some ⟨go27, 0, none⟩) t229.length co27)) (ok := (fun k_ => some k_ ≠ (.slice Ao32 y226.length co32 : Value).ownBlock)) (by exact vr (Kd.R_mono HO234.out (fun _ hk => ⟨hk.1.2, hk.2⟩))) hg (.inl rfl)); have n4_ := ak ((by rw [hw]; exact below_set (HB.out) GB27.out : Below w.heap.size w w37)); clear BK222; clear HO228; clear HO231; clear HO234; clear HB; have BK222 := n0_; have HO228 := n1_; have HO231 := n2_; have HO234 := n3_; have HB := n4_; clear n0_ n1_ n2_ n3_ n4_; clear hg hw hp_))
      go_loopg [9, 10] kj3 (fun kq v9 v10 w' => ∃ (x8_2 : List Int) (x9_2 : List Int) (x10_2 : Int), v10 = .int .i64 x10_2 ∧ Aside0 (impl_MistakeChain.l0 kq a1 a2 x8_2 x9_2 x10_2 l0_0 = some (r1, r2)) ∧ Aside0 (kq ≤ kj3) ∧ Aside0 (Kd.R (Kd.int .i64) 3 w' w.heap.size (fun k_ => some k_ ≠ (v9 : Value).ownBlock) (.slice (some ⟨go27, 0, none⟩) t229.length co27) x8_2) ∧ Aside0 (Kd.R (Kd.int .i64) 3 w' w.heap.size (fun k_ => some k_ ≠ ((.slice (some ⟨go27, 0, none⟩) t229.length co27) : Value).ownBlock) v9 x9_2) ∧ Aside0 (w'.heap[gb222]? = some (.cells #[(.slice A0_0 l0_0.length c0_0)] 28 (0, 0))) ∧ Aside0 (Below w.heap.size w w'))
      case atStart => exact ⟨(y235), (y232), (0), (by first | rfl | (simp; done) | (simp [*]; done)), H', ⟨Nat.le_refl _⟩, ⟨by exact vr (Kd.R_mono HO231.out (fun _ hk => hk.2))⟩, ⟨by exact vr (Kd.R_mono HO234.out (fun _ hk => hk.2))⟩, ⟨by exact vb BK222.out⟩, ⟨by exact vs1 HB.out GE222.out⟩⟩
      case round =>
       clear H'
       try clear c2
       try clear p2
       try clear q2
       try clear hx2
       try clear c4
       try clear c7
       try clear c9
       try clear c23
       try clear c25
       try clear c25b0
       try clear c26
       try clear c26b0
       try clear p27
       try clear q27
       try clear hx27
       try clear hf27
       try clear c29
       try clear hcz11_0
       try clear hcz13_0
       try clear hcz15_0
       try clear hcz17_0
       try clear hcz19_0
       try clear hcz21_0
       try clear hcz30_0
       try clear hfz11_0
       try clear hfz13_0
       try clear hfz15_0
       try clear hfz17_0
       try clear hfz19_0
       try clear hfz21_0
       try clear hfz30_0
       try clear hx27_0
       try clear p2
       try clear p27
       try clear q27
       obtain ⟨x8_2, x9_2, x10_2, rfl, HA, HK2, HO_8, HO_9, BK222, HB⟩ := hrel
       have hl8_2 := (Kd.R_reads' HO_8.out).1
       rw [hl8_2] at HO_8
       (try simp only [hl8_2])
       (try simp only [hl8_2] at BK222)
       (try simp only [hl8_2] at HO_9)
       cases gk with
       | zero => exact absurd HA.out (by simp [impl_MistakeChain.l0])
       | succ k2 =>
        have H := HA.out
        clear HA
        simp only [impl_MistakeChain.l0] at H
        by_cases c38 : x10_2 < (x9_2.length : Int)
        ·rw [if_pos c38] at H
         have c38b0 : decide (x10_2 < (x9_2.length : Int)) = true := decide_eq_true c38
         clear c38
         have H' := Aside0.mk H
         clear H
         obtain ⟨Ao39, co39, eo39⟩ := Kd.R_slice HO_9.out
         subst eo39
         (try (have hnw41 := Kd.R_ne HO_8.out BK222.out (by decide); change some gb222 ≠ some _ at hnw41; have how41 := fun (e_ : gb222 = _) => hnw41 (congrArg some e_); have hpw41 := fun e_ => how41 (Eq.symm e_); clear hnw41; replace how41 := eq_false how41; replace hpw41 := eq_false hpw41))
         (try (have hnw42 := Kd.R_ne HO_9.out BK222.out (by decide); change some gb222 ≠ some _ at hnw42; have how42 := fun (e_ : gb222 = _) => hnw42 (congrArg some e_); have hpw42 := fun e_ => how42 (Eq.symm e_); clear hnw42; replace how42 := eq_false how42; replace hpw42 := eq_false hpw42))
         have hcz40_0 : wr.cell? ⟨gb222, 0, none⟩ = some (.slice A0_0 l0_0.length c0_0) := (blk_cell BK222.out 0).trans rfl
         have hfz40_0 := blk_frozen BK222.out 0
         go_wp2
         go_loopg [9, 50] k2 (fun kq v9 v50 w' => ∃ (x8_3 : List Int) (x9_3 : List Int) (x50_3 : Int), v50 = .int .i64 x50_3 ∧ Aside0 (impl_MistakeChain.l1 kq a1 a2 x8_3 x9_3 x10_2 l0_0 (l0_0.length : Int) x50_3 l0_0 = some (r1, r2)) ∧ Aside0 (kq ≤ k2) ∧ Aside0 (Kd.R (Kd.int .i64) 3 w' w.heap.size (fun k_ => some k_ ≠ (v9 : Value).ownBlock) (.slice (some ⟨go27, 0, none⟩) x8_2.length co27) x8_3) ∧ Aside0 (Kd.R (Kd.int .i64) 3 w' w.heap.size (fun k_ => some k_ ≠ ((.slice (some ⟨go27, 0, none⟩) x8_2.length co27) : Value).ownBlock) v9 x9_3) ∧ Aside0 (w'.heap[gb222]? = some (.cells #[(.slice A0_0 l0_0.length c0_0)] 28 (0, 0))) ∧ Aside0 (Below w.heap.size w w'))
         case atStart => exact ⟨(x8_2), (x9_2), (0), (by first | rfl | (simp; done) | (simp [*]; done)), H', ⟨Nat.le_refl _⟩, ⟨by (try simp only [hl8_2]); exact vr HO_8.out⟩, ⟨by (try simp only [hl8_2]); exact vr HO_9.out⟩, ⟨by (try simp only [hl8_2]); exact vb BK222.out⟩, ⟨by exact vs1 HB.out GE222.out⟩⟩
         case round =>
          clear H'
          try clear c2
          try clear p2
          try clear q2
          try clear hx2
          try clear c3
          try clear c4
          try clear c7
          try clear c9
          try clear c23
          try clear c25
          try clear c25b0
          try clear c26
          try clear c26b0
          try clear p27
          try clear q27
          try clear hx27
          try clear hf27
          try clear c29
          try clear c38
          try clear c38b0
          try clear hcz11_0
          try clear hcz13_0
          try clear hcz15_0
          try clear hcz17_0
          try clear hcz19_0
          try clear hcz21_0
          try clear hcz30_0
          try clear hcz40_0
          try clear hfz11_0
          try clear hfz13_0
          try clear hfz15_0
          try clear hfz17_0
          try clear hfz19_0
          try clear hfz21_0
          try clear hfz30_0
          try clear hfz40_0
          try clear hx27_0
          try clear p2
          try clear p27
          try clear q2
          try clear q27
          obtain ⟨x8_3, x9_3, x50_3, rfl, HA, HK3, HO_8, HO_9, BK222, HB⟩ := hrel
          have hl8_3 := (Kd.R_reads' HO_8.out).1
          rw [hl8_3] at HO_8
          (try simp only [hl8_3])
          (try simp only [hl8_3] at BK222)
          (try simp only [hl8_3] at HO_9)
          cases gk with
          | zero => exact absurd HA.out (by simp [impl_MistakeChain.l1])
          | succ k3 =>
           have H := HA.out
           clear HA
           simp only [impl_MistakeChain.l1] at H
           by_cases c43 : x50_3 < (l0_0.length : Int)
           ·rw [if_pos c43] at H
            have c43b0 : decide (x50_3 < (l0_0.length : Int)) = true := decide_eq_true c43
            clear c43
            by_cases c44 : 0 ≤ x50_3
            ·rw [if_pos c44] at H
             have c44b0 : decide (0 ≤ x50_3) = true := decide_eq_true c44
             clear c44
             by_cases c45 : x50_3 < (l0_0.length : Int)
             ·rw [if_pos c45] at H
              have c45b0 : decide (x50_3 < (l0_0.length : Int)) = true := decide_eq_true c45
              clear c45
              by_cases c46 : x50_3 < (x8_3.length : Int)
              ·rw [if_pos c46] at H
               have c46b0 : decide (x50_3 < (x8_3.length : Int)) = true := decide_eq_true c46
               clear c46
               by_cases c47 : (rd x8_3 x50_3) < 0
               ·rw [if_pos c47] at H
                have c47b0 : decide ((rd x8_3 x50_3) < 0) = true := decide_eq_true c47
                clear c47
                by_cases c48 : 0 ≤ x10_2
                ·rw [if_pos c48] at H
                 have c48b0 : decide (0 ≤ x10_2) = true := decide_eq_true c48
                 clear c48
                 by_cases c49 : x10_2 < (x9_3.length : Int)
                 ·rw [if_pos c49] at H
                  have c49b0 : decide (x10_2 < (x9_3.length : Int)) = true := decide_eq_true c49
                  clear c49
                  by_cases c50 : 0 ≤ (rd x9_3 x10_2)
                  ·rw [if_pos c50] at H
                   have c50b0 : decide (0 ≤ (rd x9_3 x10_2)) = true := decide_eq_true c50
                   clear c50
                   by_cases c51 : (rd x9_3 x10_2) < (l0_0.length : Int)
                   ·rw [if_pos c51] at H
                    have c51b0 : decide ((rd x9_3 x10_2) < (l0_0.length : Int)) = true := decide_eq_true c51
                    clear c51
                    replace H := Option.bind_eq_some_iff.mp H
                    obtain ⟨t240, A520, H⟩ := H
                    replace H : (if t240 = 1 then (if (rd x9_3 x10_2) < (x8_3.length : Int) then (if x9_3.length < 17592186044416 then (impl_MistakeChain.l1 k3 a1 a2 (x8_3.set (x50_3 : Int).toNat (wrap64 ((rd x8_3 (rd x9_3 x10_2)) + 1))) (x9_3 ++ [x50_3]) x10_2 l0_0 (l0_0.length : Int) (wrap64 (x50_3 + 1)) l0_0) else (none)) else (none)) else (impl_MistakeChain.l1 k3 a1 a2 x8_3 x9_3 x10_2 l0_0 (l0_0.length : Int) (wrap64 (x50_3 + 1)) l0_0)) = some (r1, r2) := H
                    have A52 := Aside0.mk A520
                    clear A520
                    by_cases c53 : t240 = 1
                    ·rw [if_pos c53] at H
                     have c53b0 : (t240 == 1) = true := beq_iff_eq.mpr c53
                     have c53b1 : (t240 != 1) = false := bne_eq_false_iff_eq.mpr c53
                     clear c53
                     by_cases c54 : (rd x9_3 x10_2) < (x8_3.length : Int)
                     ·rw [if_pos c54] at H
                      have c54b0 : decide ((rd x9_3 x10_2) < (x8_3.length : Int)) = true := decide_eq_true c54
                      clear c54
                      obtain ⟨y243, hy243⟩ : ∃ y_ : List Int, y_ = (x8_3.set (x50_3 : Int).toNat (wrap64 ((rd x8_3 (rd x9_3 x10_2)) + 1))) := ⟨_, rfl⟩
                      replace H : (if x9_3.length < 17592186044416 then (impl_MistakeChain.l1 k3 a1 a2 y243 (x9_3 ++ [x50_3]) x10_2 l0_0 (l0_0.length : Int) (wrap64 (x50_3 + 1)) l0_0) else (none)) = some (r1, r2) := by first | (rw [hy243]; with_reducible exact H) | (have H2_ := (Option.bind_some _ _).symm.trans H; rw [hy243]; with_reducible exact H2_) | (have H2_ := (Option.bind_some _ _).symm.trans H; with_reducible exact H2_) | with_reducible exact H | (rw [hy243]; exact H) | exact H
                      have Ny243 := Aside0.mk hy243
                      clear hy243
                      by_cases c56 : x9_3.length < 17592186044416
                      ·rw [if_pos c56] at H
                       have LMc56 := Aside0.mk c56
                       clear c56
                       obtain ⟨y244, hy244⟩ : ∃ y_ : List Int, y_ = (x9_3 ++ [x50_3]) := ⟨_, rfl⟩
                       replace H : (impl_MistakeChain.l1 k3 a1 a2 y243 y244 x10_2 l0_0 (l0_0.length : Int) (wrap64 (x50_3 + 1)) l0_0) = some (r1, r2) := by first | (rw [hy244]; with_reducible exact H) | (have H2_ := (Option.bind_some _ _).symm.trans H; rw [hy244]; with_reducible exact H2_) | (have H2_ := (Option.bind_some _ _).symm.trans H; with_reducible exact H2_) | with_reducible exact H | (rw [hy244]; exact H) | exact H
                       have Ny244 := Aside0.mk hy244
                       clear hy244
                       have H' := Aside0.mk H
                       clear H
                       have p236 : 0 ≤ (x50_3 : Int) := of_decide_eq_true va
                       have q236 : x50_3 < (l0_0.length : Int) := of_decide_eq_true va
                       obtain ⟨ad236, e236, hx236_0⟩ := Kd.at_string HR0_0.out x50_3 p236 q236
                       cases e236
                       (try replace hx236_0 := (HB.out.cell (World.block_lt_of_cell? w _ hx236_0)).trans hx236_0)
                       replace p236 := eq_true p236
                       replace q236 := eq_true q236
                       try go_wp2
                       have n0_ := ak (Kd.R_drew HO_8.out)
                       have n1_ := ak (Kd.R_drew HO_9.out)
                       have n2_ := ak (blk_drew BK222.out)
                       have n3_ := ak (below_drew1 HB.out)
                       clear HO_8
                       clear HO_9
                       clear BK222
                       clear HB
                       have HO_8 := n0_
                       have HO_9 := n1_
                       have BK222 := n2_
                       have HB := n3_
                       clear n0_ n1_ n2_ n3_
                       have p237 : 0 ≤ (x50_3 : Int) := of_decide_eq_true va
                       have q237 : x50_3 < (x8_3.length : Int) := of_decide_eq_true va
                       obtain ⟨ad237, e237, hx237_0⟩ := Kd.at_int (Kd.R_reads' HO_8.out).2.2 x50_3 p237 q237
                       obtain rfl : (⟨go27, 0, none⟩ : Addr) = ad237 := (by injection e237)
                       (first | simp only [add_plain] at hx237_0 | simp only [add_at] at hx237_0 | simp only [Addr.add, Nat.zero_add] at hx237_0 | skip)
                       replace p237 := eq_true p237
                       replace q237 := eq_true q237
                       obtain ⟨Ao58, co58, eo58⟩ := Kd.R_slice HO_9.out
                       (first | subst eo58 | (injection eo58 with f1_ f2_ f3_; have f4_ := f1_.symm; have f5_ := f3_.symm; clear f1_ f2_ f3_; subst f4_; subst f5_))
                       have p238 : 0 ≤ (x10_2 : Int) := of_decide_eq_true va
                       have q238 : x10_2 < (x9_3.length : Int) := of_decide_eq_true va
                       obtain ⟨ad238, e238, hx238_0⟩ := Kd.at_int (Kd.R_reads' HO_9.out).2.2 x10_2 p238 q238
                       cases e238
                       replace p238 := eq_true p238
                       replace q238 := eq_true q238
                       have p239 : 0 ≤ ((rd x9_3 x10_2) : Int) := of_decide_eq_true va
                       have q239 : (rd x9_3 x10_2) < (l0_0.length : Int) := of_decide_eq_true va
                       obtain ⟨ad239, e239, hx239_0⟩ := Kd.at_string HR0_0.out (rd x9_3 x10_2) p239 q239
                       have hw239_0 := hx239_0
                       obtain rfl : ad236 = ad239 := (by injection e239)
                       (try replace hx239_0 := (HB.out.cell (World.block_lt_of_cell? w _ hx239_0)).trans hx239_0)
                       replace p239 := eq_true p239
                       replace q239 := eq_true q239
                       refine start_ (n := 18) (S := fun w' => w'.cell? ⟨gb222, 0, none⟩ = some (.slice (some ad236) l0_0.length c0_0) ∧ w'.cell? ⟨go27, (x50_3).toNat, none⟩ = some (.int .i64 (rd x8_3 x50_3)) ∧ w'.cell? (ad238.add (x10_2).toNat) = some (.int .i64 (rd x9_3 x10_2)) ∧ w'.cell? (ad236.add ((rd x9_3 x10_2)).toNat) = some (.string (rdOf ByteArray.empty l0_0 (rd x9_3 x10_2)))) (ds := []) #[false, false, false, false, false, false, false, false, false, false, false, false, false, false, false, false, false, false] (by kernel_rfl) rfl rfl ⟨(blk_cell BK222.out 0).trans rfl, hx237_0, hx238_0, ((HB.out.cell (World.block_lt_of_cell? w _ hw239_0)).trans hw239_0)⟩ (fun hHeld => ?_); refine with_tabW impl_MistakeChain.tab11 impl_MistakeChain.bits11 (fun HT_ HW_ => ?_)
                       generalize wr.drew = w57 at HO_8 HO_9 BK222 HB hx237_0 hx238_0 hx239_0 hHeld ⊢
                       refine pure_ (i := 0) (N := some 55) (v := ?_) (a' := ?_) #[true, false, false, false, false, false, false, false, false, false, false, false, false, false, false, false, false, false] rfl rfl (ao HT_.out) (fun _ _ _ h => h) (Or.inl ⟨by rfl, ?_⟩) ?_ ?_
                       rotate_left
                       ·intro w'
                        go_simp
                        with_reducible rfl
                       rotate_left
                       ·simp only [Act.put, List.setIfInBounds_toArray, List.set_cons_zero, List.set_cons_succ, i64_w, i32_w]
                        rfl
                       refine pure_ (i := 1) (N := some 56) (v := ?_) (a' := ?_) #[true, true, false, false, false, false, false, false, false, false, false, false, false, false, false, false, false, false] rfl rfl (ao HT_.out) (fun _ _ _ h => h) (Or.inl ⟨by rfl, ?_⟩) ?_ ?_
                       rotate_left
                       ·intro w'
                        go_simp
                        with_reducible rfl
                       rotate_left
                       ·simp only [Act.put, List.setIfInBounds_toArray, List.set_cons_zero, List.set_cons_succ, i64_w, i32_w]
                        rfl
                       refine pure_ (i := 2) (N := some 57) (v := ?_) (a' := ?_) #[true, true, true, false, false, false, false, false, false, false, false, false, false, false, false, false, false, false] rfl rfl (ao HT_.out) (fun _ _ _ h => h) (Or.inl ⟨by rfl, ?_⟩) ?_ ?_
                       rotate_left
                       ·intro w'
                        go_simp
                        with_reducible rfl
                       rotate_left
                       ·simp only [Act.put, List.setIfInBounds_toArray, List.set_cons_zero, List.set_cons_succ, i64_w, i32_w]
                        rfl
                       refine take_ (i := 3) (N := some 58) (v := ?_) (a' := ?_) #[true, true, true, true, false, false, false, false, false, false, false, false, false, false, false, false, false, false] rfl rfl (take_ofW HT_.out HW_.out (by kernel_rfl)) (fun _ _ _ h => h) (Or.inl ⟨by rfl, ?_⟩) hHeld ?_ ?_
                       rotate_left
                       ·rintro w' ⟨s0, s1, s2, s3⟩
                        go_simp
                        with_reducible rfl
                       rotate_left
                       ·simp only [Act.put, List.setIfInBounds_toArray, List.set_cons_zero, List.set_cons_succ, i64_w, i32_w]
                        rfl
                       refine pure_ (i := 4) (N := some 59) (v := ?_) (a' := ?_) #[true, true, true, true, true, false, false, false, false, false, false, false, false, false, false, false, false, false] rfl rfl (ao HT_.out) (fun _ _ _ h => h) (Or.inl ⟨by rfl, ?_⟩) ?_ ?_
                       rotate_left
                       ·intro w'
                        go_simp
                        with_reducible rfl
                       rotate_left
                       ·simp only [Act.put, List.setIfInBounds_toArray, List.set_cons_zero, List.set_cons_succ, i64_w, i32_w]
                        rfl
                       refine pure_ (i := 5) (N := some 60) (v := ?_) (a' := ?_) #[true, true, true, true, true, true, false, false, false, false, false, false, false, false, false, false, false, false] rfl rfl (ao HT_.out) (fun _ _ _ h => h) (Or.inl ⟨by rfl, ?_⟩) ?_ ?_
                       rotate_left
                       ·intro w'
                        go_simp
                        with_reducible rfl
                       rotate_left
                       ·simp only [Act.put, List.setIfInBounds_toArray, List.set_cons_zero, List.set_cons_succ, i64_w, i32_w]
                        rfl
                       refine pure_ (i := 6) (N := some 61) (v := ?_) (a' := ?_) #[true, true, true, true, true, true, true, false, false, false, false, false, false, false, false, false, false, false] rfl rfl (ao HT_.out) (fun _ _ _ h => h) (Or.inl ⟨by rfl, ?_⟩) ?_ ?_
                       rotate_left
                       ·intro w'
                        go_simp
                        with_reducible rfl
                       rotate_left
                       ·simp only [Act.put, List.setIfInBounds_toArray, List.set_cons_zero, List.set_cons_succ, i64_w, i32_w]
                        rfl
                       refine pure_ (i := 7) (N := some 62) (v := ?_) (a' := ?_) #[true, true, true, true, true, true, true, true, false, false, false, false, false, false, false, false, false, false] rfl rfl (ao HT_.out) (fun _ _ _ h => h) (Or.inl ⟨by rfl, ?_⟩) ?_ ?_
                       rotate_left
                       ·intro w'
                        go_simp
                        with_reducible rfl
                       rotate_left
                       ·simp only [Act.put, List.setIfInBounds_toArray, List.set_cons_zero, List.set_cons_succ, i64_w, i32_w]
                        rfl
                       refine pure_ (i := 9) (N := some 64) (v := ?_) (a' := ?_) #[true, true, true, true, true, true, true, true, false, true, false, false, false, false, false, false, false, false] rfl rfl (ao HT_.out) (fun _ _ _ h => h) (Or.inl ⟨by rfl, ?_⟩) ?_ ?_
                       rotate_left
                       ·intro w'
                        go_simp
                        with_reducible rfl
                       rotate_left
                       ·simp only [Act.put, List.setIfInBounds_toArray, List.set_cons_zero, List.set_cons_succ, i64_w, i32_w]
                        rfl
                       refine pure_ (i := 10) (N := some 65) (v := ?_) (a' := ?_) #[true, true, true, true, true, true, true, true, false, true, true, false, false, false, false, false, false, false] rfl rfl (ao HT_.out) (fun _ _ _ h => h) (Or.inl ⟨by rfl, ?_⟩) ?_ ?_
                       rotate_left
                       ·intro w'
                        go_simp
                        with_reducible rfl
                       rotate_left
                       ·simp only [Act.put, List.setIfInBounds_toArray, List.set_cons_zero, List.set_cons_succ, i64_w, i32_w]
                        rfl
                       refine pure_ (i := 11) (N := some 66) (v := ?_) (a' := ?_) #[true, true, true, true, true, true, true, true, false, true, true, true, false, false, false, false, false, false] rfl rfl (ao HT_.out) (fun _ _ _ h => h) (Or.inl ⟨by rfl, ?_⟩) ?_ ?_
                       rotate_left
                       ·intro w'
                        go_simp
                        with_reducible rfl
                       rotate_left
                       ·simp only [Act.put, List.setIfInBounds_toArray, List.set_cons_zero, List.set_cons_succ, i64_w, i32_w]
                        rfl
                       refine take_ (i := 8) (N := some 63) (v := ?_) (a' := ?_) #[true, true, true, true, true, true, true, true, true, true, true, true, false, false, false, false, false, false] rfl rfl (take_ofW HT_.out HW_.out (by kernel_rfl)) (fun _ _ _ h => h) (Or.inl ⟨by rfl, ?_⟩) hHeld ?_ ?_
                       rotate_left
                       ·rintro w' ⟨s0, s1, s2, s3⟩
                        go_simp
                        with_reducible rfl
                       rotate_left
                       ·simp only [Act.put, List.setIfInBounds_toArray, List.set_cons_zero, List.set_cons_succ, i64_w, i32_w]
                        rfl
                       refine take_ (i := 12) (N := some 67) (v := ?_) (a' := ?_) #[true, true, true, true, true, true, true, true, true, true, true, true, true, false, false, false, false, false] rfl rfl (take_ofW HT_.out HW_.out (by kernel_rfl)) (fun _ _ _ h => h) (Or.inl ⟨by rfl, ?_⟩) hHeld ?_ ?_
                       rotate_left
                       ·rintro w' ⟨s0, s1, s2, s3⟩
                        go_simp
                        with_reducible rfl
                       rotate_left
                       ·simp only [Act.put, List.setIfInBounds_toArray, List.set_cons_zero, List.set_cons_succ, i64_w, i32_w]
                        rfl
                       refine pure_ (i := 13) (N := some 68) (v := ?_) (a' := ?_) #[true, true, true, true, true, true, true, true, true, true, true, true, true, true, false, false, false, false] rfl rfl (ao HT_.out) (fun _ _ _ h => h) (Or.inl ⟨by rfl, ?_⟩) ?_ ?_
                       rotate_left
                       ·intro w'
                        go_simp
                        with_reducible rfl
                       rotate_left
                       ·simp only [Act.put, List.setIfInBounds_toArray, List.set_cons_zero, List.set_cons_succ, i64_w, i32_w]
                        rfl
                       refine take_ (i := 14) (N := some 69) (v := ?_) (a' := ?_) #[true, true, true, true, true, true, true, true, true, true, true, true, true, true, true, false, false, false] rfl rfl (take_ofW HT_.out HW_.out (by kernel_rfl)) (fun _ _ _ h => h) (Or.inl ⟨by rfl, ?_⟩) hHeld ?_ ?_
                       rotate_left
                       ·rintro w' ⟨s0, s1, s2, s3⟩
                        go_simp
                        with_reducible rfl
                       rotate_left
                       ·simp only [Act.put, List.setIfInBounds_toArray, List.set_cons_zero, List.set_cons_succ, i64_w, i32_w]
                        rfl
                       refine one_ (i := 15) (N := some 70) #[true, true, true, true, true, true, true, true, true, true, true, true, true, true, true, true, false, false] rfl rfl (one_of HT_.out (by kernel_rfl)) (by decide) (fun K hK => ?_)
                       refine goes_ Tryd.func58 (by kernel_rfl) rfl #[.string (rdOf ByteArray.empty l0_0 x50_3), .string (rdOf ByteArray.empty l0_0 (rd x9_3 x10_2))] (by rfl) rfl rfl vm ?_
                       with_reducible refine (impl_distance.calls k3 (rdOf ByteArray.empty l0_0 x50_3) (rdOf ByteArray.empty l0_0 (rd x9_3 x10_2)) t240 _ A52.out).mono ?_
                       rintro e w59 ⟨rfl, hb⟩
                       have HS1_ := (hb.cell (World.block_lt_of_cell? _ _ (hHeld.2.1))).trans (hHeld.2.1)
                       have HS2_ := (hb.cell (World.block_lt_of_cell? _ _ (hHeld.2.2.1))).trans (hHeld.2.2.1)
                       refine ⟨_, rfl, ?_⟩
                       have n0_ := ak (Kd.R_below (vr HO_8.out) hb)
                       have n1_ := ak (Kd.R_below (vr HO_9.out) hb)
                       have n2_ := ak (blk_below (vb BK222.out) hb)
                       have n3_ := ak (below_step (vs1 HB.out GE222.out) hb)
                       clear HO_8
                       clear HO_9
                       clear BK222
                       clear HB
                       have HO_8 := n0_
                       have HO_9 := n1_
                       have BK222 := n2_
                       have HB := n3_
                       clear n0_ n1_ n2_ n3_
                       (try clear hb)
                       (try clear hb2)
                       (try clear hk)
                       (try clear hi)
                       refine hK.out _ _ ⟨(blk_cell BK222.out 0).trans rfl, HS1_, HS2_, ((HB.out.cell (World.block_lt_of_cell? w _ hw239_0)).trans hw239_0)⟩ (fun hHeld => ?_)
                       clear hK K
                       refine norm_ (a' := ?_) ?_ ?_
                       rotate_left
                       ·show Act.put _ (some 70) _ = _
                        simp only [Act.put, List.setIfInBounds_toArray, List.set_cons_zero, List.set_cons_succ, i64_w, i32_w]
                        rfl
                       refine pure_ (i := 16) (N := some 71) (v := ?_) (a' := ?_) #[true, true, true, true, true, true, true, true, true, true, true, true, true, true, true, true, true, false] rfl rfl (ao HT_.out) (fun _ _ _ h => h) (Or.inl ⟨by rfl, ?_⟩) ?_ ?_
                       rotate_left
                       ·intro w'
                        go_simp
                        with_reducible rfl
                       rotate_left
                       ·simp only [Act.put, List.setIfInBounds_toArray, List.set_cons_zero, List.set_cons_succ, i64_w, i32_w]
                        rfl
                       refine pure_ (i := 17) (N := some 72) (v := ?_) (a' := ?_) #[true, true, true, true, true, true, true, true, true, true, true, true, true, true, true, true, true, true] rfl rfl (ao HT_.out) (fun _ _ _ h => h) (Or.inl ⟨by rfl, ?_⟩) ?_ ?_
                       rotate_left
                       ·intro w'
                        go_simp
                        with_reducible rfl
                       rotate_left
                       ·simp only [Act.put, List.setIfInBounds_toArray, List.set_cons_zero, List.set_cons_succ, i64_w, i32_w]
                        rfl
                       refine done_ (done_of HT_.out (by kernel_rfl)) ?_
                       have p241 : 0 ≤ (x10_2 : Int) := of_decide_eq_true va
                       have q241 : x10_2 < (x9_3.length : Int) := of_decide_eq_true va
                       obtain ⟨ad241, e241, hx241_0⟩ := Kd.at_int (Kd.R_reads' HO_9.out).2.2 x10_2 p241 q241
                       obtain rfl : ad238 = ad241 := (by injection e241)
                       replace p241 := eq_true p241
                       replace q241 := eq_true q241
                       have p242 : 0 ≤ ((rd x9_3 x10_2) : Int) := of_decide_eq_true va
                       have q242 : (rd x9_3 x10_2) < (x8_3.length : Int) := of_decide_eq_true va
                       obtain ⟨ad242, e242, hx242_0⟩ := Kd.at_int (Kd.R_reads' HO_8.out).2.2 (rd x9_3 x10_2) p242 q242
                       obtain rfl : (⟨go27, 0, none⟩ : Addr) = ad242 := (by injection e242)
                       (first | simp only [add_plain] at hx242_0 | simp only [add_at] at hx242_0 | simp only [Addr.add, Nat.zero_add] at hx242_0 | skip)
                       replace p242 := eq_true p242
                       replace q242 := eq_true q242
                       have p55 : 0 ≤ (x50_3 : Int) := of_decide_eq_true va
                       have q55 : (x50_3 : Int) < ((x8_3.length : Int) : Int) := of_decide_eq_true va
                       obtain ⟨hx55_0, hf55_0⟩ := Kd.R_celln 0 HO_8.out (x50_3 : Int) p55 q55
                       replace p55 := eq_true p55
                       replace q55 := eq_true q55
                       obtain ⟨hy60_, hz60_⟩ := Kd.R_celln 0 HO_8.out (x50_3 : Int) (of_decide_eq_true va) (of_decide_eq_true va)
                       have HP60 := Kd.R_putg HO_8.out (x50_3 : Int) (wrap64 ((rd x8_3 (rd x9_3 x10_2)) + 1))
                       try go_wp2_with (first | ((with_reducible refine gate_store (t := 3) (p := 83) rfl ?_); refine store_event (t := 3) (p := 83) (v := ?vo_w61) (w1 := (w59.setCell ⟨go27, (x50_3 : Int).toNat, none⟩ (.int .i64 (wrap64 ((rd x8_3 (rd x9_3 x10_2)) + 1))))) ?hg ?ho ?hn ?hr ?_; (case ho => rfl); (case hg => rfl); (case hn => rfl); (case hr => first | (go_simp; done) | (go_simp; rfl)); intro w61 hw; have hg : w59.grownBy w61 (some go27) := (by rw [hw]; exact HP60.2); have hp_ : Kd.R (Kd.int .i64) 3 w61 w.heap.size (fun k_ => some k_ ≠ (.slice (some ad238) x9_3.length co58 : Value).ownBlock) (.slice (some ⟨go27, 0, none⟩) x8_3.length co27) y243 := (by rw [hw, Ny243.out]; exact HP60.1); clear HP60; have n0_ := ak (hp_); have n1_ := ak (Kd.R_after (v := (.slice (some ⟨go27, 0, none⟩) x8_3.length co27)) (v1 := (.slice (some ⟨go27, 0, none⟩) x8_3.length co27)) (ok := (fun _ => True)) (by exact vr (Kd.R_mono HO_9.out (fun _ hk => ⟨trivial, hk⟩))) hg (.inl rfl)); have n2_ := ak (blk_grown (g := gb222) (o := .cells #[.slice (some ad236) l0_0.length c0_0] 28 (0, 0)) (vb BK222.out) hg (Kd.R_ne HO_8.out BK222.out (by decide))); have n3_ := ak ((by rw [hw]; exact below_set (HB.out) GB27.out : Below w.heap.size w w61)); clear HO_8; clear HO_9; clear BK222; clear HB; have HO_8 := n0_; have HO_9 := n1_; have BK222 := n2_; have HB := n3_; clear n0_ n1_ n2_ n3_; clear hg hw hp_) | ((with_reducible refine gate_builtin (b := .append) (xs := #[.tmp 84, .tmp 86]) rfl ?_); at_builtin; refine Kd.R_append (Kd.int .i64) (w0 := w) w.heap.size rfl (.tmp 84) (.tmp 86) 32 3 (.int .i64 0) 8 rfl Tryd.underlying32 info3 rfl (by decide) (by omega) (.slice (some ad238) x9_3.length co58) x9_3 x50_3 [.int .i64 x50_3] (fun k_ => some k_ ≠ (.slice (some ⟨go27, 0, none⟩) x8_3.length co27 : Value).ownBlock) (fun _ => False) rfl rfl ?aP (fun _ hk => hk.elim) ?aF ?aO ?aB ?aS ?aL ?_; (case aP => exact rfl); (case aB => exact (vs1 HB.out GE222.out)); (case aF => exact (fun k_ hk => Kd.fresh' (Kd.R_lt (vr HO_8.out)) k_ hk)); (case aO => exact (by exact vr (Kd.R_mono HO_9.out (fun _ hk => hk.2)))); (case aS => exact (below_size (vs1 HB.out GE222.out))); (case aL => have := LMc56.out; omega); intro v245 w62 ho hb hg hat; rw [← Ny244.out] at ho; have n0_ := ak (Kd.R_after (ok := (fun _ => True)) (by exact vr (Kd.R_mono HO_8.out (fun _ hk => ⟨trivial, hk⟩))) hg hat); have n1_ := ak (blk_grown (g := gb222) (o := .cells #[.slice (some ad236) l0_0.length c0_0] 28 (0, 0)) (vb BK222.out) hg (Kd.R_ne HO_9.out BK222.out (by decide))); have n2_ := ak (hb); have n3_ := ak (ho); clear HO_8; clear BK222; clear HB; clear HO_9; have HO_8 := n0_; have BK222 := n1_; have HB := n2_; have HO246 := n3_; clear n0_ n1_ n2_ n3_; clear ho hb hg hat))
                       (try simp only [← hl8_3])
                       go_roundg k3
                       case measure => have := HJ3.out; have := HK2.out; have := HK3.out; omega
                       case rel => exact ⟨(y243), (y244), (wrap64 (x50_3 + 1)), vq, H', ⟨by have := HJ3.out; have := HK2.out; have := HK3.out; omega⟩, ⟨by (try simp only [hl8_2]); (try simp only [hl8_3]); exact vr (Kd.R_mono HO_8.out (fun _ hk => hk.2))⟩, ⟨by (try simp only [hl8_2]); (try simp only [hl8_3]); exact vr HO246.out⟩, ⟨by (try simp only [hl8_2]); (try simp only [hl8_3]); exact vb BK222.out⟩, ⟨by exact vs1 HB.out GE222.out⟩⟩
                      ·rw [if_neg c56] at H
                       exact absurd H (by simp)
                     ·rw [if_neg c54] at H
                      exact absurd H (by simp)
                    ·rw [if_neg c53] at H
                     have c53b0 : (t240 == 1) = false := beq_eq_false_iff_ne.mpr c53
                     have c53b1 : (t240 != 1) = true := bne_iff_ne.mpr c53
                     have H' := Aside0.mk H
                     clear H
                     have p236 : 0 ≤ (x50_3 : Int) := of_decide_eq_true va
                     have q236 : x50_3 < (l0_0.length : Int) := of_decide_eq_true va
                     obtain ⟨ad236, e236, hx236_0⟩ := Kd.at_string HR0_0.out x50_3 p236 q236
                     cases e236
                     (try replace hx236_0 := (HB.out.cell (World.block_lt_of_cell? w _ hx236_0)).trans hx236_0)
                     replace p236 := eq_true p236
                     replace q236 := eq_true q236
                     try go_wp2
                     have n0_ := ak (Kd.R_drew HO_8.out)
                     have n1_ := ak (Kd.R_drew HO_9.out)
                     have n2_ := ak (blk_drew BK222.out)
                     have n3_ := ak (below_drew1 HB.out)
                     clear HO_8
                     clear HO_9
                     clear BK222
                     clear HB
                     have HO_8 := n0_
                     have HO_9 := n1_
                     have BK222 := n2_
                     have HB := n3_
                     clear n0_ n1_ n2_ n3_
                     have p237 : 0 ≤ (x50_3 : Int) := of_decide_eq_true va
                     have q237 : x50_3 < (x8_3.length : Int) := of_decide_eq_true va
                     obtain ⟨ad237, e237, hx237_0⟩ := Kd.at_int (Kd.R_reads' HO_8.out).2.2 x50_3 p237 q237
                     obtain rfl : (⟨go27, 0, none⟩ : Addr) = ad237 := (by injection e237)
                     (first | simp only [add_plain] at hx237_0 | simp only [add_at] at hx237_0 | simp only [Addr.add, Nat.zero_add] at hx237_0 | skip)
                     replace p237 := eq_true p237
                     replace q237 := eq_true q237
                     obtain ⟨Ao64, co64, eo64⟩ := Kd.R_slice HO_9.out
                     (first | subst eo64 | (injection eo64 with f1_ f2_ f3_; have f4_ := f1_.symm; have f5_ := f3_.symm; clear f1_ f2_ f3_; subst f4_; subst f5_))
                     have p238 : 0 ≤ (x10_2 : Int) := of_decide_eq_true va
                     have q238 : x10_2 < (x9_3.length : Int) := of_decide_eq_true va
                     obtain ⟨ad238, e238, hx238_0⟩ := Kd.at_int (Kd.R_reads' HO_9.out).2.2 x10_2 p238 q238
                     cases e238
                     replace p238 := eq_true p238
                     replace q238 := eq_true q238
                     have p239 : 0 ≤ ((rd x9_3 x10_2) : Int) := of_decide_eq_true va
                     have q239 : (rd x9_3 x10_2) < (l0_0.length : Int) := of_decide_eq_true va
                     obtain ⟨ad239, e239, hx239_0⟩ := Kd.at_string HR0_0.out (rd x9_3 x10_2) p239 q239
                     have hw239_0 := hx239_0
                     obtain rfl : ad236 = ad239 := (by injection e239)
                     (try replace hx239_0 := (HB.out.cell (World.block_lt_of_cell? w _ hx239_0)).trans hx239_0)
                     replace p239 := eq_true p239
                     replace q239 := eq_true q239
                     refine start_ (n := 18) (S := fun w' => w'.cell? ⟨gb222, 0, none⟩ = some (.slice (some ad236) l0_0.length c0_0) ∧ w'.cell? ⟨go27, (x50_3).toNat, none⟩ = some (.int .i64 (rd x8_3 x50_3)) ∧ w'.cell? (ad238.add (x10_2).toNat) = some (.int .i64 (rd x9_3 x10_2)) ∧ w'.cell? (ad236.add ((rd x9_3 x10_2)).toNat) = some (.string (rdOf ByteArray.empty l0_0 (rd x9_3 x10_2)))) (ds := []) #[false, false, false, false, false, false, false, false, false, false, false, false, false, false, false, false, false, false] (by kernel_rfl) rfl rfl ⟨(blk_cell BK222.out 0).trans rfl, hx237_0, hx238_0, ((HB.out.cell (World.block_lt_of_cell? w _ hw239_0)).trans hw239_0)⟩ (fun hHeld => ?_); refine with_tabW impl_MistakeChain.tab11 impl_MistakeChain.bits11 (fun HT_ HW_ => ?_)
                     generalize wr.drew = w63 at HO_8 HO_9 BK222 HB hx237_0 hx238_0 hx239_0 hHeld ⊢
                     refine pure_ (i := 0) (N := some 55) (v := ?_) (a' := ?_) #[true, false, false, false, false, false, false, false, false, false, false, false, false, false, false, false, false, false] rfl rfl (ao HT_.out) (fun _ _ _ h => h) (Or.inl ⟨by rfl, ?_⟩) ?_ ?_
                     rotate_left
                     ·intro w'
                      go_simp
                      with_reducible rfl
                     rotate_left
                     ·simp only [Act.put, List.setIfInBounds_toArray, List.set_cons_zero, List.set_cons_succ, i64_w, i32_w]
                      rfl
                     refine pure_ (i := 1) (N := some 56) (v := ?_) (a' := ?_) #[true, true, false, false, false, false, false, false, false, false, false, false, false, false, false, false, false, false] rfl rfl (ao HT_.out) (fun _ _ _ h => h) (Or.inl ⟨by rfl, ?_⟩) ?_ ?_
                     rotate_left
                     ·intro w'
                      go_simp
                      with_reducible rfl
                     rotate_left
                     ·simp only [Act.put, List.setIfInBounds_toArray, List.set_cons_zero, List.set_cons_succ, i64_w, i32_w]
                      rfl
                     refine pure_ (i := 2) (N := some 57) (v := ?_) (a' := ?_) #[true, true, true, false, false, false, false, false, false, false, false, false, false, false, false, false, false, false] rfl rfl (ao HT_.out) (fun _ _ _ h => h) (Or.inl ⟨by rfl, ?_⟩) ?_ ?_
                     rotate_left
                     ·intro w'
                      go_simp
                      with_reducible rfl
                     rotate_left
                     ·simp only [Act.put, List.setIfInBounds_toArray, List.set_cons_zero, List.set_cons_succ, i64_w, i32_w]
                      rfl
                     refine take_ (i := 3) (N := some 58) (v := ?_) (a' := ?_) #[true, true, true, true, false, false, false, false, false, false, false, false, false, false, false, false, false, false] rfl rfl (take_ofW HT_.out HW_.out (by kernel_rfl)) (fun _ _ _ h => h) (Or.inl ⟨by rfl, ?_⟩) hHeld ?_ ?_
                     rotate_left
                     ·rintro w' ⟨s0, s1, s2, s3⟩
                      go_simp
                      with_reducible rfl
                     rotate_left
                     ·simp only [Act.put, List.setIfInBounds_toArray, List.set_cons_zero, List.set_cons_succ, i64_w, i32_w]
                      rfl
                     refine pure_ (i := 4) (N := some 59) (v := ?_) (a' := ?_) #[true, true, true, true, true, false, false, false, false, false, false, false, false, false, false, false, false, false] rfl rfl (ao HT_.out) (fun _ _ _ h => h) (Or.inl ⟨by rfl, ?_⟩) ?_ ?_
                     rotate_left
                     ·intro w'
                      go_simp
                      with_reducible rfl
                     rotate_left
                     ·simp only [Act.put, List.setIfInBounds_toArray, List.set_cons_zero, List.set_cons_succ, i64_w, i32_w]
                      rfl
                     refine pure_ (i := 5) (N := some 60) (v := ?_) (a' := ?_) #[true, true, true, true, true, true, false, false, false, false, false, false, false, false, false, false, false, false] rfl rfl (ao HT_.out) (fun _ _ _ h => h) (Or.inl ⟨by rfl, ?_⟩) ?_ ?_
                     rotate_left
                     ·intro w'
                      go_simp
                      with_reducible rfl
                     rotate_left
                     ·simp only [Act.put, List.setIfInBounds_toArray, List.set_cons_zero, List.set_cons_succ, i64_w, i32_w]
                      rfl
                     refine pure_ (i := 6) (N := some 61) (v := ?_) (a' := ?_) #[true, true, true, true, true, true, true, false, false, false, false, false, false, false, false, false, false, false] rfl rfl (ao HT_.out) (fun _ _ _ h => h) (Or.inl ⟨by rfl, ?_⟩) ?_ ?_
                     rotate_left
                     ·intro w'
                      go_simp
                      with_reducible rfl
                     rotate_left
                     ·simp only [Act.put, List.setIfInBounds_toArray, List.set_cons_zero, List.set_cons_succ, i64_w, i32_w]
                      rfl
                     refine pure_ (i := 7) (N := some 62) (v := ?_) (a' := ?_) #[true, true, true, true, true, true, true, true, false, false, false, false, false, false, false, false, false, false] rfl rfl (ao HT_.out) (fun _ _ _ h => h) (Or.inl ⟨by rfl, ?_⟩) ?_ ?_
                     rotate_left
                     ·intro w'
                      go_simp
                      with_reducible rfl
                     rotate_left
                     ·simp only [Act.put, List.setIfInBounds_toArray, List.set_cons_zero, List.set_cons_succ, i64_w, i32_w]
                      rfl
                     refine pure_ (i := 9) (N := some 64) (v := ?_) (a' := ?_) #[true, true, true, true, true, true, true, true, false, true, false, false, false, false, false, false, false, false] rfl rfl (ao HT_.out) (fun _ _ _ h => h) (Or.inl ⟨by rfl, ?_⟩) ?_ ?_
                     rotate_left
                     ·intro w'
                      go_simp
                      with_reducible rfl
                     rotate_left
                     ·simp only [Act.put, List.setIfInBounds_toArray, List.set_cons_zero, List.set_cons_succ, i64_w, i32_w]
                      rfl
                     refine pure_ (i := 10) (N := some 65) (v := ?_) (a' := ?_) #[true, true, true, true, true, true, true, true, false, true, true, false, false, false, false, false, false, false] rfl rfl (ao HT_.out) (fun _ _ _ h => h) (Or.inl ⟨by rfl, ?_⟩) ?_ ?_
                     rotate_left
                     ·intro w'
                      go_simp
                      with_reducible rfl
                     rotate_left
                     ·simp only [Act.put, List.setIfInBounds_toArray, List.set_cons_zero, List.set_cons_succ, i64_w, i32_w]
                      rfl
                     refine pure_ (i := 11) (N := some 66) (v := ?_) (a' := ?_) #[true, true, true, true, true, true, true, true, false, true, true, true, false, false, false, false, false, false] rfl rfl (ao HT_.out) (fun _ _ _ h => h) (Or.inl ⟨by rfl, ?_⟩) ?_ ?_
                     rotate_left
                     ·intro w'
                      go_simp
                      with_reducible rfl
                     rotate_left
                     ·simp only [Act.put, List.setIfInBounds_toArray, List.set_cons_zero, List.set_cons_succ, i64_w, i32_w]
                      rfl
                     refine take_ (i := 8) (N := some 63) (v := ?_) (a' := ?_) #[true, true, true, true, true, true, true, true, true, true, true, true, false, false, false, false, false, false] rfl rfl (take_ofW HT_.out HW_.out (by kernel_rfl)) (fun _ _ _ h => h) (Or.inl ⟨by rfl, ?_⟩) hHeld ?_ ?_
                     rotate_left
                     ·rintro w' ⟨s0, s1, s2, s3⟩
                      go_simp
                      with_reducible rfl
                     rotate_left
                     ·simp only [Act.put, List.setIfInBounds_toArray, List.set_cons_zero, List.set_cons_succ, i64_w, i32_w]
                      rfl
                     refine take_ (i := 12) (N := some 67) (v := ?_) (a' := ?_) #[true, true, true, true, true, true, true, true, true, true, true, true, true, false, false, false, false, false] rfl rfl (take_ofW HT_.out HW_.out (by kernel_rfl)) (fun _ _ _ h => h) (Or.inl ⟨by rfl, ?_⟩) hHeld ?_ ?_
                     rotate_left
                     ·rintro w' ⟨s0, s1, s2, s3⟩
                      go_simp
                      with_reducible rfl
                     rotate_left
                     ·simp only [Act.put, List.setIfInBounds_toArray, List.set_cons_zero, List.set_cons_succ, i64_w, i32_w]
                      rfl
                     refine pure_ (i := 13) (N := some 68) (v := ?_) (a' := ?_) #[true, true, true, true, true, true, true, true, true, true, true, true, true, true, false, false, false, false] rfl rfl (ao HT_.out) (fun _ _ _ h => h) (Or.inl ⟨by rfl, ?_⟩) ?_ ?_
                     rotate_left
                     ·intro w'
                      go_simp
                      with_reducible rfl
                     rotate_left
                     ·simp only [Act.put, List.setIfInBounds_toArray, List.set_cons_zero, List.set_cons_succ, i64_w, i32_w]
                      rfl
                     refine take_ (i := 14) (N := some 69) (v := ?_) (a' := ?_) #[true, true, true, true, true, true, true, true, true, true, true, true, true, true, true, false, false, false] rfl rfl (take_ofW HT_.out HW_.out (by kernel_rfl)) (fun _ _ _ h => h) (Or.inl ⟨by rfl, ?_⟩) hHeld ?_ ?_
                     rotate_left
                     ·rintro w' ⟨s0, s1, s2, s3⟩
                      go_simp
                      with_reducible rfl
                     rotate_left
                     ·simp only [Act.put, List.setIfInBounds_toArray, List.set_cons_zero, List.set_cons_succ, i64_w, i32_w]
                      rfl
                     refine one_ (i := 15) (N := some 70) #[true, true, true, true, true, true, true, true, true, true, true, true, true, true, true, true, false, false] rfl rfl (one_of HT_.out (by kernel_rfl)) (by decide) (fun K hK => ?_)
                     refine goes_ Tryd.func58 (by kernel_rfl) rfl #[.string (rdOf ByteArray.empty l0_0 x50_3), .string (rdOf ByteArray.empty l0_0 (rd x9_3 x10_2))] (by rfl) rfl rfl vm ?_
                     with_reducible refine (impl_distance.calls k3 (rdOf ByteArray.empty l0_0 x50_3) (rdOf ByteArray.empty l0_0 (rd x9_3 x10_2)) t240 _ A52.out).mono ?_
                     rintro e w65 ⟨rfl, hb⟩
                     have HS1_ := (hb.cell (World.block_lt_of_cell? _ _ (hHeld.2.1))).trans (hHeld.2.1)
                     have HS2_ := (hb.cell (World.block_lt_of_cell? _ _ (hHeld.2.2.1))).trans (hHeld.2.2.1)
                     refine ⟨_, rfl, ?_⟩
                     have n0_ := ak (Kd.R_below (vr HO_8.out) hb)
                     have n1_ := ak (Kd.R_below (vr HO_9.out) hb)
                     have n2_ := ak (blk_below (vb BK222.out) hb)
                     have n3_ := ak (below_step (vs1 HB.out GE222.out) hb)
                     clear HO_8
                     clear HO_9
                     clear BK222
                     clear HB
                     have HO_8 := n0_
                     have HO_9 := n1_
                     have BK222 := n2_
                     have HB := n3_
                     clear n0_ n1_ n2_ n3_
                     (try clear hb)
                     (try clear hb2)
                     (try clear hk)
                     (try clear hi)
                     refine hK.out _ _ ⟨(blk_cell BK222.out 0).trans rfl, HS1_, HS2_, ((HB.out.cell (World.block_lt_of_cell? w _ hw239_0)).trans hw239_0)⟩ (fun hHeld => ?_)
                     clear hK K
                     refine norm_ (a' := ?_) ?_ ?_
                     rotate_left
                     ·show Act.put _ (some 70) _ = _
                      simp only [Act.put, List.setIfInBounds_toArray, List.set_cons_zero, List.set_cons_succ, i64_w, i32_w]
                      rfl
                     refine pure_ (i := 16) (N := some 71) (v := ?_) (a' := ?_) #[true, true, true, true, true, true, true, true, true, true, true, true, true, true, true, true, true, false] rfl rfl (ao HT_.out) (fun _ _ _ h => h) (Or.inl ⟨by rfl, ?_⟩) ?_ ?_
                     rotate_left
                     ·intro w'
                      go_simp
                      with_reducible rfl
                     rotate_left
                     ·simp only [Act.put, List.setIfInBounds_toArray, List.set_cons_zero, List.set_cons_succ, i64_w, i32_w]
                      rfl
                     refine pure_ (i := 17) (N := some 72) (v := ?_) (a' := ?_) #[true, true, true, true, true, true, true, true, true, true, true, true, true, true, true, true, true, true] rfl rfl (ao HT_.out) (fun _ _ _ h => h) (Or.inl ⟨by rfl, ?_⟩) ?_ ?_
                     rotate_left
                     ·intro w'
                      go_simp
                      with_reducible rfl
                     rotate_left
                     ·simp only [Act.put, List.setIfInBounds_toArray, List.set_cons_zero, List.set_cons_succ, i64_w, i32_w]
                      rfl
                     refine done_ (done_of HT_.out (by kernel_rfl)) ?_
                     try go_wp2
                     (try simp only [← hl8_3])
                     go_roundg k3
                     case measure => have := HJ3.out; have := HK2.out; have := HK3.out; omega
                     case rel => exact ⟨(x8_3), (x9_3), (wrap64 (x50_3 + 1)), vq, H', ⟨by have := HJ3.out; have := HK2.out; have := HK3.out; omega⟩, ⟨by (try simp only [hl8_2]); (try simp only [hl8_3]); exact vr HO_8.out⟩, ⟨by (try simp only [hl8_2]); (try simp only [hl8_3]); exact vr HO_9.out⟩, ⟨by (try simp only [hl8_2]); (try simp only [hl8_3]); exact vb BK222.out⟩, ⟨by exact vs1 HB.out GE222.out⟩⟩
                   ·rw [if_neg c51] at H
                    exact absurd H (by simp)
                  ·rw [if_neg c50] at H
                   exact absurd H (by simp)
                 ·rw [if_neg c49] at H
                  exact absurd H (by simp)
                ·rw [if_neg c48] at H
                 exact absurd H (by simp)
               ·rw [if_neg c47] at H
                have c47b0 : decide ((rd x8_3 x50_3) < 0) = false := decide_eq_false c47
                clear c47
                have H' := Aside0.mk H
                clear H
                have p236 : 0 ≤ (x50_3 : Int) := of_decide_eq_true va
                have q236 : x50_3 < (l0_0.length : Int) := of_decide_eq_true va
                obtain ⟨ad236, e236, hx236_0⟩ := Kd.at_string HR0_0.out x50_3 p236 q236
                cases e236
                (try replace hx236_0 := (HB.out.cell (World.block_lt_of_cell? w _ hx236_0)).trans hx236_0)
                replace p236 := eq_true p236
                replace q236 := eq_true q236
                try go_wp2
                have n0_ := ak (Kd.R_drew HO_8.out)
                have n1_ := ak (Kd.R_drew HO_9.out)
                have n2_ := ak (blk_drew BK222.out)
                have n3_ := ak (below_drew1 HB.out)
                clear HO_8
                clear HO_9
                clear BK222
                clear HB
                have HO_8 := n0_
                have HO_9 := n1_
                have BK222 := n2_
                have HB := n3_
                clear n0_ n1_ n2_ n3_
                have p237 : 0 ≤ (x50_3 : Int) := of_decide_eq_true va
                have q237 : x50_3 < (x8_3.length : Int) := of_decide_eq_true va
                obtain ⟨ad237, e237, hx237_0⟩ := Kd.at_int (Kd.R_reads' HO_8.out).2.2 x50_3 p237 q237
                obtain rfl : (⟨go27, 0, none⟩ : Addr) = ad237 := (by injection e237)
                (first | simp only [add_plain] at hx237_0 | simp only [add_at] at hx237_0 | simp only [Addr.add, Nat.zero_add] at hx237_0 | skip)
                replace p237 := eq_true p237
                replace q237 := eq_true q237
                refine start_ (n := 18) (S := fun w' => w'.cell? ⟨go27, (x50_3).toNat, none⟩ = some (.int .i64 (rd x8_3 x50_3))) (ds := []) #[false, false, false, false, false, false, false, false, false, false, false, false, false, false, false, false, false, false] (by kernel_rfl) rfl rfl (hx237_0) (fun hHeld => ?_); refine with_tabW impl_MistakeChain.tab11 impl_MistakeChain.bits11 (fun HT_ HW_ => ?_)
                generalize wr.drew = w66 at HO_8 HO_9 BK222 HB hx237_0 hHeld ⊢
                refine pure_ (i := 0) (N := some 55) (v := ?_) (a' := ?_) #[true, false, false, false, false, false, false, false, false, false, false, false, false, false, false, false, false, false] rfl rfl (ao HT_.out) (fun _ _ _ h => h) (Or.inl ⟨by rfl, ?_⟩) ?_ ?_
                rotate_left
                ·intro w'
                 go_simp
                 with_reducible rfl
                rotate_left
                ·simp only [Act.put, List.setIfInBounds_toArray, List.set_cons_zero, List.set_cons_succ, i64_w, i32_w]
                 rfl
                refine pure_ (i := 1) (N := some 56) (v := ?_) (a' := ?_) #[true, true, false, false, false, false, false, false, false, false, false, false, false, false, false, false, false, false] rfl rfl (ao HT_.out) (fun _ _ _ h => h) (Or.inl ⟨by rfl, ?_⟩) ?_ ?_
                rotate_left
                ·intro w'
                 go_simp
                 with_reducible rfl
                rotate_left
                ·simp only [Act.put, List.setIfInBounds_toArray, List.set_cons_zero, List.set_cons_succ, i64_w, i32_w]
                 rfl
                refine pure_ (i := 2) (N := some 57) (v := ?_) (a' := ?_) #[true, true, true, false, false, false, false, false, false, false, false, false, false, false, false, false, false, false] rfl rfl (ao HT_.out) (fun _ _ _ h => h) (Or.inl ⟨by rfl, ?_⟩) ?_ ?_
                rotate_left
                ·intro w'
                 go_simp
                 with_reducible rfl
                rotate_left
                ·simp only [Act.put, List.setIfInBounds_toArray, List.set_cons_zero, List.set_cons_succ, i64_w, i32_w]
                 rfl
                refine take_ (i := 3) (N := some 58) (v := ?_) (a' := ?_) #[true, true, true, true, false, false, false, false, false, false, false, false, false, false, false, false, false, false] rfl rfl (take_ofW HT_.out HW_.out (by kernel_rfl)) (fun _ _ _ h => h) (Or.inl ⟨by rfl, ?_⟩) hHeld ?_ ?_
                rotate_left
                ·intro w' s0
                 go_simp
                 with_reducible rfl
                rotate_left
                ·simp only [Act.put, List.setIfInBounds_toArray, List.set_cons_zero, List.set_cons_succ, i64_w, i32_w]
                 rfl
                refine pure_ (i := 4) (N := some 59) (v := ?_) (a' := ?_) #[true, true, true, true, true, false, false, false, false, false, false, false, false, false, false, false, false, false] rfl rfl (ao HT_.out) (fun _ _ _ h => h) (Or.inl ⟨by rfl, ?_⟩) ?_ ?_
                rotate_left
                ·intro w'
                 go_simp
                 with_reducible rfl
                rotate_left
                ·simp only [Act.put, List.setIfInBounds_toArray, List.set_cons_zero, List.set_cons_succ, i64_w, i32_w]
                 rfl
                refine pure_ (i := 5) (N := some 60) (v := ?_) (a' := ?_) #[true, true, true, true, true, true, false, false, false, false, false, false, false, false, false, false, false, false] rfl rfl (ao HT_.out) (fun _ _ _ h => h) (Or.inl ⟨by rfl, ?_⟩) ?_ ?_
                rotate_left
                ·intro w'
                 go_simp
                 with_reducible rfl
                rotate_left
                ·simp only [Act.put, List.setIfInBounds_toArray, List.set_cons_zero, List.set_cons_succ, i64_w, i32_w]
                 rfl
                refine pure_ (i := 6) (N := some 61) (v := undef) (a' := ?_) #[true, true, true, true, true, true, true, false, false, false, false, false, false, false, false, false, false, false] rfl rfl (ao HT_.out) (fun _ _ _ h => h) (Or.inr ⟨by rfl, rfl⟩) ?_ ?_
                rotate_left
                ·simp only [Act.put, List.setIfInBounds_toArray, List.set_cons_zero, List.set_cons_succ, i64_w, i32_w]
                 rfl
                refine pure_ (i := 7) (N := some 62) (v := undef) (a' := ?_) #[true, true, true, true, true, true, true, true, false, false, false, false, false, false, false, false, false, false] rfl rfl (ao HT_.out) (fun _ _ _ h => h) (Or.inr ⟨by rfl, rfl⟩) ?_ ?_
                rotate_left
                ·simp only [Act.put, List.setIfInBounds_toArray, List.set_cons_zero, List.set_cons_succ, i64_w, i32_w]
                 rfl
                refine pure_ (i := 8) (N := some 63) (v := undef) (a' := ?_) #[true, true, true, true, true, true, true, true, true, false, false, false, false, false, false, false, false, false] rfl rfl (ao HT_.out) (fun _ _ _ h => h) (Or.inr ⟨by rfl, rfl⟩) ?_ ?_
                rotate_left
                ·simp only [Act.put, List.setIfInBounds_toArray, List.set_cons_zero, List.set_cons_succ, i64_w, i32_w]
                 rfl
                refine pure_ (i := 9) (N := some 64) (v := undef) (a' := ?_) #[true, true, true, true, true, true, true, true, true, true, false, false, false, false, false, false, false, false] rfl rfl (ao HT_.out) (fun _ _ _ h => h) (Or.inr ⟨by rfl, rfl⟩) ?_ ?_
                rotate_left
                ·simp only [Act.put, List.setIfInBounds_toArray, List.set_cons_zero, List.set_cons_succ, i64_w, i32_w]
                 rfl
                refine pure_ (i := 10) (N := some 65) (v := undef) (a' := ?_) #[true, true, true, true, true, true, true, true, true, true, true, false, false, false, false, false, false, false] rfl rfl (ao HT_.out) (fun _ _ _ h => h) (Or.inr ⟨by rfl, rfl⟩) ?_ ?_
                rotate_left
                ·simp only [Act.put, List.setIfInBounds_toArray, List.set_cons_zero, List.set_cons_succ, i64_w, i32_w]
                 rfl
                refine pure_ (i := 11) (N := some 66) (v := undef) (a' := ?_) #[true, true, true, true, true, true, true, true, true, true, true, true, false, false, false, false, false, false] rfl rfl (ao HT_.out) (fun _ _ _ h => h) (Or.inr ⟨by rfl, rfl⟩) ?_ ?_
                rotate_left
                ·simp only [Act.put, List.setIfInBounds_toArray, List.set_cons_zero, List.set_cons_succ, i64_w, i32_w]
                 rfl
                refine pure_ (i := 12) (N := some 67) (v := undef) (a' := ?_) #[true, true, true, true, true, true, true, true, true, true, true, true, true, false, false, false, false, false] rfl rfl (ao HT_.out) (fun _ _ _ h => h) (Or.inr ⟨by rfl, rfl⟩) ?_ ?_
                rotate_left
                ·simp only [Act.put, List.setIfInBounds_toArray, List.set_cons_zero, List.set_cons_succ, i64_w, i32_w]
                 rfl
                refine pure_ (i := 13) (N := some 68) (v := undef) (a' := ?_) #[true, true, true, true, true, true, true, true, true, true, true, true, true, true, false, false, false, false] rfl rfl (ao HT_.out) (fun _ _ _ h => h) (Or.inr ⟨by rfl, rfl⟩) ?_ ?_
                rotate_left
                ·simp only [Act.put, List.setIfInBounds_toArray, List.set_cons_zero, List.set_cons_succ, i64_w, i32_w]
                 rfl
                refine pure_ (i := 14) (N := some 69) (v := undef) (a' := ?_) #[true, true, true, true, true, true, true, true, true, true, true, true, true, true, true, false, false, false] rfl rfl (ao HT_.out) (fun _ _ _ h => h) (Or.inr ⟨by rfl, rfl⟩) ?_ ?_
                rotate_left
                ·simp only [Act.put, List.setIfInBounds_toArray, List.set_cons_zero, List.set_cons_succ, i64_w, i32_w]
                 rfl
                refine pure_ (i := 15) (N := some 70) (v := undef) (a' := ?_) #[true, true, true, true, true, true, true, true, true, true, true, true, true, true, true, true, false, false] rfl rfl (ao HT_.out) (fun _ _ _ h => h) (Or.inr ⟨by rfl, rfl⟩) ?_ ?_
                rotate_left
                ·simp only [Act.put, List.setIfInBounds_toArray, List.set_cons_zero, List.set_cons_succ, i64_w, i32_w]
                 rfl
                refine pure_ (i := 16) (N := some 71) (v := undef) (a' := ?_) #[true, true, true, true, true, true, true, true, true, true, true, true, true, true, true, true, true, false] rfl rfl (ao HT_.out) (fun _ _ _ h => h) (Or.inr ⟨by rfl, rfl⟩) ?_ ?_
                rotate_left
                ·simp only [Act.put, List.setIfInBounds_toArray, List.set_cons_zero, List.set_cons_succ, i64_w, i32_w]
                 rfl
                refine pure_ (i := 17) (N := some 72) (v := ?_) (a' := ?_) #[true, true, true, true, true, true, true, true, true, true, true, true, true, true, true, true, true, true] rfl rfl (ao HT_.out) (fun _ _ _ h => h) (Or.inl ⟨by rfl, ?_⟩) ?_ ?_
                rotate_left
                ·intro w'
                 go_simp
                 with_reducible rfl
                rotate_left
                ·simp only [Act.put, List.setIfInBounds_toArray, List.set_cons_zero, List.set_cons_succ, i64_w, i32_w]
                 rfl
                refine done_ (done_of HT_.out (by kernel_rfl)) ?_
                try go_wp2
                (try simp only [← hl8_3])
                go_roundg k3
                case measure => have := HJ3.out; have := HK2.out; have := HK3.out; omega
                case rel => exact ⟨(x8_3), (x9_3), (wrap64 (x50_3 + 1)), vq, H', ⟨by have := HJ3.out; have := HK2.out; have := HK3.out; omega⟩, ⟨by (try simp only [hl8_2]); (try simp only [hl8_3]); exact vr HO_8.out⟩, ⟨by (try simp only [hl8_2]); (try simp only [hl8_3]); exact vr HO_9.out⟩, ⟨by (try simp only [hl8_2]); (try simp only [hl8_3]); exact vb BK222.out⟩, ⟨by exact vs1 HB.out GE222.out⟩⟩
              ·rw [if_neg c46] at H
               exact absurd H (by simp)
             ·rw [if_neg c45] at H
              exact absurd H (by simp)
            ·rw [if_neg c44] at H
             exact absurd H (by simp)
           ·rw [if_neg c43] at H
            have c43b0 : decide (x50_3 < (l0_0.length : Int)) = false := decide_eq_false c43
            clear c43
            have H' := Aside0.mk H
            clear H
            go_wp2
            (try simp only [← hl8_2, ← hl8_3])
            go_roundg k3
            case measure => have := HJ3.out; have := HK2.out; have := HK3.out; omega
            case rel => exact ⟨(x8_3), (x9_3), (wrap64 (x10_2 + 1)), vq, H', ⟨by have := HJ3.out; have := HK2.out; have := HK3.out; omega⟩, ⟨by (try simp only [hl8_2]); (try simp only [hl8_3]); exact vr HO_8.out⟩, ⟨by (try simp only [hl8_2]); (try simp only [hl8_3]); exact vr HO_9.out⟩, ⟨by (try simp only [hl8_2]); (try simp only [hl8_3]); exact vb BK222.out⟩, ⟨by exact vs1 HB.out GE222.out⟩⟩
        ·rw [if_neg c38] at H
         have c38b0 : decide (x10_2 < (x9_2.length : Int)) = false := decide_eq_false c38
         clear c38
         by_cases c67 : 0 ≤ a1
         ·rw [if_pos c67] at H
          have c67b0 : decide (0 ≤ a1) = true := decide_eq_true c67
          clear c67
          by_cases c68 : a1 < (x8_2.length : Int)
          ·rw [if_pos c68] at H
           have c68b0 : decide (a1 < (x8_2.length : Int)) = true := decide_eq_true c68
           clear c68
           by_cases c69 : (rd x8_2 a1) < 0
           ·rw [if_pos c69] at H
            have c69b0 : decide ((rd x8_2 a1) < 0) = true := decide_eq_true c69
            clear c69
            simp only [Option.some.injEq, Prod.mk.injEq] at H
            obtain ⟨rfl, rfl⟩ := H
            obtain ⟨Ao70, co70, eo70⟩ := Kd.R_slice HO_9.out
            subst eo70
            have p247 : 0 ≤ (a1 : Int) := of_decide_eq_true va
            have q247 : a1 < (x8_2.length : Int) := of_decide_eq_true va
            obtain ⟨ad247, e247, hx247_0⟩ := Kd.at_int (Kd.R_reads' HO_8.out).2.2 a1 p247 q247
            obtain rfl : (⟨go27, 0, none⟩ : Addr) = ad247 := (by injection e247)
            (first | simp only [add_plain] at hx247_0 | simp only [add_at] at hx247_0 | simp only [Addr.add, Nat.zero_add] at hx247_0 | skip)
            replace p247 := eq_true p247
            replace q247 := eq_true q247
            go_wp2
            go_ret2
            exact ⟨_, by first | rfl | (simp [errW_none, errW_some] <;> rfl) | (simp [*, errW_none, errW_some] <;> rfl), by first | exact Kd.R_nil _ _ _ _ _ | exact Kd.N_nil _ _ _ _ _ | exact Kd.V_nil _ _ _ _ _ | exact Kd.Q_nil _ _ _ _ _ | exact Kd.S_nil _ _ _ _ _, by exact vs1 HB.out GE222.out⟩
           ·rw [if_neg c69] at H
            have c69b0 : decide ((rd x8_2 a1) < 0) = false := decide_eq_false c69
            clear c69
            obtain ⟨y248, hy248⟩ : ∃ y_ : List Int, y_ = (([a1] : List Int)) := ⟨_, rfl⟩
            replace H : (impl_MistakeChain.l2 k2 a2 x8_2 y248 a1 l0_0) = some (r1, r2) := by first | (rw [hy248]; with_reducible exact H) | (have H2_ := (Option.bind_some _ _).symm.trans H; rw [hy248]; with_reducible exact H2_) | (have H2_ := (Option.bind_some _ _).symm.trans H; with_reducible exact H2_) | with_reducible exact H | (rw [hy248]; exact H) | exact H
            have Ny248 := Aside0.mk hy248
            clear hy248
            have H' := Aside0.mk H
            clear H
            obtain ⟨Ao71, co71, eo71⟩ := Kd.R_slice HO_9.out
            subst eo71
            have p247 : 0 ≤ (a1 : Int) := of_decide_eq_true va
            have q247 : a1 < (x8_2.length : Int) := of_decide_eq_true va
            obtain ⟨ad247, e247, hx247_0⟩ := Kd.at_int (Kd.R_reads' HO_8.out).2.2 a1 p247 q247
            obtain rfl : (⟨go27, 0, none⟩ : Addr) = ad247 := (by injection e247)
            (first | simp only [add_plain] at hx247_0 | simp only [add_at] at hx247_0 | simp only [Addr.add, Nat.zero_add] at hx247_0 | skip)
            replace p247 := eq_true p247
            replace q247 := eq_true q247
            go_wp2_with (first | ((with_reducible refine gate_dst (N := 95) rfl ?_); refine Kd.R_lit (Kd.int .i64) _ 3 ?hg (N := 95) ?hd (xs := ([a1] : List Int)) (inner := [.int .i64 a1]) (ok := fun _ => True) (okp := fun _ => True) ?hr ?hp (fun _ hk => hk) trivial (Below.refl _ _) (Nat.le_refl _) (by simp) ?_; (case hd => rfl); (case hg => rfl); (case hr => first | (go_simp; done) | (go_simp; rfl)); (case hp => exact (Reps.one (show Kd.M (Kd.int .i64) _ _ _ a1 [.int .i64 a1] from rfl) (Reps.none _ _))); intro v249 w72 ho73 hb hg_ hnew_; clear hg_ hnew_; (first | rw [← Ny248.out] at ho73 | (simp only [Int.reduceToNat] at ho73; rw [← Ny248.out] at ho73)); have n0_ := ak (Kd.R_elder' (vr HO_8.out) (Kd.R_base ho73) hb); have n1_ := ak (Kd.R_elder' (vr HO_9.out) (Kd.R_base ho73) hb); have n2_ := ak (Kd.R_lower (Kd.R_new' (Kd.R_new' ho73 (Kd.R_lt (vr HO_8.out))) (Kd.R_lt (vr HO_9.out))) (below_size (vs1 HB.out GE222.out))); have n3_ := ak (blk_below (vb BK222.out) hb); have n4_ := ak (below_step (vs1 HB.out GE222.out) hb); clear HO_8; clear HO_9; clear BK222; clear HB; have HO_8 := n0_; have HO_9 := n1_; have HO250 := n2_; have BK222 := n3_; have HB := n4_; clear n0_ n1_ n2_ n3_ n4_; clear hb ho73))
            go_loopg [13, 14] k2 (fun kq v13 v14 w' => ∃ (x13_3 : List Int) (x14_3 : Int), v14 = .int .i64 x14_3 ∧ Aside0 (impl_MistakeChain.l2 kq a2 x8_2 x13_3 x14_3 l0_0 = some (r1, r2)) ∧ Aside0 (kq ≤ k2) ∧ Aside0 (Kd.R (Kd.int .i64) 3 w' w.heap.size (fun k_ => some k_ ≠ (v13 : Value).ownBlock) (.slice (some ⟨go27, 0, none⟩) x8_2.length co27) x8_2) ∧ Aside0 (Kd.R (Kd.int .i64) 3 w' w.heap.size (fun k_ => some k_ ≠ ((.slice (some ⟨go27, 0, none⟩) x8_2.length co27) : Value).ownBlock) v13 x13_3) ∧ Aside0 (w'.heap[gb222]? = some (.cells #[(.slice A0_0 l0_0.length c0_0)] 28 (0, 0))) ∧ Aside0 (Below w.heap.size w w'))
            case atStart => exact ⟨(y248), (a1), (by first | rfl | (simp; done) | (simp [*]; done)), H', ⟨Nat.le_refl _⟩, ⟨by (try simp only [hl8_2]); exact vr (Kd.R_mono HO_8.out (fun _ hk => hk.2))⟩, ⟨by (try simp only [hl8_2]); exact vr (Kd.R_mono HO250.out (fun _ hk => hk.1.2))⟩, ⟨by (try simp only [hl8_2]); exact vb BK222.out⟩, ⟨by exact vs1 HB.out GE222.out⟩⟩
            case round =>
             clear H'
             try clear p2
             try clear q2
             try clear hx2
             try clear c3
             try clear c4
             try clear c5
             try clear p5
             try clear q5
             try clear hx5
             try clear hf5
             try clear c6
             try clear p6
             try clear p23
             try clear q23
             try clear hx23
             try clear p24
             try clear q24
             try clear hx24
             try clear c38
             try clear c38b0
             try clear c43
             try clear c43b0
             try clear c44
             try clear c45
             try clear c46
             try clear c47
             try clear c47b0
             try clear c48
             try clear c49
             try clear c50
             try clear c51
             try clear c53
             try clear c53b0
             try clear c53b1
             try clear c54
             try clear p55
             try clear q55
             try clear hx55
             try clear hf55
             try clear c56
             try clear c58
             try clear p64
             try clear c67
             try clear c67b0
             try clear c68
             try clear c68b0
             try clear c69
             try clear c69b0
             try clear hx236_0
             try clear hx237_0
             try clear hx238_0
             try clear hx239_0
             try clear hx241_0
             try clear hx242_0
             try clear hx247_0
             try clear hx55_0
             try clear p236
             try clear p237
             try clear p238
             try clear p239
             try clear p241
             try clear p242
             try clear p247
             try clear p55
             try clear q236
             try clear q237
             try clear q238
             try clear q239
             try clear q241
             try clear q242
             try clear q247
             try clear q55
             obtain ⟨x13_3, x14_3, rfl, HA, HK3, HO_8, HO_13, BK222, HB⟩ := hrel
             cases gk with
             | zero => exact absurd HA.out (by simp [impl_MistakeChain.l2])
             | succ k3 =>
              have H := HA.out
              clear HA
              simp only [impl_MistakeChain.l2] at H
              by_cases c74 : x14_3 = a2
              ·rw [if_pos c74] at H
               have c74b0 : (x14_3 == a2) = true := beq_iff_eq.mpr c74
               have c74b1 : (x14_3 != a2) = false := bne_eq_false_iff_eq.mpr c74
               clear c74
               simp only [Option.some.injEq, Prod.mk.injEq] at H
               obtain ⟨rfl, rfl⟩ := H
               go_wp2
               go_ret2
               exact ⟨_, by first | rfl | (simp [errW_none, errW_some] <;> rfl) | (simp [*, errW_none, errW_some] <;> rfl), by exact vr (Kd.R_mono HO_13.out (fun _ hk => trivial)), by exact vs1 HB.out GE222.out⟩
              ·rw [if_neg c74] at H
               have c74b0 : (x14_3 == a2) = false := beq_eq_false_iff_ne.mpr c74
               have c74b1 : (x14_3 != a2) = true := bne_iff_ne.mpr c74
               have H' := Aside0.mk H
               clear H
               go_wp2
               go_loopg [15] k3 (fun kq v15 w' => ∃ (x15_4 : Int), v15 = .int .i64 x15_4 ∧ Aside0 (impl_MistakeChain.l3 kq a2 x8_2 x13_3 x14_3 x15_4 l0_0 = some (r1, r2)) ∧ Aside0 (kq ≤ k3) ∧ Aside0 (Kd.R (Kd.int .i64) 3 w' w.heap.size (fun k_ => some k_ ≠ (u13 : Value).ownBlock) (.slice (some ⟨go27, 0, none⟩) x8_2.length co27) x8_2) ∧ Aside0 (Kd.R (Kd.int .i64) 3 w' w.heap.size (fun k_ => some k_ ≠ ((.slice (some ⟨go27, 0, none⟩) x8_2.length co27) : Value).ownBlock) u13 x13_3) ∧ Aside0 (w'.heap[gb222]? = some (.cells #[(.slice A0_0 l0_0.length c0_0)] 28 (0, 0))) ∧ Aside0 (Below w.heap.size w w'))
               case atStart => exact ⟨(0), (by first | rfl | (simp; done) | (simp [*]; done)), H', ⟨Nat.le_refl _⟩, ⟨by (try simp only [hl8_2]); exact vr HO_8.out⟩, ⟨by (try simp only [hl8_2]); exact vr HO_13.out⟩, ⟨by (try simp only [hl8_2]); exact vb BK222.out⟩, ⟨by exact vs1 HB.out GE222.out⟩⟩
               case round =>
                clear H'
                try clear p2
                try clear q2
                try clear hx2
                try clear c3
                try clear c4
                try clear c5
                try clear p5
                try clear q5
                try clear hx5
                try clear hf5
                try clear c6
                try clear p6
                try clear c7
                try clear p23
                try clear q23
                try clear hx23
                try clear p24
                try clear q24
                try clear hx24
                try clear c38
                try clear c38b0
                try clear c43
                try clear c43b0
                try clear c44
                try clear c45
                try clear c46
                try clear c47
                try clear c47b0
                try clear c48
                try clear c49
                try clear c50
                try clear c51
                try clear c53
                try clear c53b0
                try clear c53b1
                try clear c54
                try clear p55
                try clear q55
                try clear hx55
                try clear hf55
                try clear c56
                try clear c58
                try clear p64
                try clear c67
                try clear c67b0
                try clear c68
                try clear c68b0
                try clear c69
                try clear c69b0
                try clear c74
                try clear c74b0
                try clear c74b1
                try clear hx236_0
                try clear hx237_0
                try clear hx238_0
                try clear hx239_0
                try clear hx241_0
                try clear hx242_0
                try clear hx247_0
                try clear hx55_0
                try clear p2
                try clear p23
                try clear p236
                try clear p237
                try clear p238
                try clear p239
                try clear p24
                try clear p241
                try clear p242
                try clear p247
                try clear p5
                try clear p55
                try clear p6
                try clear p64
                try clear q2
                try clear q23
                try clear q236
                try clear q237
                try clear q238
                try clear q239
                try clear q24
                try clear q241
                try clear q242
                try clear q247
                try clear q5
                try clear q55
                obtain ⟨x15_4, rfl, HA, HK4, HO_8, HO_13, BK222, HB⟩ := hrel
                cases gk with
                | zero => exact absurd HA.out (by simp [impl_MistakeChain.l3])
                | succ k4 =>
                 have H := HA.out
                 clear HA
                 simp only [impl_MistakeChain.l3] at H
                 by_cases c75 : 0 ≤ x15_4
                 ·rw [if_pos c75] at H
                  have c75b0 : decide (0 ≤ x15_4) = true := decide_eq_true c75
                  clear c75
                  by_cases c76 : x15_4 < (x8_2.length : Int)
                  ·rw [if_pos c76] at H
                   have c76b0 : decide (x15_4 < (x8_2.length : Int)) = true := decide_eq_true c76
                   clear c76
                   by_cases c77 : 0 ≤ x14_3
                   ·rw [if_pos c77] at H
                    have c77b0 : decide (0 ≤ x14_3) = true := decide_eq_true c77
                    clear c77
                    by_cases c78 : x14_3 < (x8_2.length : Int)
                    ·rw [if_pos c78] at H
                     have c78b0 : decide (x14_3 < (x8_2.length : Int)) = true := decide_eq_true c78
                     clear c78
                     by_cases c79 : (rd x8_2 x15_4) = (wrap64 ((rd x8_2 x14_3) - 1))
                     ·rw [if_pos c79] at H
                      have c79b0 : ((rd x8_2 x15_4) == (wrap64 ((rd x8_2 x14_3) - 1))) = true := beq_iff_eq.mpr c79
                      have c79b1 : ((rd x8_2 x15_4) != (wrap64 ((rd x8_2 x14_3) - 1))) = false := bne_eq_false_iff_eq.mpr c79
                      clear c79
                      by_cases c80 : x15_4 < (l0_0.length : Int)
                      ·rw [if_pos c80] at H
                       have c80b0 : decide (x15_4 < (l0_0.length : Int)) = true := decide_eq_true c80
                       clear c80
                       by_cases c81 : x14_3 < (l0_0.length : Int)
                       ·rw [if_pos c81] at H
                        have c81b0 : decide (x14_3 < (l0_0.length : Int)) = true := decide_eq_true c81
                        clear c81
                        replace H := Option.bind_eq_some_iff.mp H
                        obtain ⟨t255, A820, H⟩ := H
                        replace H : (if t255 = 1 then (if x13_3.length < 17592186044416 then (impl_MistakeChain.l2 k4 a2 x8_2 (x13_3 ++ [x15_4]) x15_4 l0_0) else (none)) else (impl_MistakeChain.l3 k4 a2 x8_2 x13_3 x14_3 (wrap64 (x15_4 + 1)) l0_0)) = some (r1, r2) := H
                        have A82 := Aside0.mk A820
                        clear A820
                        by_cases c83 : t255 = 1
                        ·rw [if_pos c83] at H
                         have c83b0 : (t255 == 1) = true := beq_iff_eq.mpr c83
                         have c83b1 : (t255 != 1) = false := bne_eq_false_iff_eq.mpr c83
                         clear c83
                         by_cases c84 : x13_3.length < 17592186044416
                         ·rw [if_pos c84] at H
                          have LMc84 := Aside0.mk c84
                          clear c84
                          obtain ⟨y256, hy256⟩ : ∃ y_ : List Int, y_ = (x13_3 ++ [x15_4]) := ⟨_, rfl⟩
                          replace H : (impl_MistakeChain.l2 k4 a2 x8_2 y256 x15_4 l0_0) = some (r1, r2) := by first | (rw [hy256]; with_reducible exact H) | (have H2_ := (Option.bind_some _ _).symm.trans H; rw [hy256]; with_reducible exact H2_) | (have H2_ := (Option.bind_some _ _).symm.trans H; with_reducible exact H2_) | with_reducible exact H | (rw [hy256]; exact H) | exact H
                          have Ny256 := Aside0.mk hy256
                          clear hy256
                          have H' := Aside0.mk H
                          clear H
                          try go_wp2
                          have n0_ := ak (Kd.R_drew HO_8.out)
                          have n1_ := ak (Kd.R_drew HO_13.out)
                          have n2_ := ak (blk_drew BK222.out)
                          have n3_ := ak (below_drew1 HB.out)
                          clear HO_8
                          clear HO_13
                          clear BK222
                          clear HB
                          have HO_8 := n0_
                          have HO_13 := n1_
                          have BK222 := n2_
                          have HB := n3_
                          clear n0_ n1_ n2_ n3_
                          have p251 : 0 ≤ (x15_4 : Int) := of_decide_eq_true va
                          have q251 : x15_4 < (x8_2.length : Int) := of_decide_eq_true va
                          obtain ⟨ad251, e251, hx251_0⟩ := Kd.at_int (Kd.R_reads' HO_8.out).2.2 x15_4 p251 q251
                          obtain rfl : (⟨go27, 0, none⟩ : Addr) = ad251 := (by injection e251)
                          (first | simp only [add_plain] at hx251_0 | simp only [add_at] at hx251_0 | simp only [Addr.add, Nat.zero_add] at hx251_0 | skip)
                          replace p251 := eq_true p251
                          replace q251 := eq_true q251
                          have p252 : 0 ≤ (x14_3 : Int) := of_decide_eq_true va
                          have q252 : x14_3 < (x8_2.length : Int) := of_decide_eq_true va
                          obtain ⟨ad252, e252, hx252_0⟩ := Kd.at_int (Kd.R_reads' HO_8.out).2.2 x14_3 p252 q252
                          obtain rfl : (⟨go27, 0, none⟩ : Addr) = ad252 := (by injection e252)
                          (first | simp only [add_plain] at hx252_0 | simp only [add_at] at hx252_0 | simp only [Addr.add, Nat.zero_add] at hx252_0 | skip)
                          replace p252 := eq_true p252
                          replace q252 := eq_true q252
                          have p253 : 0 ≤ (x15_4 : Int) := of_decide_eq_true va
                          have q253 : x15_4 < (l0_0.length : Int) := of_decide_eq_true va
                          obtain ⟨ad253, e253, hx253_0⟩ := Kd.at_string HR0_0.out x15_4 p253 q253
                          have hw253_0 := hx253_0
                          cases e253
                          (try replace hx253_0 := (HB.out.cell (World.block_lt_of_cell? w _ hx253_0)).trans hx253_0)
                          replace p253 := eq_true p253
                          replace q253 := eq_true q253
                          have p254 : 0 ≤ (x14_3 : Int) := of_decide_eq_true va
                          have q254 : x14_3 < (l0_0.length : Int) := of_decide_eq_true va
                          obtain ⟨ad254, e254, hx254_0⟩ := Kd.at_string HR0_0.out x14_3 p254 q254
                          have hw254_0 := hx254_0
                          obtain rfl : ad253 = ad254 := (by injection e254)
                          (try replace hx254_0 := (HB.out.cell (World.block_lt_of_cell? w _ hx254_0)).trans hx254_0)
                          replace p254 := eq_true p254
                          replace q254 := eq_true q254
                          refine start_ (n := 24) (S := fun w' => w'.cell? ⟨gb222, 0, none⟩ = some (.slice (some ad253) l0_0.length c0_0) ∧ w'.cell? ⟨go27, (x15_4).toNat, none⟩ = some (.int .i64 (rd x8_2 x15_4)) ∧ w'.cell? ⟨go27, (x14_3).toNat, none⟩ = some (.int .i64 (rd x8_2 x14_3)) ∧ w'.cell? (ad253.add (x15_4).toNat) = some (.string (rdOf ByteArray.empty l0_0 x15_4)) ∧ w'.cell? (ad253.add (x14_3).toNat) = some (.string (rdOf ByteArray.empty l0_0 x14_3))) (ds := []) #[false, false, false, false, false, false, false, false, false, false, false, false, false, false, false, false, false, false, false, false, false, false, false, false] (by kernel_rfl) rfl rfl ⟨(blk_cell BK222.out 0).trans rfl, hx251_0, hx252_0, ((HB.out.cell (World.block_lt_of_cell? w _ hw253_0)).trans hw253_0), ((HB.out.cell (World.block_lt_of_cell? w _ hw254_0)).trans hw254_0)⟩ (fun hHeld => ?_); refine with_tabW impl_MistakeChain.tab21 impl_MistakeChain.bits21 (fun HT_ HW_ => ?_)
                          generalize wr.drew = w85 at HO_8 HO_13 BK222 HB hx251_0 hx252_0 hx253_0 hx254_0 hHeld ⊢
                          refine pure_ (i := 0) (N := some 100) (v := ?_) (a' := ?_) #[true, false, false, false, false, false, false, false, false, false, false, false, false, false, false, false, false, false, false, false, false, false, false, false] rfl rfl (ao HT_.out) (fun _ _ _ h => h) (Or.inl ⟨by rfl, ?_⟩) ?_ ?_
                          rotate_left
                          ·intro w'
                           go_simp
                           with_reducible rfl
                          rotate_left
                          ·simp only [Act.put, List.setIfInBounds_toArray, List.set_cons_zero, List.set_cons_succ, i64_w, i32_w]
                           rfl
                          refine pure_ (i := 1) (N := some 101) (v := ?_) (a' := ?_) #[true, true, false, false, false, false, false, false, false, false, false, false, false, false, false, false, false, false, false, false, false, false, false, false] rfl rfl (ao HT_.out) (fun _ _ _ h => h) (Or.inl ⟨by rfl, ?_⟩) ?_ ?_
                          rotate_left
                          ·intro w'
                           go_simp
                           with_reducible rfl
                          rotate_left
                          ·simp only [Act.put, List.setIfInBounds_toArray, List.set_cons_zero, List.set_cons_succ, i64_w, i32_w]
                           rfl
                          refine pure_ (i := 2) (N := some 102) (v := ?_) (a' := ?_) #[true, true, true, false, false, false, false, false, false, false, false, false, false, false, false, false, false, false, false, false, false, false, false, false] rfl rfl (ao HT_.out) (fun _ _ _ h => h) (Or.inl ⟨by rfl, ?_⟩) ?_ ?_
                          rotate_left
                          ·intro w'
                           go_simp
                           with_reducible rfl
                          rotate_left
                          ·simp only [Act.put, List.setIfInBounds_toArray, List.set_cons_zero, List.set_cons_succ, i64_w, i32_w]
                           rfl
                          refine pure_ (i := 4) (N := some 104) (v := ?_) (a' := ?_) #[true, true, true, false, true, false, false, false, false, false, false, false, false, false, false, false, false, false, false, false, false, false, false, false] rfl rfl (ao HT_.out) (fun _ _ _ h => h) (Or.inl ⟨by rfl, ?_⟩) ?_ ?_
                          rotate_left
                          ·intro w'
                           go_simp
                           with_reducible rfl
                          rotate_left
                          ·simp only [Act.put, List.setIfInBounds_toArray, List.set_cons_zero, List.set_cons_succ, i64_w, i32_w]
                           rfl
                          refine pure_ (i := 5) (N := some 105) (v := ?_) (a' := ?_) #[true, true, true, false, true, true, false, false, false, false, false, false, false, false, false, false, false, false, false, false, false, false, false, false] rfl rfl (ao HT_.out) (fun _ _ _ h => h) (Or.inl ⟨by rfl, ?_⟩) ?_ ?_
                          rotate_left
                          ·intro w'
                           go_simp
                           with_reducible rfl
                          rotate_left
                          ·simp only [Act.put, List.setIfInBounds_toArray, List.set_cons_zero, List.set_cons_succ, i64_w, i32_w]
                           rfl
                          refine pure_ (i := 6) (N := some 106) (v := ?_) (a' := ?_) #[true, true, true, false, true, true, true, false, false, false, false, false, false, false, false, false, false, false, false, false, false, false, false, false] rfl rfl (ao HT_.out) (fun _ _ _ h => h) (Or.inl ⟨by rfl, ?_⟩) ?_ ?_
                          rotate_left
                          ·intro w'
                           go_simp
                           with_reducible rfl
                          rotate_left
                          ·simp only [Act.put, List.setIfInBounds_toArray, List.set_cons_zero, List.set_cons_succ, i64_w, i32_w]
                           rfl
                          refine take_ (i := 3) (N := some 103) (v := ?_) (a' := ?_) #[true, true, true, true, true, true, true, false, false, false, false, false, false, false, false, false, false, false, false, false, false, false, false, false] rfl rfl (take_ofW HT_.out HW_.out (by kernel_rfl)) (fun _ _ _ h => h) (Or.inl ⟨by rfl, ?_⟩) hHeld ?_ ?_
                          rotate_left
                          ·rintro w' ⟨s0, s1, s2, s3, s4⟩
                           go_simp
                           with_reducible rfl
                          rotate_left
                          ·simp only [Act.put, List.setIfInBounds_toArray, List.set_cons_zero, List.set_cons_succ, i64_w, i32_w]
                           rfl
                          refine take_ (i := 7) (N := some 107) (v := ?_) (a' := ?_) #[true, true, true, true, true, true, true, true, false, false, false, false, false, false, false, false, false, false, false, false, false, false, false, false] rfl rfl (take_ofW HT_.out HW_.out (by kernel_rfl)) (fun _ _ _ h => h) (Or.inl ⟨by rfl, ?_⟩) hHeld ?_ ?_
                          rotate_left
                          ·rintro w' ⟨s0, s1, s2, s3, s4⟩
                           go_simp
                           with_reducible rfl
                          rotate_left
                          ·simp only [Act.put, List.setIfInBounds_toArray, List.set_cons_zero, List.set_cons_succ, i64_w, i32_w]
                           rfl
                          refine pure_ (i := 8) (N := some 108) (v := ?_) (a' := ?_) #[true, true, true, true, true, true, true, true, true, false, false, false, false, false, false, false, false, false, false, false, false, false, false, false] rfl rfl (ao HT_.out) (fun _ _ _ h => h) (Or.inl ⟨by rfl, ?_⟩) ?_ ?_
                          rotate_left
                          ·intro w'
                           go_simp
                           with_reducible rfl
                          rotate_left
                          ·simp only [Act.put, List.setIfInBounds_toArray, List.set_cons_zero, List.set_cons_succ, i64_w, i32_w]
                           rfl
                          refine pure_ (i := 9) (N := some 109) (v := ?_) (a' := ?_) #[true, true, true, true, true, true, true, true, true, true, false, false, false, false, false, false, false, false, false, false, false, false, false, false] rfl rfl (ao HT_.out) (fun _ _ _ h => h) (Or.inl ⟨by rfl, ?_⟩) ?_ ?_
                          rotate_left
                          ·intro w'
                           go_simp
                           with_reducible rfl
                          rotate_left
                          ·simp only [Act.put, List.setIfInBounds_toArray, List.set_cons_zero, List.set_cons_succ, i64_w, i32_w]
                           rfl
                          refine pure_ (i := 10) (N := some 110) (v := ?_) (a' := ?_) #[true, true, true, true, true, true, true, true, true, true, true, false, false, false, false, false, false, false, false, false, false, false, false, false] rfl rfl (ao HT_.out) (fun _ _ _ h => h) (Or.inl ⟨by rfl, ?_⟩) ?_ ?_
                          rotate_left
                          ·intro w'
                           go_simp
                           with_reducible rfl
                          rotate_left
                          ·simp only [Act.put, List.setIfInBounds_toArray, List.set_cons_zero, List.set_cons_succ, i64_w, i32_w]
                           rfl
                          refine pure_ (i := 11) (N := some 111) (v := ?_) (a' := ?_) #[true, true, true, true, true, true, true, true, true, true, true, true, false, false, false, false, false, false, false, false, false, false, false, false] rfl rfl (ao HT_.out) (fun _ _ _ h => h) (Or.inl ⟨by rfl, ?_⟩) ?_ ?_
                          rotate_left
                          ·intro w'
                           go_simp
                           with_reducible rfl
                          rotate_left
                          ·simp only [Act.put, List.setIfInBounds_toArray, List.set_cons_zero, List.set_cons_succ, i64_w, i32_w]
                           rfl
                          refine pure_ (i := 13) (N := some 113) (v := ?_) (a' := ?_) #[true, true, true, true, true, true, true, true, true, true, true, true, false, true, false, false, false, false, false, false, false, false, false, false] rfl rfl (ao HT_.out) (fun _ _ _ h => h) (Or.inl ⟨by rfl, ?_⟩) ?_ ?_
                          rotate_left
                          ·intro w'
                           go_simp
                           with_reducible rfl
                          rotate_left
                          ·simp only [Act.put, List.setIfInBounds_toArray, List.set_cons_zero, List.set_cons_succ, i64_w, i32_w]
                           rfl
                          refine pure_ (i := 16) (N := some 116) (v := ?_) (a' := ?_) #[true, true, true, true, true, true, true, true, true, true, true, true, false, true, false, false, true, false, false, false, false, false, false, false] rfl rfl (ao HT_.out) (fun _ _ _ h => h) (Or.inl ⟨by rfl, ?_⟩) ?_ ?_
                          rotate_left
                          ·intro w'
                           go_simp
                           with_reducible rfl
                          rotate_left
                          ·simp only [Act.put, List.setIfInBounds_toArray, List.set_cons_zero, List.set_cons_succ, i64_w, i32_w]
                           rfl
                          refine pure_ (i := 18) (N := some 118) (v := ?_) (a' := ?_) #[true, true, true, true, true, true, true, true, true, true, true, true, false, true, false, false, true, false, true, false, false, false, false, false] rfl rfl (ao HT_.out) (fun _ _ _ h => h) (Or.inl ⟨by rfl, ?_⟩) ?_ ?_
                          rotate_left
                          ·intro w'
                           go_simp
                           with_reducible rfl
                          rotate_left
                          ·simp only [Act.put, List.setIfInBounds_toArray, List.set_cons_zero, List.set_cons_succ, i64_w, i32_w]
                           rfl
                          refine take_ (i := 12) (N := some 112) (v := ?_) (a' := ?_) #[true, true, true, true, true, true, true, true, true, true, true, true, true, true, false, false, true, false, true, false, false, false, false, false] rfl rfl (take_ofW HT_.out HW_.out (by kernel_rfl)) (fun _ _ _ h => h) (Or.inl ⟨by rfl, ?_⟩) hHeld ?_ ?_
                          rotate_left
                          ·rintro w' ⟨s0, s1, s2, s3, s4⟩
                           go_simp
                           with_reducible rfl
                          rotate_left
                          ·simp only [Act.put, List.setIfInBounds_toArray, List.set_cons_zero, List.set_cons_succ, i64_w, i32_w]
                           rfl
                          refine pure_ (i := 14) (N := some 114) (v := ?_) (a' := ?_) #[true, true, true, true, true, true, true, true, true, true, true, true, true, true, true, false, true, false, true, false, false, false, false, false] rfl rfl (ao HT_.out) (fun _ _ _ h => h) (Or.inl ⟨by rfl, ?_⟩) ?_ ?_
                          rotate_left
                          ·intro w'
                           go_simp
                           with_reducible rfl
                          rotate_left
                          ·simp only [Act.put, List.setIfInBounds_toArray, List.set_cons_zero, List.set_cons_succ, i64_w, i32_w]
                           rfl
                          refine take_ (i := 15) (N := some 115) (v := ?_) (a' := ?_) #[true, true, true, true, true, true, true, true, true, true, true, true, true, true, true, true, true, false, true, false, false, false, false, false] rfl rfl (take_ofW HT_.out HW_.out (by kernel_rfl)) (fun _ _ _ h => h) (Or.inl ⟨by rfl, ?_⟩) hHeld ?_ ?_
                          rotate_left
                          ·rintro w' ⟨s0, s1, s2, s3, s4⟩
                           go_simp
                           with_reducible rfl
                          rotate_left
                          ·simp only [Act.put, List.setIfInBounds_toArray, List.set_cons_zero, List.set_cons_succ, i64_w, i32_w]
                           rfl
                          refine take_ (i := 17) (N := some 117) (v := ?_) (a' := ?_) #[true, true, true, true, true, true, true, true, true, true, true, true, true, true, true, true, true, true, true, false, false, false, false, false] rfl rfl (take_ofW HT_.out HW_.out (by kernel_rfl)) (fun _ _ _ h => h) (Or.inl ⟨by rfl, ?_⟩) hHeld ?_ ?_
                          rotate_left
                          ·rintro w' ⟨s0, s1, s2, s3, s4⟩
                           go_simp
                           with_reducible rfl
                          rotate_left
                          ·simp only [Act.put, List.setIfInBounds_toArray, List.set_cons_zero, List.set_cons_succ, i64_w, i32_w]
                           rfl
                          refine pure_ (i := 19) (N := some 119) (v := ?_) (a' := ?_) #[true, true, true, true, true, true, true, true, true, true, true, true, true, true, true, true, true, true, true, true, false, false, false, false] rfl rfl (ao HT_.out) (fun _ _ _ h => h) (Or.inl ⟨by rfl, ?_⟩) ?_ ?_
                          rotate_left
                          ·intro w'
                           go_simp
                           with_reducible rfl
                          rotate_left
                          ·simp only [Act.put, List.setIfInBounds_toArray, List.set_cons_zero, List.set_cons_succ, i64_w, i32_w]
                           rfl
                          refine take_ (i := 20) (N := some 120) (v := ?_) (a' := ?_) #[true, true, true, true, true, true, true, true, true, true, true, true, true, true, true, true, true, true, true, true, true, false, false, false] rfl rfl (take_ofW HT_.out HW_.out (by kernel_rfl)) (fun _ _ _ h => h) (Or.inl ⟨by rfl, ?_⟩) hHeld ?_ ?_
                          rotate_left
                          ·rintro w' ⟨s0, s1, s2, s3, s4⟩
                           go_simp
                           with_reducible rfl
                          rotate_left
                          ·simp only [Act.put, List.setIfInBounds_toArray, List.set_cons_zero, List.set_cons_succ, i64_w, i32_w]
                           rfl
                          refine one_ (i := 21) (N := some 121) #[true, true, true, true, true, true, true, true, true, true, true, true, true, true, true, true, true, true, true, true, true, true, false, false] rfl rfl (one_of HT_.out (by kernel_rfl)) (by decide) (fun K hK => ?_)
                          refine goes_ Tryd.func58 (by kernel_rfl) rfl #[.string (rdOf ByteArray.empty l0_0 x15_4), .string (rdOf ByteArray.empty l0_0 x14_3)] (by rfl) rfl rfl vm ?_
                          with_reducible refine (impl_distance.calls k4 (rdOf ByteArray.empty l0_0 x15_4) (rdOf ByteArray.empty l0_0 x14_3) t255 _ A82.out).mono ?_
                          rintro e w86 ⟨rfl, hb⟩
                          have HS1_ := (hb.cell (World.block_lt_of_cell? _ _ (hHeld.2.1))).trans (hHeld.2.1)
                          have HS2_ := (hb.cell (World.block_lt_of_cell? _ _ (hHeld.2.2.1))).trans (hHeld.2.2.1)
                          refine ⟨_, rfl, ?_⟩
                          have n0_ := ak (Kd.R_below (vr HO_8.out) hb)
                          have n1_ := ak (Kd.R_below (vr HO_13.out) hb)
                          have n2_ := ak (blk_below (vb BK222.out) hb)
                          have n3_ := ak (below_step (vs1 HB.out GE222.out) hb)
                          clear HO_8
                          clear HO_13
                          clear BK222
                          clear HB
                          have HO_8 := n0_
                          have HO_13 := n1_
                          have BK222 := n2_
                          have HB := n3_
                          clear n0_ n1_ n2_ n3_
                          (try clear hb)
                          (try clear hb2)
                          (try clear hk)
                          (try clear hi)
                          refine hK.out _ _ ⟨(blk_cell BK222.out 0).trans rfl, HS1_, HS2_, ((HB.out.cell (World.block_lt_of_cell? w _ hw253_0)).trans hw253_0), ((HB.out.cell (World.block_lt_of_cell? w _ hw254_0)).trans hw254_0)⟩ (fun hHeld => ?_)
                          clear hK K
                          refine norm_ (a' := ?_) ?_ ?_
                          rotate_left
                          ·show Act.put _ (some 121) _ = _
                           simp only [Act.put, List.setIfInBounds_toArray, List.set_cons_zero, List.set_cons_succ, i64_w, i32_w]
                           rfl
                          refine pure_ (i := 22) (N := some 122) (v := ?_) (a' := ?_) #[true, true, true, true, true, true, true, true, true, true, true, true, true, true, true, true, true, true, true, true, true, true, true, false] rfl rfl (ao HT_.out) (fun _ _ _ h => h) (Or.inl ⟨by rfl, ?_⟩) ?_ ?_
                          rotate_left
                          ·intro w'
                           go_simp
                           with_reducible rfl
                          rotate_left
                          ·simp only [Act.put, List.setIfInBounds_toArray, List.set_cons_zero, List.set_cons_succ, i64_w, i32_w]
                           rfl
                          refine pure_ (i := 23) (N := some 123) (v := ?_) (a' := ?_) #[true, true, true, true, true, true, true, true, true, true, true, true, true, true, true, true, true, true, true, true, true, true, true, true] rfl rfl (ao HT_.out) (fun _ _ _ h => h) (Or.inl ⟨by rfl, ?_⟩) ?_ ?_
                          rotate_left
                          ·intro w'
                           go_simp
                           with_reducible rfl
                          rotate_left
                          ·simp only [Act.put, List.setIfInBounds_toArray, List.set_cons_zero, List.set_cons_succ, i64_w, i32_w]
                           rfl
                          refine done_ (done_of HT_.out (by kernel_rfl)) ?_
                          try go_wp2_with (first | ((with_reducible refine gate_builtin (b := .append) (xs := #[.tmp 127, .tmp 129]) rfl ?_); at_builtin; refine Kd.R_append (Kd.int .i64) (w0 := w) w.heap.size rfl (.tmp 127) (.tmp 129) 32 3 (.int .i64 0) 8 rfl Tryd.underlying32 info3 rfl (by decide) (by omega) u13 x13_3 x15_4 [.int .i64 x15_4] (fun k_ => some k_ ≠ (.slice (some ⟨go27, 0, none⟩) x8_2.length co27 : Value).ownBlock) (fun _ => False) rfl rfl ?aP (fun _ hk => hk.elim) ?aF ?aO ?aB ?aS ?aL ?_; (case aP => exact rfl); (case aB => exact (vs1 HB.out GE222.out)); (case aF => exact (fun k_ hk => Kd.fresh' (Kd.R_lt (vr HO_8.out)) k_ hk)); (case aO => exact (vr HO_13.out)); (case aS => exact (below_size (vs1 HB.out GE222.out))); (case aL => have := LMc84.out; omega); intro v257 w87 ho hb hg hat; rw [← Ny256.out] at ho; have n0_ := ak (Kd.R_after (ok := (fun _ => True)) (by exact vr (Kd.R_mono HO_8.out (fun _ hk => ⟨trivial, hk⟩))) hg hat); have n1_ := ak (blk_grown (g := gb222) (o := .cells #[.slice (some ad253) l0_0.length c0_0] 28 (0, 0)) (vb BK222.out) hg (Kd.R_ne HO_13.out BK222.out (by decide))); have n2_ := ak (hb); have n3_ := ak (ho); clear HO_8; clear BK222; clear HB; clear HO_13; have HO_8 := n0_; have BK222 := n1_; have HB := n2_; have HO258 := n3_; clear n0_ n1_ n2_ n3_; clear ho hb hg hat))
                          go_roundg k4
                          case measure => have := HJ3.out; have := HK2.out; have := HK3.out; have := HK4.out; omega
                          case rel => exact ⟨(y256), (x15_4), (by first | rfl | (simp; done) | (simp [*]; done)), H', ⟨by have := HJ3.out; have := HK2.out; have := HK3.out; have := HK4.out; omega⟩, ⟨by (try simp only [hl8_2]); exact vr (Kd.R_mono HO_8.out (fun _ hk => hk.2))⟩, ⟨by (try simp only [hl8_2]); exact vr HO258.out⟩, ⟨by (try simp only [hl8_2]); exact vb BK222.out⟩, ⟨by exact vs1 HB.out GE222.out⟩⟩
                         ·rw [if_neg c84] at H
                          exact absurd H (by simp)
                        ·rw [if_neg c83] at H
                         have c83b0 : (t255 == 1) = false := beq_eq_false_iff_ne.mpr c83
                         have c83b1 : (t255 != 1) = true := bne_iff_ne.mpr c83
                         have H' := Aside0.mk H
                         clear H
                         try go_wp2
                         have n0_ := ak (Kd.R_drew HO_8.out)
                         have n1_ := ak (Kd.R_drew HO_13.out)
                         have n2_ := ak (blk_drew BK222.out)
                         have n3_ := ak (below_drew1 HB.out)
                         clear HO_8
                         clear HO_13
                         clear BK222
                         clear HB
                         have HO_8 := n0_
                         have HO_13 := n1_
                         have BK222 := n2_
                         have HB := n3_
                         clear n0_ n1_ n2_ n3_
                         have p251 : 0 ≤ (x15_4 : Int) := of_decide_eq_true va
                         have q251 : x15_4 < (x8_2.length : Int) := of_decide_eq_true va
                         obtain ⟨ad251, e251, hx251_0⟩ := Kd.at_int (Kd.R_reads' HO_8.out).2.2 x15_4 p251 q251
                         obtain rfl : (⟨go27, 0, none⟩ : Addr) = ad251 := (by injection e251)
                         (first | simp only [add_plain] at hx251_0 | simp only [add_at] at hx251_0 | simp only [Addr.add, Nat.zero_add] at hx251_0 | skip)
                         replace p251 := eq_true p251
                         replace q251 := eq_true q251
                         have p252 : 0 ≤ (x14_3 : Int) := of_decide_eq_true va
                         have q252 : x14_3 < (x8_2.length : Int) := of_decide_eq_true va
                         obtain ⟨ad252, e252, hx252_0⟩ := Kd.at_int (Kd.R_reads' HO_8.out).2.2 x14_3 p252 q252
                         obtain rfl : (⟨go27, 0, none⟩ : Addr) = ad252 := (by injection e252)
                         (first | simp only [add_plain] at hx252_0 | simp only [add_at] at hx252_0 | simp only [Addr.add, Nat.zero_add] at hx252_0 | skip)
                         replace p252 := eq_true p252
                         replace q252 := eq_true q252
                         have p253 : 0 ≤ (x15_4 : Int) := of_decide_eq_true va
                         have q253 : x15_4 < (l0_0.length : Int) := of_decide_eq_true va
                         obtain ⟨ad253, e253, hx253_0⟩ := Kd.at_string HR0_0.out x15_4 p253 q253
                         have hw253_0 := hx253_0
                         cases e253
                         (try replace hx253_0 := (HB.out.cell (World.block_lt_of_cell? w _ hx253_0)).trans hx253_0)
                         replace p253 := eq_true p253
                         replace q253 := eq_true q253
                         have p254 : 0 ≤ (x14_3 : Int) := of_decide_eq_true va
                         have q254 : x14_3 < (l0_0.length : Int) := of_decide_eq_true va
                         obtain ⟨ad254, e254, hx254_0⟩ := Kd.at_string HR0_0.out x14_3 p254 q254
                         have hw254_0 := hx254_0
                         obtain rfl : ad253 = ad254 := (by injection e254)
                         (try replace hx254_0 := (HB.out.cell (World.block_lt_of_cell? w _ hx254_0)).trans hx254_0)
                         replace p254 := eq_true p254
                         replace q254 := eq_true q254
                         refine start_ (n := 24) (S := fun w' => w'.cell? ⟨gb222, 0, none⟩ = some (.slice (some ad253) l0_0.length c0_0) ∧ w'.cell? ⟨go27, (x15_4).toNat, none⟩ = some (.int .i64 (rd x8_2 x15_4)) ∧ w'.cell? ⟨go27, (x14_3).toNat, none⟩ = some (.int .i64 (rd x8_2 x14_3)) ∧ w'.cell? (ad253.add (x15_4).toNat) = some (.string (rdOf ByteArray.empty l0_0 x15_4)) ∧ w'.cell? (ad253.add (x14_3).toNat) = some (.string (rdOf ByteArray.empty l0_0 x14_3))) (ds := []) #[false, false, false, false, false, false, false, false, false, false, false, false, false, false, false, false, false, false, false, false, false, false, false, false] (by kernel_rfl) rfl rfl ⟨(blk_cell BK222.out 0).trans rfl, hx251_0, hx252_0, ((HB.out.cell (World.block_lt_of_cell? w _ hw253_0)).trans hw253_0), ((HB.out.cell (World.block_lt_of_cell? w _ hw254_0)).trans hw254_0)⟩ (fun hHeld => ?_); refine with_tabW impl_MistakeChain.tab21 impl_MistakeChain.bits21 (fun HT_ HW_ => ?_)
                         generalize wr.drew = w88 at HO_8 HO_13 BK222 HB hx251_0 hx252_0 hx253_0 hx254_0 hHeld ⊢
                         refine pure_ (i := 0) (N := some 100) (v := ?_) (a' := ?_) #[true, false, false, false, false, false, false, false, false, false, false, false, false, false, false, false, false, false, false, false, false, false, false, false] rfl rfl (ao HT_.out) (fun _ _ _ h => h) (Or.inl ⟨by rfl, ?_⟩) ?_ ?_
                         rotate_left
                         ·intro w'
                          go_simp
                          with_reducible rfl
                         rotate_left
                         ·simp only [Act.put, List.setIfInBounds_toArray, List.set_cons_zero, List.set_cons_succ, i64_w, i32_w]
                          rfl
                         refine pure_ (i := 1) (N := some 101) (v := ?_) (a' := ?_) #[true, true, false, false, false, false, false, false, false, false, false, false, false, false, false, false, false, false, false, false, false, false, false, false] rfl rfl (ao HT_.out) (fun _ _ _ h => h) (Or.inl ⟨by rfl, ?_⟩) ?_ ?_
                         rotate_left
                         ·intro w'
                          go_simp
                          with_reducible rfl
                         rotate_left
                         ·simp only [Act.put, List.setIfInBounds_toArray, List.set_cons_zero, List.set_cons_succ, i64_w, i32_w]
                          rfl
                         refine pure_ (i := 2) (N := some 102) (v := ?_) (a' := ?_) #[true, true, true, false, false, false, false, false, false, false, false, false, false, false, false, false, false, false, false, false, false, false, false, false] rfl rfl (ao HT_.out) (fun _ _ _ h => h) (Or.inl ⟨by rfl, ?_⟩) ?_ ?_
                         rotate_left
                         ·intro w'
                          go_simp
                          with_reducible rfl
                         rotate_left
                         ·simp only [Act.put, List.setIfInBounds_toArray, List.set_cons_zero, List.set_cons_succ, i64_w, i32_w]
                          rfl
                         refine pure_ (i := 4) (N := some 104) (v := ?_) (a' := ?_) #[true, true, true, false, true, false, false, false, false, false, false, false, false, false, false, false, false, false, false, false, false, false, false, false] rfl rfl (ao HT_.out) (fun _ _ _ h => h) (Or.inl ⟨by rfl, ?_⟩) ?_ ?_
                         rotate_left
                         ·intro w'
                          go_simp
                          with_reducible rfl
                         rotate_left
                         ·simp only [Act.put, List.setIfInBounds_toArray, List.set_cons_zero, List.set_cons_succ, i64_w, i32_w]
                          rfl
                         refine pure_ (i := 5) (N := some 105) (v := ?_) (a' := ?_) #[true, true, true, false, true, true, false, false, false, false, false, false, false, false, false, false, false, false, false, false, false, false, false, false] rfl rfl (ao HT_.out) (fun _ _ _ h => h) (Or.inl ⟨by rfl, ?_⟩) ?_ ?_
                         rotate_left
                         ·intro w'
                          go_simp
                          with_reducible rfl
                         rotate_left
                         ·simp only [Act.put, List.setIfInBounds_toArray, List.set_cons_zero, List.set_cons_succ, i64_w, i32_w]
                          rfl
                         refine pure_ (i := 6) (N := some 106) (v := ?_) (a' := ?_) #[true, true, true, false, true, true, true, false, false, false, false, false, false, false, false, false, false, false, false, false, false, false, false, false] rfl rfl (ao HT_.out) (fun _ _ _ h => h) (Or.inl ⟨by rfl, ?_⟩) ?_ ?_
                         rotate_left
                         ·intro w'
                          go_simp
                          with_reducible rfl
                         rotate_left
                         ·simp only [Act.put, List.setIfInBounds_toArray, List.set_cons_zero, List.set_cons_succ, i64_w, i32_w]
                          rfl
                         refine take_ (i := 3) (N := some 103) (v := ?_) (a' := ?_) #[true, true, true, true, true, true, true, false, false, false, false, false, false, false, false, false, false, false, false, false, false, false, false, false] rfl rfl (take_ofW HT_.out HW_.out (by kernel_rfl)) (fun _ _ _ h => h) (Or.inl ⟨by rfl, ?_⟩) hHeld ?_ ?_
                         rotate_left
                         ·rintro w' ⟨s0, s1, s2, s3, s4⟩
                          go_simp
                          with_reducible rfl
                         rotate_left
                         ·simp only [Act.put, List.setIfInBounds_toArray, List.set_cons_zero, List.set_cons_succ, i64_w, i32_w]
                          rfl
                         refine take_ (i := 7) (N := some 107) (v := ?_) (a' := ?_) #[true, true, true, true, true, true, true, true, false, false, false, false, false, false, false, false, false, false, false, false, false, false, false, false] rfl rfl (take_ofW HT_.out HW_.out (by kernel_rfl)) (fun _ _ _ h => h) (Or.inl ⟨by rfl, ?_⟩) hHeld ?_ ?_
                         rotate_left
                         ·rintro w' ⟨s0, s1, s2, s3, s4⟩
                          go_simp
                          with_reducible rfl
                         rotate_left
                         ·simp only [Act.put, List.setIfInBounds_toArray, List.set_cons_zero, List.set_cons_succ, i64_w, i32_w]
                          rfl
                         refine pure_ (i := 8) (N := some 108) (v := ?_) (a' := ?_) #[true, true, true, true, true, true, true, true, true, false, false, false, false, false, false, false, false, false, false, false, false, false, false, false] rfl rfl (ao HT_.out) (fun _ _ _ h => h) (Or.inl ⟨by rfl, ?_⟩) ?_ ?_
                         rotate_left
                         ·intro w'
                          go_simp
                          with_reducible rfl
                         rotate_left
                         ·simp only [Act.put, List.setIfInBounds_toArray, List.set_cons_zero, List.set_cons_succ, i64_w, i32_w]
                          rfl
                         refine pure_ (i := 9) (N := some 109) (v := ?_) (a' := ?_) #[true, true, true, true, true, true, true, true, true, true, false, false, false, false, false, false, false, false, false, false, false, false, false, false] rfl rfl (ao HT_.out) (fun _ _ _ h => h) (Or.inl ⟨by rfl, ?_⟩) ?_ ?_
                         rotate_left
                         ·intro w'
                          go_simp
                          with_reducible rfl
                         rotate_left
                         ·simp only [Act.put, List.setIfInBounds_toArray, List.set_cons_zero, List.set_cons_succ, i64_w, i32_w]
                          rfl
                         refine pure_ (i := 10) (N := some 110) (v := ?_) (a' := ?_) #[true, true, true, true, true, true, true, true, true, true, true, false, false, false, false, false, false, false, false, false, false, false, false, false] rfl rfl (ao HT_.out) (fun _ _ _ h => h) (Or.inl ⟨by rfl, ?_⟩) ?_ ?_
                         rotate_left
                         ·intro w'
                          go_simp
                          with_reducible rfl
                         rotate_left
                         ·simp only [Act.put, List.setIfInBounds_toArray, List.set_cons_zero, List.set_cons_succ, i64_w, i32_w]
                          rfl
                         refine pure_ (i := 11) (N := some 111) (v := ?_) (a' := ?_) #[true, true, true, true, true, true, true, true, true, true, true, true, false, false, false, false, false, false, false, false, false, false, false, false] rfl rfl (ao HT_.out) (fun _ _ _ h => h) (Or.inl ⟨by rfl, ?_⟩) ?_ ?_
                         rotate_left
                         ·intro w'
                          go_simp
                          with_reducible rfl
                         rotate_left
                         ·simp only [Act.put, List.setIfInBounds_toArray, List.set_cons_zero, List.set_cons_succ, i64_w, i32_w]
                          rfl
                         refine pure_ (i := 13) (N := some 113) (v := ?_) (a' := ?_) #[true, true, true, true, true, true, true, true, true, true, true, true, false, true, false, false, false, false, false, false, false, false, false, false] rfl rfl (ao HT_.out) (fun _ _ _ h => h) (Or.inl ⟨by rfl, ?_⟩) ?_ ?_
                         rotate_left
                         ·intro w'
                          go_simp
                          with_reducible rfl
                         rotate_left
                         ·simp only [Act.put, List.setIfInBounds_toArray, List.set_cons_zero, List.set_cons_succ, i64_w, i32_w]
                          rfl
                         refine pure_ (i := 16) (N := some 116) (v := ?_) (a' := ?_) #[true, true, true, true, true, true, true, true, true, true, true, true, false, true, false, false, true, false, false, false, false, false, false, false] rfl rfl (ao HT_.out) (fun _ _ _ h => h) (Or.inl ⟨by rfl, ?_⟩) ?_ ?_
                         rotate_left
                         ·intro w'
                          go_simp
                          with_reducible rfl
                         rotate_left
                         ·simp only [Act.put, List.setIfInBounds_toArray, List.set_cons_zero, List.set_cons_succ, i64_w, i32_w]
                          rfl
                         refine pure_ (i := 18) (N := some 118) (v := ?_) (a' := ?_) #[true, true, true, true, true, true, true, true, true, true, true, true, false, true, false, false, true, false, true, false, false, false, false, false] rfl rfl (ao HT_.out) (fun _ _ _ h => h) (Or.inl ⟨by rfl, ?_⟩) ?_ ?_
                         rotate_left
                         ·intro w'
                          go_simp
                          with_reducible rfl
                         rotate_left
                         ·simp only [Act.put, List.setIfInBounds_toArray, List.set_cons_zero, List.set_cons_succ, i64_w, i32_w]
                          rfl
                         refine take_ (i := 12) (N := some 112) (v := ?_) (a' := ?_) #[true, true, true, true, true, true, true, true, true, true, true, true, true, true, false, false, true, false, true, false, false, false, false, false] rfl rfl (take_ofW HT_.out HW_.out (by kernel_rfl)) (fun _ _ _ h => h) (Or.inl ⟨by rfl, ?_⟩) hHeld ?_ ?_
                         rotate_left
                         ·rintro w' ⟨s0, s1, s2, s3, s4⟩
                          go_simp
                          with_reducible rfl
                         rotate_left
                         ·simp only [Act.put, List.setIfInBounds_toArray, List.set_cons_zero, List.set_cons_succ, i64_w, i32_w]
                          rfl
                         refine pure_ (i := 14) (N := some 114) (v := ?_) (a' := ?_) #[true, true, true, true, true, true, true, true, true, true, true, true, true, true, true, false, true, false, true, false, false, false, false, false] rfl rfl (ao HT_.out) (fun _ _ _ h => h) (Or.inl ⟨by rfl, ?_⟩) ?_ ?_
                         rotate_left
                         ·intro w'
                          go_simp
                          with_reducible rfl
                         rotate_left
                         ·simp only [Act.put, List.setIfInBounds_toArray, List.set_cons_zero, List.set_cons_succ, i64_w, i32_w]
                          rfl
                         refine take_ (i := 15) (N := some 115) (v := ?_) (a' := ?_) #[true, true, true, true, true, true, true, true, true, true, true, true, true, true, true, true, true, false, true, false, false, false, false, false] rfl rfl (take_ofW HT_.out HW_.out (by kernel_rfl)) (fun _ _ _ h => h) (Or.inl ⟨by rfl, ?_⟩) hHeld ?_ ?_
                         rotate_left
                         ·rintro w' ⟨s0, s1, s2, s3, s4⟩
                          go_simp
                          with_reducible rfl
                         rotate_left
                         ·simp only [Act.put, List.setIfInBounds_toArray, List.set_cons_zero, List.set_cons_succ, i64_w, i32_w]
                          rfl
                         refine take_ (i := 17) (N := some 117) (v := ?_) (a' := ?_) #[true, true, true, true, true, true, true, true, true, true, true, true, true, true, true, true, true, true, true, false, false, false, false, false] rfl rfl (take_ofW HT_.out HW_.out (by kernel_rfl)) (fun _ _ _ h => h) (Or.inl ⟨by rfl, ?_⟩) hHeld ?_ ?_
                         rotate_left
                         ·rintro w' ⟨s0, s1, s2, s3, s4⟩
                          go_simp
                          with_reducible rfl
                         rotate_left
                         ·simp only [Act.put, List.setIfInBounds_toArray, List.set_cons_zero, List.set_cons_succ, i64_w, i32_w]
                          rfl
                         refine pure_ (i := 19) (N := some 119) (v := ?_) (a' := ?_) #[true, true, true, true, true, true, true, true, true, true, true, true, true, true, true, true, true, true, true, true, false, false, false, false] rfl rfl (ao HT_.out) (fun _ _ _ h => h) (Or.inl ⟨by rfl, ?_⟩) ?_ ?_
                         rotate_left
                         ·intro w'
                          go_simp
                          with_reducible rfl
                         rotate_left
                         ·simp only [Act.put, List.setIfInBounds_toArray, List.set_cons_zero, List.set_cons_succ, i64_w, i32_w]
                          rfl
                         refine take_ (i := 20) (N := some 120) (v := ?_) (a' := ?_) #[true, true, true, true, true, true, true, true, true, true, true, true, true, true, true, true, true, true, true, true, true, false, false, false] rfl rfl (take_ofW HT_.out HW_.out (by kernel_rfl)) (fun _ _ _ h => h) (Or.inl ⟨by rfl, ?_⟩) hHeld ?_ ?_
                         rotate_left
                         ·rintro w' ⟨s0, s1, s2, s3, s4⟩
                          go_simp
                          with_reducible rfl
                         rotate_left
                         ·simp only [Act.put, List.setIfInBounds_toArray, List.set_cons_zero, List.set_cons_succ, i64_w, i32_w]
                          rfl
                         refine one_ (i := 21) (N := some 121) #[true, true, true, true, true, true, true, true, true, true, true, true, true, true, true, true, true, true, true, true, true, true, false, false] rfl rfl (one_of HT_.out (by kernel_rfl)) (by decide) (fun K hK => ?_)
                         refine goes_ Tryd.func58 (by kernel_rfl) rfl #[.string (rdOf ByteArray.empty l0_0 x15_4), .string (rdOf ByteArray.empty l0_0 x14_3)] (by rfl) rfl rfl vm ?_
                         with_reducible refine (impl_distance.calls k4 (rdOf ByteArray.empty l0_0 x15_4) (rdOf ByteArray.empty l0_0 x14_3) t255 _ A82.out).mono ?_
                         rintro e w89 ⟨rfl, hb⟩
                         have HS1_ := (hb.cell (World.block_lt_of_cell? _ _ (hHeld.2.1))).trans (hHeld.2.1)
                         have HS2_ := (hb.cell (World.block_lt_of_cell? _ _ (hHeld.2.2.1))).trans (hHeld.2.2.1)
                         refine ⟨_, rfl, ?_⟩
                         have n0_ := ak (Kd.R_below (vr HO_8.out) hb)
                         have n1_ := ak (Kd.R_below (vr HO_13.out) hb)
                         have n2_ := ak (blk_below (vb BK222.out) hb)
                         have n3_ := ak (below_step (vs1 HB.out GE222.out) hb)
                         clear HO_8
                         clear HO_13
                         clear BK222
                         clear HB
                         have HO_8 := n0_
                         have HO_13 := n1_
                         have BK222 := n2_
                         have HB := n3_
                         clear n0_ n1_ n2_ n3_
                         (try clear hb)
                         (try clear hb2)
                         (try clear hk)
                         (try clear hi)
                         refine hK.out _ _ ⟨(blk_cell BK222.out 0).trans rfl, HS1_, HS2_, ((HB.out.cell (World.block_lt_of_cell? w _ hw253_0)).trans hw253_0), ((HB.out.cell (World.block_lt_of_cell? w _ hw254_0)).trans hw254_0)⟩ (fun hHeld => ?_)
                         clear hK K
                         refine norm_ (a' := ?_) ?_ ?_
                         rotate_left
                         ·show Act.put _ (some 121) _ = _
                          simp only [Act.put, List.setIfInBounds_toArray, List.set_cons_zero, List.set_cons_succ, i64_w, i32_w]
                          rfl
                         refine pure_ (i := 22) (N := some 122) (v := ?_) (a' := ?_) #[true, true, true, true, true, true, true, true, true, true, true, true, true, true, true, true, true, true, true, true, true, true, true, false] rfl rfl (ao HT_.out) (fun _ _ _ h => h) (Or.inl ⟨by rfl, ?_⟩) ?_ ?_
                         rotate_left
                         ·intro w'
                          go_simp
                          with_reducible rfl
                         rotate_left
                         ·simp only [Act.put, List.setIfInBounds_toArray, List.set_cons_zero, List.set_cons_succ, i64_w, i32_w]
                          rfl
                         refine pure_ (i := 23) (N := some 123) (v := ?_) (a' := ?_) #[true, true, true, true, true, true, true, true, true, true, true, true, true, true, true, true, true, true, true, true, true, true, true, true] rfl rfl (ao HT_.out) (fun _ _ _ h => h) (Or.inl ⟨by rfl, ?_⟩) ?_ ?_
                         rotate_left
                         ·intro w'
                          go_simp
                          with_reducible rfl
                         rotate_left
                         ·simp only [Act.put, List.setIfInBounds_toArray, List.set_cons_zero, List.set_cons_succ, i64_w, i32_w]
                          rfl
                         refine done_ (done_of HT_.out (by kernel_rfl)) ?_
                         try go_wp2
                         go_roundg k4
                         case measure => have := HJ3.out; have := HK2.out; have := HK3.out; have := HK4.out; omega
                         case rel => exact ⟨(wrap64 (x15_4 + 1)), vq, H', ⟨by have := HJ3.out; have := HK2.out; have := HK3.out; have := HK4.out; omega⟩, ⟨by (try simp only [hl8_2]); exact vr HO_8.out⟩, ⟨by (try simp only [hl8_2]); exact vr HO_13.out⟩, ⟨by (try simp only [hl8_2]); exact vb BK222.out⟩, ⟨by exact vs1 HB.out GE222.out⟩⟩
                       ·rw [if_neg c81] at H
                        exact absurd H (by simp)
                      ·rw [if_neg c80] at H
                       exact absurd H (by simp)
                     ·rw [if_neg c79] at H
                      have c79b0 : ((rd x8_2 x15_4) == (wrap64 ((rd x8_2 x14_3) - 1))) = false := beq_eq_false_iff_ne.mpr c79
                      have c79b1 : ((rd x8_2 x15_4) != (wrap64 ((rd x8_2 x14_3) - 1))) = true := bne_iff_ne.mpr c79
                      have H' := Aside0.mk H
                      clear H
                      try go_wp2
                      have n0_ := ak (Kd.R_drew HO_8.out)
                      have n1_ := ak (Kd.R_drew HO_13.out)
                      have n2_ := ak (blk_drew BK222.out)
                      have n3_ := ak (below_drew1 HB.out)
                      clear HO_8
                      clear HO_13
                      clear BK222
                      clear HB
                      have HO_8 := n0_
                      have HO_13 := n1_
                      have BK222 := n2_
                      have HB := n3_
                      clear n0_ n1_ n2_ n3_
                      have p251 : 0 ≤ (x15_4 : Int) := of_decide_eq_true va
                      have q251 : x15_4 < (x8_2.length : Int) := of_decide_eq_true va
                      obtain ⟨ad251, e251, hx251_0⟩ := Kd.at_int (Kd.R_reads' HO_8.out).2.2 x15_4 p251 q251
                      obtain rfl : (⟨go27, 0, none⟩ : Addr) = ad251 := (by injection e251)
                      (first | simp only [add_plain] at hx251_0 | simp only [add_at] at hx251_0 | simp only [Addr.add, Nat.zero_add] at hx251_0 | skip)
                      replace p251 := eq_true p251
                      replace q251 := eq_true q251
                      have p252 : 0 ≤ (x14_3 : Int) := of_decide_eq_true va
                      have q252 : x14_3 < (x8_2.length : Int) := of_decide_eq_true va
                      obtain ⟨ad252, e252, hx252_0⟩ := Kd.at_int (Kd.R_reads' HO_8.out).2.2 x14_3 p252 q252
                      obtain rfl : (⟨go27, 0, none⟩ : Addr) = ad252 := (by injection e252)
                      (first | simp only [add_plain] at hx252_0 | simp only [add_at] at hx252_0 | simp only [Addr.add, Nat.zero_add] at hx252_0 | skip)
                      replace p252 := eq_true p252
                      replace q252 := eq_true q252
                      refine start_ (n := 24) (S := fun w' => w'.cell? ⟨go27, (x15_4).toNat, none⟩ = some (.int .i64 (rd x8_2 x15_4)) ∧ w'.cell? ⟨go27, (x14_3).toNat, none⟩ = some (.int .i64 (rd x8_2 x14_3))) (ds := []) #[false, false, false, false, false, false, false, false, false, false, false, false, false, false, false, false, false, false, false, false, false, false, false, false] (by kernel_rfl) rfl rfl ⟨hx251_0, hx252_0⟩ (fun hHeld => ?_); refine with_tabW impl_MistakeChain.tab21 impl_MistakeChain.bits21 (fun HT_ HW_ => ?_)
                      generalize wr.drew = w90 at HO_8 HO_13 BK222 HB hx251_0 hx252_0 hHeld ⊢
                      refine pure_ (i := 0) (N := some 100) (v := ?_) (a' := ?_) #[true, false, false, false, false, false, false, false, false, false, false, false, false, false, false, false, false, false, false, false, false, false, false, false] rfl rfl (ao HT_.out) (fun _ _ _ h => h) (Or.inl ⟨by rfl, ?_⟩) ?_ ?_
                      rotate_left
                      ·intro w'
                       go_simp
                       with_reducible rfl
                      rotate_left
                      ·simp only [Act.put, List.setIfInBounds_toArray, List.set_cons_zero, List.set_cons_succ, i64_w, i32_w]
                       rfl
                      refine pure_ (i := 1) (N := some 101) (v := ?_) (a' := ?_) #[true, true, false, false, false, false, false, false, false, false, false, false, false, false, false, false, false, false, false, false, false, false, false, false] rfl rfl (ao HT_.out) (fun _ _ _ h => h) (Or.inl ⟨by rfl, ?_⟩) ?_ ?_
                      rotate_left
                      ·intro w'
                       go_simp
                       with_reducible rfl
                      rotate_left
                      ·simp only [Act.put, List.setIfInBounds_toArray, List.set_cons_zero, List.set_cons_succ, i64_w, i32_w]
                       rfl
                      refine pure_ (i := 2) (N := some 102) (v := ?_) (a' := ?_) #[true, true, true, false, false, false, false, false, false, false, false, false, false, false, false, false, false, false, false, false, false, false, false, false] rfl rfl (ao HT_.out) (fun _ _ _ h => h) (Or.inl ⟨by rfl, ?_⟩) ?_ ?_
                      rotate_left
                      ·intro w'
                       go_simp
                       with_reducible rfl
                      rotate_left
                      ·simp only [Act.put, List.setIfInBounds_toArray, List.set_cons_zero, List.set_cons_succ, i64_w, i32_w]
                       rfl
                      refine pure_ (i := 4) (N := some 104) (v := ?_) (a' := ?_) #[true, true, true, false, true, false, false, false, false, false, false, false, false, false, false, false, false, false, false, false, false, false, false, false] rfl rfl (ao HT_.out) (fun _ _ _ h => h) (Or.inl ⟨by rfl, ?_⟩) ?_ ?_
                      rotate_left
                      ·intro w'
                       go_simp
                       with_reducible rfl
                      rotate_left
                      ·simp only [Act.put, List.setIfInBounds_toArray, List.set_cons_zero, List.set_cons_succ, i64_w, i32_w]
                       rfl
                      refine pure_ (i := 5) (N := some 105) (v := ?_) (a' := ?_) #[true, true, true, false, true, true, false, false, false, false, false, false, false, false, false, false, false, false, false, false, false, false, false, false] rfl rfl (ao HT_.out) (fun _ _ _ h => h) (Or.inl ⟨by rfl, ?_⟩) ?_ ?_
                      rotate_left
                      ·intro w'
                       go_simp
                       with_reducible rfl
                      rotate_left
                      ·simp only [Act.put, List.setIfInBounds_toArray, List.set_cons_zero, List.set_cons_succ, i64_w, i32_w]
                       rfl
                      refine pure_ (i := 6) (N := some 106) (v := ?_) (a' := ?_) #[true, true, true, false, true, true, true, false, false, false, false, false, false, false, false, false, false, false, false, false, false, false, false, false] rfl rfl (ao HT_.out) (fun _ _ _ h => h) (Or.inl ⟨by rfl, ?_⟩) ?_ ?_
                      rotate_left
                      ·intro w'
                       go_simp
                       with_reducible rfl
                      rotate_left
                      ·simp only [Act.put, List.setIfInBounds_toArray, List.set_cons_zero, List.set_cons_succ, i64_w, i32_w]
                       rfl
                      refine take_ (i := 3) (N := some 103) (v := ?_) (a' := ?_) #[true, true, true, true, true, true, true, false, false, false, false, false, false, false, false, false, false, false, false, false, false, false, false, false] rfl rfl (take_ofW HT_.out HW_.out (by kernel_rfl)) (fun _ _ _ h => h) (Or.inl ⟨by rfl, ?_⟩) hHeld ?_ ?_
                      rotate_left
                      ·rintro w' ⟨s0, s1⟩
                       go_simp
                       with_reducible rfl
                      rotate_left
                      ·simp only [Act.put, List.setIfInBounds_toArray, List.set_cons_zero, List.set_cons_succ, i64_w, i32_w]
                       rfl
                      refine take_ (i := 7) (N := some 107) (v := ?_) (a' := ?_) #[true, true, true, true, true, true, true, true, false, false, false, false, false, false, false, false, false, false, false, false, false, false, false, false] rfl rfl (take_ofW HT_.out HW_.out (by kernel_rfl)) (fun _ _ _ h => h) (Or.inl ⟨by rfl, ?_⟩) hHeld ?_ ?_
                      rotate_left
                      ·rintro w' ⟨s0, s1⟩
                       go_simp
                       with_reducible rfl
                      rotate_left
                      ·simp only [Act.put, List.setIfInBounds_toArray, List.set_cons_zero, List.set_cons_succ, i64_w, i32_w]
                       rfl
                      refine pure_ (i := 8) (N := some 108) (v := ?_) (a' := ?_) #[true, true, true, true, true, true, true, true, true, false, false, false, false, false, false, false, false, false, false, false, false, false, false, false] rfl rfl (ao HT_.out) (fun _ _ _ h => h) (Or.inl ⟨by rfl, ?_⟩) ?_ ?_
                      rotate_left
                      ·intro w'
                       go_simp
                       with_reducible rfl
                      rotate_left
                      ·simp only [Act.put, List.setIfInBounds_toArray, List.set_cons_zero, List.set_cons_succ, i64_w, i32_w]
                       rfl
                      refine pure_ (i := 9) (N := some 109) (v := ?_) (a' := ?_) #[true, true, true, true, true, true, true, true, true, true, false, false, false, false, false, false, false, false, false, false, false, false, false, false] rfl rfl (ao HT_.out) (fun _ _ _ h => h) (Or.inl ⟨by rfl, ?_⟩) ?_ ?_
                      rotate_left
                      ·intro w'
                       go_simp
                       with_reducible rfl
                      rotate_left
                      ·simp only [Act.put, List.setIfInBounds_toArray, List.set_cons_zero, List.set_cons_succ, i64_w, i32_w]
                       rfl
                      refine pure_ (i := 10) (N := some 110) (v := ?_) (a' := ?_) #[true, true, true, true, true, true, true, true, true, true, true, false, false, false, false, false, false, false, false, false, false, false, false, false] rfl rfl (ao HT_.out) (fun _ _ _ h => h) (Or.inl ⟨by rfl, ?_⟩) ?_ ?_
                      rotate_left
                      ·intro w'
                       go_simp
                       with_reducible rfl
                      rotate_left
                      ·simp only [Act.put, List.setIfInBounds_toArray, List.set_cons_zero, List.set_cons_succ, i64_w, i32_w]
                       rfl
                      refine pure_ (i := 11) (N := some 111) (v := undef) (a' := ?_) #[true, true, true, true, true, true, true, true, true, true, true, true, false, false, false, false, false, false, false, false, false, false, false, false] rfl rfl (ao HT_.out) (fun _ _ _ h => h) (Or.inr ⟨by rfl, rfl⟩) ?_ ?_
                      rotate_left
                      ·simp only [Act.put, List.setIfInBounds_toArray, List.set_cons_zero, List.set_cons_succ, i64_w, i32_w]
                       rfl
                      refine pure_ (i := 12) (N := some 112) (v := undef) (a' := ?_) #[true, true, true, true, true, true, true, true, true, true, true, true, true, false, false, false, false, false, false, false, false, false, false, false] rfl rfl (ao HT_.out) (fun _ _ _ h => h) (Or.inr ⟨by rfl, rfl⟩) ?_ ?_
                      rotate_left
                      ·simp only [Act.put, List.setIfInBounds_toArray, List.set_cons_zero, List.set_cons_succ, i64_w, i32_w]
                       rfl
                      refine pure_ (i := 13) (N := some 113) (v := undef) (a' := ?_) #[true, true, true, true, true, true, true, true, true, true, true, true, true, true, false, false, false, false, false, false, false, false, false, false] rfl rfl (ao HT_.out) (fun _ _ _ h => h) (Or.inr ⟨by rfl, rfl⟩) ?_ ?_
                      rotate_left
                      ·simp only [Act.put, List.setIfInBounds_toArray, List.set_cons_zero, List.set_cons_succ, i64_w, i32_w]
                       rfl
                      refine pure_ (i := 14) (N := some 114) (v := undef) (a' := ?_) #[true, true, true, true, true, true, true, true, true, true, true, true, true, true, true, false, false, false, false, false, false, false, false, false] rfl rfl (ao HT_.out) (fun _ _ _ h => h) (Or.inr ⟨by rfl, rfl⟩) ?_ ?_
                      rotate_left
                      ·simp only [Act.put, List.setIfInBounds_toArray, List.set_cons_zero, List.set_cons_succ, i64_w, i32_w]
                       rfl
                      refine pure_ (i := 15) (N := some 115) (v := undef) (a' := ?_) #[true, true, true, true, true, true, true, true, true, true, true, true, true, true, true, true, false, false, false, false, false, false, false, false] rfl rfl (ao HT_.out) (fun _ _ _ h => h) (Or.inr ⟨by rfl, rfl⟩) ?_ ?_
                      rotate_left
                      ·simp only [Act.put, List.setIfInBounds_toArray, List.set_cons_zero, List.set_cons_succ, i64_w, i32_w]
                       rfl
                      refine pure_ (i := 16) (N := some 116) (v := undef) (a' := ?_) #[true, true, true, true, true, true, true, true, true, true, true, true, true, true, true, true, true, false, false, false, false, false, false, false] rfl rfl (ao HT_.out) (fun _ _ _ h => h) (Or.inr ⟨by rfl, rfl⟩) ?_ ?_
                      rotate_left
                      ·simp only [Act.put, List.setIfInBounds_toArray, List.set_cons_zero, List.set_cons_succ, i64_w, i32_w]
                       rfl
                      refine pure_ (i := 17) (N := some 117) (v := undef) (a' := ?_) #[true, true, true, true, true, true, true, true, true, true, true, true, true, true, true, true, true, true, false, false, false, false, false, false] rfl rfl (ao HT_.out) (fun _ _ _ h => h) (Or.inr ⟨by rfl, rfl⟩) ?_ ?_
                      rotate_left
                      ·simp only [Act.put, List.setIfInBounds_toArray, List.set_cons_zero, List.set_cons_succ, i64_w, i32_w]
                       rfl
                      refine pure_ (i := 18) (N := some 118) (v := undef) (a' := ?_) #[true, true, true, true, true, true, true, true, true, true, true, true, true, true, true, true, true, true, true, false, false, false, false, false] rfl rfl (ao HT_.out) (fun _ _ _ h => h) (Or.inr ⟨by rfl, rfl⟩) ?_ ?_
                      rotate_left
                      ·simp only [Act.put, List.setIfInBounds_toArray, List.set_cons_zero, List.set_cons_succ, i64_w, i32_w]
                       rfl
                      refine pure_ (i := 19) (N := some 119) (v := undef) (a' := ?_) #[true, true, true, true, true, true, true, true, true, true, true, true, true, true, true, true, true, true, true, true, false, false, false, false] rfl rfl (ao HT_.out) (fun _ _ _ h => h) (Or.inr ⟨by rfl, rfl⟩) ?_ ?_
                      rotate_left
                      ·simp only [Act.put, List.setIfInBounds_toArray, List.set_cons_zero, List.set_cons_succ, i64_w, i32_w]
                       rfl
                      refine pure_ (i := 20) (N := some 120) (v := undef) (a' := ?_) #[true, true, true, true, true, true, true, true, true, true, true, true, true, true, true, true, true, true, true, true, true, false, false, false] rfl rfl (ao HT_.out) (fun _ _ _ h => h) (Or.inr ⟨by rfl, rfl⟩) ?_ ?_
                      rotate_left
                      ·simp only [Act.put, List.setIfInBounds_toArray, List.set_cons_zero, List.set_cons_succ, i64_w, i32_w]
                       rfl
                      refine pure_ (i := 21) (N := some 121) (v := undef) (a' := ?_) #[true, true, true, true, true, true, true, true, true, true, true, true, true, true, true, true, true, true, true, true, true, true, false, false] rfl rfl (ao HT_.out) (fun _ _ _ h => h) (Or.inr ⟨by rfl, rfl⟩) ?_ ?_
                      rotate_left
                      ·simp only [Act.put, List.setIfInBounds_toArray, List.set_cons_zero, List.set_cons_succ, i64_w, i32_w]
                       rfl
                      refine pure_ (i := 22) (N := some 122) (v := undef) (a' := ?_) #[true, true, true, true, true, true, true, true, true, true, true, true, true, true, true, true, true, true, true, true, true, true, true, false] rfl rfl (ao HT_.out) (fun _ _ _ h => h) (Or.inr ⟨by rfl, rfl⟩) ?_ ?_
                      rotate_left
                      ·simp only [Act.put, List.setIfInBounds_toArray, List.set_cons_zero, List.set_cons_succ, i64_w, i32_w]
                       rfl
                      refine pure_ (i := 23) (N := some 123) (v := ?_) (a' := ?_) #[true, true, true, true, true, true, true, true, true, true, true, true, true, true, true, true, true, true, true, true, true, true, true, true] rfl rfl (ao HT_.out) (fun _ _ _ h => h) (Or.inl ⟨by rfl, ?_⟩) ?_ ?_
                      rotate_left
                      ·intro w'
                       go_simp
                       with_reducible rfl
                      rotate_left
                      ·simp only [Act.put, List.setIfInBounds_toArray, List.set_cons_zero, List.set_cons_succ, i64_w, i32_w]
                       rfl
                      refine done_ (done_of HT_.out (by kernel_rfl)) ?_
                      try go_wp2
                      go_roundg k4
                      case measure => have := HJ3.out; have := HK2.out; have := HK3.out; have := HK4.out; omega
                      case rel => exact ⟨(wrap64 (x15_4 + 1)), vq, H', ⟨by have := HJ3.out; have := HK2.out; have := HK3.out; have := HK4.out; omega⟩, ⟨by (try simp only [hl8_2]); exact vr HO_8.out⟩, ⟨by (try simp only [hl8_2]); exact vr HO_13.out⟩, ⟨by (try simp only [hl8_2]); exact vb BK222.out⟩, ⟨by exact vs1 HB.out GE222.out⟩⟩
                    ·rw [if_neg c78] at H
                     exact absurd H (by simp)
                   ·rw [if_neg c77] at H
                    exact absurd H (by simp)
                  ·rw [if_neg c76] at H
                   exact absurd H (by simp)
                 ·rw [if_neg c75] at H
                  exact absurd H (by simp)
          ·rw [if_neg c68] at H
           exact absurd H (by simp)
         ·rw [if_neg c67] at H
          exact absurd H (by simp)
     ·rw [if_neg c26] at H
      exact absurd H (by simp)
    ·rw [if_neg c25] at H
     exact absurd H (by simp)

end Go.Proofs.YtlgmccliclmbaaaDoor.PFnExactMistakeChain
