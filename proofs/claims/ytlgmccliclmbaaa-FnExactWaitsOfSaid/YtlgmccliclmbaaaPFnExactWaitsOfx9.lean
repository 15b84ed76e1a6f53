-- Written by a program of this session (the kit's print with this session's additions, wip/tools): Lean checks it. (pressed)
import Derived.Test.YtlgmccliclmbaaaAbbr
import Derived.Test.YtlgmccliclmbaaaPFnExactWaitsOfx0
import Derived.Test.YtlgmccliclmbaaaPFnExactWaitsOfx6
import Derived.Test.YtlgmccliclmbaaaPFnExactWaitsOfx7
import Derived.Test.YtlgmccliclmbaaaPFnExactWaitsOfx8
namespace Go.Proofs.Ytlgmccliclmbaaa.PFnExactWaitsOf
open Go.RowKit Go.Proofs.YtlgmccliclmbaaaW.PrintWords Go.Proofs.YtlgmccliclmbaaaW.PrintLast Go.Proofs.YtlgmccliclmbaaaW.PrintMore
attribute [local go_sem] max2_int min2_int max_two min_two max_three min_three max_four min_four   -- for this text's walks alone
set_option linter.unusedVariables false
set_option linter.unusedSimpArgs false

/-! ### impl_isPlan: function 49 -/
mutual
def impl_isPlan.l0 : Nat → List (S63) → List (S67) → List Int → List Int → List (S63) → Int → Int → Option (Bool)
 | 0, _, _, _, _, _, _, _ => none
 | k + 1, x0, x1, x5, x6, x18, x19, x20 => if x20 < x19 then (if 0 ≤ x20 then (if x20 < (x18.length : Int) then ((some (([(rd_T63 x18 x20).f0] : List Int) : List Int)).bind fun y231 => (if x5.length + y231.length < 17592186044416 then ((some (([(rd_T63 x18 x20).f3] : List Int) : List Int)).bind fun y237 => (if x6.length + y237.length < 17592186044416 then (impl_isPlan.l0 k x0 x1 (x5 ++ y231) (x6 ++ y237) x18 x19 (wrap64 (x20 + 1))) else (none))) else (none))) else (none)) else (none)) else (impl_isPlan.l1 k x0 x1 x5 x6 x1 (x1.length : Int) 0)
def impl_isPlan.l1 : Nat → List (S63) → List (S67) → List Int → List Int → List (S67) → Int → Int → Option (Bool)
 | 0, _, _, _, _, _, _, _ => none
 | k + 1, x0, x1, x5, x6, x35, x36, x37 => if x37 < x36 then (if 0 ≤ x37 then (if x37 < (x35.length : Int) then ((impl_in.f ((rd_T67 x35 x37).f0) 0 (wrap64 ((x0.length : Int) - 1))).bind fun t245 => (if t245 = true then ((impl_in.f ((rd_T67 x35 x37).f2) 0 9999).bind fun t246 => (if t246 = true then (if x37 > 0 then (if 0 ≤ (wrap64 (x37 - 1)) then (if (wrap64 (x37 - 1)) < (x1.length : Int) then ((impl_byBegin.f k ((rd_T67 x1 (wrap64 (x37 - 1))).f0) ((rd_T67 x1 (wrap64 (x37 - 1))).f1) ((rd_T67 x1 (wrap64 (x37 - 1))).f2) ((rd_T67 x35 x37).f0) ((rd_T67 x35 x37).f1) ((rd_T67 x35 x37).f2)).bind fun t248 => (impl_isPlan.j2 k x0 x1 x5 x6 x37 x35 x36 x37 (decide (t248 ≥ 0)) ((rd_T67 x35 x37).f0) ((rd_T67 x35 x37).f1) ((rd_T67 x35 x37).f2))) else (none)) else (none)) else (impl_isPlan.j2 k x0 x1 x5 x6 x37 x35 x36 x37 false ((rd_T67 x35 x37).f0) ((rd_T67 x35 x37).f1) ((rd_T67 x35 x37).f2))) else (impl_isPlan.j2 k x0 x1 x5 x6 x37 x35 x36 x37 true ((rd_T67 x35 x37).f0) ((rd_T67 x35 x37).f1) ((rd_T67 x35 x37).f2)))) else (impl_isPlan.j2 k x0 x1 x5 x6 x37 x35 x36 x37 true ((rd_T67 x35 x37).f0) ((rd_T67 x35 x37).f1) ((rd_T67 x35 x37).f2)))) else (none)) else (none)) else (impl_isPlan.l3 k x5 x0 (x0.length : Int) 0)
def impl_isPlan.j2 : Nat → List (S63) → List (S67) → List Int → List Int → Int → List (S67) → Int → Int → Bool → Int → Int → Int → Option (Bool)
 | 0, _, _, _, _, _, _, _, _, _, _, _, _ => none
 | k + 1, x0, x1, x5, x6, x9, x35, x36, x37, x68, x245000, x245001, x245002 => if x68 = true then (some false) else (if 0 ≤ x245000 then (if x245000 < (x0.length : Int) then (if x245000 < (x5.length : Int) then (if (rd x5 x245000) = ((rd_T63 x0 x245000).f1) then (impl_isPlan.j3 k x0 x1 x5 x6 x9 x35 x36 x37 true x245000 x245001 x245002 ((rd_T63 x0 x245000).f0) ((rd_T63 x0 x245000).f1) ((rd_T63 x0 x245000).f2) ((rd_T63 x0 x245000).f3)) else (if x245001 = (rd x5 x245000) then (if x245000 < (x6.length : Int) then (impl_isPlan.j3 k x0 x1 x5 x6 x9 x35 x36 x37 (decide (x245002 < (rd x6 x245000))) x245000 x245001 x245002 ((rd_T63 x0 x245000).f0) ((rd_T63 x0 x245000).f1) ((rd_T63 x0 x245000).f2) ((rd_T63 x0 x245000).f3)) else (none)) else (impl_isPlan.j3 k x0 x1 x5 x6 x9 x35 x36 x37 true x245000 x245001 x245002 ((rd_T63 x0 x245000).f0) ((rd_T63 x0 x245000).f1) ((rd_T63 x0 x245000).f2) ((rd_T63 x0 x245000).f3)))) else (none)) else (none)) else (none))
def impl_isPlan.j3 : Nat → List (S63) → List (S67) → List Int → List Int → Int → List (S67) → Int → Int → Bool → Int → Int → Int → Int → Int → Int → Int → Option (Bool)
 | 0, _, _, _, _, _, _, _, _, _, _, _, _, _, _, _, _ => none
 | k + 1, x0, x1, x5, x6, x9, x35, x36, x37, x101, x245000, x245001, x245002, x251000, x251001, x251002, x251003 => if x101 = true then (some false) else (if 0 ≤ x9 then (if x9 ≤ (x1.length : Int) then ((some (x1.take (x9 : Int).toNat : List (S67))).bind fun y254 => (impl_isPlan.l2 k x0 x1 x5 x6 x35 x36 x37 y254 (y254.length : Int) 0 x245000 x245001 x245002 x251000 x251001 x251002 x251003)) else (none)) else (none))
def impl_isPlan.l2 : Nat → List (S63) → List (S67) → List Int → List Int → List (S67) → Int → Int → List (S67) → Int → Int → Int → Int → Int → Int → Int → Int → Int → Option (Bool)
 | 0, _, _, _, _, _, _, _, _, _, _, _, _, _, _, _, _, _ => none
 | k + 1, x0, x1, x5, x6, x35, x36, x37, x104, x105, x106, x245000, x245001, x245002, x251000, x251001, x251002, x251003 => if x106 < x105 then (if 0 ≤ x106 then (if x106 < (x104.length : Int) then ((impl_overlaps.f k x0 ((rd_T67 x104 x106).f0) ((rd_T67 x104 x106).f1) ((rd_T67 x104 x106).f2) x245000 x245001 x245002).bind fun t260 => (if t260 = true then (some false) else (impl_isPlan.l2 k x0 x1 x5 x6 x35 x36 x37 x104 x105 (wrap64 (x106 + 1)) x245000 x245001 x245002 x251000 x251001 x251002 x251003))) else (none)) else (none)) else ((impl_Job_next.f x251000 x251001 x251002 x251003 x245001).bind fun t261 => (if 0 ≤ x245000 then (if x245000 < (x5.length : Int) then (if x245000 < (x6.length : Int) then (impl_isPlan.l1 k x0 x1 (x5.set (x245000 : Int).toNat t261) (x6.set (x245000 : Int).toNat (wrap64 (x245002 + x251002))) x35 x36 (wrap64 (x37 + 1))) else (none)) else (none)) else (none)))
def impl_isPlan.l3 : Nat → List Int → List (S63) → Int → Int → Option (Bool)
 | 0, _, _, _, _ => none
 | k + 1, x5, x133, x134, x135 => if x135 < x134 then (if 0 ≤ x135 then (if x135 < (x133.length : Int) then (if x135 < (x5.length : Int) then (if (rd x5 x135) = ((rd_T63 x133 x135).f1) then (impl_isPlan.l3 k x5 x133 x134 (wrap64 (x135 + 1))) else (some false)) else (none)) else (none)) else (none)) else (some true)
end
def impl_isPlan.f (k : Nat) (l0 : List (S63)) (l1 : List (S67)) : Option (Bool) := impl_isPlan.l0 k l0 l1 (([] : List Int)) (([] : List Int)) l0 (l0.length : Int) 0
theorem impl_isPlan.mono_l : ∀ k, (∀ y0 y1 y2 y3 y4 y5 y6, LeO (impl_isPlan.l0 k y0 y1 y2 y3 y4 y5 y6) (impl_isPlan.l0 (k + 1) y0 y1 y2 y3 y4 y5 y6)) ∧ (∀ y0 y1 y2 y3 y4 y5 y6, LeO (impl_isPlan.l1 k y0 y1 y2 y3 y4 y5 y6) (impl_isPlan.l1 (k + 1) y0 y1 y2 y3 y4 y5 y6)) ∧ (∀ y0 y1 y2 y3 y4 y5 y6 y7 y8 y9 y10 y11, LeO (impl_isPlan.j2 k y0 y1 y2 y3 y4 y5 y6 y7 y8 y9 y10 y11) (impl_isPlan.j2 (k + 1) y0 y1 y2 y3 y4 y5 y6 y7 y8 y9 y10 y11)) ∧ (∀ y0 y1 y2 y3 y4 y5 y6 y7 y8 y9 y10 y11 y12 y13 y14 y15, LeO (impl_isPlan.j3 k y0 y1 y2 y3 y4 y5 y6 y7 y8 y9 y10 y11 y12 y13 y14 y15) (impl_isPlan.j3 (k + 1) y0 y1 y2 y3 y4 y5 y6 y7 y8 y9 y10 y11 y12 y13 y14 y15)) ∧ (∀ y0 y1 y2 y3 y4 y5 y6 y7 y8 y9 y10 y11 y12 y13 y14 y15 y16, LeO (impl_isPlan.l2 k y0 y1 y2 y3 y4 y5 y6 y7 y8 y9 y10 y11 y12 y13 y14 y15 y16) (impl_isPlan.l2 (k + 1) y0 y1 y2 y3 y4 y5 y6 y7 y8 y9 y10 y11 y12 y13 y14 y15 y16)) ∧ (∀ y0 y1 y2 y3, LeO (impl_isPlan.l3 k y0 y1 y2 y3) (impl_isPlan.l3 (k + 1) y0 y1 y2 y3))
 | 0 => ⟨fun _ _ _ _ _ _ _ r h => by simp [impl_isPlan.l0] at h, fun _ _ _ _ _ _ _ r h => by simp [impl_isPlan.l1] at h, fun _ _ _ _ _ _ _ _ _ _ _ _ r h => by simp [impl_isPlan.j2] at h, fun _ _ _ _ _ _ _ _ _ _ _ _ _ _ _ _ r h => by simp [impl_isPlan.j3] at h, fun _ _ _ _ _ _ _ _ _ _ _ _ _ _ _ _ _ r h => by simp [impl_isPlan.l2] at h, fun _ _ _ _ r h => by simp [impl_isPlan.l3] at h⟩
 | k + 1 => by
  obtain ⟨ih0, ih1, ih2, ih3, ih4, ih5⟩ := impl_isPlan.mono_l k; refine ⟨?_, ?_, ?_, ?_, ?_, ?_⟩
  ·intro y0 y1 y2 y3 y4 y5 y6; unfold impl_isPlan.l0
   repeat' first
   | (with_reducible exact ih0 _ _ _ _ _ _ _)
   | (with_reducible exact ih1 _ _ _ _ _ _ _)
   | (with_reducible exact ih2 _ _ _ _ _ _ _ _ _ _ _ _)
   | (with_reducible exact ih3 _ _ _ _ _ _ _ _ _ _ _ _ _ _ _ _)
   | (with_reducible exact ih4 _ _ _ _ _ _ _ _ _ _ _ _ _ _ _ _ _)
   | (with_reducible exact ih5 _ _ _ _)
   | (with_reducible exact impl_byBegin.mono _ _ _ _ _ _ _)
   | (with_reducible exact impl_overlaps.mono _ _ _ _ _ _ _ _)
   | (with_reducible exact LeO.refl _)
   | (with_reducible exact LeO.none _)
   | (with_reducible refine LeO.ite ?_ ?_)
   | (with_reducible refine LeO.bind ?_ (fun _ => ?_))
   | exact ih0 _ _ _ _ _ _ _
   | exact ih1 _ _ _ _ _ _ _
   | exact ih2 _ _ _ _ _ _ _ _ _ _ _ _
   | exact ih3 _ _ _ _ _ _ _ _ _ _ _ _ _ _ _ _
   | exact ih4 _ _ _ _ _ _ _ _ _ _ _ _ _ _ _ _ _
   | exact ih5 _ _ _ _
   | exact impl_byBegin.mono _ _ _ _ _ _ _
   | exact impl_overlaps.mono _ _ _ _ _ _ _ _
   | exact LeO.none _
   | refine LeO.ite ?_ ?_
   | refine LeO.bind ?_ (fun _ => ?_)
  ·intro y0 y1 y2 y3 y4 y5 y6; unfold impl_isPlan.l1
   repeat' first
   | (with_reducible exact ih0 _ _ _ _ _ _ _)
   | (with_reducible exact ih1 _ _ _ _ _ _ _)
   | (with_reducible exact ih2 _ _ _ _ _ _ _ _ _ _ _ _)
   | (with_reducible exact ih3 _ _ _ _ _ _ _ _ _ _ _ _ _ _ _ _)
   | (with_reducible exact ih4 _ _ _ _ _ _ _ _ _ _ _ _ _ _ _ _ _)
   | (with_reducible exact ih5 _ _ _ _)
   | (with_reducible exact impl_byBegin.mono _ _ _ _ _ _ _)
   | (with_reducible exact impl_overlaps.mono _ _ _ _ _ _ _ _)
   | (with_reducible exact LeO.refl _)
   | (with_reducible exact LeO.none _)
   | (with_reducible refine LeO.ite ?_ ?_)
   | (with_reducible refine LeO.bind ?_ (fun _ => ?_))
   | exact ih0 _ _ _ _ _ _ _
   | exact ih1 _ _ _ _ _ _ _
   | exact ih2 _ _ _ _ _ _ _ _ _ _ _ _
   | exact ih3 _ _ _ _ _ _ _ _ _ _ _ _ _ _ _ _
   | exact ih4 _ _ _ _ _ _ _ _ _ _ _ _ _ _ _ _ _
   | exact ih5 _ _ _ _
   | exact impl_byBegin.mono _ _ _ _ _ _ _
   | exact impl_overlaps.mono _ _ _ _ _ _ _ _
   | exact LeO.none _
   | refine LeO.ite ?_ ?_
   | refine LeO.bind ?_ (fun _ => ?_)
  ·intro y0 y1 y2 y3 y4 y5 y6 y7 y8 y9 y10 y11; unfold impl_isPlan.j2
   repeat' first
   | (with_reducible exact ih0 _ _ _ _ _ _ _)
   | (with_reducible exact ih1 _ _ _ _ _ _ _)
   | (with_reducible exact ih2 _ _ _ _ _ _ _ _ _ _ _ _)
   | (with_reducible exact ih3 _ _ _ _ _ _ _ _ _ _ _ _ _ _ _ _)
   | (with_reducible exact ih4 _ _ _ _ _ _ _ _ _ _ _ _ _ _ _ _ _)
   | (with_reducible exact ih5 _ _ _ _)
   | (with_reducible exact impl_byBegin.mono _ _ _ _ _ _ _)
   | (with_reducible exact impl_overlaps.mono _ _ _ _ _ _ _ _)
   | (with_reducible exact LeO.refl _)
   | (with_reducible exact LeO.none _)
   | (with_reducible refine LeO.ite ?_ ?_)
   | (with_reducible refine LeO.bind ?_ (fun _ => ?_))
   | exact ih0 _ _ _ _ _ _ _
   | exact ih1 _ _ _ _ _ _ _
   | exact ih2 _ _ _ _ _ _ _ _ _ _ _ _
   | exact ih3 _ _ _ _ _ _ _ _ _ _ _ _ _ _ _ _
   | exact ih4 _ _ _ _ _ _ _ _ _ _ _ _ _ _ _ _ _
   | exact ih5 _ _ _ _
   | exact impl_byBegin.mono _ _ _ _ _ _ _
   | exact impl_overlaps.mono _ _ _ _ _ _ _ _
   | exact LeO.none _
   | refine LeO.ite ?_ ?_
   | refine LeO.bind ?_ (fun _ => ?_)
  ·intro y0 y1 y2 y3 y4 y5 y6 y7 y8 y9 y10 y11 y12 y13 y14 y15; unfold impl_isPlan.j3
   repeat' first
   | (with_reducible exact ih0 _ _ _ _ _ _ _)
   | (with_reducible exact ih1 _ _ _ _ _ _ _)
   | (with_reducible exact ih2 _ _ _ _ _ _ _ _ _ _ _ _)
   | (with_reducible exact ih3 _ _ _ _ _ _ _ _ _ _ _ _ _ _ _ _)
   | (with_reducible exact ih4 _ _ _ _ _ _ _ _ _ _ _ _ _ _ _ _ _)
   | (with_reducible exact ih5 _ _ _ _)
   | (with_reducible exact impl_byBegin.mono _ _ _ _ _ _ _)
   | (with_reducible exact impl_overlaps.mono _ _ _ _ _ _ _ _)
   | (with_reducible exact LeO.refl _)
   | (with_reducible exact LeO.none _)
   | (with_reducible refine LeO.ite ?_ ?_)
   | (with_reducible refine LeO.bind ?_ (fun _ => ?_))
   | exact ih0 _ _ _ _ _ _ _
   | exact ih1 _ _ _ _ _ _ _
   | exact ih2 _ _ _ _ _ _ _ _ _ _ _ _
   | exact ih3 _ _ _ _ _ _ _ _ _ _ _ _ _ _ _ _
   | exact ih4 _ _ _ _ _ _ _ _ _ _ _ _ _ _ _ _ _
   | exact ih5 _ _ _ _
   | exact impl_byBegin.mono _ _ _ _ _ _ _
   | exact impl_overlaps.mono _ _ _ _ _ _ _ _
   | exact LeO.none _
   | refine LeO.ite ?_ ?_
   | refine LeO.bind ?_ (fun _ => ?_)
  ·intro y0 y1 y2 y3 y4 y5 y6 y7 y8 y9 y10 y11 y12 y13 y14 y15 y16; unfold impl_isPlan.l2
   repeat' first
   | (with_reducible exact ih0 _ _ _ _ _ _ _)
   | (with_reducible exact ih1 _ _ _ _ _ _ _)
   | (with_reducible exact ih2 _ _ _ _ _ _ _ _ _ _ _ _)
   | (with_reducible exact ih3 _ _ _ _ _ _ _ _ _ _ _ _ _ _ _ _)
   | (with_reducible exact ih4 _ _ _ _ _ _ _ _ _ _ _ _ _ _ _ _ _)
   | (with_reducible exact ih5 _ _ _ _)
   | (with_reducible exact impl_byBegin.mono _ _ _ _ _ _ _)
   | (with_reducible exact impl_overlaps.mono _ _ _ _ _ _ _ _)
   | (with_reducible exact LeO.refl _)
   | (with_reducible exact LeO.none _)
   | (with_reducible refine LeO.ite ?_ ?_)
   | (with_reducible refine LeO.bind ?_ (fun _ => ?_))
   | exact ih0 _ _ _ _ _ _ _
   | exact ih1 _ _ _ _ _ _ _
   | exact ih2 _ _ _ _ _ _ _ _ _ _ _ _
   | exact ih3 _ _ _ _ _ _ _ _ _ _ _ _ _ _ _ _
   | exact ih4 _ _ _ _ _ _ _ _ _ _ _ _ _ _ _ _ _
   | exact ih5 _ _ _ _
   | exact impl_byBegin.mono _ _ _ _ _ _ _
   | exact impl_overlaps.mono _ _ _ _ _ _ _ _
   | exact LeO.none _
   | refine LeO.ite ?_ ?_
   | refine LeO.bind ?_ (fun _ => ?_)
  ·intro y0 y1 y2 y3; unfold impl_isPlan.l3
   repeat' first
   | (with_reducible exact ih0 _ _ _ _ _ _ _)
   | (with_reducible exact ih1 _ _ _ _ _ _ _)
   | (with_reducible exact ih2 _ _ _ _ _ _ _ _ _ _ _ _)
   | (with_reducible exact ih3 _ _ _ _ _ _ _ _ _ _ _ _ _ _ _ _)
   | (with_reducible exact ih4 _ _ _ _ _ _ _ _ _ _ _ _ _ _ _ _ _)
   | (with_reducible exact ih5 _ _ _ _)
   | (with_reducible exact impl_byBegin.mono _ _ _ _ _ _ _)
   | (with_reducible exact impl_overlaps.mono _ _ _ _ _ _ _ _)
   | (with_reducible exact LeO.refl _)
   | (with_reducible exact LeO.none _)
   | (with_reducible refine LeO.ite ?_ ?_)
   | (with_reducible refine LeO.bind ?_ (fun _ => ?_))
   | exact ih0 _ _ _ _ _ _ _
   | exact ih1 _ _ _ _ _ _ _
   | exact ih2 _ _ _ _ _ _ _ _ _ _ _ _
   | exact ih3 _ _ _ _ _ _ _ _ _ _ _ _ _ _ _ _
   | exact ih4 _ _ _ _ _ _ _ _ _ _ _ _ _ _ _ _ _
   | exact ih5 _ _ _ _
   | exact impl_byBegin.mono _ _ _ _ _ _ _
   | exact impl_overlaps.mono _ _ _ _ _ _ _ _
   | exact LeO.none _
   | refine LeO.ite ?_ ?_
   | refine LeO.bind ?_ (fun _ => ?_)
theorem impl_isPlan.mono : ∀ a0 a1 k, LeO (impl_isPlan.f k a0 a1) (impl_isPlan.f (k + 1) a0 a1) := by
 intro a0 a1 k; obtain ⟨ih0, ih1, ih2, ih3, ih4, ih5⟩ := impl_isPlan.mono_l k; unfold impl_isPlan.f
 repeat' first
   | (with_reducible exact ih0 _ _ _ _ _ _ _)
   | (with_reducible exact ih1 _ _ _ _ _ _ _)
   | (with_reducible exact ih2 _ _ _ _ _ _ _ _ _ _ _ _)
   | (with_reducible exact ih3 _ _ _ _ _ _ _ _ _ _ _ _ _ _ _ _)
   | (with_reducible exact ih4 _ _ _ _ _ _ _ _ _ _ _ _ _ _ _ _ _)
   | (with_reducible exact ih5 _ _ _ _)
   | (with_reducible exact impl_byBegin.mono _ _ _ _ _ _ _)
   | (with_reducible exact impl_overlaps.mono _ _ _ _ _ _ _ _)
   | (with_reducible exact LeO.refl _)
   | (with_reducible exact LeO.none _)
   | (with_reducible refine LeO.ite ?_ ?_)
   | (with_reducible refine LeO.bind ?_ (fun _ => ?_))
   | exact ih0 _ _ _ _ _ _ _
   | exact ih1 _ _ _ _ _ _ _
   | exact ih2 _ _ _ _ _ _ _ _ _ _ _ _
   | exact ih3 _ _ _ _ _ _ _ _ _ _ _ _ _ _ _ _
   | exact ih4 _ _ _ _ _ _ _ _ _ _ _ _ _ _ _ _ _
   | exact ih5 _ _ _ _
   | exact impl_byBegin.mono _ _ _ _ _ _ _
   | exact impl_overlaps.mono _ _ _ _ _ _ _ _
   | exact LeO.none _
   | refine LeO.ite ?_ ?_
   | refine LeO.bind ?_ (fun _ => ?_)
def impl_isPlan.T5 : Bool × List (List Nat × List Nat) := (true, [([], []), ([], []), ([1], [1]), ([2], [2]), ([0, 3], [0, 3]), ([], []), ([], []), ([6], [6]), ([7], [7]), ([5, 8, 4], [5, 8]), ([4, 9, 0, 1, 2, 3, 4], [0, 4]), ([9, 10, 0, 1, 2, 3, 4, 5, 6, 7, 8, 9, 10], [5, 9])])
def impl_isPlan.B5 : List Nat := [0, 0, 2, 6, 15, 0, 0, 64, 192, 511, 1023, 2047]
theorem impl_isPlan.tab5 : rtab .any (opsOf Try.f49 5) = impl_isPlan.T5 := by kernel_rfl
theorem impl_isPlan.bits5 : waitsOk impl_isPlan.T5.2 impl_isPlan.B5 = true := by kernel_rfl
def impl_isPlan.T10 : Bool × List (List Nat × List Nat) := (true, [([], []), ([0], [0]), ([], []), ([2], [2]), ([3], [3]), ([1, 4], [1, 4]), ([5], [5]), ([6, 5], [6]), ([7], [7]), ([8, 7], [7, 8]), ([9, 7, 7], [7, 9]), ([10, 7], [7, 10]), ([7, 11], [7, 11]), ([12, 10], [12]), ([13], [13]), ([14, 13], [13, 14]), ([15, 13, 13], [13, 15]), ([16], [16]), ([16], [16]), ([18, 16], [16, 18]), ([17, 19, 16], [16, 17, 19]), ([20, 16], [16, 20]), ([16], [16]), ([21, 22, 16, 16], [16, 21, 22]), ([23, 16], [16, 23]), ([16, 24, 13], [13, 16, 24]), ([13, 25], [13, 25])])
def impl_isPlan.B10 : List Nat := [0, 1, 0, 4, 12, 31, 63, 127, 255, 511, 1023, 2047, 4095, 8191, 16383, 32767, 65535, 131071, 131071, 393215, 1048575, 2097151, 131071, 8388607, 16777215, 33554431, 67108863]
theorem impl_isPlan.tab10 : rtab .any (opsOf Try.f49 10) = impl_isPlan.T10 := by kernel_rfl
theorem impl_isPlan.bits10 : waitsOk impl_isPlan.T10.2 impl_isPlan.B10 = true := by kernel_rfl
def impl_isPlan.T13 : Bool × List (List Nat × List Nat) := (true, [([], []), ([], []), ([1], [1]), ([0, 2], [0, 2]), ([3], [3]), ([], []), ([5], [5]), ([4, 6], [4, 6]), ([7], [7]), ([8], [8]), ([9, 8], [8, 9]), ([8], [8]), ([8], [8]), ([12, 8], [8, 12]), ([11, 13, 8], [8, 11, 13]), ([14, 8], [8, 14]), ([10, 15, 8], [8, 10, 15]), ([8, 16], [8, 16]), ([17, 8], [17]), ([18], [18]), ([19, 18], [18, 19]), ([18], [18]), ([18], [18]), ([22, 18], [18, 22]), ([21, 23, 18], [18, 21, 23]), ([24, 18], [18, 24]), ([20, 25, 18], [18, 20, 25]), ([18, 26], [18, 26])])
def impl_isPlan.B13 : List Nat := [0, 0, 2, 7, 15, 0, 32, 127, 255, 511, 1023, 511, 511, 4607, 14847, 31231, 65535, 131071, 262143, 524287, 1048575, 524287, 524287, 4718591, 15204351, 31981567, 67108863, 134217727]
theorem impl_isPlan.tab13 : rtab .any (opsOf Try.f49 13) = impl_isPlan.T13 := by kernel_rfl
theorem impl_isPlan.bits13 : waitsOk impl_isPlan.T13.2 impl_isPlan.B13 = true := by kernel_rfl
def impl_isPlan.T21 : Bool × List (List Nat × List Nat) := (true, [([], []), ([], []), ([1], [1]), ([], []), ([], []), ([4], [4]), ([], []), ([], []), ([7], [7]), ([6, 8], [6, 8]), ([], []), ([10], [10]), ([], []), ([12], [12]), ([11, 13], [11, 13]), ([0, 2, 0, 1, 2, 6, 7, 8, 9], [0, 2]), ([15, 9, 9, 0, 1, 2, 6, 7, 8, 9], [9, 15]), ([3, 5, 0, 1, 2, 3, 4, 5, 6, 7, 8, 9, 10, 11, 12, 13, 14, 15, 16], [3, 5]), ([17, 14, 16, 0, 1, 2, 3, 4, 5, 6, 7, 8, 9, 10, 11, 12, 13, 14, 15, 16], [14, 17])])
def impl_isPlan.B21 : List Nat := [0, 0, 2, 0, 0, 16, 0, 0, 128, 448, 0, 1024, 0, 4096, 15360, 967, 33735, 131071, 262143]
theorem impl_isPlan.tab21 : rtab .any (opsOf Try.f49 21) = impl_isPlan.T21 := by kernel_rfl
theorem impl_isPlan.bits21 : waitsOk impl_isPlan.T21.2 impl_isPlan.B21 = true := by kernel_rfl
set_option maxHeartbeats 8000000 in
set_option maxRecDepth 100000 in
theorem impl_isPlan.calls (k : Nat) (A0 : Option Addr) (c0 : Nat) (l0 : List (S63)) (A1 : Option Addr) (c1 : Nat) (l1 : List (S67)) (r : Bool) (w : World) (hr0 : Kd.C k63 w A0 l0.length l0) (hc0 : l0.length ≤ c0) (hr1 : Kd.C k67 w A1 l1.length l1) (hc1 : l1.length ≤ c1) (h : impl_isPlan.f k l0 l1 = some r) :
  Calls Try.prog 49 #[.slice A0 l0.length c0, .slice A1 l1.length c1] w fun e w' => e = .returned (.bool r) ∧ Below w.heap.size w w' := by
 have hu63 := Try.underlying63; have hu67 := Try.underlying67; have HR0 := Aside0.mk hr0; have HC0 := Aside0.mk hc0; clear hr0 hc0; have HR1 := Aside0.mk hr1; have HC1 := Aside0.mk hc1; clear hr1 hc1; have HB := ak (Below.refl w.heap.size w); have H : (impl_isPlan.l0 k l0 l1 (([] : List Int)) (([] : List Int)) l0 (l0.length : Int) 0) = some r := h; clear h; obtain ⟨y223, hy223⟩ : ∃ y_ : List Int, y_ = (([] : List Int)) := ⟨_, rfl⟩; replace H : (impl_isPlan.l0 k l0 l1 y223 (([] : List Int)) l0 (l0.length : Int) 0) = some r := by first | (rw [hy223]; with_reducible exact H) | (have H2_ := (Option.bind_some _ _).symm.trans H; rw [hy223]; with_reducible exact H2_) | (have H2_ := (Option.bind_some _ _).symm.trans H; with_reducible exact H2_) | with_reducible exact H | (rw [hy223]; exact H) | exact H
 have Ny223 := Aside0.mk hy223; clear hy223; obtain ⟨y226, hy226⟩ : ∃ y_ : List Int, y_ = (([] : List Int)) := ⟨_, rfl⟩; replace H : (impl_isPlan.l0 k l0 l1 y223 y226 l0 (l0.length : Int) 0) = some r := by first | (rw [hy226]; with_reducible exact H) | (have H2_ := (Option.bind_some _ _).symm.trans H; rw [hy226]; with_reducible exact H2_) | (have H2_ := (Option.bind_some _ _).symm.trans H; with_reducible exact H2_) | with_reducible exact H | (rw [hy226]; exact H) | exact H
 have Ny226 := Aside0.mk hy226; clear hy226; have H' := Aside0.mk H; clear H; go_enter Try.func49, Try.ntmps49
 go_wp2_with (first | ((with_reducible refine gate_dst (N := 16) rfl ?_); refine Kd.R_lit (Kd.int .i64) _ 3 ?hg (N := 16) ?hd (xs := ([] : List Int)) (inner := []) (ok := fun _ => True) (okp := fun _ => True) ?hr ?hp (fun _ hk => hk) trivial (Below.refl _ _) (Nat.le_refl _) (by simp) ?_; (case hd => rfl); (case hg => rfl); (case hr => first | (go_simp; done) | (go_simp; rfl)); (case hp => exact (Reps.none _ _)); intro v224 w3 ho4 hb hg_ hnew_; clear hg_ hnew_; (first | rw [← Ny223.out] at ho4 | (simp only [Int.reduceToNat] at ho4; rw [← Ny223.out] at ho4)); have n0_ := ak (Kd.R_lower ho4 (below_size (vh HB.out))); have n1_ := ak (below_step (vh HB.out) hb); clear HB; have HO225 := n0_; have HB := n1_; clear n0_ n1_; clear hb ho4) | ((with_reducible refine gate_dst (N := 17) rfl ?_); refine Kd.R_lit (Kd.int .i64) _ 3 ?hg (N := 17) ?hd (xs := ([] : List Int)) (inner := []) (ok := fun _ => True) (okp := fun _ => True) ?hr ?hp (fun _ hk => hk) trivial (Below.refl _ _) (Nat.le_refl _) (by simp) ?_; (case hd => rfl); (case hg => rfl); (case hr => first | (go_simp; done) | (go_simp; rfl)); (case hp => exact (Reps.none _ _)); intro v227 w5 ho6 hb hg_ hnew_; clear hg_ hnew_; (first | rw [← Ny226.out] at ho6 | (simp only [Int.reduceToNat] at ho6; rw [← Ny226.out] at ho6)); have n0_ := ak (Kd.R_elder' (vr HO225.out) (Kd.R_base ho6) hb); have n1_ := ak (Kd.R_lower (Kd.R_new' ho6 (Kd.R_lt (vr HO225.out))) (below_size (vh HB.out))); have n2_ := ak (below_step (vh HB.out) hb); clear HO225; clear HB; have HO225 := n0_; have HO228 := n1_; have HB := n2_; clear n0_ n1_ n2_; clear hb ho6))
 go_loopg [5, 6, 20] k (fun kq v5 v6 v20 w' => ∃ (x5_1 : List Int) (x6_1 : List Int) (x20_1 : Int), v20 = .int .i64 x20_1 ∧ Aside0 (impl_isPlan.l0 kq l0 l1 x5_1 x6_1 l0 (l0.length : Int) x20_1 = some r) ∧ Aside0 (kq ≤ k) ∧ Aside0 (Kd.R (Kd.int .i64) 3 w' w.heap.size (fun k_ => some k_ ≠ (v6 : Value).ownBlock) v5 x5_1) ∧ Aside0 (Kd.R (Kd.int .i64) 3 w' w.heap.size (fun k_ => some k_ ≠ (v5 : Value).ownBlock) v6 x6_1) ∧ Aside0 (Below w.heap.size w w'))
 case atStart => exact ⟨(y223), (y226), (0), (by first | rfl | (simp; done) | (simp [*]; done)), H', ⟨Nat.le_refl _⟩, ⟨by exact vr (Kd.R_mono HO225.out (fun _ hk => hk.2))⟩, ⟨by exact vr (Kd.R_mono HO228.out (fun _ hk => hk.2))⟩, ⟨by exact vh HB.out⟩⟩
 case round =>
  clear H'; try clear c1
  try clear p2
  try clear c4
  obtain ⟨x5_1, x6_1, x20_1, rfl, HA, HK1, HO_5, HO_6, HB⟩ := hrel; cases gk with
  | zero => exact absurd HA.out (by simp [impl_isPlan.l0])
  | succ k1 =>
   have H := HA.out; clear HA; simp only [impl_isPlan.l0] at H
   by_cases c7 : x20_1 < (l0.length : Int)
   ·rw [if_pos c7] at H
    have c7b0 : decide (x20_1 < (l0.length : Int)) = true := decide_eq_true c7; clear c7; by_cases c8 : 0 ≤ x20_1
    ·rw [if_pos c8] at H
     have c8b0 : decide (0 ≤ x20_1) = true := decide_eq_true c8; clear c8; by_cases c9 : x20_1 < (l0.length : Int)
     ·rw [if_pos c9] at H
      have c9b0 : decide (x20_1 < (l0.length : Int)) = true := decide_eq_true c9; clear c9; obtain ⟨y231, hy231⟩ : ∃ y_ : List Int, y_ = (([(rd_T63 l0 x20_1).f0] : List Int)) := ⟨_, rfl⟩; replace H : (if x5_1.length + y231.length < 17592186044416 then ((some (([(rd_T63 l0 x20_1).f3] : List Int) : List Int)).bind fun y237 => (if x6_1.length + y237.length < 17592186044416 then (impl_isPlan.l0 k1 l0 l1 (x5_1 ++ y231) (x6_1 ++ y237) l0 (l0.length : Int) (wrap64 (x20_1 + 1))) else (none))) else (none)) = some r := by first | (rw [hy231]; with_reducible exact H) | (have H2_ := (Option.bind_some _ _).symm.trans H; rw [hy231]; with_reducible exact H2_) | (have H2_ := (Option.bind_some _ _).symm.trans H; with_reducible exact H2_) | with_reducible exact H | (rw [hy231]; exact H) | exact H
      have Ny231 := Aside0.mk hy231; clear hy231; by_cases c10 : x5_1.length + y231.length < 17592186044416
      ·rw [if_pos c10] at H
       have LMc10 := Aside0.mk c10; clear c10; obtain ⟨y234, hy234⟩ : ∃ y_ : List Int, y_ = (x5_1 ++ y231) := ⟨_, rfl⟩; replace H : ((some (([(rd_T63 l0 x20_1).f3] : List Int) : List Int)).bind fun y237 => (if x6_1.length + y237.length < 17592186044416 then (impl_isPlan.l0 k1 l0 l1 y234 (x6_1 ++ y237) l0 (l0.length : Int) (wrap64 (x20_1 + 1))) else (none))) = some r := by first | (rw [hy234]; with_reducible exact H) | (have H2_ := (Option.bind_some _ _).symm.trans H; rw [hy234]; with_reducible exact H2_) | (have H2_ := (Option.bind_some _ _).symm.trans H; with_reducible exact H2_) | with_reducible exact H | (rw [hy234]; exact H) | exact H
       have Ny234 := Aside0.mk hy234; clear hy234; obtain ⟨y237, hy237⟩ : ∃ y_ : List Int, y_ = (([(rd_T63 l0 x20_1).f3] : List Int)) := ⟨_, rfl⟩; replace H : (if x6_1.length + y237.length < 17592186044416 then (impl_isPlan.l0 k1 l0 l1 y234 (x6_1 ++ y237) l0 (l0.length : Int) (wrap64 (x20_1 + 1))) else (none)) = some r := by first | (rw [hy237]; with_reducible exact H) | (have H2_ := (Option.bind_some _ _).symm.trans H; rw [hy237]; with_reducible exact H2_) | (have H2_ := (Option.bind_some _ _).symm.trans H; with_reducible exact H2_) | with_reducible exact H | (rw [hy237]; exact H) | exact H
       have Ny237 := Aside0.mk hy237; clear hy237; by_cases c11 : x6_1.length + y237.length < 17592186044416
       ·rw [if_pos c11] at H
        have LMc11 := Aside0.mk c11; clear c11; obtain ⟨y240, hy240⟩ : ∃ y_ : List Int, y_ = (x6_1 ++ y237) := ⟨_, rfl⟩; replace H : (impl_isPlan.l0 k1 l0 l1 y234 y240 l0 (l0.length : Int) (wrap64 (x20_1 + 1))) = some r := by first | (rw [hy240]; with_reducible exact H) | (have H2_ := (Option.bind_some _ _).symm.trans H; rw [hy240]; with_reducible exact H2_) | (have H2_ := (Option.bind_some _ _).symm.trans H; with_reducible exact H2_) | with_reducible exact H | (rw [hy240]; exact H) | exact H
        have Ny240 := Aside0.mk hy240; clear hy240; have H' := Aside0.mk H; clear H; have p229 : 0 ≤ (x20_1 : Int) := of_decide_eq_true va; have q229 : x20_1 < (l0.length : Int) := of_decide_eq_true va; obtain ⟨ad229, e229, hx229_0, hx229_1, hx229_2, hx229_3⟩ := at_T63 HR0.out x20_1 p229 q229; cases e229; (try replace hx229_0 := vl HB.out hx229_0); (try replace hx229_1 := vl HB.out hx229_1); (try replace hx229_2 := vl HB.out hx229_2); (try replace hx229_3 := vl HB.out hx229_3); replace p229 := eq_true p229; replace q229 := eq_true q229; try go_wp2_with (first | ((with_reducible refine gate_dst (N := 8) rfl ?_); refine vbe (N := 8) (cs := #[.int .i64 0, .int .i64 0, .int .i64 0, .int .i64 0]) (t := 63) ?_; intro gb230 hg w12 hbox hb; have n0_ := ak (Kd.R_below (vr HO_5.out) hb); have n1_ := ak (Kd.R_below (vr HO_6.out) hb); have n2_ := ak (below_step (vh HB.out) hb); have n3_ := ak (hbox); have n4_ := ak (vg hg (vh HB.out)); have n5_ := ak (vg hg (vh HB.out)); clear HO_5; clear HO_6; clear HB; have HO_5 := n0_; have HO_6 := n1_; have HB := n2_; have BK230 := n3_; have GW230 := n4_; have GE230 := n5_; clear n0_ n1_ n2_ n3_ n4_ n5_; clear hb hbox hg; (try (have hnw14 := Kd.R_ne HO_5.out BK230.out (by decide); change some gb230 ≠ some _ at hnw14; have how14 := fun (e_ : gb230 = _) => hnw14 (congrArg some e_); have hpw14 := fun e_ => how14 (Eq.symm e_); clear hnw14; replace how14 := eq_false how14; replace hpw14 := eq_false hpw14)); (try (have hnw15 := Kd.R_ne HO_6.out BK230.out (by decide); change some gb230 ≠ some _ at hnw15; have how15 := fun (e_ : gb230 = _) => hnw15 (congrArg some e_); have hpw15 := fun e_ => how15 (Eq.symm e_); clear hnw15; replace how15 := eq_false how15; replace hpw15 := eq_false hpw15)); have hcz13_0 : w12.cell? ⟨gb230, 0, none⟩ = some (.int .i64 0) := (blk_cell BK230.out 0).trans rfl; have hcz13_1 : w12.cell? ⟨gb230, 1, none⟩ = some (.int .i64 0) := (blk_cell BK230.out 1).trans rfl; have hcz13_2 : w12.cell? ⟨gb230, 2, none⟩ = some (.int .i64 0) := (blk_cell BK230.out 2).trans rfl; have hcz13_3 : w12.cell? ⟨gb230, 3, none⟩ = some (.int .i64 0) := (blk_cell BK230.out 3).trans rfl; have hfz13_0 := blk_frozen BK230.out 0; have hfz13_1 := blk_frozen BK230.out 1; have hfz13_2 := blk_frozen BK230.out 2; have hfz13_3 := blk_frozen BK230.out 3; obtain ⟨Ao16, co16, eo16⟩ := Kd.R_slice HO_5.out; subst eo16; obtain ⟨Ao17, co17, eo17⟩ := Kd.R_slice HO_6.out; subst eo17))
        have n0_ : Aside0 (Kd.R (Kd.int .i64) 3 ((((w12.setCell ⟨gb230, 0, none⟩ (.int .i64 ((rd_T63 l0 x20_1).f0))).setCell ⟨gb230, 1, none⟩ (.int .i64 ((rd_T63 l0 x20_1).f1))).setCell ⟨gb230, 2, none⟩ (.int .i64 ((rd_T63 l0 x20_1).f2))).setCell ⟨gb230, 3, none⟩ (.int .i64 ((rd_T63 l0 x20_1).f3))) w.heap.size (fun k_ => some k_ ≠ (.slice Ao17 x6_1.length co17 : Value).ownBlock) (.slice Ao16 x5_1.length co16) x5_1) := ⟨by (with_reducible repeat (first | apply Kd.R_alloc | apply Kd.R_drewN | apply Kd.R_drew)); exact Kd.R_mono (Kd.R_far (p := ⟨gb230, 3, none⟩) (Kd.R_far (p := ⟨gb230, 2, none⟩) (Kd.R_far (p := ⟨gb230, 1, none⟩) (Kd.R_far (p := ⟨gb230, 0, none⟩) (Kd.R_types HO_5.out BK230.out (by decide)) (fun _ hk => hk.2) (.int .i64 ((rd_T63 l0 x20_1).f0))) (fun _ hk => hk.2) (.int .i64 ((rd_T63 l0 x20_1).f1))) (fun _ hk => hk.2) (.int .i64 ((rd_T63 l0 x20_1).f2))) (fun _ hk => hk.2) (.int .i64 ((rd_T63 l0 x20_1).f3))) (fun _ hk => hk.1)⟩; have n1_ : Aside0 (Kd.R (Kd.int .i64) 3 ((((w12.setCell ⟨gb230, 0, none⟩ (.int .i64 ((rd_T63 l0 x20_1).f0))).setCell ⟨gb230, 1, none⟩ (.int .i64 ((rd_T63 l0 x20_1).f1))).setCell ⟨gb230, 2, none⟩ (.int .i64 ((rd_T63 l0 x20_1).f2))).setCell ⟨gb230, 3, none⟩ (.int .i64 ((rd_T63 l0 x20_1).f3))) w.heap.size (fun k_ => some k_ ≠ (.slice Ao16 x5_1.length co16 : Value).ownBlock) (.slice Ao17 x6_1.length co17) x6_1) := ⟨by (with_reducible repeat (first | apply Kd.R_alloc | apply Kd.R_drewN | apply Kd.R_drew)); exact Kd.R_mono (Kd.R_far (p := ⟨gb230, 3, none⟩) (Kd.R_far (p := ⟨gb230, 2, none⟩) (Kd.R_far (p := ⟨gb230, 1, none⟩) (Kd.R_far (p := ⟨gb230, 0, none⟩) (Kd.R_types HO_6.out BK230.out (by decide)) (fun _ hk => hk.2) (.int .i64 ((rd_T63 l0 x20_1).f0))) (fun _ hk => hk.2) (.int .i64 ((rd_T63 l0 x20_1).f1))) (fun _ hk => hk.2) (.int .i64 ((rd_T63 l0 x20_1).f2))) (fun _ hk => hk.2) (.int .i64 ((rd_T63 l0 x20_1).f3))) (fun _ hk => hk.1)⟩; have n2_ : Aside0 (((((w12.setCell ⟨gb230, 0, none⟩ (.int .i64 ((rd_T63 l0 x20_1).f0))).setCell ⟨gb230, 1, none⟩ (.int .i64 ((rd_T63 l0 x20_1).f1))).setCell ⟨gb230, 2, none⟩ (.int .i64 ((rd_T63 l0 x20_1).f2))).setCell ⟨gb230, 3, none⟩ (.int .i64 ((rd_T63 l0 x20_1).f3))).heap[gb230]? = some (.cells #[.int .i64 ((rd_T63 l0 x20_1).f0), .int .i64 ((rd_T63 l0 x20_1).f1), .int .i64 ((rd_T63 l0 x20_1).f2), .int .i64 ((rd_T63 l0 x20_1).f3)] 63 (0, 0))) := ⟨by (with_reducible repeat (first | refine blk_drewN ?_ _ | refine blk_drew ?_ | refine blk_alloc ?_ _)); refine blk_put (cs := #[.int .i64 ((rd_T63 l0 x20_1).f0), .int .i64 ((rd_T63 l0 x20_1).f1), .int .i64 ((rd_T63 l0 x20_1).f2), .int .i64 0]) ?_ 3 _ rfl; (with_reducible repeat (first | refine blk_drewN ?_ _ | refine blk_drew ?_ | refine blk_alloc ?_ _)); refine blk_put (cs := #[.int .i64 ((rd_T63 l0 x20_1).f0), .int .i64 ((rd_T63 l0 x20_1).f1), .int .i64 0, .int .i64 0]) ?_ 2 _ rfl; (with_reducible repeat (first | refine blk_drewN ?_ _ | refine blk_drew ?_ | refine blk_alloc ?_ _)); refine blk_put (cs := #[.int .i64 ((rd_T63 l0 x20_1).f0), .int .i64 0, .int .i64 0, .int .i64 0]) ?_ 1 _ rfl; (with_reducible repeat (first | refine blk_drewN ?_ _ | refine blk_drew ?_ | refine blk_alloc ?_ _)); refine blk_put (cs := #[.int .i64 0, .int .i64 0, .int .i64 0, .int .i64 0]) ?_ 0 _ rfl; exact vb BK230.out⟩; have n3_ : Aside0 (Below w.heap.size w ((((w12.setCell ⟨gb230, 0, none⟩ (.int .i64 ((rd_T63 l0 x20_1).f0))).setCell ⟨gb230, 1, none⟩ (.int .i64 ((rd_T63 l0 x20_1).f1))).setCell ⟨gb230, 2, none⟩ (.int .i64 ((rd_T63 l0 x20_1).f2))).setCell ⟨gb230, 3, none⟩ (.int .i64 ((rd_T63 l0 x20_1).f3)))) := ⟨by exact vs1 HB.out GE230.out⟩; (try clear HO_5); (try clear HO_6); (try clear BK230); (try clear HB); generalize ((((w12.setCell ⟨gb230, 0, none⟩ (.int .i64 ((rd_T63 l0 x20_1).f0))).setCell ⟨gb230, 1, none⟩ (.int .i64 ((rd_T63 l0 x20_1).f1))).setCell ⟨gb230, 2, none⟩ (.int .i64 ((rd_T63 l0 x20_1).f2))).setCell ⟨gb230, 3, none⟩ (.int .i64 ((rd_T63 l0 x20_1).f3))) = w18 at n0_ n1_ n2_ n3_ ⊢
        have HO_5 := n0_; have HO_6 := n1_; have BK230 := n2_; have HB := n3_; clear n0_ n1_ n2_ n3_; have n0_ := ak (Kd.R_drew HO_5.out); have n1_ := ak (Kd.R_drew HO_6.out); have n2_ := ak (blk_drew BK230.out); have n3_ := ak (below_drew1 HB.out); clear HO_5; clear HO_6; clear BK230; clear HB; have HO_5 := n0_; have HO_6 := n1_; have BK230 := n2_; have HB := n3_; clear n0_ n1_ n2_ n3_; refine start_ (n := 12) (S := fun w' => w'.cell? ⟨gb230, 0, none⟩ = some (.int .i64 ((rd_T63 l0 x20_1).f0)) ∧ w'.cell? ⟨gb230, 1, none⟩ = some (.int .i64 ((rd_T63 l0 x20_1).f1)) ∧ w'.cell? ⟨gb230, 2, none⟩ = some (.int .i64 ((rd_T63 l0 x20_1).f2)) ∧ w'.cell? ⟨gb230, 3, none⟩ = some (.int .i64 ((rd_T63 l0 x20_1).f3))) (ds := []) #[false, false, false, false, false, false, false, false, false, false, false, false] (by kernel_rfl) rfl rfl ⟨(blk_cell BK230.out 0).trans rfl, (blk_cell BK230.out 1).trans rfl, (blk_cell BK230.out 2).trans rfl, (blk_cell BK230.out 3).trans rfl⟩ (fun hHeld => ?_); refine with_tabW impl_isPlan.tab5 impl_isPlan.bits5 (fun HT_ HW_ => ?_); generalize w18.drew = w19 at HO_5 HO_6 BK230 HB hHeld ⊢
        refine px 0 24 #[true, false, false, false, false, false, false, false, false, false, false, false] rfl HT_.out ?_ (.inl ⟨by rfl, ?_⟩) ?_ ?_ ?_; rotate_left
        ·intro w'; go_simp; with_reducible rfl
        rotate_left
        ·simp only [ap1, ap2, ap3, ap4, i64_w, i32_w]; rfl
        refine px 1 25 #[true, true, false, false, false, false, false, false, false, false, false, false] rfl HT_.out ?_ (.inl ⟨by rfl, ?_⟩) ?_ ?_ ?_; rotate_left
        ·intro w'; go_simp; with_reducible rfl
        rotate_left
        ·simp only [ap1, ap2, ap3, ap4, i64_w, i32_w]; rfl
        refine px 5 29 #[true, true, false, false, false, true, false, false, false, false, false, false] rfl HT_.out ?_ (.inl ⟨by rfl, ?_⟩) ?_ ?_ ?_; rotate_left
        ·intro w'; go_simp; with_reducible rfl
        rotate_left
        ·simp only [ap1, ap2, ap3, ap4, i64_w, i32_w]; rfl
        refine px 6 30 #[true, true, false, false, false, true, true, false, false, false, false, false] rfl HT_.out ?_ (.inl ⟨by rfl, ?_⟩) ?_ ?_ ?_; rotate_left
        ·intro w'; go_simp; with_reducible rfl
        rotate_left
        ·simp only [ap1, ap2, ap3, ap4, i64_w, i32_w]; rfl
        refine tx 2 26 #[true, true, true, false, false, true, true, false, false, false, false, false] rfl HT_.out HW_.out hHeld ?_ (.inl ⟨by rfl, ?_⟩) ?_ ?_ ?_; rotate_left
        ·rintro w' ⟨s0, s1, s2, s3⟩; go_simp; with_reducible rfl
        rotate_left
        ·simp only [ap1, ap2, ap3, ap4, i64_w, i32_w]; rfl
        refine tx 7 31 #[true, true, true, false, false, true, true, true, false, false, false, false] rfl HT_.out HW_.out hHeld ?_ (.inl ⟨by rfl, ?_⟩) ?_ ?_ ?_; rotate_left
        ·rintro w' ⟨s0, s1, s2, s3⟩; go_simp; with_reducible rfl
        rotate_left
        ·simp only [ap1, ap2, ap3, ap4, i64_w, i32_w]; rfl
        refine join_ (σ := Value × Value × Value) 3 #[true, true, true, true, true, true, true, true, true, false, false, false] (fun s_ => [(27, s_.1), (28, s_.2.1), (32, s_.2.2)]) (fun s_ w' => (w'.cell? ⟨gb230, 0, none⟩ = some (.int .i64 ((rd_T63 l0 x20_1).f0)) ∧ w'.cell? ⟨gb230, 1, none⟩ = some (.int .i64 ((rd_T63 l0 x20_1).f1)) ∧ w'.cell? ⟨gb230, 2, none⟩ = some (.int .i64 ((rd_T63 l0 x20_1).f2)) ∧ w'.cell? ⟨gb230, 3, none⟩ = some (.int .i64 ((rd_T63 l0 x20_1).f3))) ∧ (Kd.R (Kd.int .i64) 3 w' w.heap.size (fun k_ => some k_ ≠ (s_.2.1 : Value).ownBlock ∧ some k_ ≠ (s_.2.2 : Value).ownBlock ∧ some k_ ≠ (.slice Ao17 x6_1.length co17 : Value).ownBlock) s_.1 y231) ∧ (Kd.R (Kd.int .i64) 3 w' w.heap.size (fun k_ => some k_ ≠ (s_.1 : Value).ownBlock ∧ some k_ ≠ (s_.2.2 : Value).ownBlock ∧ some k_ ≠ (.slice Ao17 x6_1.length co17 : Value).ownBlock) s_.2.1 y234) ∧ (Kd.R (Kd.int .i64) 3 w' w.heap.size (fun k_ => some k_ ≠ (s_.1 : Value).ownBlock ∧ some k_ ≠ (s_.2.1 : Value).ownBlock ∧ some k_ ≠ (.slice Ao17 x6_1.length co17 : Value).ownBlock) s_.2.2 y237) ∧ (Kd.R (Kd.int .i64) 3 w' w.heap.size (fun k_ => some k_ ≠ (s_.1 : Value).ownBlock ∧ some k_ ≠ (s_.2.1 : Value).ownBlock ∧ some k_ ≠ (s_.2.2 : Value).ownBlock) (.slice Ao17 x6_1.length co17) x6_1) ∧ (w'.heap[gb230]? = some (.cells #[.int .i64 ((rd_T63 l0 x20_1).f0), .int .i64 ((rd_T63 l0 x20_1).f1), .int .i64 ((rd_T63 l0 x20_1).f2), .int .i64 ((rd_T63 l0 x20_1).f3)] 63 (0, 0))) ∧ (Below w.heap.size w w')) ?_ ?_; rotate_left
        ·intro hCont; refine two_ (i := 3) (j := 8) (Ni := some 27) (Nj := some 32) #[true, true, true, true, false, true, true, true, false, false, false, false] #[true, true, true, false, false, true, true, true, true, false, false, false] rfl rfl rfl rfl (two_of HT_.out (by kernel_rfl)) (by decide) (by decide) (fun K hK => ?_) (fun K hK => ?_)
         ·skip
          refine Kd.R_lit_step (Kd.int .i64) _ 3 ?hg (N := 27) ?hd (xs := ([(rd_T63 l0 x20_1).f0] : List Int)) (inner := [.int .i64 ((rd_T63 l0 x20_1).f0)]) (ok := fun _ => True) (okp := fun _ => True) ?hr ?hp (fun _ hk => hk) trivial (Below.refl _ _) (Nat.le_refl _) (by simp) ?_; (case hd => rfl); (case hg => rfl); (case hr => first | (go_simp; done) | (go_simp; rfl)); (case hp => exact (Reps.one (show Kd.M (Kd.int .i64) _ _ _ ((rd_T63 l0 x20_1).f0) [.int .i64 ((rd_T63 l0 x20_1).f0)] from rfl) (Reps.none _ _))); intro v232 w20 ho21 hb hg_ hnew_; clear hg_ hnew_; (first | rw [← Ny231.out] at ho21 | (simp only [Int.reduceToNat] at ho21; rw [← Ny231.out] at ho21)); have n0_ := ak (Kd.R_elder' (vr HO_5.out) (Kd.R_base ho21) hb); have n1_ := ak (Kd.R_elder' (vr HO_6.out) (Kd.R_base ho21) hb); have n2_ := ak (Kd.R_lower (Kd.R_new' (Kd.R_new' ho21 (Kd.R_lt (vr HO_5.out))) (Kd.R_lt (vr HO_6.out))) (below_size (vs1 HB.out GE230.out))); have n3_ := ak (blk_below (g := gb230) (o := .cells #[.int .i64 ((rd_T63 l0 x20_1).f0), .int .i64 ((rd_T63 l0 x20_1).f1), .int .i64 ((rd_T63 l0 x20_1).f2), .int .i64 ((rd_T63 l0 x20_1).f3)] 63 (0, 0)) (vb BK230.out) hb); have n4_ := ak (below_step (vs1 HB.out GE230.out) hb); clear HO_5; clear HO_6; clear BK230; clear HB; have HO_5 := n0_; have HO_6 := n1_; have HO233 := n2_; have BK230 := n3_; have HB := n4_; clear n0_ n1_ n2_ n3_ n4_; clear hb ho21; obtain ⟨Ao23, co23, eo23⟩ := Kd.R_slice HO233.out; (first | subst eo23 | (injection eo23 with f1_ f2_ f3_; have f4_ := f1_.symm; have f5_ := f3_.symm; clear f1_ f2_ f3_; subst f4_; subst f5_)); refine hK.out _ _ ⟨(blk_cell BK230.out 0).trans rfl, (blk_cell BK230.out 1).trans rfl, (blk_cell BK230.out 2).trans rfl, (blk_cell BK230.out 3).trans rfl⟩ (fun hHeld => ?_); clear hK K; refine norm_ (a' := ?_) ?_ ?_; rotate_left
          ·show Act.put _ (some 27) _ = _; simp only [ap1, ap2, ap3, ap4, i64_w, i32_w]; rfl
          refine two_ (i := 4) (j := 8) (Ni := some 28) (Nj := some 32) #[true, true, true, true, true, true, true, true, false, false, false, false] #[true, true, true, true, false, true, true, true, true, false, false, false] rfl rfl rfl rfl (two_of HT_.out (by kernel_rfl)) (by decide) (by decide) (fun K hK => ?_) (fun K hK => ?_)
          ·skip
           refine Kd.R_append_rows_step (Kd.int .i64) (w0 := w) w.heap.size (by rfl) (.tmp 24) (.tmp 27) 45 3 (.int .i64 0) 8 rfl Try.underlying45 info3 rfl (by decide) (by omega) (.slice Ao16 x5_1.length co16) x5_1 y231 _ _ _ (fun k_ => some k_ ≠ (.slice Ao17 x6_1.length co17 : Value).ownBlock ∧ some k_ ≠ (.slice Ao23 y231.length co23 : Value).ownBlock) (fun _ => False) rfl rfl ?aO ?aR (fun _ _ h => h) (fun _ h => h.elim) ?aF ?aB ?aS ?aL ?_; (case aR => repeat (first | exact (Kd.R_reads' HO233.out).2.2 | (with_reducible refine Kd.C_alloc ?_ _) | (with_reducible refine Kd.C_drewN ?_ _) | (with_reducible refine Kd.C_drew ?_)))
           (case aB => exact (vs1 HB.out GE230.out))
           (case aF => exact (fun k_ hk => ⟨Kd.fresh' (Kd.R_lt (vr HO_6.out)) k_ hk, Kd.fresh' (Kd.R_lt (vr HO233.out)) k_ hk⟩))
           (case aO => exact (vr HO_5.out))
           (case aS => exact (below_size (vs1 HB.out GE230.out)))
           (case aL => have := LMc10.out; omega)
           intro v235 w22 ho hb hg hat; rw [← Ny234.out] at ho
           have n0_ := ak (Kd.R_after (ok := (fun k_ => some k_ ≠ (.slice Ao23 y231.length co23 : Value).ownBlock)) (by exact vr (Kd.R_mono HO_6.out (fun _ hk => ⟨hk.2, hk.1⟩))) hg hat); have n1_ := ak (blk_grown (g := gb230) (o := .cells #[.int .i64 ((rd_T63 l0 x20_1).f0), .int .i64 ((rd_T63 l0 x20_1).f1), .int .i64 ((rd_T63 l0 x20_1).f2), .int .i64 ((rd_T63 l0 x20_1).f3)] 63 (0, 0)) (vb BK230.out) hg (Kd.R_ne HO_5.out BK230.out (by decide))); have n2_ := ak (Kd.R_after (ok := (fun k_ => some k_ ≠ (.slice Ao17 x6_1.length co17 : Value).ownBlock)) (by exact vr (Kd.R_mono HO233.out (fun _ hk => ⟨hk.2, hk.1.2⟩))) hg hat); have n3_ := ak (hb); have n4_ := ak (ho); clear HO_6; clear BK230; clear HO233; clear HB; clear HO_5; have HO_6 := n0_; have BK230 := n1_; have HO233 := n2_; have HB := n3_; have HO236 := n4_; clear n0_ n1_ n2_ n3_ n4_; clear ho hb hg hat; refine hK.out _ _ ⟨(blk_cell BK230.out 0).trans rfl, (blk_cell BK230.out 1).trans rfl, (blk_cell BK230.out 2).trans rfl, (blk_cell BK230.out 3).trans rfl⟩ (fun hHeld => ?_); clear hK K; refine norm_ (a' := ?_) ?_ ?_; rotate_left
           ·show Act.put _ (some 28) _ = _; simp only [ap1, ap2, ap3, ap4, i64_w, i32_w]; rfl
           refine one_ (i := 8) (N := some 32) #[true, true, true, true, true, true, true, true, true, false, false, false] rfl rfl (one_of HT_.out (by kernel_rfl)) (by decide) (fun K hK => ?_); refine Kd.R_lit_step (Kd.int .i64) _ 3 ?hg (N := 32) ?hd (xs := ([(rd_T63 l0 x20_1).f3] : List Int)) (inner := [.int .i64 ((rd_T63 l0 x20_1).f3)]) (ok := fun _ => True) (okp := fun _ => True) ?hr ?hp (fun _ hk => hk) trivial (Below.refl _ _) (Nat.le_refl _) (by simp) ?_; (case hd => rfl); (case hg => rfl); (case hr => first | (go_simp; done) | (go_simp; rfl)); (case hp => exact (Reps.one (show Kd.M (Kd.int .i64) _ _ _ ((rd_T63 l0 x20_1).f3) [.int .i64 ((rd_T63 l0 x20_1).f3)] from rfl) (Reps.none _ _))); intro v238 w24 ho25 hb hg_ hnew_; clear hg_ hnew_; (first | rw [← Ny237.out] at ho25 | (simp only [Int.reduceToNat] at ho25; rw [← Ny237.out] at ho25)); have n0_ := ak (Kd.R_elder' (vr HO_6.out) (Kd.R_base ho25) hb); have n1_ := ak (Kd.R_elder' (vr HO233.out) (Kd.R_base ho25) hb); have n2_ := ak (Kd.R_elder' (vr HO236.out) (Kd.R_base ho25) hb); have n3_ := ak (Kd.R_lower (Kd.R_new' (Kd.R_new' (Kd.R_new' ho25 (Kd.R_lt (vr HO_6.out))) (Kd.R_lt (vr HO233.out))) (Kd.R_lt (vr HO236.out))) (below_size (vs1 HB.out GE230.out))); have n4_ := ak (blk_below (g := gb230) (o := .cells #[.int .i64 ((rd_T63 l0 x20_1).f0), .int .i64 ((rd_T63 l0 x20_1).f1), .int .i64 ((rd_T63 l0 x20_1).f2), .int .i64 ((rd_T63 l0 x20_1).f3)] 63 (0, 0)) (vb BK230.out) hb); have n5_ := ak (below_step (vs1 HB.out GE230.out) hb); clear HO_6; clear HO233; clear HO236; clear BK230; clear HB; have HO_6 := n0_; have HO233 := n1_; have HO236 := n2_; have HO239 := n3_; have BK230 := n4_; have HB := n5_; clear n0_ n1_ n2_ n3_ n4_ n5_; clear hb ho25; refine hK.out _ _ ⟨(blk_cell BK230.out 0).trans rfl, (blk_cell BK230.out 1).trans rfl, (blk_cell BK230.out 2).trans rfl, (blk_cell BK230.out 3).trans rfl⟩ (fun hHeld => ?_); clear hK K; refine norm_ (a' := ?_) ?_ ?_; rotate_left
           ·show Act.put _ (some 32) _ = _; simp only [ap1, ap2, ap3, ap4, i64_w, i32_w]; rfl
           exact norm_ (by simp only [putAll, Act.put, List.setIfInBounds_toArray, List.set_cons_zero, List.set_cons_succ]) (hCont (.slice Ao23 y231.length co23, v235, v238) _ ⟨hHeld, (by exact vr (Kd.R_mono HO233.out (fun _ hk => ⟨hk.1.2, ⟨hk.2, hk.1.1⟩⟩))), (by exact vr (Kd.R_mono HO236.out (fun _ hk => ⟨hk.1.2, ⟨hk.2, hk.1.1⟩⟩))), (by exact vr (Kd.R_mono HO239.out (fun _ hk => ⟨hk.1.2, ⟨hk.2, hk.1.1.2⟩⟩))), (by exact vr (Kd.R_mono HO_6.out (fun _ hk => ⟨hk.1.1, ⟨hk.1.2, hk.2⟩⟩))), (vb BK230.out), (vs1 HB.out GE230.out)⟩)
          ·skip
           refine Kd.R_lit_step (Kd.int .i64) _ 3 ?hg (N := 32) ?hd (xs := ([(rd_T63 l0 x20_1).f3] : List Int)) (inner := [.int .i64 ((rd_T63 l0 x20_1).f3)]) (ok := fun _ => True) (okp := fun _ => True) ?hr ?hp (fun _ hk => hk) trivial (Below.refl _ _) (Nat.le_refl _) (by simp) ?_; (case hd => rfl); (case hg => rfl); (case hr => first | (go_simp; done) | (go_simp; rfl)); (case hp => exact (Reps.one (show Kd.M (Kd.int .i64) _ _ _ ((rd_T63 l0 x20_1).f3) [.int .i64 ((rd_T63 l0 x20_1).f3)] from rfl) (Reps.none _ _))); intro v238 w22 ho23 hb hg_ hnew_; clear hg_ hnew_; (first | rw [← Ny237.out] at ho23 | (simp only [Int.reduceToNat] at ho23; rw [← Ny237.out] at ho23)); have n0_ := ak (Kd.R_elder' (vr HO_5.out) (Kd.R_base ho23) hb); have n1_ := ak (Kd.R_elder' (vr HO_6.out) (Kd.R_base ho23) hb); have n2_ := ak (Kd.R_elder' (vr HO233.out) (Kd.R_base ho23) hb); have n3_ := ak (Kd.R_lower (Kd.R_new' (Kd.R_new' (Kd.R_new' ho23 (Kd.R_lt (vr HO_5.out))) (Kd.R_lt (vr HO_6.out))) (Kd.R_lt (vr HO233.out))) (below_size (vs1 HB.out GE230.out))); have n4_ := ak (blk_below (g := gb230) (o := .cells #[.int .i64 ((rd_T63 l0 x20_1).f0), .int .i64 ((rd_T63 l0 x20_1).f1), .int .i64 ((rd_T63 l0 x20_1).f2), .int .i64 ((rd_T63 l0 x20_1).f3)] 63 (0, 0)) (vb BK230.out) hb); have n5_ := ak (below_step (vs1 HB.out GE230.out) hb); clear HO_5; clear HO_6; clear HO233; clear BK230; clear HB; have HO_5 := n0_; have HO_6 := n1_; have HO233 := n2_; have HO239 := n3_; have BK230 := n4_; have HB := n5_; clear n0_ n1_ n2_ n3_ n4_ n5_; clear hb ho23; obtain ⟨Ao25, co25, eo25⟩ := Kd.R_slice HO233.out; (first | subst eo25 | (injection eo25 with f1_ f2_ f3_; have f4_ := f1_.symm; have f5_ := f3_.symm; clear f1_ f2_ f3_; subst f4_; subst f5_)); refine hK.out _ _ ⟨(blk_cell BK230.out 0).trans rfl, (blk_cell BK230.out 1).trans rfl, (blk_cell BK230.out 2).trans rfl, (blk_cell BK230.out 3).trans rfl⟩ (fun hHeld => ?_); clear hK K; refine norm_ (a' := ?_) ?_ ?_; rotate_left
           ·show Act.put _ (some 32) _ = _; simp only [ap1, ap2, ap3, ap4, i64_w, i32_w]; rfl
           refine one_ (i := 4) (N := some 28) #[true, true, true, true, true, true, true, true, true, false, false, false] rfl rfl (one_of HT_.out (by kernel_rfl)) (by decide) (fun K hK => ?_); refine Kd.R_append_rows_step (Kd.int .i64) (w0 := w) w.heap.size (by rfl) (.tmp 24) (.tmp 27) 45 3 (.int .i64 0) 8 rfl Try.underlying45 info3 rfl (by decide) (by omega) (.slice Ao16 x5_1.length co16) x5_1 y231 _ _ _ (fun k_ => some k_ ≠ (.slice Ao17 x6_1.length co17 : Value).ownBlock ∧ some k_ ≠ (.slice Ao25 y231.length co25 : Value).ownBlock ∧ some k_ ≠ (v238 : Value).ownBlock) (fun _ => False) rfl rfl ?aO ?aR (fun _ _ h => h) (fun _ h => h.elim) ?aF ?aB ?aS ?aL ?_; (case aR => repeat (first | exact (Kd.R_reads' HO233.out).2.2 | (with_reducible refine Kd.C_alloc ?_ _) | (with_reducible refine Kd.C_drewN ?_ _) | (with_reducible refine Kd.C_drew ?_)))
           (case aB => exact (vs1 HB.out GE230.out))
           (case aF => exact (fun k_ hk => ⟨Kd.fresh' (Kd.R_lt (vr HO_6.out)) k_ hk, Kd.fresh' (Kd.R_lt (vr HO233.out)) k_ hk, Kd.fresh' (Kd.R_lt (vr HO239.out)) k_ hk⟩))
           (case aO => exact (by exact vr (Kd.R_mono HO_5.out (fun _ hk => ⟨hk.1.1, ⟨hk.1.2, hk.2⟩⟩))))
           (case aS => exact (below_size (vs1 HB.out GE230.out)))
           (case aL => have := LMc10.out; omega)
           intro v235 w24 ho hb hg hat; rw [← Ny234.out] at ho
           have n0_ := ak (Kd.R_after (ok := (fun k_ => some k_ ≠ (.slice Ao25 y231.length co25 : Value).ownBlock ∧ some k_ ≠ (v238 : Value).ownBlock)) (by exact vr (Kd.R_mono HO_6.out (fun _ hk => ⟨⟨hk.1.2, hk.2⟩, hk.1.1⟩))) hg hat); have n1_ := ak (blk_grown (g := gb230) (o := .cells #[.int .i64 ((rd_T63 l0 x20_1).f0), .int .i64 ((rd_T63 l0 x20_1).f1), .int .i64 ((rd_T63 l0 x20_1).f2), .int .i64 ((rd_T63 l0 x20_1).f3)] 63 (0, 0)) (vb BK230.out) hg (Kd.R_ne HO_5.out BK230.out (by decide))); have n2_ := ak (Kd.R_after (ok := (fun k_ => some k_ ≠ (.slice Ao17 x6_1.length co17 : Value).ownBlock ∧ some k_ ≠ (v238 : Value).ownBlock)) (by exact vr (Kd.R_mono HO233.out (fun _ hk => ⟨⟨hk.1.2, hk.2⟩, hk.1.1.2⟩))) hg hat); have n3_ := ak (Kd.R_after (ok := (fun k_ => some k_ ≠ (.slice Ao17 x6_1.length co17 : Value).ownBlock ∧ some k_ ≠ (.slice Ao25 y231.length co25 : Value).ownBlock)) (by exact vr (Kd.R_mono HO239.out (fun _ hk => ⟨⟨hk.1.2, hk.2⟩, hk.1.1.2⟩))) hg hat); have n4_ := ak (hb); have n5_ := ak (ho); clear HO_6; clear BK230; clear HO233; clear HO239; clear HB; clear HO_5; have HO_6 := n0_; have BK230 := n1_; have HO233 := n2_; have HO239 := n3_; have HB := n4_; have HO236 := n5_; clear n0_ n1_ n2_ n3_ n4_ n5_; clear ho hb hg hat; refine hK.out _ _ ⟨(blk_cell BK230.out 0).trans rfl, (blk_cell BK230.out 1).trans rfl, (blk_cell BK230.out 2).trans rfl, (blk_cell BK230.out 3).trans rfl⟩ (fun hHeld => ?_); clear hK K; refine norm_ (a' := ?_) ?_ ?_; rotate_left
           ·show Act.put _ (some 28) _ = _; simp only [ap1, ap2, ap3, ap4, i64_w, i32_w]; rfl
           exact norm_ (by simp only [putAll, Act.put, List.setIfInBounds_toArray, List.set_cons_zero, List.set_cons_succ]) (hCont (.slice Ao25 y231.length co25, v235, v238) _ ⟨hHeld, (by exact vr (Kd.R_mono HO233.out (fun _ hk => ⟨hk.2, ⟨hk.1.2, hk.1.1⟩⟩))), (by exact vr (Kd.R_mono HO236.out (fun _ hk => ⟨hk.2.1, ⟨hk.2.2, hk.1⟩⟩))), (by exact vr (Kd.R_mono HO239.out (fun _ hk => ⟨hk.1.2, ⟨hk.2, hk.1.1⟩⟩))), (by exact vr (Kd.R_mono HO_6.out (fun _ hk => ⟨hk.1.1, ⟨hk.2, hk.1.2⟩⟩))), (vb BK230.out), (vs1 HB.out GE230.out)⟩)
         ·skip
          refine Kd.R_lit_step (Kd.int .i64) _ 3 ?hg (N := 32) ?hd (xs := ([(rd_T63 l0 x20_1).f3] : List Int)) (inner := [.int .i64 ((rd_T63 l0 x20_1).f3)]) (ok := fun _ => True) (okp := fun _ => True) ?hr ?hp (fun _ hk => hk) trivial (Below.refl _ _) (Nat.le_refl _) (by simp) ?_; (case hd => rfl); (case hg => rfl); (case hr => first | (go_simp; done) | (go_simp; rfl)); (case hp => exact (Reps.one (show Kd.M (Kd.int .i64) _ _ _ ((rd_T63 l0 x20_1).f3) [.int .i64 ((rd_T63 l0 x20_1).f3)] from rfl) (Reps.none _ _))); intro v238 w20 ho21 hb hg_ hnew_; clear hg_ hnew_; (first | rw [← Ny237.out] at ho21 | (simp only [Int.reduceToNat] at ho21; rw [← Ny237.out] at ho21)); have n0_ := ak (Kd.R_elder' (vr HO_5.out) (Kd.R_base ho21) hb); have n1_ := ak (Kd.R_elder' (vr HO_6.out) (Kd.R_base ho21) hb); have n2_ := ak (Kd.R_lower (Kd.R_new' (Kd.R_new' ho21 (Kd.R_lt (vr HO_5.out))) (Kd.R_lt (vr HO_6.out))) (below_size (vs1 HB.out GE230.out))); have n3_ := ak (blk_below (g := gb230) (o := .cells #[.int .i64 ((rd_T63 l0 x20_1).f0), .int .i64 ((rd_T63 l0 x20_1).f1), .int .i64 ((rd_T63 l0 x20_1).f2), .int .i64 ((rd_T63 l0 x20_1).f3)] 63 (0, 0)) (vb BK230.out) hb); have n4_ := ak (below_step (vs1 HB.out GE230.out) hb); clear HO_5; clear HO_6; clear BK230; clear HB; have HO_5 := n0_; have HO_6 := n1_; have HO239 := n2_; have BK230 := n3_; have HB := n4_; clear n0_ n1_ n2_ n3_ n4_; clear hb ho21; refine hK.out _ _ ⟨(blk_cell BK230.out 0).trans rfl, (blk_cell BK230.out 1).trans rfl, (blk_cell BK230.out 2).trans rfl, (blk_cell BK230.out 3).trans rfl⟩ (fun hHeld => ?_); clear hK K; refine norm_ (a' := ?_) ?_ ?_; rotate_left
          ·show Act.put _ (some 32) _ = _; simp only [ap1, ap2, ap3, ap4, i64_w, i32_w]; rfl
          refine one_ (i := 3) (N := some 27) #[true, true, true, true, false, true, true, true, true, false, false, false] rfl rfl (one_of HT_.out (by kernel_rfl)) (by decide) (fun K hK => ?_); refine Kd.R_lit_step (Kd.int .i64) _ 3 ?hg (N := 27) ?hd (xs := ([(rd_T63 l0 x20_1).f0] : List Int)) (inner := [.int .i64 ((rd_T63 l0 x20_1).f0)]) (ok := fun _ => True) (okp := fun _ => True) ?hr ?hp (fun _ hk => hk) trivial (Below.refl _ _) (Nat.le_refl _) (by simp) ?_; (case hd => rfl); (case hg => rfl); (case hr => first | (go_simp; done) | (go_simp; rfl)); (case hp => exact (Reps.one (show Kd.M (Kd.int .i64) _ _ _ ((rd_T63 l0 x20_1).f0) [.int .i64 ((rd_T63 l0 x20_1).f0)] from rfl) (Reps.none _ _))); intro v232 w22 ho23 hb hg_ hnew_; clear hg_ hnew_; (first | rw [← Ny231.out] at ho23 | (simp only [Int.reduceToNat] at ho23; rw [← Ny231.out] at ho23)); have n0_ := ak (Kd.R_elder' (vr HO_5.out) (Kd.R_base ho23) hb); have n1_ := ak (Kd.R_elder' (vr HO_6.out) (Kd.R_base ho23) hb); have n2_ := ak (Kd.R_elder' (vr HO239.out) (Kd.R_base ho23) hb); have n3_ := ak (Kd.R_lower (Kd.R_new' (Kd.R_new' (Kd.R_new' ho23 (Kd.R_lt (vr HO_5.out))) (Kd.R_lt (vr HO_6.out))) (Kd.R_lt (vr HO239.out))) (below_size (vs1 HB.out GE230.out))); have n4_ := ak (blk_below (g := gb230) (o := .cells #[.int .i64 ((rd_T63 l0 x20_1).f0), .int .i64 ((rd_T63 l0 x20_1).f1), .int .i64 ((rd_T63 l0 x20_1).f2), .int .i64 ((rd_T63 l0 x20_1).f3)] 63 (0, 0)) (vb BK230.out) hb); have n5_ := ak (below_step (vs1 HB.out GE230.out) hb); clear HO_5; clear HO_6; clear HO239; clear BK230; clear HB; have HO_5 := n0_; have HO_6 := n1_; have HO239 := n2_; have HO233 := n3_; have BK230 := n4_; have HB := n5_; clear n0_ n1_ n2_ n3_ n4_ n5_; clear hb ho23; obtain ⟨Ao25, co25, eo25⟩ := Kd.R_slice HO233.out; (first | subst eo25 | (injection eo25 with f1_ f2_ f3_; have f4_ := f1_.symm; have f5_ := f3_.symm; clear f1_ f2_ f3_; subst f4_; subst f5_)); refine hK.out _ _ ⟨(blk_cell BK230.out 0).trans rfl, (blk_cell BK230.out 1).trans rfl, (blk_cell BK230.out 2).trans rfl, (blk_cell BK230.out 3).trans rfl⟩ (fun hHeld => ?_); clear hK K; refine norm_ (a' := ?_) ?_ ?_; rotate_left
          ·show Act.put _ (some 27) _ = _; simp only [ap1, ap2, ap3, ap4, i64_w, i32_w]; rfl
          refine one_ (i := 4) (N := some 28) #[true, true, true, true, true, true, true, true, true, false, false, false] rfl rfl (one_of HT_.out (by kernel_rfl)) (by decide) (fun K hK => ?_); refine Kd.R_append_rows_step (Kd.int .i64) (w0 := w) w.heap.size (by rfl) (.tmp 24) (.tmp 27) 45 3 (.int .i64 0) 8 rfl Try.underlying45 info3 rfl (by decide) (by omega) (.slice Ao16 x5_1.length co16) x5_1 y231 _ _ _ (fun k_ => some k_ ≠ (.slice Ao17 x6_1.length co17 : Value).ownBlock ∧ some k_ ≠ (v238 : Value).ownBlock ∧ some k_ ≠ (.slice Ao25 y231.length co25 : Value).ownBlock) (fun _ => False) rfl rfl ?aO ?aR (fun _ _ h => h) (fun _ h => h.elim) ?aF ?aB ?aS ?aL ?_; (case aR => repeat (first | exact (Kd.R_reads' HO233.out).2.2 | (with_reducible refine Kd.C_alloc ?_ _) | (with_reducible refine Kd.C_drewN ?_ _) | (with_reducible refine Kd.C_drew ?_)))
          (case aB => exact (vs1 HB.out GE230.out))
          (case aF => exact (fun k_ hk => ⟨Kd.fresh' (Kd.R_lt (vr HO_6.out)) k_ hk, Kd.fresh' (Kd.R_lt (vr HO239.out)) k_ hk, Kd.fresh' (Kd.R_lt (vr HO233.out)) k_ hk⟩))
          (case aO => exact (by exact vr (Kd.R_mono HO_5.out (fun _ hk => ⟨hk.1.1, ⟨hk.1.2, hk.2⟩⟩))))
          (case aS => exact (below_size (vs1 HB.out GE230.out)))
          (case aL => have := LMc10.out; omega)
          intro v235 w24 ho hb hg hat; rw [← Ny234.out] at ho
          have n0_ := ak (Kd.R_after (ok := (fun k_ => some k_ ≠ (v238 : Value).ownBlock ∧ some k_ ≠ (.slice Ao25 y231.length co25 : Value).ownBlock)) (by exact vr (Kd.R_mono HO_6.out (fun _ hk => ⟨⟨hk.1.2, hk.2⟩, hk.1.1⟩))) hg hat); have n1_ := ak (blk_grown (g := gb230) (o := .cells #[.int .i64 ((rd_T63 l0 x20_1).f0), .int .i64 ((rd_T63 l0 x20_1).f1), .int .i64 ((rd_T63 l0 x20_1).f2), .int .i64 ((rd_T63 l0 x20_1).f3)] 63 (0, 0)) (vb BK230.out) hg (Kd.R_ne HO_5.out BK230.out (by decide))); have n2_ := ak (Kd.R_after (ok := (fun k_ => some k_ ≠ (.slice Ao17 x6_1.length co17 : Value).ownBlock ∧ some k_ ≠ (.slice Ao25 y231.length co25 : Value).ownBlock)) (by exact vr (Kd.R_mono HO239.out (fun _ hk => ⟨⟨hk.1.2, hk.2⟩, hk.1.1.2⟩))) hg hat); have n3_ := ak (Kd.R_after (ok := (fun k_ => some k_ ≠ (.slice Ao17 x6_1.length co17 : Value).ownBlock ∧ some k_ ≠ (v238 : Value).ownBlock)) (by exact vr (Kd.R_mono HO233.out (fun _ hk => ⟨⟨hk.1.2, hk.2⟩, hk.1.1.2⟩))) hg hat); have n4_ := ak (hb); have n5_ := ak (ho); clear HO_6; clear BK230; clear HO239; clear HO233; clear HB; clear HO_5; have HO_6 := n0_; have BK230 := n1_; have HO239 := n2_; have HO233 := n3_; have HB := n4_; have HO236 := n5_; clear n0_ n1_ n2_ n3_ n4_ n5_; clear ho hb hg hat; refine hK.out _ _ ⟨(blk_cell BK230.out 0).trans rfl, (blk_cell BK230.out 1).trans rfl, (blk_cell BK230.out 2).trans rfl, (blk_cell BK230.out 3).trans rfl⟩ (fun hHeld => ?_); clear hK K; refine norm_ (a' := ?_) ?_ ?_; rotate_left
          ·show Act.put _ (some 28) _ = _; simp only [ap1, ap2, ap3, ap4, i64_w, i32_w]; rfl
          exact norm_ (by simp only [putAll, Act.put, List.setIfInBounds_toArray, List.set_cons_zero, List.set_cons_succ]) (hCont (.slice Ao25 y231.length co25, v235, v238) _ ⟨hHeld, (by exact vr (Kd.R_mono HO233.out (fun _ hk => ⟨hk.2, ⟨hk.1.2, hk.1.1⟩⟩))), (by exact vr (Kd.R_mono HO236.out (fun _ hk => ⟨hk.2.2, ⟨hk.2.1, hk.1⟩⟩))), (by exact vr (Kd.R_mono HO239.out (fun _ hk => ⟨hk.1.2, ⟨hk.2, hk.1.1⟩⟩))), (by exact vr (Kd.R_mono HO_6.out (fun _ hk => ⟨hk.1.2, ⟨hk.2, hk.1.1⟩⟩))), (vb BK230.out), (vs1 HB.out GE230.out)⟩)
        rintro ⟨v232, v235, v238⟩ w26 ⟨hS_, h0_, h1_, h2_, h3_, h4_, h5_⟩; have n0_ : Aside0 (Kd.R (Kd.int .i64) 3 w26 w.heap.size (fun k_ => some k_ ≠ (v235 : Value).ownBlock ∧ some k_ ≠ (v238 : Value).ownBlock ∧ some k_ ≠ (.slice Ao17 x6_1.length co17 : Value).ownBlock) v232 y231) := ⟨h0_⟩; have n1_ : Aside0 (Kd.R (Kd.int .i64) 3 w26 w.heap.size (fun k_ => some k_ ≠ (v232 : Value).ownBlock ∧ some k_ ≠ (v238 : Value).ownBlock ∧ some k_ ≠ (.slice Ao17 x6_1.length co17 : Value).ownBlock) v235 y234) := ⟨h1_⟩; have n2_ : Aside0 (Kd.R (Kd.int .i64) 3 w26 w.heap.size (fun k_ => some k_ ≠ (v232 : Value).ownBlock ∧ some k_ ≠ (v235 : Value).ownBlock ∧ some k_ ≠ (.slice Ao17 x6_1.length co17 : Value).ownBlock) v238 y237) := ⟨h2_⟩; have n3_ : Aside0 (Kd.R (Kd.int .i64) 3 w26 w.heap.size (fun k_ => some k_ ≠ (v232 : Value).ownBlock ∧ some k_ ≠ (v235 : Value).ownBlock ∧ some k_ ≠ (v238 : Value).ownBlock) (.slice Ao17 x6_1.length co17) x6_1) := ⟨h3_⟩; have n4_ : Aside0 (w26.heap[gb230]? = some (.cells #[.int .i64 ((rd_T63 l0 x20_1).f0), .int .i64 ((rd_T63 l0 x20_1).f1), .int .i64 ((rd_T63 l0 x20_1).f2), .int .i64 ((rd_T63 l0 x20_1).f3)] 63 (0, 0))) := ⟨h4_⟩; have n5_ : Aside0 (Below w.heap.size w w26) := ⟨h5_⟩; clear HO_5; clear HO_6; clear BK230; clear HB; clear h0_ h1_ h2_ h3_ h4_ h5_; have HO233 := n0_; have HO236 := n1_; have HO239 := n2_; have HO_6 := n3_; have BK230 := n4_; have HB := n5_; clear n0_ n1_ n2_ n3_ n4_ n5_; have hHeld : w26.cell? ⟨gb230, 0, none⟩ = some (.int .i64 ((rd_T63 l0 x20_1).f0)) ∧ w26.cell? ⟨gb230, 1, none⟩ = some (.int .i64 ((rd_T63 l0 x20_1).f1)) ∧ w26.cell? ⟨gb230, 2, none⟩ = some (.int .i64 ((rd_T63 l0 x20_1).f2)) ∧ w26.cell? ⟨gb230, 3, none⟩ = some (.int .i64 ((rd_T63 l0 x20_1).f3)) := hS_; obtain ⟨Ao28, co28, eo28⟩ := Kd.R_slice HO239.out; (first | subst eo28 | (injection eo28 with f1_ f2_ f3_; have f4_ := f1_.symm; have f5_ := f3_.symm; clear f1_ f2_ f3_; subst f4_; subst f5_)); refine norm_ (a' := ?_) ?_ ?_; rotate_left
        ·simp only [putAll, Act.put, List.setIfInBounds_toArray, List.set_cons_zero, List.set_cons_succ]; rfl
        refine one_ (i := 9) (N := some 33) #[true, true, true, true, true, true, true, true, true, true, false, false] rfl rfl (one_of HT_.out (by kernel_rfl)) (by decide) (fun K hK => ?_); refine Kd.R_append_rows_step (Kd.int .i64) (w0 := w) w.heap.size (by rfl) (.tmp 29) (.tmp 32) 45 3 (.int .i64 0) 8 rfl Try.underlying45 info3 rfl (by decide) (by omega) (.slice Ao17 x6_1.length co17) x6_1 y237 _ _ _ (fun k_ => some k_ ≠ (v232 : Value).ownBlock ∧ some k_ ≠ (v235 : Value).ownBlock ∧ some k_ ≠ (.slice Ao28 y237.length co28 : Value).ownBlock) (fun _ => False) rfl rfl ?aO ?aR (fun _ _ h => h) (fun _ h => h.elim) ?aF ?aB ?aS ?aL ?_; (case aR => repeat (first | exact (Kd.R_reads' HO239.out).2.2 | (with_reducible refine Kd.C_alloc ?_ _) | (with_reducible refine Kd.C_drewN ?_ _) | (with_reducible refine Kd.C_drew ?_)))
        (case aB => exact (vs1 HB.out GE230.out))
        (case aF => exact (fun k_ hk => ⟨Kd.fresh' (Kd.R_lt (vr HO233.out)) k_ hk, Kd.fresh' (Kd.R_lt (vr HO236.out)) k_ hk, Kd.fresh' (Kd.R_lt (vr HO239.out)) k_ hk⟩))
        (case aO => exact (vr HO_6.out))
        (case aS => exact (below_size (vs1 HB.out GE230.out)))
        (case aL => have := LMc11.out; omega)
        intro v241 w27 ho hb hg hat; rw [← Ny240.out] at ho
        have n0_ := ak (blk_grown (g := gb230) (o := .cells #[.int .i64 ((rd_T63 l0 x20_1).f0), .int .i64 ((rd_T63 l0 x20_1).f1), .int .i64 ((rd_T63 l0 x20_1).f2), .int .i64 ((rd_T63 l0 x20_1).f3)] 63 (0, 0)) (vb BK230.out) hg (Kd.R_ne HO_6.out BK230.out (by decide))); have n1_ := ak (Kd.R_after (ok := (fun k_ => some k_ ≠ (v235 : Value).ownBlock ∧ some k_ ≠ (.slice Ao28 y237.length co28 : Value).ownBlock)) (by exact vr (Kd.R_mono HO233.out (fun _ hk => ⟨⟨hk.1, hk.2.1⟩, hk.2.2⟩))) hg hat); have n2_ := ak (Kd.R_after (ok := (fun k_ => some k_ ≠ (v232 : Value).ownBlock ∧ some k_ ≠ (.slice Ao28 y237.length co28 : Value).ownBlock)) (by exact vr (Kd.R_mono HO236.out (fun _ hk => ⟨⟨hk.1, hk.2.1⟩, hk.2.2⟩))) hg hat); have n3_ := ak (Kd.R_after (ok := (fun k_ => some k_ ≠ (v232 : Value).ownBlock ∧ some k_ ≠ (v235 : Value).ownBlock)) (by exact vr (Kd.R_mono HO239.out (fun _ hk => ⟨⟨hk.1, hk.2.1⟩, hk.2.2⟩))) hg hat); have n4_ := ak (hb); have n5_ := ak (ho); clear BK230; clear HO233; clear HO236; clear HO239; clear HB; clear HO_6; have BK230 := n0_; have HO233 := n1_; have HO236 := n2_; have HO239 := n3_; have HB := n4_; have HO242 := n5_; clear n0_ n1_ n2_ n3_ n4_ n5_; clear ho hb hg hat; refine hK.out _ _ ⟨(blk_cell BK230.out 0).trans rfl, (blk_cell BK230.out 1).trans rfl, (blk_cell BK230.out 2).trans rfl, (blk_cell BK230.out 3).trans rfl⟩ (fun hHeld => ?_); clear hK K; refine norm_ (a' := ?_) ?_ ?_; rotate_left
        ·show Act.put _ (some 33) _ = _; simp only [ap1, ap2, ap3, ap4, i64_w, i32_w]; rfl
        refine px 10 5 #[true, true, true, true, true, true, true, true, true, true, true, false] rfl HT_.out ?_ (.inl ⟨by rfl, ?_⟩) ?_ ?_ ?_; rotate_left
        ·intro w'; go_simp; with_reducible rfl
        rotate_left
        ·simp only [ap1, ap2, ap3, ap4, i64_w, i32_w]; rfl
        refine px 11 6 #[true, true, true, true, true, true, true, true, true, true, true, true] rfl HT_.out ?_ (.inl ⟨by rfl, ?_⟩) ?_ ?_ ?_; rotate_left
        ·intro w'; go_simp; with_reducible rfl
        rotate_left
        ·simp only [ap1, ap2, ap3, ap4, i64_w, i32_w]; rfl
        refine done_ (done_of HT_.out (by kernel_rfl)) ?_; try go_wp2
        go_roundg k1
        case measure => have := HK1.out; omega
        case rel => exact ⟨(y234), (y240), (wrap64 (x20_1 + 1)), vq, H', ⟨by have := HK1.out; omega⟩, ⟨by exact vr (Kd.R_mono HO236.out (fun _ hk => hk.2))⟩, ⟨by exact vr (Kd.R_mono HO242.out (fun _ hk => hk.2.1))⟩, ⟨by exact vs1 HB.out GE230.out⟩⟩
       ·rw [if_neg c11] at H
        exact absurd H (by simp)
      ·rw [if_neg c10] at H
       exact absurd H (by simp)
     ·rw [if_neg c9] at H
      exact absurd H (by simp)
    ·rw [if_neg c8] at H
     exact absurd H (by simp)
   ·rw [if_neg c7] at H
    have c7b0 : decide (x20_1 < (l0.length : Int)) = false := decide_eq_false c7; clear c7; have H' := Aside0.mk H; clear H; go_wp2
    go_loopg [37] k1 (fun kq v37 w' => ∃ (x5_2 : List Int) (x6_2 : List Int) (x37_2 : Int), v37 = .int .i64 x37_2 ∧ Aside0 (impl_isPlan.l1 kq l0 l1 x5_2 x6_2 l1 (l1.length : Int) x37_2 = some r) ∧ Aside0 (kq ≤ k1) ∧ Aside0 (Kd.R (Kd.int .i64) 3 w' w.heap.size (fun k_ => some k_ ≠ (u6 : Value).ownBlock) u5 x5_2) ∧ Aside0 (Kd.R (Kd.int .i64) 3 w' w.heap.size (fun k_ => some k_ ≠ (u5 : Value).ownBlock) u6 x6_2) ∧ Aside0 (Below w.heap.size w w'))
    case atStart => exact ⟨(x5_1), (x6_1), (0), (by first | rfl | (simp; done) | (simp [*]; done)), H', ⟨Nat.le_refl _⟩, ⟨by exact vr HO_5.out⟩, ⟨by exact vr HO_6.out⟩, ⟨by exact vh HB.out⟩⟩
    case round =>
     clear H'; try clear c1
     try clear p2
     try clear q2
     try clear hx2
     try clear c4
     try clear p6
     try clear c7
     try clear c7b0
     try clear c8
     try clear c8b0
     try clear c9
     try clear c9b0
     try clear c10
     try clear c11
     try clear p22
     try clear q22
     try clear hx22
     try clear hcz13_0
     try clear hcz13_1
     try clear hcz13_2
     try clear hcz13_3
     try clear hfz13_0
     try clear hfz13_1
     try clear hfz13_2
     try clear hfz13_3
     try clear hx229_0
     try clear hx229_1
     try clear hx229_2
     try clear hx229_3
     try clear p2
     try clear p229
     try clear q229
     obtain ⟨x5_2, x6_2, x37_2, rfl, HA, HK2, HO_5, HO_6, HB⟩ := hrel; cases gk with
     | zero => exact absurd HA.out (by simp [impl_isPlan.l1])
     | succ k2 =>
      have H := HA.out; clear HA; simp only [impl_isPlan.l1] at H
      by_cases c29 : x37_2 < (l1.length : Int)
      ·rw [if_pos c29] at H
       have c29b0 : decide (x37_2 < (l1.length : Int)) = true := decide_eq_true c29; clear c29; by_cases c30 : 0 ≤ x37_2
       ·rw [if_pos c30] at H
        have c30b0 : decide (0 ≤ x37_2) = true := decide_eq_true c30; clear c30; by_cases c31 : x37_2 < (l1.length : Int)
        ·rw [if_pos c31] at H
         have c31b0 : decide (x37_2 < (l1.length : Int)) = true := decide_eq_true c31; clear c31; have HC32 := Aside0.mk H; clear H; have p243 : 0 ≤ (x37_2 : Int) := of_decide_eq_true va; have q243 : x37_2 < (l1.length : Int) := of_decide_eq_true va; obtain ⟨ad243, e243, hx243_0, hx243_1, hx243_2⟩ := at_T67 HR1.out x37_2 p243 q243; cases e243; (try replace hx243_0 := vl HB.out hx243_0); (try replace hx243_1 := vl HB.out hx243_1); (try replace hx243_2 := vl HB.out hx243_2); replace p243 := eq_true p243; replace q243 := eq_true q243; go_upto_region 10 with (first | ((with_reducible refine gate_dst (N := 10) rfl ?_); refine vbe (N := 10) (cs := #[.int .i64 0, .int .i64 0, .int .i64 0]) (t := 67) ?_; intro gb244 hg w33 hbox hb; have n0_ := ak (Kd.R_below (vr HO_5.out) hb); have n1_ := ak (Kd.R_below (vr HO_6.out) hb); have n2_ := ak (below_step (vh HB.out) hb); have n3_ := ak (hbox); have n4_ := ak (vg hg (vh HB.out)); have n5_ := ak (vg hg (vh HB.out)); clear HO_5; clear HO_6; clear HB; have HO_5 := n0_; have HO_6 := n1_; have HB := n2_; have BK244 := n3_; have GW244 := n4_; have GE244 := n5_; clear n0_ n1_ n2_ n3_ n4_ n5_; clear hb hbox hg; (try (have hnw35 := Kd.R_ne HO_5.out BK244.out (by decide); change some gb244 ≠ some _ at hnw35; have how35 := fun (e_ : gb244 = _) => hnw35 (congrArg some e_); have hpw35 := fun e_ => how35 (Eq.symm e_); clear hnw35; replace how35 := eq_false how35; replace hpw35 := eq_false hpw35)); (try (have hnw36 := Kd.R_ne HO_6.out BK244.out (by decide); change some gb244 ≠ some _ at hnw36; have how36 := fun (e_ : gb244 = _) => hnw36 (congrArg some e_); have hpw36 := fun e_ => how36 (Eq.symm e_); clear hnw36; replace how36 := eq_false how36; replace hpw36 := eq_false hpw36)); have hcz34_0 : w33.cell? ⟨gb244, 0, none⟩ = some (.int .i64 0) := (blk_cell BK244.out 0).trans rfl; have hcz34_1 : w33.cell? ⟨gb244, 1, none⟩ = some (.int .i64 0) := (blk_cell BK244.out 1).trans rfl; have hcz34_2 : w33.cell? ⟨gb244, 2, none⟩ = some (.int .i64 0) := (blk_cell BK244.out 2).trans rfl; have hfz34_0 := blk_frozen BK244.out 0; have hfz34_1 := blk_frozen BK244.out 1; have hfz34_2 := blk_frozen BK244.out 2))
         (try simp only [Act.put, List.setIfInBounds_toArray, List.set_cons_zero, List.set_cons_succ]); go_cut [68] (fun v68 wc => ∃ (kq : Nat) (x68_31 : Bool), v68 = .bool x68_31 ∧ Aside0 (impl_isPlan.j2 kq l0 l1 x5_2 x6_2 x37_2 l1 (l1.length : Int) x37_2 x68_31 ((rd_T67 l1 x37_2).f0) ((rd_T67 l1 x37_2).f1) ((rd_T67 l1 x37_2).f2) = some r) ∧ Aside0 (kq ≤ k2) ∧ Aside0 (Kd.R (Kd.int .i64) 3 wc w.heap.size (fun k_ => some k_ ≠ (u6 : Value).ownBlock) u5 x5_2) ∧ Aside0 (Kd.R (Kd.int .i64) 3 wc w.heap.size (fun k_ => some k_ ≠ (u5 : Value).ownBlock) u6 x6_2) ∧ Aside0 (wc.heap[gb244]? = some (.cells #[.int .i64 ((rd_T67 l1 x37_2).f0), .int .i64 ((rd_T67 l1 x37_2).f1), .int .i64 ((rd_T67 l1 x37_2).f2)] 67 (0, 0))) ∧ Aside0 (Below w.heap.size w wc))
         case first =>
          have H := HC32.out; clear HC32; replace H := Option.bind_eq_some_iff.mp H; obtain ⟨t245, A370, H⟩ := H; replace H : (if t245 = true then ((impl_in.f ((rd_T67 l1 x37_2).f2) 0 9999).bind fun t246 => (if t246 = true then (if x37_2 > 0 then (if 0 ≤ (wrap64 (x37_2 - 1)) then (if (wrap64 (x37_2 - 1)) < (l1.length : Int) then ((impl_byBegin.f k2 ((rd_T67 l1 (wrap64 (x37_2 - 1))).f0) ((rd_T67 l1 (wrap64 (x37_2 - 1))).f1) ((rd_T67 l1 (wrap64 (x37_2 - 1))).f2) ((rd_T67 l1 x37_2).f0) ((rd_T67 l1 x37_2).f1) ((rd_T67 l1 x37_2).f2)).bind fun t248 => (impl_isPlan.j2 k2 l0 l1 x5_2 x6_2 x37_2 l1 (l1.length : Int) x37_2 (decide (t248 ≥ 0)) ((rd_T67 l1 x37_2).f0) ((rd_T67 l1 x37_2).f1) ((rd_T67 l1 x37_2).f2))) else (none)) else (none)) else (impl_isPlan.j2 k2 l0 l1 x5_2 x6_2 x37_2 l1 (l1.length : Int) x37_2 false ((rd_T67 l1 x37_2).f0) ((rd_T67 l1 x37_2).f1) ((rd_T67 l1 x37_2).f2))) else (impl_isPlan.j2 k2 l0 l1 x5_2 x6_2 x37_2 l1 (l1.length : Int) x37_2 true ((rd_T67 l1 x37_2).f0) ((rd_T67 l1 x37_2).f1) ((rd_T67 l1 x37_2).f2)))) else (impl_isPlan.j2 k2 l0 l1 x5_2 x6_2 x37_2 l1 (l1.length : Int) x37_2 true ((rd_T67 l1 x37_2).f0) ((rd_T67 l1 x37_2).f1) ((rd_T67 l1 x37_2).f2))) = some r := H; have A37 := Aside0.mk A370; clear A370; by_cases c38 : t245 = true
          ·subst c38; have H1 : ((impl_in.f ((rd_T67 l1 x37_2).f2) 0 9999).bind fun t246 => (if t246 = true then (if x37_2 > 0 then (if 0 ≤ (wrap64 (x37_2 - 1)) then (if (wrap64 (x37_2 - 1)) < (l1.length : Int) then ((impl_byBegin.f k2 ((rd_T67 l1 (wrap64 (x37_2 - 1))).f0) ((rd_T67 l1 (wrap64 (x37_2 - 1))).f1) ((rd_T67 l1 (wrap64 (x37_2 - 1))).f2) ((rd_T67 l1 x37_2).f0) ((rd_T67 l1 x37_2).f1) ((rd_T67 l1 x37_2).f2)).bind fun t248 => (impl_isPlan.j2 k2 l0 l1 x5_2 x6_2 x37_2 l1 (l1.length : Int) x37_2 (decide (t248 ≥ 0)) ((rd_T67 l1 x37_2).f0) ((rd_T67 l1 x37_2).f1) ((rd_T67 l1 x37_2).f2))) else (none)) else (none)) else (impl_isPlan.j2 k2 l0 l1 x5_2 x6_2 x37_2 l1 (l1.length : Int) x37_2 false ((rd_T67 l1 x37_2).f0) ((rd_T67 l1 x37_2).f1) ((rd_T67 l1 x37_2).f2))) else (impl_isPlan.j2 k2 l0 l1 x5_2 x6_2 x37_2 l1 (l1.length : Int) x37_2 true ((rd_T67 l1 x37_2).f0) ((rd_T67 l1 x37_2).f1) ((rd_T67 l1 x37_2).f2)))) = some r := by rw [if_pos rfl] at H; first | exact H | (simp only [if_true, eq_self] at H ⊢; exact H)
           clear H; have H := H1; clear H1; replace H := Option.bind_eq_some_iff.mp H; obtain ⟨t246, A390, H⟩ := H; replace H : (if t246 = true then (if x37_2 > 0 then (if 0 ≤ (wrap64 (x37_2 - 1)) then (if (wrap64 (x37_2 - 1)) < (l1.length : Int) then ((impl_byBegin.f k2 ((rd_T67 l1 (wrap64 (x37_2 - 1))).f0) ((rd_T67 l1 (wrap64 (x37_2 - 1))).f1) ((rd_T67 l1 (wrap64 (x37_2 - 1))).f2) ((rd_T67 l1 x37_2).f0) ((rd_T67 l1 x37_2).f1) ((rd_T67 l1 x37_2).f2)).bind fun t248 => (impl_isPlan.j2 k2 l0 l1 x5_2 x6_2 x37_2 l1 (l1.length : Int) x37_2 (decide (t248 ≥ 0)) ((rd_T67 l1 x37_2).f0) ((rd_T67 l1 x37_2).f1) ((rd_T67 l1 x37_2).f2))) else (none)) else (none)) else (impl_isPlan.j2 k2 l0 l1 x5_2 x6_2 x37_2 l1 (l1.length : Int) x37_2 false ((rd_T67 l1 x37_2).f0) ((rd_T67 l1 x37_2).f1) ((rd_T67 l1 x37_2).f2))) else (impl_isPlan.j2 k2 l0 l1 x5_2 x6_2 x37_2 l1 (l1.length : Int) x37_2 true ((rd_T67 l1 x37_2).f0) ((rd_T67 l1 x37_2).f1) ((rd_T67 l1 x37_2).f2))) = some r := H; have A39 := Aside0.mk A390; clear A390; by_cases c40 : t246 = true
           ·subst c40; have H1 : (if x37_2 > 0 then (if 0 ≤ (wrap64 (x37_2 - 1)) then (if (wrap64 (x37_2 - 1)) < (l1.length : Int) then ((impl_byBegin.f k2 ((rd_T67 l1 (wrap64 (x37_2 - 1))).f0) ((rd_T67 l1 (wrap64 (x37_2 - 1))).f1) ((rd_T67 l1 (wrap64 (x37_2 - 1))).f2) ((rd_T67 l1 x37_2).f0) ((rd_T67 l1 x37_2).f1) ((rd_T67 l1 x37_2).f2)).bind fun t248 => (impl_isPlan.j2 k2 l0 l1 x5_2 x6_2 x37_2 l1 (l1.length : Int) x37_2 (decide (t248 ≥ 0)) ((rd_T67 l1 x37_2).f0) ((rd_T67 l1 x37_2).f1) ((rd_T67 l1 x37_2).f2))) else (none)) else (none)) else (impl_isPlan.j2 k2 l0 l1 x5_2 x6_2 x37_2 l1 (l1.length : Int) x37_2 false ((rd_T67 l1 x37_2).f0) ((rd_T67 l1 x37_2).f1) ((rd_T67 l1 x37_2).f2))) = some r := by rw [if_pos rfl] at H; first | exact H | (simp only [if_true, eq_self] at H ⊢; exact H)
            clear H; have H := H1; clear H1; by_cases c41 : x37_2 > 0
            ·rw [if_pos c41] at H
             have c41b0 : decide (0 < x37_2) = true := decide_eq_true c41; clear c41; (first | rw [c41b0] | (simp only [i64_w, i32_w]; rw [c41b0]) | skip); obtain ⟨ji42, hji42⟩ : ∃ j_ : Int, (wrap64 (x37_2 - 1)) = j_ := ⟨_, rfl⟩; replace H : (if 0 ≤ (ji42) then (if (ji42) < (l1.length : Int) then ((impl_byBegin.f k2 ((rd_T67 l1 (ji42)).f0) ((rd_T67 l1 (ji42)).f1) ((rd_T67 l1 (ji42)).f2) ((rd_T67 l1 x37_2).f0) ((rd_T67 l1 x37_2).f1) ((rd_T67 l1 x37_2).f2)).bind fun t248 => (impl_isPlan.j2 k2 l0 l1 x5_2 x6_2 x37_2 l1 (l1.length : Int) x37_2 (decide (t248 ≥ 0)) ((rd_T67 l1 x37_2).f0) ((rd_T67 l1 x37_2).f1) ((rd_T67 l1 x37_2).f2))) else (none)) else (none)) = some r := by first | (rw [hji42] at H; exact H) | (simp only [hji42] at H ⊢; exact H)
             (try rw [hji42] at A37); (try rw [hji42] at A39); have hji42w : (IntKind.i64.wrap (x37_2 - 1)) = ji42 := (i64_w _).trans hji42; by_cases c43 : 0 ≤ (ji42)
             ·rw [if_pos c43] at H
              have c43b0 : decide (0 ≤ (ji42)) = true := decide_eq_true c43; clear c43; by_cases c44 : (ji42) < (l1.length : Int)
              ·rw [if_pos c44] at H
               have c44b0 : decide ((ji42) < (l1.length : Int)) = true := decide_eq_true c44; clear c44; replace H := Option.bind_eq_some_iff.mp H; obtain ⟨t248, A450, H⟩ := H; replace H : (impl_isPlan.j2 k2 l0 l1 x5_2 x6_2 x37_2 l1 (l1.length : Int) x37_2 (decide (t248 ≥ 0)) ((rd_T67 l1 x37_2).f0) ((rd_T67 l1 x37_2).f1) ((rd_T67 l1 x37_2).f2)) = some r := H; have A45 := Aside0.mk A450; clear A450; have H' := Aside0.mk H; clear H; try go_wp2
               have n0_ : Aside0 (Kd.R (Kd.int .i64) 3 (((w33.setCell ⟨gb244, 0, none⟩ (.int .i64 ((rd_T67 l1 x37_2).f0))).setCell ⟨gb244, 1, none⟩ (.int .i64 ((rd_T67 l1 x37_2).f1))).setCell ⟨gb244, 2, none⟩ (.int .i64 ((rd_T67 l1 x37_2).f2))) w.heap.size (fun k_ => some k_ ≠ (u6 : Value).ownBlock) u5 x5_2) := ⟨by (with_reducible repeat (first | apply Kd.R_alloc | apply Kd.R_drewN | apply Kd.R_drew)); exact Kd.R_mono (Kd.R_far (p := ⟨gb244, 2, none⟩) (Kd.R_far (p := ⟨gb244, 1, none⟩) (Kd.R_far (p := ⟨gb244, 0, none⟩) (Kd.R_types HO_5.out BK244.out (by decide)) (fun _ hk => hk.2) (.int .i64 ((rd_T67 l1 x37_2).f0))) (fun _ hk => hk.2) (.int .i64 ((rd_T67 l1 x37_2).f1))) (fun _ hk => hk.2) (.int .i64 ((rd_T67 l1 x37_2).f2))) (fun _ hk => hk.1)⟩; have n1_ : Aside0 (Kd.R (Kd.int .i64) 3 (((w33.setCell ⟨gb244, 0, none⟩ (.int .i64 ((rd_T67 l1 x37_2).f0))).setCell ⟨gb244, 1, none⟩ (.int .i64 ((rd_T67 l1 x37_2).f1))).setCell ⟨gb244, 2, none⟩ (.int .i64 ((rd_T67 l1 x37_2).f2))) w.heap.size (fun k_ => some k_ ≠ (u5 : Value).ownBlock) u6 x6_2) := ⟨by (with_reducible repeat (first | apply Kd.R_alloc | apply Kd.R_drewN | apply Kd.R_drew)); exact Kd.R_mono (Kd.R_far (p := ⟨gb244, 2, none⟩) (Kd.R_far (p := ⟨gb244, 1, none⟩) (Kd.R_far (p := ⟨gb244, 0, none⟩) (Kd.R_types HO_6.out BK244.out (by decide)) (fun _ hk => hk.2) (.int .i64 ((rd_T67 l1 x37_2).f0))) (fun _ hk => hk.2) (.int .i64 ((rd_T67 l1 x37_2).f1))) (fun _ hk => hk.2) (.int .i64 ((rd_T67 l1 x37_2).f2))) (fun _ hk => hk.1)⟩; have n2_ : Aside0 ((((w33.setCell ⟨gb244, 0, none⟩ (.int .i64 ((rd_T67 l1 x37_2).f0))).setCell ⟨gb244, 1, none⟩ (.int .i64 ((rd_T67 l1 x37_2).f1))).setCell ⟨gb244, 2, none⟩ (.int .i64 ((rd_T67 l1 x37_2).f2))).heap[gb244]? = some (.cells #[.int .i64 ((rd_T67 l1 x37_2).f0), .int .i64 ((rd_T67 l1 x37_2).f1), .int .i64 ((rd_T67 l1 x37_2).f2)] 67 (0, 0))) := ⟨by (with_reducible repeat (first | refine blk_drewN ?_ _ | refine blk_drew ?_ | refine blk_alloc ?_ _)); refine blk_put (cs := #[.int .i64 ((rd_T67 l1 x37_2).f0), .int .i64 ((rd_T67 l1 x37_2).f1), .int .i64 0]) ?_ 2 _ rfl; (with_reducible repeat (first | refine blk_drewN ?_ _ | refine blk_drew ?_ | refine blk_alloc ?_ _)); refine blk_put (cs := #[.int .i64 ((rd_T67 l1 x37_2).f0), .int .i64 0, .int .i64 0]) ?_ 1 _ rfl; (with_reducible repeat (first | refine blk_drewN ?_ _ | refine blk_drew ?_ | refine blk_alloc ?_ _)); refine blk_put (cs := #[.int .i64 0, .int .i64 0, .int .i64 0]) ?_ 0 _ rfl; exact vb BK244.out⟩; have n3_ : Aside0 (Below w.heap.size w (((w33.setCell ⟨gb244, 0, none⟩ (.int .i64 ((rd_T67 l1 x37_2).f0))).setCell ⟨gb244, 1, none⟩ (.int .i64 ((rd_T67 l1 x37_2).f1))).setCell ⟨gb244, 2, none⟩ (.int .i64 ((rd_T67 l1 x37_2).f2)))) := ⟨by exact vs1 HB.out GE244.out⟩; (try clear HO_5); (try clear HO_6); (try clear BK244); (try clear HB); generalize (((w33.setCell ⟨gb244, 0, none⟩ (.int .i64 ((rd_T67 l1 x37_2).f0))).setCell ⟨gb244, 1, none⟩ (.int .i64 ((rd_T67 l1 x37_2).f1))).setCell ⟨gb244, 2, none⟩ (.int .i64 ((rd_T67 l1 x37_2).f2))) = w46 at n0_ n1_ n2_ n3_ ⊢
               have HO_5 := n0_; have HO_6 := n1_; have BK244 := n2_; have HB := n3_; clear n0_ n1_ n2_ n3_; have n0_ := ak (Kd.R_drew HO_5.out); have n1_ := ak (Kd.R_drew HO_6.out); have n2_ := ak (blk_drew BK244.out); have n3_ := ak (below_drew1 HB.out); clear HO_5; clear HO_6; clear BK244; clear HB; have HO_5 := n0_; have HO_6 := n1_; have BK244 := n2_; have HB := n3_; clear n0_ n1_ n2_ n3_; have p247 : 0 ≤ ((ji42) : Int) := of_decide_eq_true va; have q247 : (ji42) < (l1.length : Int) := of_decide_eq_true va; obtain ⟨ad247, e247, hx247_0, hx247_1, hx247_2⟩ := at_T67 HR1.out (ji42) p247 q247; have hw247_2 := hx247_2; have hw247_1 := hx247_1; have hw247_0 := hx247_0; obtain rfl : ad243 = ad247 := (by injection e247); (try replace hx247_0 := vl HB.out hx247_0); (try replace hx247_1 := vl HB.out hx247_1); (try replace hx247_2 := vl HB.out hx247_2); replace p247 := eq_true p247; replace q247 := eq_true q247; refine start_ (n := 27) (S := fun w' => w'.cell? ⟨gb244, 0, none⟩ = some (.int .i64 ((rd_T67 l1 x37_2).f0)) ∧ w'.cell? ⟨gb244, 1, none⟩ = some (.int .i64 ((rd_T67 l1 x37_2).f1)) ∧ w'.cell? ⟨gb244, 2, none⟩ = some (.int .i64 ((rd_T67 l1 x37_2).f2)) ∧ w'.cell? (ad243.add (((ji42)).toNat * 3)) = some (.int .i64 ((rd_T67 l1 (ji42)).f0)) ∧ w'.cell? ⟨(ad243.add (((ji42)).toNat * 3)).block, (ad243.add (((ji42)).toNat * 3)).off + 1, none⟩ = some (.int .i64 ((rd_T67 l1 (ji42)).f1)) ∧ w'.cell? ⟨(ad243.add (((ji42)).toNat * 3)).block, (ad243.add (((ji42)).toNat * 3)).off + 2, none⟩ = some (.int .i64 ((rd_T67 l1 (ji42)).f2))) (ds := []) #[false, false, false, false, false, false, false, false, false, false, false, false, false, false, false, false, false, false, false, false, false, false, false, false, false, false, false] (by kernel_rfl) rfl rfl ⟨(blk_cell BK244.out 0).trans rfl, (blk_cell BK244.out 1).trans rfl, (blk_cell BK244.out 2).trans rfl, (vl HB.out hw247_0 :), (vl HB.out hw247_1 :), (vl HB.out hw247_2 :)⟩ (fun hHeld => ?_); refine with_tabW impl_isPlan.tab10 impl_isPlan.bits10 (fun HT_ HW_ => ?_); generalize w46.drew = w47 at HO_5 HO_6 BK244 HB hx247_0 hx247_1 hx247_2 hHeld ⊢
               refine px 0 42 #[true, false, false, false, false, false, false, false, false, false, false, false, false, false, false, false, false, false, false, false, false, false, false, false, false, false, false] rfl HT_.out ?_ (.inl ⟨by rfl, ?_⟩) ?_ ?_ ?_; rotate_left
               ·intro w'; go_simp; with_reducible rfl
               rotate_left
               ·simp only [ap1, ap2, ap3, ap4, i64_w, i32_w]; rfl
               refine px 2 44 #[true, false, true, false, false, false, false, false, false, false, false, false, false, false, false, false, false, false, false, false, false, false, false, false, false, false, false] rfl HT_.out ?_ (.inl ⟨by rfl, ?_⟩) ?_ ?_ ?_; rotate_left
               ·intro w'; go_simp; with_reducible rfl
               rotate_left
               ·simp only [ap1, ap2, ap3, ap4, i64_w, i32_w]; rfl
               refine px 3 45 #[true, false, true, true, false, false, false, false, false, false, false, false, false, false, false, false, false, false, false, false, false, false, false, false, false, false, false] rfl HT_.out ?_ (.inl ⟨by rfl, ?_⟩) ?_ ?_ ?_; rotate_left
               ·intro w'; go_simp; with_reducible rfl
               rotate_left
               ·simp only [ap1, ap2, ap3, ap4, i64_w, i32_w]; rfl
               refine px 4 46 #[true, false, true, true, true, false, false, false, false, false, false, false, false, false, false, false, false, false, false, false, false, false, false, false, false, false, false] rfl HT_.out ?_ (.inl ⟨by rfl, ?_⟩) ?_ ?_ ?_; rotate_left
               ·intro w'; go_simp; with_reducible rfl
               rotate_left
               ·simp only [ap1, ap2, ap3, ap4, i64_w, i32_w]; rfl
               refine tx 1 43 #[true, true, true, true, true, false, false, false, false, false, false, false, false, false, false, false, false, false, false, false, false, false, false, false, false, false, false] rfl HT_.out HW_.out hHeld ?_ (.inl ⟨by rfl, ?_⟩) ?_ ?_ ?_; rotate_left
               ·rintro w' ⟨s0, s1, s2, s3, s4, s5⟩; go_simp; with_reducible rfl
               rotate_left
               ·simp only [ap1, ap2, ap3, ap4, i64_w, i32_w]; rfl
               refine one_ (i := 5) (N := some 47) #[true, true, true, true, true, true, false, false, false, false, false, false, false, false, false, false, false, false, false, false, false, false, false, false, false, false, false] rfl rfl (one_of HT_.out (by kernel_rfl)) (by decide) (fun K hK => ?_); refine goes_ Try.func36 (by kernel_rfl) rfl #[.int .i64 ((rd_T67 l1 x37_2).f0), .int .i64 0, .int .i64 (wrap64 ((l0.length : Int) - 1))] (by rfl) rfl rfl vm ?_; with_reducible refine (impl_in.calls ((rd_T67 l1 x37_2).f0) 0 (wrap64 ((l0.length : Int) - 1)) true _ A37.out).mono ?_
               rintro e w' ⟨rfl, ⟨nd, rfl⟩⟩; refine ⟨_, rfl, ?_⟩; refine hK.out _ _ ⟨(blk_cell BK244.out 0).trans rfl, (blk_cell BK244.out 1).trans rfl, (blk_cell BK244.out 2).trans rfl, (vl HB.out hw247_0 :), (vl HB.out hw247_1 :), (vl HB.out hw247_2 :)⟩ (fun hHeld => ?_); clear hK K; refine norm_ (a' := ?_) ?_ ?_; rotate_left
               ·show Act.put _ (some 47) _ = _; simp only [ap1, ap2, ap3, ap4, i64_w, i32_w]; rfl
               refine px 6 48 #[true, true, true, true, true, true, true, false, false, false, false, false, false, false, false, false, false, false, false, false, false, false, false, false, false, false, false] rfl HT_.out ?_ (.inl ⟨by rfl, ?_⟩) ?_ ?_ ?_; rotate_left
               ·intro w'; go_simp; with_reducible rfl
               rotate_left
               ·simp only [ap1, ap2, ap3, ap4, i64_w, i32_w]; rfl
               refine px 7 49 #[true, true, true, true, true, true, true, true, false, false, false, false, false, false, false, false, false, false, false, false, false, false, false, false, false, false, false] rfl HT_.out ?_ (.inl ⟨by rfl, ?_⟩) ?_ ?_ ?_; rotate_left
               ·intro w'; go_simp; with_reducible rfl
               rotate_left
               ·simp only [ap1, ap2, ap3, ap4, i64_w, i32_w]; rfl
               refine px 8 50 #[true, true, true, true, true, true, true, true, true, false, false, false, false, false, false, false, false, false, false, false, false, false, false, false, false, false, false] rfl HT_.out ?_ (.inl ⟨by rfl, ?_⟩) ?_ ?_ ?_; rotate_left
               ·intro w'; go_simp; with_reducible rfl
               rotate_left
               ·simp only [ap1, ap2, ap3, ap4, i64_w, i32_w]; rfl
               refine tx 9 51 #[true, true, true, true, true, true, true, true, true, true, false, false, false, false, false, false, false, false, false, false, false, false, false, false, false, false, false] rfl HT_.out HW_.out hHeld ?_ (.inl ⟨by rfl, ?_⟩) ?_ ?_ ?_; rotate_left
               ·rintro w' ⟨s0, s1, s2, s3, s4, s5⟩; go_simp; with_reducible rfl
               rotate_left
               ·simp only [ap1, ap2, ap3, ap4, i64_w, i32_w]; rfl
               refine one_ (i := 10) (N := some 52) #[true, true, true, true, true, true, true, true, true, true, true, false, false, false, false, false, false, false, false, false, false, false, false, false, false, false, false] rfl rfl (one_of HT_.out (by kernel_rfl)) (by decide) (fun K hK => ?_); refine goes_ Try.func36 (by kernel_rfl) rfl #[.int .i64 ((rd_T67 l1 x37_2).f2), .int .i64 0, .int .i64 9999] (by rfl) rfl rfl vm ?_; with_reducible refine (impl_in.calls ((rd_T67 l1 x37_2).f2) 0 9999 true _ A39.out).mono ?_
               rintro e w' ⟨rfl, ⟨nd, rfl⟩⟩; refine ⟨_, rfl, ?_⟩; refine hK.out _ _ ⟨(blk_cell BK244.out 0).trans rfl, (blk_cell BK244.out 1).trans rfl, (blk_cell BK244.out 2).trans rfl, (vl HB.out hw247_0 :), (vl HB.out hw247_1 :), (vl HB.out hw247_2 :)⟩ (fun hHeld => ?_); clear hK K; refine norm_ (a' := ?_) ?_ ?_; rotate_left
               ·show Act.put _ (some 52) _ = _; simp only [ap1, ap2, ap3, ap4, i64_w, i32_w]; rfl
               refine px 11 53 #[true, true, true, true, true, true, true, true, true, true, true, true, false, false, false, false, false, false, false, false, false, false, false, false, false, false, false] rfl HT_.out ?_ (.inl ⟨by rfl, ?_⟩) ?_ ?_ ?_; rotate_left
               ·intro w'; go_simp; with_reducible rfl
               rotate_left
               ·simp only [ap1, ap2, ap3, ap4, i64_w, i32_w]; rfl
               refine px 12 54 #[true, true, true, true, true, true, true, true, true, true, true, true, true, false, false, false, false, false, false, false, false, false, false, false, false, false, false] rfl HT_.out ?_ (.inl ⟨by rfl, ?_⟩) ?_ ?_ ?_; rotate_left
               ·intro w'; go_simp; with_reducible rfl
               rotate_left
               ·simp only [ap1, ap2, ap3, ap4, i64_w, i32_w]; rfl
               refine px 13 55 #[true, true, true, true, true, true, true, true, true, true, true, true, true, true, false, false, false, false, false, false, false, false, false, false, false, false, false] rfl HT_.out ?_ (.inl ⟨by rfl, ?_⟩) ?_ ?_ ?_; rotate_left
               ·intro w'; go_simp; with_reducible rfl
               rotate_left
               ·simp only [ap1, ap2, ap3, ap4, i64_w, i32_w]; rfl
               refine px 14 56 #[true, true, true, true, true, true, true, true, true, true, true, true, true, true, true, false, false, false, false, false, false, false, false, false, false, false, false] rfl HT_.out ?_ (.inl ⟨by rfl, ?_⟩) ?_ ?_ ?_; rotate_left
               ·intro w'; go_simp; with_reducible rfl
               rotate_left
               ·simp only [ap1, ap2, ap3, ap4, i64_w, i32_w]; rfl
               refine px 15 57 #[true, true, true, true, true, true, true, true, true, true, true, true, true, true, true, true, false, false, false, false, false, false, false, false, false, false, false] rfl HT_.out ?_ (.inl ⟨by rfl, ?_⟩) ?_ ?_ ?_; rotate_left
               ·intro w'; go_simp; with_reducible rfl
               rotate_left
               ·simp only [ap1, ap2, ap3, ap4, i64_w, i32_w]; rfl
               refine px 16 58 #[true, true, true, true, true, true, true, true, true, true, true, true, true, true, true, true, true, false, false, false, false, false, false, false, false, false, false] rfl HT_.out ?_ (.inl ⟨by rfl, ?_⟩) ?_ ?_ ?_; rotate_left
               ·intro w'; go_simp; with_reducible rfl
               rotate_left
               ·simp only [ap1, ap2, ap3, ap4, i64_w, i32_w]; rfl
               refine px 17 59 #[true, true, true, true, true, true, true, true, true, true, true, true, true, true, true, true, true, true, false, false, false, false, false, false, false, false, false] rfl HT_.out ?_ (.inl ⟨by rfl, ?_⟩) ?_ ?_ ?_; rotate_left
               ·intro w'; go_simp; with_reducible rfl
               rotate_left
               ·simp only [ap1, ap2, ap3, ap4, i64_w, i32_w]; rfl
               refine px 18 60 #[true, true, true, true, true, true, true, true, true, true, true, true, true, true, true, true, true, true, true, false, false, false, false, false, false, false, false] rfl HT_.out ?_ (.inl ⟨by rfl, ?_⟩) ?_ ?_ ?_; rotate_left
               ·intro w'; go_simp; with_reducible rfl
               rotate_left
               ·simp only [ap1, ap2, ap3, ap4, i64_w, i32_w]; rfl
               refine px 19 61 #[true, true, true, true, true, true, true, true, true, true, true, true, true, true, true, true, true, true, true, true, false, false, false, false, false, false, false] rfl HT_.out ?_ (.inl ⟨by rfl, ?_⟩) ?_ ?_ ?_; rotate_left
               ·intro w'; go_simp; with_reducible rfl
               rotate_left
               ·simp only [ap1, ap2, ap3, ap4, i64_w, i32_w]; rfl
               refine px 20 62 #[true, true, true, true, true, true, true, true, true, true, true, true, true, true, true, true, true, true, true, true, true, false, false, false, false, false, false] rfl HT_.out ?_ (.inl ⟨by rfl, ?_⟩) ?_ ?_ ?_; rotate_left
               ·intro w'; go_simp; with_reducible rfl
               rotate_left
               ·simp only [ap1, ap2, ap3, ap4, i64_w, i32_w]; rfl
               refine tx 21 63 #[true, true, true, true, true, true, true, true, true, true, true, true, true, true, true, true, true, true, true, true, true, true, false, false, false, false, false] rfl HT_.out HW_.out hHeld ?_ (.inl ⟨by rfl, ?_⟩) ?_ ?_ ?_; rotate_left
               ·rintro w' ⟨s0, s1, s2, s3, s4, s5⟩; go_simp; with_reducible rfl
               rotate_left
               ·simp only [ap1, ap2, ap3, ap4, i64_w, i32_w]; rfl
               refine tx 22 64 #[true, true, true, true, true, true, true, true, true, true, true, true, true, true, true, true, true, true, true, true, true, true, true, false, false, false, false] rfl HT_.out HW_.out hHeld ?_ (.inl ⟨by rfl, ?_⟩) ?_ ?_ ?_; rotate_left
               ·rintro w' ⟨s0, s1, s2, s3, s4, s5⟩; go_simp; with_reducible rfl
               rotate_left
               ·simp only [ap1, ap2, ap3, ap4, i64_w, i32_w]; rfl
               refine one_ (i := 23) (N := some 65) #[true, true, true, true, true, true, true, true, true, true, true, true, true, true, true, true, true, true, true, true, true, true, true, true, false, false, false] rfl rfl (one_of HT_.out (by kernel_rfl)) (by decide) (fun K hK => ?_); refine goes_ Try.func67 (by kernel_rfl) rfl #[.agg #[.int .i64 ((rd_T67 l1 (ji42)).f0), .int .i64 ((rd_T67 l1 (ji42)).f1), .int .i64 ((rd_T67 l1 (ji42)).f2)], .agg #[.int .i64 ((rd_T67 l1 x37_2).f0), .int .i64 ((rd_T67 l1 x37_2).f1), .int .i64 ((rd_T67 l1 x37_2).f2)]] (by rfl) rfl rfl (by (try simp only [List.map_toArray, List.map_cons, List.map_nil]); first | done | (simp only [hji42]; rfl) | rfl | (simp only [List.length_drop, List.length_take]; rfl)) ?_; with_reducible refine (impl_byBegin.calls k2 ((rd_T67 l1 (ji42)).f0) ((rd_T67 l1 (ji42)).f1) ((rd_T67 l1 (ji42)).f2) ((rd_T67 l1 x37_2).f0) ((rd_T67 l1 x37_2).f1) ((rd_T67 l1 x37_2).f2) t248 _ A45.out).mono ?_
               rintro e w48 ⟨rfl, hb⟩; refine ⟨_, rfl, ?_⟩; have n0_ := ak (Kd.R_below (vr HO_5.out) hb); have n1_ := ak (Kd.R_below (vr HO_6.out) hb); have n2_ := ak (blk_below (g := gb244) (o := .cells #[.int .i64 ((rd_T67 l1 x37_2).f0), .int .i64 ((rd_T67 l1 x37_2).f1), .int .i64 ((rd_T67 l1 x37_2).f2)] 67 (0, 0)) (vb BK244.out) hb); have n3_ := ak (below_step (vs1 HB.out GE244.out) hb); clear HO_5; clear HO_6; clear BK244; clear HB; have HO_5 := n0_; have HO_6 := n1_; have BK244 := n2_; have HB := n3_; clear n0_ n1_ n2_ n3_; (try clear hb); (try clear hb2); (try clear hk); (try clear hi); refine hK.out _ _ ⟨(blk_cell BK244.out 0).trans rfl, (blk_cell BK244.out 1).trans rfl, (blk_cell BK244.out 2).trans rfl, (vl HB.out hw247_0 :), (vl HB.out hw247_1 :), (vl HB.out hw247_2 :)⟩ (fun hHeld => ?_); clear hK K; refine norm_ (a' := ?_) ?_ ?_; rotate_left
               ·show Act.put _ (some 65) _ = _; simp only [ap1, ap2, ap3, ap4, i64_w, i32_w]; rfl
               refine px 24 66 #[true, true, true, true, true, true, true, true, true, true, true, true, true, true, true, true, true, true, true, true, true, true, true, true, true, false, false] rfl HT_.out ?_ (.inl ⟨by rfl, ?_⟩) ?_ ?_ ?_; rotate_left
               ·intro w'; go_simp; with_reducible rfl
               rotate_left
               ·simp only [ap1, ap2, ap3, ap4, i64_w, i32_w]; rfl
               refine px 25 67 #[true, true, true, true, true, true, true, true, true, true, true, true, true, true, true, true, true, true, true, true, true, true, true, true, true, true, false] rfl HT_.out ?_ (.inl ⟨by rfl, ?_⟩) ?_ ?_ ?_; rotate_left
               ·intro w'; go_simp; with_reducible rfl
               rotate_left
               ·simp only [ap1, ap2, ap3, ap4, i64_w, i32_w]; rfl
               refine px 26 68 #[true, true, true, true, true, true, true, true, true, true, true, true, true, true, true, true, true, true, true, true, true, true, true, true, true, true, true] rfl HT_.out ?_ (.inl ⟨by rfl, ?_⟩) ?_ ?_ ?_; rotate_left
               ·intro w'; go_simp; with_reducible rfl
               rotate_left
               ·simp only [ap1, ap2, ap3, ap4, i64_w, i32_w]; rfl
               refine done_ (done_of HT_.out (by kernel_rfl)) ?_; try go_wp2
               go_meet
               case rel => exact ⟨_, (decide (t248 ≥ 0)), (by first | rfl | (simp; done) | (simp [*]; done)), H', ⟨by have := HK1.out; have := HK2.out; first | omega | exact Nat.le_refl _⟩, ⟨by exact vr HO_5.out⟩, ⟨by exact vr HO_6.out⟩, ⟨by exact vb BK244.out⟩, ⟨by exact vs1 HB.out GE244.out⟩⟩
              ·rw [if_neg c44] at H
               exact absurd H (by simp)
             ·rw [if_neg c43] at H
              exact absurd H (by simp)
            ·rw [if_neg c41] at H
             have c41b0 : decide (0 < x37_2) = false := decide_eq_false c41; clear c41; (first | rw [c41b0] | (simp only [i64_w, i32_w]; rw [c41b0]) | skip); have H' := Aside0.mk H; clear H; try go_wp2
             have n0_ : Aside0 (Kd.R (Kd.int .i64) 3 (((w33.setCell ⟨gb244, 0, none⟩ (.int .i64 ((rd_T67 l1 x37_2).f0))).setCell ⟨gb244, 1, none⟩ (.int .i64 ((rd_T67 l1 x37_2).f1))).setCell ⟨gb244, 2, none⟩ (.int .i64 ((rd_T67 l1 x37_2).f2))) w.heap.size (fun k_ => some k_ ≠ (u6 : Value).ownBlock) u5 x5_2) := ⟨by (with_reducible repeat (first | apply Kd.R_alloc | apply Kd.R_drewN | apply Kd.R_drew)); exact Kd.R_mono (Kd.R_far (p := ⟨gb244, 2, none⟩) (Kd.R_far (p := ⟨gb244, 1, none⟩) (Kd.R_far (p := ⟨gb244, 0, none⟩) (Kd.R_types HO_5.out BK244.out (by decide)) (fun _ hk => hk.2) (.int .i64 ((rd_T67 l1 x37_2).f0))) (fun _ hk => hk.2) (.int .i64 ((rd_T67 l1 x37_2).f1))) (fun _ hk => hk.2) (.int .i64 ((rd_T67 l1 x37_2).f2))) (fun _ hk => hk.1)⟩; have n1_ : Aside0 (Kd.R (Kd.int .i64) 3 (((w33.setCell ⟨gb244, 0, none⟩ (.int .i64 ((rd_T67 l1 x37_2).f0))).setCell ⟨gb244, 1, none⟩ (.int .i64 ((rd_T67 l1 x37_2).f1))).setCell ⟨gb244, 2, none⟩ (.int .i64 ((rd_T67 l1 x37_2).f2))) w.heap.size (fun k_ => some k_ ≠ (u5 : Value).ownBlock) u6 x6_2) := ⟨by (with_reducible repeat (first | apply Kd.R_alloc | apply Kd.R_drewN | apply Kd.R_drew)); exact Kd.R_mono (Kd.R_far (p := ⟨gb244, 2, none⟩) (Kd.R_far (p := ⟨gb244, 1, none⟩) (Kd.R_far (p := ⟨gb244, 0, none⟩) (Kd.R_types HO_6.out BK244.out (by decide)) (fun _ hk => hk.2) (.int .i64 ((rd_T67 l1 x37_2).f0))) (fun _ hk => hk.2) (.int .i64 ((rd_T67 l1 x37_2).f1))) (fun _ hk => hk.2) (.int .i64 ((rd_T67 l1 x37_2).f2))) (fun _ hk => hk.1)⟩; have n2_ : Aside0 ((((w33.setCell ⟨gb244, 0, none⟩ (.int .i64 ((rd_T67 l1 x37_2).f0))).setCell ⟨gb244, 1, none⟩ (.int .i64 ((rd_T67 l1 x37_2).f1))).setCell ⟨gb244, 2, none⟩ (.int .i64 ((rd_T67 l1 x37_2).f2))).heap[gb244]? = some (.cells #[.int .i64 ((rd_T67 l1 x37_2).f0), .int .i64 ((rd_T67 l1 x37_2).f1), .int .i64 ((rd_T67 l1 x37_2).f2)] 67 (0, 0))) := ⟨by (with_reducible repeat (first | refine blk_drewN ?_ _ | refine blk_drew ?_ | refine blk_alloc ?_ _)); refine blk_put (cs := #[.int .i64 ((rd_T67 l1 x37_2).f0), .int .i64 ((rd_T67 l1 x37_2).f1), .int .i64 0]) ?_ 2 _ rfl; (with_reducible repeat (first | refine blk_drewN ?_ _ | refine blk_drew ?_ | refine blk_alloc ?_ _)); refine blk_put (cs := #[.int .i64 ((rd_T67 l1 x37_2).f0), .int .i64 0, .int .i64 0]) ?_ 1 _ rfl; (with_reducible repeat (first | refine blk_drewN ?_ _ | refine blk_drew ?_ | refine blk_alloc ?_ _)); refine blk_put (cs := #[.int .i64 0, .int .i64 0, .int .i64 0]) ?_ 0 _ rfl; exact vb BK244.out⟩; have n3_ : Aside0 (Below w.heap.size w (((w33.setCell ⟨gb244, 0, none⟩ (.int .i64 ((rd_T67 l1 x37_2).f0))).setCell ⟨gb244, 1, none⟩ (.int .i64 ((rd_T67 l1 x37_2).f1))).setCell ⟨gb244, 2, none⟩ (.int .i64 ((rd_T67 l1 x37_2).f2)))) := ⟨by exact vs1 HB.out GE244.out⟩; (try clear HO_5); (try clear HO_6); (try clear BK244); (try clear HB); generalize (((w33.setCell ⟨gb244, 0, none⟩ (.int .i64 ((rd_T67 l1 x37_2).f0))).setCell ⟨gb244, 1, none⟩ (.int .i64 ((rd_T67 l1 x37_2).f1))).setCell ⟨gb244, 2, none⟩ (.int .i64 ((rd_T67 l1 x37_2).f2))) = w49 at n0_ n1_ n2_ n3_ ⊢
             have HO_5 := n0_; have HO_6 := n1_; have BK244 := n2_; have HB := n3_; clear n0_ n1_ n2_ n3_; have n0_ := ak (Kd.R_drew HO_5.out); have n1_ := ak (Kd.R_drew HO_6.out); have n2_ := ak (blk_drew BK244.out); have n3_ := ak (below_drew1 HB.out); clear HO_5; clear HO_6; clear BK244; clear HB; have HO_5 := n0_; have HO_6 := n1_; have BK244 := n2_; have HB := n3_; clear n0_ n1_ n2_ n3_; refine start_ (n := 27) (S := fun w' => w'.cell? ⟨gb244, 0, none⟩ = some (.int .i64 ((rd_T67 l1 x37_2).f0)) ∧ w'.cell? ⟨gb244, 1, none⟩ = some (.int .i64 ((rd_T67 l1 x37_2).f1)) ∧ w'.cell? ⟨gb244, 2, none⟩ = some (.int .i64 ((rd_T67 l1 x37_2).f2))) (ds := []) #[false, false, false, false, false, false, false, false, false, false, false, false, false, false, false, false, false, false, false, false, false, false, false, false, false, false, false] (by kernel_rfl) rfl rfl ⟨(blk_cell BK244.out 0).trans rfl, (blk_cell BK244.out 1).trans rfl, (blk_cell BK244.out 2).trans rfl⟩ (fun hHeld => ?_); refine with_tabW impl_isPlan.tab10 impl_isPlan.bits10 (fun HT_ HW_ => ?_); generalize w49.drew = w50 at HO_5 HO_6 BK244 HB hHeld ⊢
             refine px 0 42 #[true, false, false, false, false, false, false, false, false, false, false, false, false, false, false, false, false, false, false, false, false, false, false, false, false, false, false] rfl HT_.out ?_ (.inl ⟨by rfl, ?_⟩) ?_ ?_ ?_; rotate_left
             ·intro w'; go_simp; with_reducible rfl
             rotate_left
             ·simp only [ap1, ap2, ap3, ap4, i64_w, i32_w]; rfl
             refine px 2 44 #[true, false, true, false, false, false, false, false, false, false, false, false, false, false, false, false, false, false, false, false, false, false, false, false, false, false, false] rfl HT_.out ?_ (.inl ⟨by rfl, ?_⟩) ?_ ?_ ?_; rotate_left
             ·intro w'; go_simp; with_reducible rfl
             rotate_left
             ·simp only [ap1, ap2, ap3, ap4, i64_w, i32_w]; rfl
             refine px 3 45 #[true, false, true, true, false, false, false, false, false, false, false, false, false, false, false, false, false, false, false, false, false, false, false, false, false, false, false] rfl HT_.out ?_ (.inl ⟨by rfl, ?_⟩) ?_ ?_ ?_; rotate_left
             ·intro w'; go_simp; with_reducible rfl
             rotate_left
             ·simp only [ap1, ap2, ap3, ap4, i64_w, i32_w]; rfl
             refine px 4 46 #[true, false, true, true, true, false, false, false, false, false, false, false, false, false, false, false, false, false, false, false, false, false, false, false, false, false, false] rfl HT_.out ?_ (.inl ⟨by rfl, ?_⟩) ?_ ?_ ?_; rotate_left
             ·intro w'; go_simp; with_reducible rfl
             rotate_left
             ·simp only [ap1, ap2, ap3, ap4, i64_w, i32_w]; rfl
             refine tx 1 43 #[true, true, true, true, true, false, false, false, false, false, false, false, false, false, false, false, false, false, false, false, false, false, false, false, false, false, false] rfl HT_.out HW_.out hHeld ?_ (.inl ⟨by rfl, ?_⟩) ?_ ?_ ?_; rotate_left
             ·rintro w' ⟨s0, s1, s2⟩; go_simp; with_reducible rfl
             rotate_left
             ·simp only [ap1, ap2, ap3, ap4, i64_w, i32_w]; rfl
             refine one_ (i := 5) (N := some 47) #[true, true, true, true, true, true, false, false, false, false, false, false, false, false, false, false, false, false, false, false, false, false, false, false, false, false, false] rfl rfl (one_of HT_.out (by kernel_rfl)) (by decide) (fun K hK => ?_); refine goes_ Try.func36 (by kernel_rfl) rfl #[.int .i64 ((rd_T67 l1 x37_2).f0), .int .i64 0, .int .i64 (wrap64 ((l0.length : Int) - 1))] (by rfl) rfl rfl vm ?_; with_reducible refine (impl_in.calls ((rd_T67 l1 x37_2).f0) 0 (wrap64 ((l0.length : Int) - 1)) true _ A37.out).mono ?_
             rintro e w' ⟨rfl, ⟨nd, rfl⟩⟩; refine ⟨_, rfl, ?_⟩; refine hK.out _ _ ⟨(blk_cell BK244.out 0).trans rfl, (blk_cell BK244.out 1).trans rfl, (blk_cell BK244.out 2).trans rfl⟩ (fun hHeld => ?_); clear hK K; refine norm_ (a' := ?_) ?_ ?_; rotate_left
             ·show Act.put _ (some 47) _ = _; simp only [ap1, ap2, ap3, ap4, i64_w, i32_w]; rfl
             refine px 6 48 #[true, true, true, true, true, true, true, false, false, false, false, false, false, false, false, false, false, false, false, false, false, false, false, false, false, false, false] rfl HT_.out ?_ (.inl ⟨by rfl, ?_⟩) ?_ ?_ ?_; rotate_left
             ·intro w'; go_simp; with_reducible rfl
             rotate_left
             ·simp only [ap1, ap2, ap3, ap4, i64_w, i32_w]; rfl
             refine px 7 49 #[true, true, true, true, true, true, true, true, false, false, false, false, false, false, false, false, false, false, false, false, false, false, false, false, false, false, false] rfl HT_.out ?_ (.inl ⟨by rfl, ?_⟩) ?_ ?_ ?_; rotate_left
             ·intro w'; go_simp; with_reducible rfl
             rotate_left
             ·simp only [ap1, ap2, ap3, ap4, i64_w, i32_w]; rfl
             refine px 8 50 #[true, true, true, true, true, true, true, true, true, false, false, false, false, false, false, false, false, false, false, false, false, false, false, false, false, false, false] rfl HT_.out ?_ (.inl ⟨by rfl, ?_⟩) ?_ ?_ ?_; rotate_left
             ·intro w'; go_simp; with_reducible rfl
             rotate_left
             ·simp only [ap1, ap2, ap3, ap4, i64_w, i32_w]; rfl
             refine tx 9 51 #[true, true, true, true, true, true, true, true, true, true, false, false, false, false, false, false, false, false, false, false, false, false, false, false, false, false, false] rfl HT_.out HW_.out hHeld ?_ (.inl ⟨by rfl, ?_⟩) ?_ ?_ ?_; rotate_left
             ·rintro w' ⟨s0, s1, s2⟩; go_simp; with_reducible rfl
             rotate_left
             ·simp only [ap1, ap2, ap3, ap4, i64_w, i32_w]; rfl
             refine one_ (i := 10) (N := some 52) #[true, true, true, true, true, true, true, true, true, true, true, false, false, false, false, false, false, false, false, false, false, false, false, false, false, false, false] rfl rfl (one_of HT_.out (by kernel_rfl)) (by decide) (fun K hK => ?_); refine goes_ Try.func36 (by kernel_rfl) rfl #[.int .i64 ((rd_T67 l1 x37_2).f2), .int .i64 0, .int .i64 9999] (by rfl) rfl rfl vm ?_; with_reducible refine (impl_in.calls ((rd_T67 l1 x37_2).f2) 0 9999 true _ A39.out).mono ?_
             rintro e w' ⟨rfl, ⟨nd, rfl⟩⟩; refine ⟨_, rfl, ?_⟩; refine hK.out _ _ ⟨(blk_cell BK244.out 0).trans rfl, (blk_cell BK244.out 1).trans rfl, (blk_cell BK244.out 2).trans rfl⟩ (fun hHeld => ?_); clear hK K; refine norm_ (a' := ?_) ?_ ?_; rotate_left
             ·show Act.put _ (some 52) _ = _; simp only [ap1, ap2, ap3, ap4, i64_w, i32_w]; rfl
             refine px 11 53 #[true, true, true, true, true, true, true, true, true, true, true, true, false, false, false, false, false, false, false, false, false, false, false, false, false, false, false] rfl HT_.out ?_ (.inl ⟨by rfl, ?_⟩) ?_ ?_ ?_; rotate_left
             ·intro w'; go_simp; with_reducible rfl
             rotate_left
             ·simp only [ap1, ap2, ap3, ap4, i64_w, i32_w]; rfl
             refine px 12 54 #[true, true, true, true, true, true, true, true, true, true, true, true, true, false, false, false, false, false, false, false, false, false, false, false, false, false, false] rfl HT_.out ?_ (.inl ⟨by rfl, ?_⟩) ?_ ?_ ?_; rotate_left
             ·intro w'; go_simp; with_reducible rfl
             rotate_left
             ·simp only [ap1, ap2, ap3, ap4, i64_w, i32_w]; rfl
             refine px 13 55 #[true, true, true, true, true, true, true, true, true, true, true, true, true, true, false, false, false, false, false, false, false, false, false, false, false, false, false] rfl HT_.out ?_ (.inl ⟨by rfl, ?_⟩) ?_ ?_ ?_; rotate_left
             ·intro w'; go_simp; with_reducible rfl
             rotate_left
             ·simp only [ap1, ap2, ap3, ap4, i64_w, i32_w]; rfl
             refine px 14 56 #[true, true, true, true, true, true, true, true, true, true, true, true, true, true, true, false, false, false, false, false, false, false, false, false, false, false, false] rfl HT_.out ?_ (.inl ⟨by rfl, ?_⟩) ?_ ?_ ?_; rotate_left
             ·intro w'; go_simp; with_reducible rfl
             rotate_left
             ·simp only [ap1, ap2, ap3, ap4, i64_w, i32_w]; rfl
             refine px 15 57 #[true, true, true, true, true, true, true, true, true, true, true, true, true, true, true, true, false, false, false, false, false, false, false, false, false, false, false] rfl HT_.out ?_ (.inl ⟨by rfl, ?_⟩) ?_ ?_ ?_; rotate_left
             ·intro w'; go_simp; with_reducible rfl
             rotate_left
             ·simp only [ap1, ap2, ap3, ap4, i64_w, i32_w]; rfl
             refine px 16 58 #[true, true, true, true, true, true, true, true, true, true, true, true, true, true, true, true, true, false, false, false, false, false, false, false, false, false, false] rfl HT_.out ?_ (.inl ⟨by rfl, ?_⟩) ?_ ?_ ?_; rotate_left
             ·intro w'; go_simp; with_reducible rfl
             rotate_left
             ·simp only [ap1, ap2, ap3, ap4, i64_w, i32_w]; rfl
             refine pure_ (i := 17) (N := some 59) (v := undef) (a' := ?_) #[true, true, true, true, true, true, true, true, true, true, true, true, true, true, true, true, true, true, false, false, false, false, false, false, false, false, false] rfl rfl (ao HT_.out) (fun _ _ _ h => h) (Or.inr ⟨by rfl, rfl⟩) ?_ ?_; rotate_left
             ·simp only [ap1, ap2, ap3, ap4, i64_w, i32_w]; rfl
             refine pure_ (i := 18) (N := some 60) (v := undef) (a' := ?_) #[true, true, true, true, true, true, true, true, true, true, true, true, true, true, true, true, true, true, true, false, false, false, false, false, false, false, false] rfl rfl (ao HT_.out) (fun _ _ _ h => h) (Or.inr ⟨by rfl, rfl⟩) ?_ ?_; rotate_left
             ·simp only [ap1, ap2, ap3, ap4, i64_w, i32_w]; rfl
             refine pure_ (i := 19) (N := some 61) (v := undef) (a' := ?_) #[true, true, true, true, true, true, true, true, true, true, true, true, true, true, true, true, true, true, true, true, false, false, false, false, false, false, false] rfl rfl (ao HT_.out) (fun _ _ _ h => h) (Or.inr ⟨by rfl, rfl⟩) ?_ ?_; rotate_left
             ·simp only [ap1, ap2, ap3, ap4, i64_w, i32_w]; rfl
             refine pure_ (i := 20) (N := some 62) (v := undef) (a' := ?_) #[true, true, true, true, true, true, true, true, true, true, true, true, true, true, true, true, true, true, true, true, true, false, false, false, false, false, false] rfl rfl (ao HT_.out) (fun _ _ _ h => h) (Or.inr ⟨by rfl, rfl⟩) ?_ ?_; rotate_left
             ·simp only [ap1, ap2, ap3, ap4, i64_w, i32_w]; rfl
             refine pure_ (i := 21) (N := some 63) (v := undef) (a' := ?_) #[true, true, true, true, true, true, true, true, true, true, true, true, true, true, true, true, true, true, true, true, true, true, false, false, false, false, false] rfl rfl (ao HT_.out) (fun _ _ _ h => h) (Or.inr ⟨by rfl, rfl⟩) ?_ ?_; rotate_left
             ·simp only [ap1, ap2, ap3, ap4, i64_w, i32_w]; rfl
             refine pure_ (i := 22) (N := some 64) (v := undef) (a' := ?_) #[true, true, true, true, true, true, true, true, true, true, true, true, true, true, true, true, true, true, true, true, true, true, true, false, false, false, false] rfl rfl (ao HT_.out) (fun _ _ _ h => h) (Or.inr ⟨by rfl, rfl⟩) ?_ ?_; rotate_left
             ·simp only [ap1, ap2, ap3, ap4, i64_w, i32_w]; rfl
             refine pure_ (i := 23) (N := some 65) (v := undef) (a' := ?_) #[true, true, true, true, true, true, true, true, true, true, true, true, true, true, true, true, true, true, true, true, true, true, true, true, false, false, false] rfl rfl (ao HT_.out) (fun _ _ _ h => h) (Or.inr ⟨by rfl, rfl⟩) ?_ ?_; rotate_left
             ·simp only [ap1, ap2, ap3, ap4, i64_w, i32_w]; rfl
             refine pure_ (i := 24) (N := some 66) (v := undef) (a' := ?_) #[true, true, true, true, true, true, true, true, true, true, true, true, true, true, true, true, true, true, true, true, true, true, true, true, true, false, false] rfl rfl (ao HT_.out) (fun _ _ _ h => h) (Or.inr ⟨by rfl, rfl⟩) ?_ ?_; rotate_left
             ·simp only [ap1, ap2, ap3, ap4, i64_w, i32_w]; rfl
             refine px 25 67 #[true, true, true, true, true, true, true, true, true, true, true, true, true, true, true, true, true, true, true, true, true, true, true, true, true, true, false] rfl HT_.out ?_ (.inl ⟨by rfl, ?_⟩) ?_ ?_ ?_; rotate_left
             ·intro w'; go_simp; with_reducible rfl
             rotate_left
             ·simp only [ap1, ap2, ap3, ap4, i64_w, i32_w]; rfl
             refine px 26 68 #[true, true, true, true, true, true, true, true, true, true, true, true, true, true, true, true, true, true, true, true, true, true, true, true, true, true, true] rfl HT_.out ?_ (.inl ⟨by rfl, ?_⟩) ?_ ?_ ?_; rotate_left
             ·intro w'; go_simp; with_reducible rfl
             rotate_left
             ·simp only [ap1, ap2, ap3, ap4, i64_w, i32_w]; rfl
             refine done_ (done_of HT_.out (by kernel_rfl)) ?_; try go_wp2
             go_meet
             case rel => exact ⟨_, (false), (by first | rfl | (simp; done) | (simp [*]; done)), H', ⟨by have := HK1.out; have := HK2.out; first | omega | exact Nat.le_refl _⟩, ⟨by exact vr HO_5.out⟩, ⟨by exact vr HO_6.out⟩, ⟨by exact vb BK244.out⟩, ⟨by exact vs1 HB.out GE244.out⟩⟩
           ·replace c40 := Bool.eq_false_iff.mpr c40; subst c40; have H1 : (impl_isPlan.j2 k2 l0 l1 x5_2 x6_2 x37_2 l1 (l1.length : Int) x37_2 true ((rd_T67 l1 x37_2).f0) ((rd_T67 l1 x37_2).f1) ((rd_T67 l1 x37_2).f2)) = some r := by rw [if_neg (show ¬ (false = true) by decide)] at H; first | exact H | (simp only [if_true, eq_self] at H ⊢; exact H)
            clear H; have H := H1; clear H1; have H' := Aside0.mk H; clear H; try go_wp2
            have n0_ : Aside0 (Kd.R (Kd.int .i64) 3 (((w33.setCell ⟨gb244, 0, none⟩ (.int .i64 ((rd_T67 l1 x37_2).f0))).setCell ⟨gb244, 1, none⟩ (.int .i64 ((rd_T67 l1 x37_2).f1))).setCell ⟨gb244, 2, none⟩ (.int .i64 ((rd_T67 l1 x37_2).f2))) w.heap.size (fun k_ => some k_ ≠ (u6 : Value).ownBlock) u5 x5_2) := ⟨by (with_reducible repeat (first | apply Kd.R_alloc | apply Kd.R_drewN | apply Kd.R_drew)); exact Kd.R_mono (Kd.R_far (p := ⟨gb244, 2, none⟩) (Kd.R_far (p := ⟨gb244, 1, none⟩) (Kd.R_far (p := ⟨gb244, 0, none⟩) (Kd.R_types HO_5.out BK244.out (by decide)) (fun _ hk => hk.2) (.int .i64 ((rd_T67 l1 x37_2).f0))) (fun _ hk => hk.2) (.int .i64 ((rd_T67 l1 x37_2).f1))) (fun _ hk => hk.2) (.int .i64 ((rd_T67 l1 x37_2).f2))) (fun _ hk => hk.1)⟩; have n1_ : Aside0 (Kd.R (Kd.int .i64) 3 (((w33.setCell ⟨gb244, 0, none⟩ (.int .i64 ((rd_T67 l1 x37_2).f0))).setCell ⟨gb244, 1, none⟩ (.int .i64 ((rd_T67 l1 x37_2).f1))).setCell ⟨gb244, 2, none⟩ (.int .i64 ((rd_T67 l1 x37_2).f2))) w.heap.size (fun k_ => some k_ ≠ (u5 : Value).ownBlock) u6 x6_2) := ⟨by (with_reducible repeat (first | apply Kd.R_alloc | apply Kd.R_drewN | apply Kd.R_drew)); exact Kd.R_mono (Kd.R_far (p := ⟨gb244, 2, none⟩) (Kd.R_far (p := ⟨gb244, 1, none⟩) (Kd.R_far (p := ⟨gb244, 0, none⟩) (Kd.R_types HO_6.out BK244.out (by decide)) (fun _ hk => hk.2) (.int .i64 ((rd_T67 l1 x37_2).f0))) (fun _ hk => hk.2) (.int .i64 ((rd_T67 l1 x37_2).f1))) (fun _ hk => hk.2) (.int .i64 ((rd_T67 l1 x37_2).f2))) (fun _ hk => hk.1)⟩; have n2_ : Aside0 ((((w33.setCell ⟨gb244, 0, none⟩ (.int .i64 ((rd_T67 l1 x37_2).f0))).setCell ⟨gb244, 1, none⟩ (.int .i64 ((rd_T67 l1 x37_2).f1))).setCell ⟨gb244, 2, none⟩ (.int .i64 ((rd_T67 l1 x37_2).f2))).heap[gb244]? = some (.cells #[.int .i64 ((rd_T67 l1 x37_2).f0), .int .i64 ((rd_T67 l1 x37_2).f1), .int .i64 ((rd_T67 l1 x37_2).f2)] 67 (0, 0))) := ⟨by (with_reducible repeat (first | refine blk_drewN ?_ _ | refine blk_drew ?_ | refine blk_alloc ?_ _)); refine blk_put (cs := #[.int .i64 ((rd_T67 l1 x37_2).f0), .int .i64 ((rd_T67 l1 x37_2).f1), .int .i64 0]) ?_ 2 _ rfl; (with_reducible repeat (first | refine blk_drewN ?_ _ | refine blk_drew ?_ | refine blk_alloc ?_ _)); refine blk_put (cs := #[.int .i64 ((rd_T67 l1 x37_2).f0), .int .i64 0, .int .i64 0]) ?_ 1 _ rfl; (with_reducible repeat (first | refine blk_drewN ?_ _ | refine blk_drew ?_ | refine blk_alloc ?_ _)); refine blk_put (cs := #[.int .i64 0, .int .i64 0, .int .i64 0]) ?_ 0 _ rfl; exact vb BK244.out⟩; have n3_ : Aside0 (Below w.heap.size w (((w33.setCell ⟨gb244, 0, none⟩ (.int .i64 ((rd_T67 l1 x37_2).f0))).setCell ⟨gb244, 1, none⟩ (.int .i64 ((rd_T67 l1 x37_2).f1))).setCell ⟨gb244, 2, none⟩ (.int .i64 ((rd_T67 l1 x37_2).f2)))) := ⟨by exact vs1 HB.out GE244.out⟩; (try clear HO_5); (try clear HO_6); (try clear BK244); (try clear HB); generalize (((w33.setCell ⟨gb244, 0, none⟩ (.int .i64 ((rd_T67 l1 x37_2).f0))).setCell ⟨gb244, 1, none⟩ (.int .i64 ((rd_T67 l1 x37_2).f1))).setCell ⟨gb244, 2, none⟩ (.int .i64 ((rd_T67 l1 x37_2).f2))) = w51 at n0_ n1_ n2_ n3_ ⊢
            have HO_5 := n0_; have HO_6 := n1_; have BK244 := n2_; have HB := n3_; clear n0_ n1_ n2_ n3_; have n0_ := ak (Kd.R_drew HO_5.out); have n1_ := ak (Kd.R_drew HO_6.out); have n2_ := ak (blk_drew BK244.out); have n3_ := ak (below_drew1 HB.out); clear HO_5; clear HO_6; clear BK244; clear HB; have HO_5 := n0_; have HO_6 := n1_; have BK244 := n2_; have HB := n3_; clear n0_ n1_ n2_ n3_; refine start_ (n := 27) (S := fun w' => w'.cell? ⟨gb244, 0, none⟩ = some (.int .i64 ((rd_T67 l1 x37_2).f0)) ∧ w'.cell? ⟨gb244, 1, none⟩ = some (.int .i64 ((rd_T67 l1 x37_2).f1)) ∧ w'.cell? ⟨gb244, 2, none⟩ = some (.int .i64 ((rd_T67 l1 x37_2).f2))) (ds := []) #[false, false, false, false, false, false, false, false, false, false, false, false, false, false, false, false, false, false, false, false, false, false, false, false, false, false, false] (by kernel_rfl) rfl rfl ⟨(blk_cell BK244.out 0).trans rfl, (blk_cell BK244.out 1).trans rfl, (blk_cell BK244.out 2).trans rfl⟩ (fun hHeld => ?_); refine with_tabW impl_isPlan.tab10 impl_isPlan.bits10 (fun HT_ HW_ => ?_); generalize w51.drew = w52 at HO_5 HO_6 BK244 HB hHeld ⊢
            refine px 0 42 #[true, false, false, false, false, false, false, false, false, false, false, false, false, false, false, false, false, false, false, false, false, false, false, false, false, false, false] rfl HT_.out ?_ (.inl ⟨by rfl, ?_⟩) ?_ ?_ ?_; rotate_left
            ·intro w'; go_simp; with_reducible rfl
            rotate_left
            ·simp only [ap1, ap2, ap3, ap4, i64_w, i32_w]; rfl
            refine px 2 44 #[true, false, true, false, false, false, false, false, false, false, false, false, false, false, false, false, false, false, false, false, false, false, false, false, false, false, false] rfl HT_.out ?_ (.inl ⟨by rfl, ?_⟩) ?_ ?_ ?_; rotate_left
            ·intro w'; go_simp; with_reducible rfl
            rotate_left
            ·simp only [ap1, ap2, ap3, ap4, i64_w, i32_w]; rfl
            refine px 3 45 #[true, false, true, true, false, false, false, false, false, false, false, false, false, false, false, false, false, false, false, false, false, false, false, false, false, false, false] rfl HT_.out ?_ (.inl ⟨by rfl, ?_⟩) ?_ ?_ ?_; rotate_left
            ·intro w'; go_simp; with_reducible rfl
            rotate_left
            ·simp only [ap1, ap2, ap3, ap4, i64_w, i32_w]; rfl
            refine px 4 46 #[true, false, true, true, true, false, false, false, false, false, false, false, false, false, false, false, false, false, false, false, false, false, false, false, false, false, false] rfl HT_.out ?_ (.inl ⟨by rfl, ?_⟩) ?_ ?_ ?_; rotate_left
            ·intro w'; go_simp; with_reducible rfl
            rotate_left
            ·simp only [ap1, ap2, ap3, ap4, i64_w, i32_w]; rfl
            refine tx 1 43 #[true, true, true, true, true, false, false, false, false, false, false, false, false, false, false, false, false, false, false, false, false, false, false, false, false, false, false] rfl HT_.out HW_.out hHeld ?_ (.inl ⟨by rfl, ?_⟩) ?_ ?_ ?_; rotate_left
            ·rintro w' ⟨s0, s1, s2⟩; go_simp; with_reducible rfl
            rotate_left
            ·simp only [ap1, ap2, ap3, ap4, i64_w, i32_w]; rfl
            refine one_ (i := 5) (N := some 47) #[true, true, true, true, true, true, false, false, false, false, false, false, false, false, false, false, false, false, false, false, false, false, false, false, false, false, false] rfl rfl (one_of HT_.out (by kernel_rfl)) (by decide) (fun K hK => ?_); refine goes_ Try.func36 (by kernel_rfl) rfl #[.int .i64 ((rd_T67 l1 x37_2).f0), .int .i64 0, .int .i64 (wrap64 ((l0.length : Int) - 1))] (by rfl) rfl rfl vm ?_; with_reducible refine (impl_in.calls ((rd_T67 l1 x37_2).f0) 0 (wrap64 ((l0.length : Int) - 1)) true _ A37.out).mono ?_
            rintro e w' ⟨rfl, ⟨nd, rfl⟩⟩; refine ⟨_, rfl, ?_⟩; refine hK.out _ _ ⟨(blk_cell BK244.out 0).trans rfl, (blk_cell BK244.out 1).trans rfl, (blk_cell BK244.out 2).trans rfl⟩ (fun hHeld => ?_); clear hK K; refine norm_ (a' := ?_) ?_ ?_; rotate_left
            ·show Act.put _ (some 47) _ = _; simp only [ap1, ap2, ap3, ap4, i64_w, i32_w]; rfl
            refine px 6 48 #[true, true, true, true, true, true, true, false, false, false, false, false, false, false, false, false, false, false, false, false, false, false, false, false, false, false, false] rfl HT_.out ?_ (.inl ⟨by rfl, ?_⟩) ?_ ?_ ?_; rotate_left
            ·intro w'; go_simp; with_reducible rfl
            rotate_left
            ·simp only [ap1, ap2, ap3, ap4, i64_w, i32_w]; rfl
            refine px 7 49 #[true, true, true, true, true, true, true, true, false, false, false, false, false, false, false, false, false, false, false, false, false, false, false, false, false, false, false] rfl HT_.out ?_ (.inl ⟨by rfl, ?_⟩) ?_ ?_ ?_; rotate_left
            ·intro w'; go_simp; with_reducible rfl
            rotate_left
            ·simp only [ap1, ap2, ap3, ap4, i64_w, i32_w]; rfl
            refine px 8 50 #[true, true, true, true, true, true, true, true, true, false, false, false, false, false, false, false, false, false, false, false, false, false, false, false, false, false, false] rfl HT_.out ?_ (.inl ⟨by rfl, ?_⟩) ?_ ?_ ?_; rotate_left
            ·intro w'; go_simp; with_reducible rfl
            rotate_left
            ·simp only [ap1, ap2, ap3, ap4, i64_w, i32_w]; rfl
            refine tx 9 51 #[true, true, true, true, true, true, true, true, true, true, false, false, false, false, false, false, false, false, false, false, false, false, false, false, false, false, false] rfl HT_.out HW_.out hHeld ?_ (.inl ⟨by rfl, ?_⟩) ?_ ?_ ?_; rotate_left
            ·rintro w' ⟨s0, s1, s2⟩; go_simp; with_reducible rfl
            rotate_left
            ·simp only [ap1, ap2, ap3, ap4, i64_w, i32_w]; rfl
            refine one_ (i := 10) (N := some 52) #[true, true, true, true, true, true, true, true, true, true, true, false, false, false, false, false, false, false, false, false, false, false, false, false, false, false, false] rfl rfl (one_of HT_.out (by kernel_rfl)) (by decide) (fun K hK => ?_); refine goes_ Try.func36 (by kernel_rfl) rfl #[.int .i64 ((rd_T67 l1 x37_2).f2), .int .i64 0, .int .i64 9999] (by rfl) rfl rfl vm ?_; with_reducible refine (impl_in.calls ((rd_T67 l1 x37_2).f2) 0 9999 false _ A39.out).mono ?_
            rintro e w' ⟨rfl, ⟨nd, rfl⟩⟩; refine ⟨_, rfl, ?_⟩; refine hK.out _ _ ⟨(blk_cell BK244.out 0).trans rfl, (blk_cell BK244.out 1).trans rfl, (blk_cell BK244.out 2).trans rfl⟩ (fun hHeld => ?_); clear hK K; refine norm_ (a' := ?_) ?_ ?_; rotate_left
            ·show Act.put _ (some 52) _ = _; simp only [ap1, ap2, ap3, ap4, i64_w, i32_w]; rfl
            refine px 11 53 #[true, true, true, true, true, true, true, true, true, true, true, true, false, false, false, false, false, false, false, false, false, false, false, false, false, false, false] rfl HT_.out ?_ (.inl ⟨by rfl, ?_⟩) ?_ ?_ ?_; rotate_left
            ·intro w'; go_simp; with_reducible rfl
            rotate_left
            ·simp only [ap1, ap2, ap3, ap4, i64_w, i32_w]; rfl
            refine px 12 54 #[true, true, true, true, true, true, true, true, true, true, true, true, true, false, false, false, false, false, false, false, false, false, false, false, false, false, false] rfl HT_.out ?_ (.inl ⟨by rfl, ?_⟩) ?_ ?_ ?_; rotate_left
            ·intro w'; go_simp; with_reducible rfl
            rotate_left
            ·simp only [ap1, ap2, ap3, ap4, i64_w, i32_w]; rfl
            refine px 13 55 #[true, true, true, true, true, true, true, true, true, true, true, true, true, true, false, false, false, false, false, false, false, false, false, false, false, false, false] rfl HT_.out ?_ (.inl ⟨by rfl, ?_⟩) ?_ ?_ ?_; rotate_left
            ·intro w'; go_simp; with_reducible rfl
            rotate_left
            ·simp only [ap1, ap2, ap3, ap4, i64_w, i32_w]; rfl
            refine pure_ (i := 14) (N := some 56) (v := undef) (a' := ?_) #[true, true, true, true, true, true, true, true, true, true, true, true, true, true, true, false, false, false, false, false, false, false, false, false, false, false, false] rfl rfl (ao HT_.out) (fun _ _ _ h => h) (Or.inr ⟨by rfl, rfl⟩) ?_ ?_; rotate_left
            ·simp only [ap1, ap2, ap3, ap4, i64_w, i32_w]; rfl
            refine pure_ (i := 15) (N := some 57) (v := undef) (a' := ?_) #[true, true, true, true, true, true, true, true, true, true, true, true, true, true, true, true, false, false, false, false, false, false, false, false, false, false, false] rfl rfl (ao HT_.out) (fun _ _ _ h => h) (Or.inr ⟨by rfl, rfl⟩) ?_ ?_; rotate_left
            ·simp only [ap1, ap2, ap3, ap4, i64_w, i32_w]; rfl
            refine pure_ (i := 16) (N := some 58) (v := undef) (a' := ?_) #[true, true, true, true, true, true, true, true, true, true, true, true, true, true, true, true, true, false, false, false, false, false, false, false, false, false, false] rfl rfl (ao HT_.out) (fun _ _ _ h => h) (Or.inr ⟨by rfl, rfl⟩) ?_ ?_; rotate_left
            ·simp only [ap1, ap2, ap3, ap4, i64_w, i32_w]; rfl
            refine pure_ (i := 17) (N := some 59) (v := undef) (a' := ?_) #[true, true, true, true, true, true, true, true, true, true, true, true, true, true, true, true, true, true, false, false, false, false, false, false, false, false, false] rfl rfl (ao HT_.out) (fun _ _ _ h => h) (Or.inr ⟨by rfl, rfl⟩) ?_ ?_; rotate_left
            ·simp only [ap1, ap2, ap3, ap4, i64_w, i32_w]; rfl
            refine pure_ (i := 18) (N := some 60) (v := undef) (a' := ?_) #[true, true, true, true, true, true, true, true, true, true, true, true, true, true, true, true, true, true, true, false, false, false, false, false, false, false, false] rfl rfl (ao HT_.out) (fun _ _ _ h => h) (Or.inr ⟨by rfl, rfl⟩) ?_ ?_; rotate_left
            ·simp only [ap1, ap2, ap3, ap4, i64_w, i32_w]; rfl
            refine pure_ (i := 19) (N := some 61) (v := undef) (a' := ?_) #[true, true, true, true, true, true, true, true, true, true, true, true, true, true, true, true, true, true, true, true, false, false, false, false, false, false, false] rfl rfl (ao HT_.out) (fun _ _ _ h => h) (Or.inr ⟨by rfl, rfl⟩) ?_ ?_; rotate_left
            ·simp only [ap1, ap2, ap3, ap4, i64_w, i32_w]; rfl
            refine pure_ (i := 20) (N := some 62) (v := undef) (a' := ?_) #[true, true, true, true, true, true, true, true, true, true, true, true, true, true, true, true, true, true, true, true, true, false, false, false, false, false, false] rfl rfl (ao HT_.out) (fun _ _ _ h => h) (Or.inr ⟨by rfl, rfl⟩) ?_ ?_; rotate_left
            ·simp only [ap1, ap2, ap3, ap4, i64_w, i32_w]; rfl
            refine pure_ (i := 21) (N := some 63) (v := undef) (a' := ?_) #[true, true, true, true, true, true, true, true, true, true, true, true, true, true, true, true, true, true, true, true, true, true, false, false, false, false, false] rfl rfl (ao HT_.out) (fun _ _ _ h => h) (Or.inr ⟨by rfl, rfl⟩) ?_ ?_; rotate_left
            ·simp only [ap1, ap2, ap3, ap4, i64_w, i32_w]; rfl
            refine pure_ (i := 22) (N := some 64) (v := undef) (a' := ?_) #[true, true, true, true, true, true, true, true, true, true, true, true, true, true, true, true, true, true, true, true, true, true, true, false, false, false, false] rfl rfl (ao HT_.out) (fun _ _ _ h => h) (Or.inr ⟨by rfl, rfl⟩) ?_ ?_; rotate_left
            ·simp only [ap1, ap2, ap3, ap4, i64_w, i32_w]; rfl
            refine pure_ (i := 23) (N := some 65) (v := undef) (a' := ?_) #[true, true, true, true, true, true, true, true, true, true, true, true, true, true, true, true, true, true, true, true, true, true, true, true, false, false, false] rfl rfl (ao HT_.out) (fun _ _ _ h => h) (Or.inr ⟨by rfl, rfl⟩) ?_ ?_; rotate_left
            ·simp only [ap1, ap2, ap3, ap4, i64_w, i32_w]; rfl
            refine pure_ (i := 24) (N := some 66) (v := undef) (a' := ?_) #[true, true, true, true, true, true, true, true, true, true, true, true, true, true, true, true, true, true, true, true, true, true, true, true, true, false, false] rfl rfl (ao HT_.out) (fun _ _ _ h => h) (Or.inr ⟨by rfl, rfl⟩) ?_ ?_; rotate_left
            ·simp only [ap1, ap2, ap3, ap4, i64_w, i32_w]; rfl
            refine pure_ (i := 25) (N := some 67) (v := undef) (a' := ?_) #[true, true, true, true, true, true, true, true, true, true, true, true, true, true, true, true, true, true, true, true, true, true, true, true, true, true, false] rfl rfl (ao HT_.out) (fun _ _ _ h => h) (Or.inr ⟨by rfl, rfl⟩) ?_ ?_; rotate_left
            ·simp only [ap1, ap2, ap3, ap4, i64_w, i32_w]; rfl
            refine px 26 68 #[true, true, true, true, true, true, true, true, true, true, true, true, true, true, true, true, true, true, true, true, true, true, true, true, true, true, true] rfl HT_.out ?_ (.inl ⟨by rfl, ?_⟩) ?_ ?_ ?_; rotate_left
            ·intro w'; go_simp; with_reducible rfl
            rotate_left
            ·simp only [ap1, ap2, ap3, ap4, i64_w, i32_w]; rfl
            refine done_ (done_of HT_.out (by kernel_rfl)) ?_; try go_wp2
            go_meet
            case rel => exact ⟨_, (true), (by first | rfl | (simp; done) | (simp [*]; done)), H', ⟨by have := HK1.out; have := HK2.out; first | omega | exact Nat.le_refl _⟩, ⟨by exact vr HO_5.out⟩, ⟨by exact vr HO_6.out⟩, ⟨by exact vb BK244.out⟩, ⟨by exact vs1 HB.out GE244.out⟩⟩
          ·replace c38 := Bool.eq_false_iff.mpr c38; subst c38; have H1 : (impl_isPlan.j2 k2 l0 l1 x5_2 x6_2 x37_2 l1 (l1.length : Int) x37_2 true ((rd_T67 l1 x37_2).f0) ((rd_T67 l1 x37_2).f1) ((rd_T67 l1 x37_2).f2)) = some r := by rw [if_neg (show ¬ (false = true) by decide)] at H; first | exact H | (simp only [if_true, eq_self] at H ⊢; exact H)
           clear H; have H := H1; clear H1; have H' := Aside0.mk H; clear H; try go_wp2
           have n0_ : Aside0 (Kd.R (Kd.int .i64) 3 (((w33.setCell ⟨gb244, 0, none⟩ (.int .i64 ((rd_T67 l1 x37_2).f0))).setCell ⟨gb244, 1, none⟩ (.int .i64 ((rd_T67 l1 x37_2).f1))).setCell ⟨gb244, 2, none⟩ (.int .i64 ((rd_T67 l1 x37_2).f2))) w.heap.size (fun k_ => some k_ ≠ (u6 : Value).ownBlock) u5 x5_2) := ⟨by (with_reducible repeat (first | apply Kd.R_alloc | apply Kd.R_drewN | apply Kd.R_drew)); exact Kd.R_mono (Kd.R_far (p := ⟨gb244, 2, none⟩) (Kd.R_far (p := ⟨gb244, 1, none⟩) (Kd.R_far (p := ⟨gb244, 0, none⟩) (Kd.R_types HO_5.out BK244.out (by decide)) (fun _ hk => hk.2) (.int .i64 ((rd_T67 l1 x37_2).f0))) (fun _ hk => hk.2) (.int .i64 ((rd_T67 l1 x37_2).f1))) (fun _ hk => hk.2) (.int .i64 ((rd_T67 l1 x37_2).f2))) (fun _ hk => hk.1)⟩; have n1_ : Aside0 (Kd.R (Kd.int .i64) 3 (((w33.setCell ⟨gb244, 0, none⟩ (.int .i64 ((rd_T67 l1 x37_2).f0))).setCell ⟨gb244, 1, none⟩ (.int .i64 ((rd_T67 l1 x37_2).f1))).setCell ⟨gb244, 2, none⟩ (.int .i64 ((rd_T67 l1 x37_2).f2))) w.heap.size (fun k_ => some k_ ≠ (u5 : Value).ownBlock) u6 x6_2) := ⟨by (with_reducible repeat (first | apply Kd.R_alloc | apply Kd.R_drewN | apply Kd.R_drew)); exact Kd.R_mono (Kd.R_far (p := ⟨gb244, 2, none⟩) (Kd.R_far (p := ⟨gb244, 1, none⟩) (Kd.R_far (p := ⟨gb244, 0, none⟩) (Kd.R_types HO_6.out BK244.out (by decide)) (fun _ hk => hk.2) (.int .i64 ((rd_T67 l1 x37_2).f0))) (fun _ hk => hk.2) (.int .i64 ((rd_T67 l1 x37_2).f1))) (fun _ hk => hk.2) (.int .i64 ((rd_T67 l1 x37_2).f2))) (fun _ hk => hk.1)⟩; have n2_ : Aside0 ((((w33.setCell ⟨gb244, 0, none⟩ (.int .i64 ((rd_T67 l1 x37_2).f0))).setCell ⟨gb244, 1, none⟩ (.int .i64 ((rd_T67 l1 x37_2).f1))).setCell ⟨gb244, 2, none⟩ (.int .i64 ((rd_T67 l1 x37_2).f2))).heap[gb244]? = some (.cells #[.int .i64 ((rd_T67 l1 x37_2).f0), .int .i64 ((rd_T67 l1 x37_2).f1), .int .i64 ((rd_T67 l1 x37_2).f2)] 67 (0, 0))) := ⟨by (with_reducible repeat (first | refine blk_drewN ?_ _ | refine blk_drew ?_ | refine blk_alloc ?_ _)); refine blk_put (cs := #[.int .i64 ((rd_T67 l1 x37_2).f0), .int .i64 ((rd_T67 l1 x37_2).f1), .int .i64 0]) ?_ 2 _ rfl; (with_reducible repeat (first | refine blk_drewN ?_ _ | refine blk_drew ?_ | refine blk_alloc ?_ _)); refine blk_put (cs := #[.int .i64 ((rd_T67 l1 x37_2).f0), .int .i64 0, .int .i64 0]) ?_ 1 _ rfl; (with_reducible repeat (first | refine blk_drewN ?_ _ | refine blk_drew ?_ | refine blk_alloc ?_ _)); refine blk_put (cs := #[.int .i64 0, .int .i64 0, .int .i64 0]) ?_ 0 _ rfl; exact vb BK244.out⟩; have n3_ : Aside0 (Below w.heap.size w (((w33.setCell ⟨gb244, 0, none⟩ (.int .i64 ((rd_T67 l1 x37_2).f0))).setCell ⟨gb244, 1, none⟩ (.int .i64 ((rd_T67 l1 x37_2).f1))).setCell ⟨gb244, 2, none⟩ (.int .i64 ((rd_T67 l1 x37_2).f2)))) := ⟨by exact vs1 HB.out GE244.out⟩; (try clear HO_5); (try clear HO_6); (try clear BK244); (try clear HB); generalize (((w33.setCell ⟨gb244, 0, none⟩ (.int .i64 ((rd_T67 l1 x37_2).f0))).setCell ⟨gb244, 1, none⟩ (.int .i64 ((rd_T67 l1 x37_2).f1))).setCell ⟨gb244, 2, none⟩ (.int .i64 ((rd_T67 l1 x37_2).f2))) = w53 at n0_ n1_ n2_ n3_ ⊢
           have HO_5 := n0_; have HO_6 := n1_; have BK244 := n2_; have HB := n3_; clear n0_ n1_ n2_ n3_; have n0_ := ak (Kd.R_drew HO_5.out); have n1_ := ak (Kd.R_drew HO_6.out); have n2_ := ak (blk_drew BK244.out); have n3_ := ak (below_drew1 HB.out); clear HO_5; clear HO_6; clear BK244; clear HB; have HO_5 := n0_; have HO_6 := n1_; have BK244 := n2_; have HB := n3_; clear n0_ n1_ n2_ n3_; refine start_ (n := 27) (S := fun w' => w'.cell? ⟨gb244, 0, none⟩ = some (.int .i64 ((rd_T67 l1 x37_2).f0)) ∧ w'.cell? ⟨gb244, 1, none⟩ = some (.int .i64 ((rd_T67 l1 x37_2).f1)) ∧ w'.cell? ⟨gb244, 2, none⟩ = some (.int .i64 ((rd_T67 l1 x37_2).f2))) (ds := []) #[false, false, false, false, false, false, false, false, false, false, false, false, false, false, false, false, false, false, false, false, false, false, false, false, false, false, false] (by kernel_rfl) rfl rfl ⟨(blk_cell BK244.out 0).trans rfl, (blk_cell BK244.out 1).trans rfl, (blk_cell BK244.out 2).trans rfl⟩ (fun hHeld => ?_); refine with_tabW impl_isPlan.tab10 impl_isPlan.bits10 (fun HT_ HW_ => ?_); generalize w53.drew = w54 at HO_5 HO_6 BK244 HB hHeld ⊢
           refine px 0 42 #[true, false, false, false, false, false, false, false, false, false, false, false, false, false, false, false, false, false, false, false, false, false, false, false, false, false, false] rfl HT_.out ?_ (.inl ⟨by rfl, ?_⟩) ?_ ?_ ?_; rotate_left
           ·intro w'; go_simp; with_reducible rfl
           rotate_left
           ·simp only [ap1, ap2, ap3, ap4, i64_w, i32_w]; rfl
           refine px 2 44 #[true, false, true, false, false, false, false, false, false, false, false, false, false, false, false, false, false, false, false, false, false, false, false, false, false, false, false] rfl HT_.out ?_ (.inl ⟨by rfl, ?_⟩) ?_ ?_ ?_; rotate_left
           ·intro w'; go_simp; with_reducible rfl
           rotate_left
           ·simp only [ap1, ap2, ap3, ap4, i64_w, i32_w]; rfl
           refine px 3 45 #[true, false, true, true, false, false, false, false, false, false, false, false, false, false, false, false, false, false, false, false, false, false, false, false, false, false, false] rfl HT_.out ?_ (.inl ⟨by rfl, ?_⟩) ?_ ?_ ?_; rotate_left
           ·intro w'; go_simp; with_reducible rfl
           rotate_left
           ·simp only [ap1, ap2, ap3, ap4, i64_w, i32_w]; rfl
           refine px 4 46 #[true, false, true, true, true, false, false, false, false, false, false, false, false, false, false, false, false, false, false, false, false, false, false, false, false, false, false] rfl HT_.out ?_ (.inl ⟨by rfl, ?_⟩) ?_ ?_ ?_; rotate_left
           ·intro w'; go_simp; with_reducible rfl
           rotate_left
           ·simp only [ap1, ap2, ap3, ap4, i64_w, i32_w]; rfl
           refine tx 1 43 #[true, true, true, true, true, false, false, false, false, false, false, false, false, false, false, false, false, false, false, false, false, false, false, false, false, false, false] rfl HT_.out HW_.out hHeld ?_ (.inl ⟨by rfl, ?_⟩) ?_ ?_ ?_; rotate_left
           ·rintro w' ⟨s0, s1, s2⟩; go_simp; with_reducible rfl
           rotate_left
           ·simp only [ap1, ap2, ap3, ap4, i64_w, i32_w]; rfl
           refine one_ (i := 5) (N := some 47) #[true, true, true, true, true, true, false, false, false, false, false, false, false, false, false, false, false, false, false, false, false, false, false, false, false, false, false] rfl rfl (one_of HT_.out (by kernel_rfl)) (by decide) (fun K hK => ?_); refine goes_ Try.func36 (by kernel_rfl) rfl #[.int .i64 ((rd_T67 l1 x37_2).f0), .int .i64 0, .int .i64 (wrap64 ((l0.length : Int) - 1))] (by rfl) rfl rfl vm ?_; with_reducible refine (impl_in.calls ((rd_T67 l1 x37_2).f0) 0 (wrap64 ((l0.length : Int) - 1)) false _ A37.out).mono ?_
           rintro e w' ⟨rfl, ⟨nd, rfl⟩⟩; refine ⟨_, rfl, ?_⟩; refine hK.out _ _ ⟨(blk_cell BK244.out 0).trans rfl, (blk_cell BK244.out 1).trans rfl, (blk_cell BK244.out 2).trans rfl⟩ (fun hHeld => ?_); clear hK K; refine norm_ (a' := ?_) ?_ ?_; rotate_left
           ·show Act.put _ (some 47) _ = _; simp only [ap1, ap2, ap3, ap4, i64_w, i32_w]; rfl
           refine px 6 48 #[true, true, true, true, true, true, true, false, false, false, false, false, false, false, false, false, false, false, false, false, false, false, false, false, false, false, false] rfl HT_.out ?_ (.inl ⟨by rfl, ?_⟩) ?_ ?_ ?_; rotate_left
           ·intro w'; go_simp; with_reducible rfl
           rotate_left
           ·simp only [ap1, ap2, ap3, ap4, i64_w, i32_w]; rfl
           refine px 7 49 #[true, true, true, true, true, true, true, true, false, false, false, false, false, false, false, false, false, false, false, false, false, false, false, false, false, false, false] rfl HT_.out ?_ (.inl ⟨by rfl, ?_⟩) ?_ ?_ ?_; rotate_left
           ·intro w'; go_simp; with_reducible rfl
           rotate_left
           ·simp only [ap1, ap2, ap3, ap4, i64_w, i32_w]; rfl
           refine pure_ (i := 8) (N := some 50) (v := undef) (a' := ?_) #[true, true, true, true, true, true, true, true, true, false, false, false, false, false, false, false, false, false, false, false, false, false, false, false, false, false, false] rfl rfl (ao HT_.out) (fun _ _ _ h => h) (Or.inr ⟨by rfl, rfl⟩) ?_ ?_; rotate_left
           ·simp only [ap1, ap2, ap3, ap4, i64_w, i32_w]; rfl
           refine pure_ (i := 9) (N := some 51) (v := undef) (a' := ?_) #[true, true, true, true, true, true, true, true, true, true, false, false, false, false, false, false, false, false, false, false, false, false, false, false, false, false, false] rfl rfl (ao HT_.out) (fun _ _ _ h => h) (Or.inr ⟨by rfl, rfl⟩) ?_ ?_; rotate_left
           ·simp only [ap1, ap2, ap3, ap4, i64_w, i32_w]; rfl
           refine pure_ (i := 10) (N := some 52) (v := undef) (a' := ?_) #[true, true, true, true, true, true, true, true, true, true, true, false, false, false, false, false, false, false, false, false, false, false, false, false, false, false, false] rfl rfl (ao HT_.out) (fun _ _ _ h => h) (Or.inr ⟨by rfl, rfl⟩) ?_ ?_; rotate_left
           ·simp only [ap1, ap2, ap3, ap4, i64_w, i32_w]; rfl
           refine pure_ (i := 11) (N := some 53) (v := undef) (a' := ?_) #[true, true, true, true, true, true, true, true, true, true, true, true, false, false, false, false, false, false, false, false, false, false, false, false, false, false, false] rfl rfl (ao HT_.out) (fun _ _ _ h => h) (Or.inr ⟨by rfl, rfl⟩) ?_ ?_; rotate_left
           ·simp only [ap1, ap2, ap3, ap4, i64_w, i32_w]; rfl
           refine px 12 54 #[true, true, true, true, true, true, true, true, true, true, true, true, true, false, false, false, false, false, false, false, false, false, false, false, false, false, false] rfl HT_.out ?_ (.inl ⟨by rfl, ?_⟩) ?_ ?_ ?_; rotate_left
           ·intro w'; go_simp; with_reducible rfl
           rotate_left
           ·simp only [ap1, ap2, ap3, ap4, i64_w, i32_w]; rfl
           refine px 13 55 #[true, true, true, true, true, true, true, true, true, true, true, true, true, true, false, false, false, false, false, false, false, false, false, false, false, false, false] rfl HT_.out ?_ (.inl ⟨by rfl, ?_⟩) ?_ ?_ ?_; rotate_left
           ·intro w'; go_simp; with_reducible rfl
           rotate_left
           ·simp only [ap1, ap2, ap3, ap4, i64_w, i32_w]; rfl
           refine pure_ (i := 14) (N := some 56) (v := undef) (a' := ?_) #[true, true, true, true, true, true, true, true, true, true, true, true, true, true, true, false, false, false, false, false, false, false, false, false, false, false, false] rfl rfl (ao HT_.out) (fun _ _ _ h => h) (Or.inr ⟨by rfl, rfl⟩) ?_ ?_; rotate_left
           ·simp only [ap1, ap2, ap3, ap4, i64_w, i32_w]; rfl
           refine pure_ (i := 15) (N := some 57) (v := undef) (a' := ?_) #[true, true, true, true, true, true, true, true, true, true, true, true, true, true, true, true, false, false, false, false, false, false, false, false, false, false, false] rfl rfl (ao HT_.out) (fun _ _ _ h => h) (Or.inr ⟨by rfl, rfl⟩) ?_ ?_; rotate_left
           ·simp only [ap1, ap2, ap3, ap4, i64_w, i32_w]; rfl
           refine pure_ (i := 16) (N := some 58) (v := undef) (a' := ?_) #[true, true, true, true, true, true, true, true, true, true, true, true, true, true, true, true, true, false, false, false, false, false, false, false, false, false, false] rfl rfl (ao HT_.out) (fun _ _ _ h => h) (Or.inr ⟨by rfl, rfl⟩) ?_ ?_; rotate_left
           ·simp only [ap1, ap2, ap3, ap4, i64_w, i32_w]; rfl
           refine pure_ (i := 17) (N := some 59) (v := undef) (a' := ?_) #[true, true, true, true, true, true, true, true, true, true, true, true, true, true, true, true, true, true, false, false, false, false, false, false, false, false, false] rfl rfl (ao HT_.out) (fun _ _ _ h => h) (Or.inr ⟨by rfl, rfl⟩) ?_ ?_; rotate_left
           ·simp only [ap1, ap2, ap3, ap4, i64_w, i32_w]; rfl
           refine pure_ (i := 18) (N := some 60) (v := undef) (a' := ?_) #[true, true, true, true, true, true, true, true, true, true, true, true, true, true, true, true, true, true, true, false, false, false, false, false, false, false, false] rfl rfl (ao HT_.out) (fun _ _ _ h => h) (Or.inr ⟨by rfl, rfl⟩) ?_ ?_; rotate_left
           ·simp only [ap1, ap2, ap3, ap4, i64_w, i32_w]; rfl
           refine pure_ (i := 19) (N := some 61) (v := undef) (a' := ?_) #[true, true, true, true, true, true, true, true, true, true, true, true, true, true, true, true, true, true, true, true, false, false, false, false, false, false, false] rfl rfl (ao HT_.out) (fun _ _ _ h => h) (Or.inr ⟨by rfl, rfl⟩) ?_ ?_; rotate_left
           ·simp only [ap1, ap2, ap3, ap4, i64_w, i32_w]; rfl
           refine pure_ (i := 20) (N := some 62) (v := undef) (a' := ?_) #[true, true, true, true, true, true, true, true, true, true, true, true, true, true, true, true, true, true, true, true, true, false, false, false, false, false, false] rfl rfl (ao HT_.out) (fun _ _ _ h => h) (Or.inr ⟨by rfl, rfl⟩) ?_ ?_; rotate_left
           ·simp only [ap1, ap2, ap3, ap4, i64_w, i32_w]; rfl
           refine pure_ (i := 21) (N := some 63) (v := undef) (a' := ?_) #[true, true, true, true, true, true, true, true, true, true, true, true, true, true, true, true, true, true, true, true, true, true, false, false, false, false, false] rfl rfl (ao HT_.out) (fun _ _ _ h => h) (Or.inr ⟨by rfl, rfl⟩) ?_ ?_; rotate_left
           ·simp only [ap1, ap2, ap3, ap4, i64_w, i32_w]; rfl
           refine pure_ (i := 22) (N := some 64) (v := undef) (a' := ?_) #[true, true, true, true, true, true, true, true, true, true, true, true, true, true, true, true, true, true, true, true, true, true, true, false, false, false, false] rfl rfl (ao HT_.out) (fun _ _ _ h => h) (Or.inr ⟨by rfl, rfl⟩) ?_ ?_; rotate_left
           ·simp only [ap1, ap2, ap3, ap4, i64_w, i32_w]; rfl
           refine pure_ (i := 23) (N := some 65) (v := undef) (a' := ?_) #[true, true, true, true, true, true, true, true, true, true, true, true, true, true, true, true, true, true, true, true, true, true, true, true, false, false, false] rfl rfl (ao HT_.out) (fun _ _ _ h => h) (Or.inr ⟨by rfl, rfl⟩) ?_ ?_; rotate_left
           ·simp only [ap1, ap2, ap3, ap4, i64_w, i32_w]; rfl
           refine pure_ (i := 24) (N := some 66) (v := undef) (a' := ?_) #[true, true, true, true, true, true, true, true, true, true, true, true, true, true, true, true, true, true, true, true, true, true, true, true, true, false, false] rfl rfl (ao HT_.out) (fun _ _ _ h => h) (Or.inr ⟨by rfl, rfl⟩) ?_ ?_; rotate_left
           ·simp only [ap1, ap2, ap3, ap4, i64_w, i32_w]; rfl
           refine pure_ (i := 25) (N := some 67) (v := undef) (a' := ?_) #[true, true, true, true, true, true, true, true, true, true, true, true, true, true, true, true, true, true, true, true, true, true, true, true, true, true, false] rfl rfl (ao HT_.out) (fun _ _ _ h => h) (Or.inr ⟨by rfl, rfl⟩) ?_ ?_; rotate_left
           ·simp only [ap1, ap2, ap3, ap4, i64_w, i32_w]; rfl
           refine px 26 68 #[true, true, true, true, true, true, true, true, true, true, true, true, true, true, true, true, true, true, true, true, true, true, true, true, true, true, true] rfl HT_.out ?_ (.inl ⟨by rfl, ?_⟩) ?_ ?_ ?_; rotate_left
           ·intro w'; go_simp; with_reducible rfl
           rotate_left
           ·simp only [ap1, ap2, ap3, ap4, i64_w, i32_w]; rfl
           refine done_ (done_of HT_.out (by kernel_rfl)) ?_; try go_wp2
           go_meet
           case rel => exact ⟨_, (true), (by first | rfl | (simp; done) | (simp [*]; done)), H', ⟨by have := HK1.out; have := HK2.out; first | omega | exact Nat.le_refl _⟩, ⟨by exact vr HO_5.out⟩, ⟨by exact vr HO_6.out⟩, ⟨by exact vb BK244.out⟩, ⟨by exact vs1 HB.out GE244.out⟩⟩
         case rest =>
          clear HC32; try clear p2
          try clear c3
          try clear c4
          try clear p6
          try clear c36
          try clear c38
          try clear c40
          obtain ⟨kq, x68_31, rfl, HA, HJ31, HO_5, HO_6, BK244, HB⟩ := hcut; cases kq with
          | zero => exact absurd HA.out (by simp [impl_isPlan.j2])
          | succ kj31 =>
           have H := HA.out; clear HA; simp only [impl_isPlan.j2] at H
           by_cases c55 : x68_31 = true
           ·subst c55; have H1 : (some false) = some r := by rw [if_pos rfl] at H; first | exact H | (simp only [if_true, eq_self] at H ⊢; exact H)
            clear H; have H := H1; clear H1; obtain rfl := Option.some.inj H; go_wp2
            go_ret
            exact ⟨by first | rfl | (simp [errW_none, errW_some] <;> rfl) | (simp [*, errW_none, errW_some] <;> rfl), by exact vs1 HB.out GE244.out⟩
           ·replace c55 := Bool.eq_false_iff.mpr c55; subst c55; have H1 : (if 0 ≤ ((rd_T67 l1 x37_2).f0) then (if ((rd_T67 l1 x37_2).f0) < (l0.length : Int) then (if ((rd_T67 l1 x37_2).f0) < (x5_2.length : Int) then (if (rd x5_2 ((rd_T67 l1 x37_2).f0)) = ((rd_T63 l0 ((rd_T67 l1 x37_2).f0)).f1) then (impl_isPlan.j3 kj31 l0 l1 x5_2 x6_2 x37_2 l1 (l1.length : Int) x37_2 true ((rd_T67 l1 x37_2).f0) ((rd_T67 l1 x37_2).f1) ((rd_T67 l1 x37_2).f2) ((rd_T63 l0 ((rd_T67 l1 x37_2).f0)).f0) ((rd_T63 l0 ((rd_T67 l1 x37_2).f0)).f1) ((rd_T63 l0 ((rd_T67 l1 x37_2).f0)).f2) ((rd_T63 l0 ((rd_T67 l1 x37_2).f0)).f3)) else (if ((rd_T67 l1 x37_2).f1) = (rd x5_2 ((rd_T67 l1 x37_2).f0)) then (if ((rd_T67 l1 x37_2).f0) < (x6_2.length : Int) then (impl_isPlan.j3 kj31 l0 l1 x5_2 x6_2 x37_2 l1 (l1.length : Int) x37_2 (decide (((rd_T67 l1 x37_2).f2) < (rd x6_2 ((rd_T67 l1 x37_2).f0)))) ((rd_T67 l1 x37_2).f0) ((rd_T67 l1 x37_2).f1) ((rd_T67 l1 x37_2).f2) ((rd_T63 l0 ((rd_T67 l1 x37_2).f0)).f0) ((rd_T63 l0 ((rd_T67 l1 x37_2).f0)).f1) ((rd_T63 l0 ((rd_T67 l1 x37_2).f0)).f2) ((rd_T63 l0 ((rd_T67 l1 x37_2).f0)).f3)) else (none)) else (impl_isPlan.j3 kj31 l0 l1 x5_2 x6_2 x37_2 l1 (l1.length : Int) x37_2 true ((rd_T67 l1 x37_2).f0) ((rd_T67 l1 x37_2).f1) ((rd_T67 l1 x37_2).f2) ((rd_T63 l0 ((rd_T67 l1 x37_2).f0)).f0) ((rd_T63 l0 ((rd_T67 l1 x37_2).f0)).f1) ((rd_T63 l0 ((rd_T67 l1 x37_2).f0)).f2) ((rd_T63 l0 ((rd_T67 l1 x37_2).f0)).f3)))) else (none)) else (none)) else (none)) = some r := by rw [if_neg (show ¬ (false = true) by decide)] at H; first | exact H | (simp only [if_true, eq_self] at H ⊢; exact H)
            clear H; have H := H1; clear H1; by_cases c56 : 0 ≤ ((rd_T67 l1 x37_2).f0)
            ·rw [if_pos c56] at H
             have c56b0 : decide (0 ≤ ((rd_T67 l1 x37_2).f0)) = true := decide_eq_true c56; clear c56; by_cases c57 : ((rd_T67 l1 x37_2).f0) < (l0.length : Int)
             ·rw [if_pos c57] at H
              have c57b0 : decide (((rd_T67 l1 x37_2).f0) < (l0.length : Int)) = true := decide_eq_true c57; clear c57; have HC58 := Aside0.mk H; clear H; (try (have hnw60 := Kd.R_ne HO_5.out BK244.out (by decide); change some gb244 ≠ some _ at hnw60; have how60 := fun (e_ : gb244 = _) => hnw60 (congrArg some e_); have hpw60 := fun e_ => how60 (Eq.symm e_); clear hnw60; replace how60 := eq_false how60; replace hpw60 := eq_false hpw60)); (try (have hnw61 := Kd.R_ne HO_6.out BK244.out (by decide); change some gb244 ≠ some _ at hnw61; have how61 := fun (e_ : gb244 = _) => hnw61 (congrArg some e_); have hpw61 := fun e_ => how61 (Eq.symm e_); clear hnw61; replace how61 := eq_false how61; replace hpw61 := eq_false hpw61)); have hcz59_0 : wc.cell? ⟨gb244, 0, none⟩ = some (.int .i64 ((rd_T67 l1 x37_2).f0)) := (blk_cell BK244.out 0).trans rfl; have hcz59_1 : wc.cell? ⟨gb244, 1, none⟩ = some (.int .i64 ((rd_T67 l1 x37_2).f1)) := (blk_cell BK244.out 1).trans rfl; have hcz59_2 : wc.cell? ⟨gb244, 2, none⟩ = some (.int .i64 ((rd_T67 l1 x37_2).f2)) := (blk_cell BK244.out 2).trans rfl; have hfz59_0 := blk_frozen BK244.out 0; have hfz59_1 := blk_frozen BK244.out 1; have hfz59_2 := blk_frozen BK244.out 2; have p249 : 0 ≤ (((rd_T67 l1 x37_2).f0) : Int) := of_decide_eq_true va; have q249 : ((rd_T67 l1 x37_2).f0) < (l0.length : Int) := of_decide_eq_true va; obtain ⟨ad249, e249, hx249_0, hx249_1, hx249_2, hx249_3⟩ := at_T63 HR0.out ((rd_T67 l1 x37_2).f0) p249 q249; cases e249; (try replace hx249_0 := vl HB.out hx249_0); (try replace hx249_1 := vl HB.out hx249_1); (try replace hx249_2 := vl HB.out hx249_2); (try replace hx249_3 := vl HB.out hx249_3); replace p249 := eq_true p249; replace q249 := eq_true q249; go_upto_region 13 with (first | ((with_reducible refine gate_dst (N := 11) rfl ?_); refine vbe (N := 11) (cs := #[.int .i64 0, .int .i64 0, .int .i64 0, .int .i64 0]) (t := 63) ?_; intro gb250 hg w62 hbox hb; have n0_ := ak (Kd.R_below (vr HO_5.out) hb); have n1_ := ak (Kd.R_below (vr HO_6.out) hb); have n2_ := ak (blk_below (g := gb244) (o := .cells #[.int .i64 ((rd_T67 l1 x37_2).f0), .int .i64 ((rd_T67 l1 x37_2).f1), .int .i64 ((rd_T67 l1 x37_2).f2)] 67 (0, 0)) (vb BK244.out) hb); have n3_ := ak (below_step (vs1 HB.out GE244.out) hb); have n4_ := ak (hbox); have n5_ := ak (vg hg (vs1 HB.out GE244.out)); have n6_ := ak (vg hg (vs1 HB.out GE244.out)); have n7_ := ak ((by rw [hg]; exact Nat.ne_of_lt (blk_lt (g := gb244) (o := .cells #[.int .i64 ((rd_T67 l1 x37_2).f0), .int .i64 ((rd_T67 l1 x37_2).f1), .int .i64 ((rd_T67 l1 x37_2).f2)] 67 (0, 0)) (vb BK244.out)) : gb244 ≠ gb250)); have n8_ := ak ((by rw [hg]; exact Nat.ne_of_gt (blk_lt (g := gb244) (o := .cells #[.int .i64 ((rd_T67 l1 x37_2).f0), .int .i64 ((rd_T67 l1 x37_2).f1), .int .i64 ((rd_T67 l1 x37_2).f2)] 67 (0, 0)) (vb BK244.out)) : gb250 ≠ gb244)); clear HO_5; clear HO_6; clear BK244; clear HB; have HO_5 := n0_; have HO_6 := n1_; have BK244 := n2_; have HB := n3_; have BK250 := n4_; have GW250 := n5_; have GE250 := n6_; have NB244_250 := n7_; have NB250_244 := n8_; clear n0_ n1_ n2_ n3_ n4_ n5_ n6_ n7_ n8_; clear hb hbox hg; have hnb63 := NB250_244.out; have hnc63 := NB244_250.out; (try (have hnw65 := Kd.R_ne HO_5.out BK250.out (by decide); change some gb250 ≠ some _ at hnw65; have how65 := fun (e_ : gb250 = _) => hnw65 (congrArg some e_); have hpw65 := fun e_ => how65 (Eq.symm e_); clear hnw65; replace how65 := eq_false how65; replace hpw65 := eq_false hpw65)); (try (have hnw66 := Kd.R_ne HO_6.out BK250.out (by decide); change some gb250 ≠ some _ at hnw66; have how66 := fun (e_ : gb250 = _) => hnw66 (congrArg some e_); have hpw66 := fun e_ => how66 (Eq.symm e_); clear hnw66; replace how66 := eq_false how66; replace hpw66 := eq_false hpw66)); have hcz64_0 : w62.cell? ⟨gb250, 0, none⟩ = some (.int .i64 0) := (blk_cell BK250.out 0).trans rfl; have hcz64_1 : w62.cell? ⟨gb250, 1, none⟩ = some (.int .i64 0) := (blk_cell BK250.out 1).trans rfl; have hcz64_2 : w62.cell? ⟨gb250, 2, none⟩ = some (.int .i64 0) := (blk_cell BK250.out 2).trans rfl; have hcz64_3 : w62.cell? ⟨gb250, 3, none⟩ = some (.int .i64 0) := (blk_cell BK250.out 3).trans rfl; have hfz64_0 := blk_frozen BK250.out 0; have hfz64_1 := blk_frozen BK250.out 1; have hfz64_2 := blk_frozen BK250.out 2; have hfz64_3 := blk_frozen BK250.out 3))
              (try simp only [Act.put, List.setIfInBounds_toArray, List.set_cons_zero, List.set_cons_succ]); go_cut [101] (fun v101 wc => ∃ (kq : Nat) (x101_57 : Bool), v101 = .bool x101_57 ∧ Aside0 (impl_isPlan.j3 kq l0 l1 x5_2 x6_2 x37_2 l1 (l1.length : Int) x37_2 x101_57 ((rd_T67 l1 x37_2).f0) ((rd_T67 l1 x37_2).f1) ((rd_T67 l1 x37_2).f2) ((rd_T63 l0 ((rd_T67 l1 x37_2).f0)).f0) ((rd_T63 l0 ((rd_T67 l1 x37_2).f0)).f1) ((rd_T63 l0 ((rd_T67 l1 x37_2).f0)).f2) ((rd_T63 l0 ((rd_T67 l1 x37_2).f0)).f3) = some r) ∧ Aside0 (kq ≤ kj31) ∧ Aside0 (Kd.R (Kd.int .i64) 3 wc w.heap.size (fun k_ => some k_ ≠ (u6 : Value).ownBlock) u5 x5_2) ∧ Aside0 (Kd.R (Kd.int .i64) 3 wc w.heap.size (fun k_ => some k_ ≠ (u5 : Value).ownBlock) u6 x6_2) ∧ Aside0 (wc.heap[gb244]? = some (.cells #[.int .i64 ((rd_T67 l1 x37_2).f0), .int .i64 ((rd_T67 l1 x37_2).f1), .int .i64 ((rd_T67 l1 x37_2).f2)] 67 (0, 0))) ∧ Aside0 (wc.heap[gb250]? = some (.cells #[.int .i64 ((rd_T63 l0 ((rd_T67 l1 x37_2).f0)).f0), .int .i64 ((rd_T63 l0 ((rd_T67 l1 x37_2).f0)).f1), .int .i64 ((rd_T63 l0 ((rd_T67 l1 x37_2).f0)).f2), .int .i64 ((rd_T63 l0 ((rd_T67 l1 x37_2).f0)).f3)] 63 (0, 0))) ∧ Aside0 (Below w.heap.size w wc))
              case first =>
               have H := HC58.out; clear HC58; by_cases c67 : ((rd_T67 l1 x37_2).f0) < (x5_2.length : Int)
               ·rw [if_pos c67] at H
                have c67b0 : decide (((rd_T67 l1 x37_2).f0) < (x5_2.length : Int)) = true := decide_eq_true c67; clear c67; (first | rw [c67b0] | (simp only [i64_w, i32_w]; rw [c67b0]) | skip); by_cases c68 : (rd x5_2 ((rd_T67 l1 x37_2).f0)) = ((rd_T63 l0 ((rd_T67 l1 x37_2).f0)).f1)
                ·rw [if_pos c68] at H
                 have c68b0 : ((rd x5_2 ((rd_T67 l1 x37_2).f0)) == ((rd_T63 l0 ((rd_T67 l1 x37_2).f0)).f1)) = true := beq_iff_eq.mpr c68; have c68b1 : ((rd x5_2 ((rd_T67 l1 x37_2).f0)) != ((rd_T63 l0 ((rd_T67 l1 x37_2).f0)).f1)) = false := bne_eq_false_iff_eq.mpr c68; clear c68; have H' := Aside0.mk H; clear H; try go_wp2
                 have n0_ : Aside0 (Kd.R (Kd.int .i64) 3 ((((w62.setCell ⟨gb250, 0, none⟩ (.int .i64 ((rd_T63 l0 ((rd_T67 l1 x37_2).f0)).f0))).setCell ⟨gb250, 1, none⟩ (.int .i64 ((rd_T63 l0 ((rd_T67 l1 x37_2).f0)).f1))).setCell ⟨gb250, 2, none⟩ (.int .i64 ((rd_T63 l0 ((rd_T67 l1 x37_2).f0)).f2))).setCell ⟨gb250, 3, none⟩ (.int .i64 ((rd_T63 l0 ((rd_T67 l1 x37_2).f0)).f3))) w.heap.size (fun k_ => some k_ ≠ (u6 : Value).ownBlock) u5 x5_2) := ⟨by (with_reducible repeat (first | apply Kd.R_alloc | apply Kd.R_drewN | apply Kd.R_drew)); exact Kd.R_mono (Kd.R_far (p := ⟨gb250, 3, none⟩) (Kd.R_far (p := ⟨gb250, 2, none⟩) (Kd.R_far (p := ⟨gb250, 1, none⟩) (Kd.R_far (p := ⟨gb250, 0, none⟩) (Kd.R_types HO_5.out BK250.out (by decide)) (fun _ hk => hk.2) (.int .i64 ((rd_T63 l0 ((rd_T67 l1 x37_2).f0)).f0))) (fun _ hk => hk.2) (.int .i64 ((rd_T63 l0 ((rd_T67 l1 x37_2).f0)).f1))) (fun _ hk => hk.2) (.int .i64 ((rd_T63 l0 ((rd_T67 l1 x37_2).f0)).f2))) (fun _ hk => hk.2) (.int .i64 ((rd_T63 l0 ((rd_T67 l1 x37_2).f0)).f3))) (fun _ hk => hk.1)⟩; have n1_ : Aside0 (Kd.R (Kd.int .i64) 3 ((((w62.setCell ⟨gb250, 0, none⟩ (.int .i64 ((rd_T63 l0 ((rd_T67 l1 x37_2).f0)).f0))).setCell ⟨gb250, 1, none⟩ (.int .i64 ((rd_T63 l0 ((rd_T67 l1 x37_2).f0)).f1))).setCell ⟨gb250, 2, none⟩ (.int .i64 ((rd_T63 l0 ((rd_T67 l1 x37_2).f0)).f2))).setCell ⟨gb250, 3, none⟩ (.int .i64 ((rd_T63 l0 ((rd_T67 l1 x37_2).f0)).f3))) w.heap.size (fun k_ => some k_ ≠ (u5 : Value).ownBlock) u6 x6_2) := ⟨by (with_reducible repeat (first | apply Kd.R_alloc | apply Kd.R_drewN | apply Kd.R_drew)); exact Kd.R_mono (Kd.R_far (p := ⟨gb250, 3, none⟩) (Kd.R_far (p := ⟨gb250, 2, none⟩) (Kd.R_far (p := ⟨gb250, 1, none⟩) (Kd.R_far (p := ⟨gb250, 0, none⟩) (Kd.R_types HO_6.out BK250.out (by decide)) (fun _ hk => hk.2) (.int .i64 ((rd_T63 l0 ((rd_T67 l1 x37_2).f0)).f0))) (fun _ hk => hk.2) (.int .i64 ((rd_T63 l0 ((rd_T67 l1 x37_2).f0)).f1))) (fun _ hk => hk.2) (.int .i64 ((rd_T63 l0 ((rd_T67 l1 x37_2).f0)).f2))) (fun _ hk => hk.2) (.int .i64 ((rd_T63 l0 ((rd_T67 l1 x37_2).f0)).f3))) (fun _ hk => hk.1)⟩; have n2_ : Aside0 (((((w62.setCell ⟨gb250, 0, none⟩ (.int .i64 ((rd_T63 l0 ((rd_T67 l1 x37_2).f0)).f0))).setCell ⟨gb250, 1, none⟩ (.int .i64 ((rd_T63 l0 ((rd_T67 l1 x37_2).f0)).f1))).setCell ⟨gb250, 2, none⟩ (.int .i64 ((rd_T63 l0 ((rd_T67 l1 x37_2).f0)).f2))).setCell ⟨gb250, 3, none⟩ (.int .i64 ((rd_T63 l0 ((rd_T67 l1 x37_2).f0)).f3))).heap[gb244]? = some (.cells #[.int .i64 ((rd_T67 l1 x37_2).f0), .int .i64 ((rd_T67 l1 x37_2).f1), .int .i64 ((rd_T67 l1 x37_2).f2)] 67 (0, 0))) := ⟨by (with_reducible repeat (first | refine blk_drewN ?_ _ | refine blk_drew ?_ | refine blk_alloc ?_ _)); refine blk_far ?_ NB244_250.out _; (with_reducible repeat (first | refine blk_drewN ?_ _ | refine blk_drew ?_ | refine blk_alloc ?_ _)); refine blk_far ?_ NB244_250.out _; (with_reducible repeat (first | refine blk_drewN ?_ _ | refine blk_drew ?_ | refine blk_alloc ?_ _)); refine blk_far ?_ NB244_250.out _; (with_reducible repeat (first | refine blk_drewN ?_ _ | refine blk_drew ?_ | refine blk_alloc ?_ _)); refine blk_far ?_ NB244_250.out _; exact vb BK244.out⟩; have n3_ : Aside0 (((((w62.setCell ⟨gb250, 0, none⟩ (.int .i64 ((rd_T63 l0 ((rd_T67 l1 x37_2).f0)).f0))).setCell ⟨gb250, 1, none⟩ (.int .i64 ((rd_T63 l0 ((rd_T67 l1 x37_2).f0)).f1))).setCell ⟨gb250, 2, none⟩ (.int .i64 ((rd_T63 l0 ((rd_T67 l1 x37_2).f0)).f2))).setCell ⟨gb250, 3, none⟩ (.int .i64 ((rd_T63 l0 ((rd_T67 l1 x37_2).f0)).f3))).heap[gb250]? = some (.cells #[.int .i64 ((rd_T63 l0 ((rd_T67 l1 x37_2).f0)).f0), .int .i64 ((rd_T63 l0 ((rd_T67 l1 x37_2).f0)).f1), .int .i64 ((rd_T63 l0 ((rd_T67 l1 x37_2).f0)).f2), .int .i64 ((rd_T63 l0 ((rd_T67 l1 x37_2).f0)).f3)] 63 (0, 0))) := ⟨by (with_reducible repeat (first | refine blk_drewN ?_ _ | refine blk_drew ?_ | refine blk_alloc ?_ _)); refine blk_put (cs := #[.int .i64 ((rd_T63 l0 ((rd_T67 l1 x37_2).f0)).f0), .int .i64 ((rd_T63 l0 ((rd_T67 l1 x37_2).f0)).f1), .int .i64 ((rd_T63 l0 ((rd_T67 l1 x37_2).f0)).f2), .int .i64 0]) ?_ 3 _ rfl; (with_reducible repeat (first | refine blk_drewN ?_ _ | refine blk_drew ?_ | refine blk_alloc ?_ _)); refine blk_put (cs := #[.int .i64 ((rd_T63 l0 ((rd_T67 l1 x37_2).f0)).f0), .int .i64 ((rd_T63 l0 ((rd_T67 l1 x37_2).f0)).f1), .int .i64 0, .int .i64 0]) ?_ 2 _ rfl; (with_reducible repeat (first | refine blk_drewN ?_ _ | refine blk_drew ?_ | refine blk_alloc ?_ _)); refine blk_put (cs := #[.int .i64 ((rd_T63 l0 ((rd_T67 l1 x37_2).f0)).f0), .int .i64 0, .int .i64 0, .int .i64 0]) ?_ 1 _ rfl; (with_reducible repeat (first | refine blk_drewN ?_ _ | refine blk_drew ?_ | refine blk_alloc ?_ _)); refine blk_put (cs := #[.int .i64 0, .int .i64 0, .int .i64 0, .int .i64 0]) ?_ 0 _ rfl; exact vb BK250.out⟩; have n4_ : Aside0 (Below w.heap.size w ((((w62.setCell ⟨gb250, 0, none⟩ (.int .i64 ((rd_T63 l0 ((rd_T67 l1 x37_2).f0)).f0))).setCell ⟨gb250, 1, none⟩ (.int .i64 ((rd_T63 l0 ((rd_T67 l1 x37_2).f0)).f1))).setCell ⟨gb250, 2, none⟩ (.int .i64 ((rd_T63 l0 ((rd_T67 l1 x37_2).f0)).f2))).setCell ⟨gb250, 3, none⟩ (.int .i64 ((rd_T63 l0 ((rd_T67 l1 x37_2).f0)).f3)))) := ⟨by exact vs2 HB.out GE244.out GE250.out⟩; (try clear HO_5); (try clear HO_6); (try clear BK244); (try clear BK250); (try clear HB); generalize ((((w62.setCell ⟨gb250, 0, none⟩ (.int .i64 ((rd_T63 l0 ((rd_T67 l1 x37_2).f0)).f0))).setCell ⟨gb250, 1, none⟩ (.int .i64 ((rd_T63 l0 ((rd_T67 l1 x37_2).f0)).f1))).setCell ⟨gb250, 2, none⟩ (.int .i64 ((rd_T63 l0 ((rd_T67 l1 x37_2).f0)).f2))).setCell ⟨gb250, 3, none⟩ (.int .i64 ((rd_T63 l0 ((rd_T67 l1 x37_2).f0)).f3))) = w69 at n0_ n1_ n2_ n3_ n4_ ⊢
                 have HO_5 := n0_; have HO_6 := n1_; have BK244 := n2_; have BK250 := n3_; have HB := n4_; clear n0_ n1_ n2_ n3_ n4_; have n0_ := ak (Kd.R_drew HO_5.out); have n1_ := ak (Kd.R_drew HO_6.out); have n2_ := ak (blk_drew BK244.out); have n3_ := ak (blk_drew BK250.out); have n4_ := ak (below_drew1 HB.out); clear HO_5; clear HO_6; clear BK244; clear BK250; clear HB; have HO_5 := n0_; have HO_6 := n1_; have BK244 := n2_; have BK250 := n3_; have HB := n4_; clear n0_ n1_ n2_ n3_ n4_; obtain ⟨Ao71, co71, eo71⟩ := Kd.R_slice HO_5.out; (first | subst eo71 | (injection eo71 with f1_ f2_ f3_; have f4_ := f1_.symm; have f5_ := f3_.symm; clear f1_ f2_ f3_; subst f4_; subst f5_)); have p251 : 0 ≤ (((rd_T67 l1 x37_2).f0) : Int) := of_decide_eq_true va; have q251 : ((rd_T67 l1 x37_2).f0) < (x5_2.length : Int) := of_decide_eq_true va; obtain ⟨ad251, e251, hx251_0⟩ := Kd.at_int (Kd.R_reads' HO_5.out).2.2 ((rd_T67 l1 x37_2).f0) p251 q251; cases e251; replace p251 := eq_true p251; replace q251 := eq_true q251; refine start_ (n := 28) (S := fun w' => w'.cell? ⟨gb244, 0, none⟩ = some (.int .i64 ((rd_T67 l1 x37_2).f0)) ∧ w'.cell? ⟨gb244, 1, none⟩ = some (.int .i64 ((rd_T67 l1 x37_2).f1)) ∧ w'.cell? ⟨gb244, 2, none⟩ = some (.int .i64 ((rd_T67 l1 x37_2).f2)) ∧ w'.cell? ⟨gb250, 0, none⟩ = some (.int .i64 ((rd_T63 l0 ((rd_T67 l1 x37_2).f0)).f0)) ∧ w'.cell? ⟨gb250, 1, none⟩ = some (.int .i64 ((rd_T63 l0 ((rd_T67 l1 x37_2).f0)).f1)) ∧ w'.cell? ⟨gb250, 2, none⟩ = some (.int .i64 ((rd_T63 l0 ((rd_T67 l1 x37_2).f0)).f2)) ∧ w'.cell? ⟨gb250, 3, none⟩ = some (.int .i64 ((rd_T63 l0 ((rd_T67 l1 x37_2).f0)).f3)) ∧ w'.cell? (ad251.add (((rd_T67 l1 x37_2).f0)).toNat) = some (.int .i64 (rd x5_2 ((rd_T67 l1 x37_2).f0)))) (ds := []) #[false, false, false, false, false, false, false, false, false, false, false, false, false, false, false, false, false, false, false, false, false, false, false, false, false, false, false, false] (by kernel_rfl) rfl rfl ⟨(blk_cell BK244.out 0).trans rfl, (blk_cell BK244.out 1).trans rfl, (blk_cell BK244.out 2).trans rfl, (blk_cell BK250.out 0).trans rfl, (blk_cell BK250.out 1).trans rfl, (blk_cell BK250.out 2).trans rfl, (blk_cell BK250.out 3).trans rfl, hx251_0⟩ (fun hHeld => ?_); refine with_tabW impl_isPlan.tab13 impl_isPlan.bits13 (fun HT_ HW_ => ?_); generalize w69.drew = w70 at HO_5 HO_6 BK244 BK250 HB hx251_0 hHeld ⊢
                 refine px 0 74 #[true, false, false, false, false, false, false, false, false, false, false, false, false, false, false, false, false, false, false, false, false, false, false, false, false, false, false, false] rfl HT_.out ?_ (.inl ⟨by rfl, ?_⟩) ?_ ?_ ?_; rotate_left
                 ·intro w'; go_simp; with_reducible rfl
                 rotate_left
                 ·simp only [ap1, ap2, ap3, ap4, i64_w, i32_w]; rfl
                 refine px 1 75 #[true, true, false, false, false, false, false, false, false, false, false, false, false, false, false, false, false, false, false, false, false, false, false, false, false, false, false, false] rfl HT_.out ?_ (.inl ⟨by rfl, ?_⟩) ?_ ?_ ?_; rotate_left
                 ·intro w'; go_simp; with_reducible rfl
                 rotate_left
                 ·simp only [ap1, ap2, ap3, ap4, i64_w, i32_w]; rfl
                 refine px 5 79 #[true, true, false, false, false, true, false, false, false, false, false, false, false, false, false, false, false, false, false, false, false, false, false, false, false, false, false, false] rfl HT_.out ?_ (.inl ⟨by rfl, ?_⟩) ?_ ?_ ?_; rotate_left
                 ·intro w'; go_simp; with_reducible rfl
                 rotate_left
                 ·simp only [ap1, ap2, ap3, ap4, i64_w, i32_w]; rfl
                 refine tx 2 76 #[true, true, true, false, false, true, false, false, false, false, false, false, false, false, false, false, false, false, false, false, false, false, false, false, false, false, false, false] rfl HT_.out HW_.out hHeld ?_ (.inl ⟨by rfl, ?_⟩) ?_ ?_ ?_; rotate_left
                 ·rintro w' ⟨s0, s1, s2, s3, s4, s5, s6, s7⟩; go_simp; with_reducible rfl
                 rotate_left
                 ·simp only [ap1, ap2, ap3, ap4, i64_w, i32_w]; rfl
                 refine px 3 77 #[true, true, true, true, false, true, false, false, false, false, false, false, false, false, false, false, false, false, false, false, false, false, false, false, false, false, false, false] rfl HT_.out ?_ (.inl ⟨by rfl, ?_⟩) ?_ ?_ ?_; rotate_left
                 ·intro w'; go_simp; with_reducible rfl
                 rotate_left
                 ·simp only [ap1, ap2, ap3, ap4, i64_w, i32_w]; rfl
                 refine tx 4 78 #[true, true, true, true, true, true, false, false, false, false, false, false, false, false, false, false, false, false, false, false, false, false, false, false, false, false, false, false] rfl HT_.out HW_.out hHeld ?_ (.inl ⟨by rfl, ?_⟩) ?_ ?_ ?_; rotate_left
                 ·rintro w' ⟨s0, s1, s2, s3, s4, s5, s6, s7⟩; go_simp; with_reducible rfl
                 rotate_left
                 ·simp only [ap1, ap2, ap3, ap4, i64_w, i32_w]; rfl
                 refine tx 6 80 #[true, true, true, true, true, true, true, false, false, false, false, false, false, false, false, false, false, false, false, false, false, false, false, false, false, false, false, false] rfl HT_.out HW_.out hHeld ?_ (.inl ⟨by rfl, ?_⟩) ?_ ?_ ?_; rotate_left
                 ·rintro w' ⟨s0, s1, s2, s3, s4, s5, s6, s7⟩; go_simp; with_reducible rfl
                 rotate_left
                 ·simp only [ap1, ap2, ap3, ap4, i64_w, i32_w]; rfl
                 refine px 7 81 #[true, true, true, true, true, true, true, true, false, false, false, false, false, false, false, false, false, false, false, false, false, false, false, false, false, false, false, false] rfl HT_.out ?_ (.inl ⟨by rfl, ?_⟩) ?_ ?_ ?_; rotate_left
                 ·intro w'; go_simp; with_reducible rfl
                 rotate_left
                 ·simp only [ap1, ap2, ap3, ap4, i64_w, i32_w]; rfl
                 refine px 8 82 #[true, true, true, true, true, true, true, true, true, false, false, false, false, false, false, false, false, false, false, false, false, false, false, false, false, false, false, false] rfl HT_.out ?_ (.inl ⟨by rfl, ?_⟩) ?_ ?_ ?_; rotate_left
                 ·intro w'; go_simp; with_reducible rfl
                 rotate_left
                 ·simp only [ap1, ap2, ap3, ap4, i64_w, i32_w]; rfl
                 refine pure_ (i := 9) (N := some 83) (v := undef) (a' := ?_) #[true, true, true, true, true, true, true, true, true, true, false, false, false, false, false, false, false, false, false, false, false, false, false, false, false, false, false, false] rfl rfl (ao HT_.out) (fun _ _ _ h => h) (Or.inr ⟨by rfl, rfl⟩) ?_ ?_; rotate_left
                 ·simp only [ap1, ap2, ap3, ap4, i64_w, i32_w]; rfl
                 refine pure_ (i := 10) (N := some 84) (v := undef) (a' := ?_) #[true, true, true, true, true, true, true, true, true, true, true, false, false, false, false, false, false, false, false, false, false, false, false, false, false, false, false, false] rfl rfl (ao HT_.out) (fun _ _ _ h => h) (Or.inr ⟨by rfl, rfl⟩) ?_ ?_; rotate_left
                 ·simp only [ap1, ap2, ap3, ap4, i64_w, i32_w]; rfl
                 refine pure_ (i := 11) (N := some 85) (v := undef) (a' := ?_) #[true, true, true, true, true, true, true, true, true, true, true, true, false, false, false, false, false, false, false, false, false, false, false, false, false, false, false, false] rfl rfl (ao HT_.out) (fun _ _ _ h => h) (Or.inr ⟨by rfl, rfl⟩) ?_ ?_; rotate_left
                 ·simp only [ap1, ap2, ap3, ap4, i64_w, i32_w]; rfl
                 refine pure_ (i := 12) (N := some 86) (v := undef) (a' := ?_) #[true, true, true, true, true, true, true, true, true, true, true, true, true, false, false, false, false, false, false, false, false, false, false, false, false, false, false, false] rfl rfl (ao HT_.out) (fun _ _ _ h => h) (Or.inr ⟨by rfl, rfl⟩) ?_ ?_; rotate_left
                 ·simp only [ap1, ap2, ap3, ap4, i64_w, i32_w]; rfl
                 refine pure_ (i := 13) (N := some 87) (v := undef) (a' := ?_) #[true, true, true, true, true, true, true, true, true, true, true, true, true, true, false, false, false, false, false, false, false, false, false, false, false, false, false, false] rfl rfl (ao HT_.out) (fun _ _ _ h => h) (Or.inr ⟨by rfl, rfl⟩) ?_ ?_; rotate_left
                 ·simp only [ap1, ap2, ap3, ap4, i64_w, i32_w]; rfl
                 refine pure_ (i := 14) (N := some 88) (v := undef) (a' := ?_) #[true, true, true, true, true, true, true, true, true, true, true, true, true, true, true, false, false, false, false, false, false, false, false, false, false, false, false, false] rfl rfl (ao HT_.out) (fun _ _ _ h => h) (Or.inr ⟨by rfl, rfl⟩) ?_ ?_; rotate_left
                 ·simp only [ap1, ap2, ap3, ap4, i64_w, i32_w]; rfl
                 refine pure_ (i := 15) (N := some 89) (v := undef) (a' := ?_) #[true, true, true, true, true, true, true, true, true, true, true, true, true, true, true, true, false, false, false, false, false, false, false, false, false, false, false, false] rfl rfl (ao HT_.out) (fun _ _ _ h => h) (Or.inr ⟨by rfl, rfl⟩) ?_ ?_; rotate_left
                 ·simp only [ap1, ap2, ap3, ap4, i64_w, i32_w]; rfl
                 refine pure_ (i := 16) (N := some 90) (v := undef) (a' := ?_) #[true, true, true, true, true, true, true, true, true, true, true, true, true, true, true, true, true, false, false, false, false, false, false, false, false, false, false, false] rfl rfl (ao HT_.out) (fun _ _ _ h => h) (Or.inr ⟨by rfl, rfl⟩) ?_ ?_; rotate_left
                 ·simp only [ap1, ap2, ap3, ap4, i64_w, i32_w]; rfl
                 refine px 17 91 #[true, true, true, true, true, true, true, true, true, true, true, true, true, true, true, true, true, true, false, false, false, false, false, false, false, false, false, false] rfl HT_.out ?_ (.inl ⟨by rfl, ?_⟩) ?_ ?_ ?_; rotate_left
                 ·intro w'; go_simp; with_reducible rfl
                 rotate_left
                 ·simp only [ap1, ap2, ap3, ap4, i64_w, i32_w]; rfl
                 refine px 18 92 #[true, true, true, true, true, true, true, true, true, true, true, true, true, true, true, true, true, true, true, false, false, false, false, false, false, false, false, false] rfl HT_.out ?_ (.inl ⟨by rfl, ?_⟩) ?_ ?_ ?_; rotate_left
                 ·intro w'; go_simp; with_reducible rfl
                 rotate_left
                 ·simp only [ap1, ap2, ap3, ap4, i64_w, i32_w]; rfl
                 refine pure_ (i := 19) (N := some 93) (v := undef) (a' := ?_) #[true, true, true, true, true, true, true, true, true, true, true, true, true, true, true, true, true, true, true, true, false, false, false, false, false, false, false, false] rfl rfl (ao HT_.out) (fun _ _ _ h => h) (Or.inr ⟨by rfl, rfl⟩) ?_ ?_; rotate_left
                 ·simp only [ap1, ap2, ap3, ap4, i64_w, i32_w]; rfl
                 refine pure_ (i := 20) (N := some 94) (v := undef) (a' := ?_) #[true, true, true, true, true, true, true, true, true, true, true, true, true, true, true, true, true, true, true, true, true, false, false, false, false, false, false, false] rfl rfl (ao HT_.out) (fun _ _ _ h => h) (Or.inr ⟨by rfl, rfl⟩) ?_ ?_; rotate_left
                 ·simp only [ap1, ap2, ap3, ap4, i64_w, i32_w]; rfl
                 refine pure_ (i := 21) (N := some 95) (v := undef) (a' := ?_) #[true, true, true, true, true, true, true, true, true, true, true, true, true, true, true, true, true, true, true, true, true, true, false, false, false, false, false, false] rfl rfl (ao HT_.out) (fun _ _ _ h => h) (Or.inr ⟨by rfl, rfl⟩) ?_ ?_; rotate_left
                 ·simp only [ap1, ap2, ap3, ap4, i64_w, i32_w]; rfl
                 refine pure_ (i := 22) (N := some 96) (v := undef) (a' := ?_) #[true, true, true, true, true, true, true, true, true, true, true, true, true, true, true, true, true, true, true, true, true, true, true, false, false, false, false, false] rfl rfl (ao HT_.out) (fun _ _ _ h => h) (Or.inr ⟨by rfl, rfl⟩) ?_ ?_; rotate_left
                 ·simp only [ap1, ap2, ap3, ap4, i64_w, i32_w]; rfl
                 refine pure_ (i := 23) (N := some 97) (v := undef) (a' := ?_) #[true, true, true, true, true, true, true, true, true, true, true, true, true, true, true, true, true, true, true, true, true, true, true, true, false, false, false, false] rfl rfl (ao HT_.out) (fun _ _ _ h => h) (Or.inr ⟨by rfl, rfl⟩) ?_ ?_; rotate_left
                 ·simp only [ap1, ap2, ap3, ap4, i64_w, i32_w]; rfl
                 refine pure_ (i := 24) (N := some 98) (v := undef) (a' := ?_) #[true, true, true, true, true, true, true, true, true, true, true, true, true, true, true, true, true, true, true, true, true, true, true, true, true, false, false, false] rfl rfl (ao HT_.out) (fun _ _ _ h => h) (Or.inr ⟨by rfl, rfl⟩) ?_ ?_; rotate_left
                 ·simp only [ap1, ap2, ap3, ap4, i64_w, i32_w]; rfl
                 refine pure_ (i := 25) (N := some 99) (v := undef) (a' := ?_) #[true, true, true, true, true, true, true, true, true, true, true, true, true, true, true, true, true, true, true, true, true, true, true, true, true, true, false, false] rfl rfl (ao HT_.out) (fun _ _ _ h => h) (Or.inr ⟨by rfl, rfl⟩) ?_ ?_; rotate_left
                 ·simp only [ap1, ap2, ap3, ap4, i64_w, i32_w]; rfl
                 refine pure_ (i := 26) (N := some 100) (v := undef) (a' := ?_) #[true, true, true, true, true, true, true, true, true, true, true, true, true, true, true, true, true, true, true, true, true, true, true, true, true, true, true, false] rfl rfl (ao HT_.out) (fun _ _ _ h => h) (Or.inr ⟨by rfl, rfl⟩) ?_ ?_; rotate_left
                 ·simp only [ap1, ap2, ap3, ap4, i64_w, i32_w]; rfl
                 refine px 27 101 #[true, true, true, true, true, true, true, true, true, true, true, true, true, true, true, true, true, true, true, true, true, true, true, true, true, true, true, true] rfl HT_.out ?_ (.inl ⟨by rfl, ?_⟩) ?_ ?_ ?_; rotate_left
                 ·intro w'; go_simp; with_reducible rfl
                 rotate_left
                 ·simp only [ap1, ap2, ap3, ap4, i64_w, i32_w]; rfl
                 refine done_ (done_of HT_.out (by kernel_rfl)) ?_; try go_wp2
                 go_meet
                 case rel => exact ⟨_, (true), (by first | rfl | (simp; done) | (simp [*]; done)), H', ⟨by have := HK1.out; have := HK2.out; have := HJ31.out; first | omega | exact Nat.le_refl _⟩, ⟨by exact vr HO_5.out⟩, ⟨by exact vr HO_6.out⟩, ⟨by exact vb BK244.out⟩, ⟨by exact vb BK250.out⟩, ⟨by exact vs2 HB.out GE244.out GE250.out⟩⟩
                ·rw [if_neg c68] at H
                 have c68b0 : ((rd x5_2 ((rd_T67 l1 x37_2).f0)) == ((rd_T63 l0 ((rd_T67 l1 x37_2).f0)).f1)) = false := beq_eq_false_iff_ne.mpr c68; have c68b1 : ((rd x5_2 ((rd_T67 l1 x37_2).f0)) != ((rd_T63 l0 ((rd_T67 l1 x37_2).f0)).f1)) = true := bne_iff_ne.mpr c68; by_cases c72 : ((rd_T67 l1 x37_2).f1) = (rd x5_2 ((rd_T67 l1 x37_2).f0))
                 ·rw [if_pos c72] at H
                  have c72b0 : (((rd_T67 l1 x37_2).f1) == (rd x5_2 ((rd_T67 l1 x37_2).f0))) = true := beq_iff_eq.mpr c72; have c72b1 : (((rd_T67 l1 x37_2).f1) != (rd x5_2 ((rd_T67 l1 x37_2).f0))) = false := bne_eq_false_iff_eq.mpr c72; clear c72; by_cases c73 : ((rd_T67 l1 x37_2).f0) < (x6_2.length : Int)
                  ·rw [if_pos c73] at H
                   have c73b0 : decide (((rd_T67 l1 x37_2).f0) < (x6_2.length : Int)) = true := decide_eq_true c73; clear c73; have H' := Aside0.mk H; clear H; try go_wp2
                   have n0_ : Aside0 (Kd.R (Kd.int .i64) 3 ((((w62.setCell ⟨gb250, 0, none⟩ (.int .i64 ((rd_T63 l0 ((rd_T67 l1 x37_2).f0)).f0))).setCell ⟨gb250, 1, none⟩ (.int .i64 ((rd_T63 l0 ((rd_T67 l1 x37_2).f0)).f1))).setCell ⟨gb250, 2, none⟩ (.int .i64 ((rd_T63 l0 ((rd_T67 l1 x37_2).f0)).f2))).setCell ⟨gb250, 3, none⟩ (.int .i64 ((rd_T63 l0 ((rd_T67 l1 x37_2).f0)).f3))) w.heap.size (fun k_ => some k_ ≠ (u6 : Value).ownBlock) u5 x5_2) := ⟨by (with_reducible repeat (first | apply Kd.R_alloc | apply Kd.R_drewN | apply Kd.R_drew)); exact Kd.R_mono (Kd.R_far (p := ⟨gb250, 3, none⟩) (Kd.R_far (p := ⟨gb250, 2, none⟩) (Kd.R_far (p := ⟨gb250, 1, none⟩) (Kd.R_far (p := ⟨gb250, 0, none⟩) (Kd.R_types HO_5.out BK250.out (by decide)) (fun _ hk => hk.2) (.int .i64 ((rd_T63 l0 ((rd_T67 l1 x37_2).f0)).f0))) (fun _ hk => hk.2) (.int .i64 ((rd_T63 l0 ((rd_T67 l1 x37_2).f0)).f1))) (fun _ hk => hk.2) (.int .i64 ((rd_T63 l0 ((rd_T67 l1 x37_2).f0)).f2))) (fun _ hk => hk.2) (.int .i64 ((rd_T63 l0 ((rd_T67 l1 x37_2).f0)).f3))) (fun _ hk => hk.1)⟩; have n1_ : Aside0 (Kd.R (Kd.int .i64) 3 ((((w62.setCell ⟨gb250, 0, none⟩ (.int .i64 ((rd_T63 l0 ((rd_T67 l1 x37_2).f0)).f0))).setCell ⟨gb250, 1, none⟩ (.int .i64 ((rd_T63 l0 ((rd_T67 l1 x37_2).f0)).f1))).setCell ⟨gb250, 2, none⟩ (.int .i64 ((rd_T63 l0 ((rd_T67 l1 x37_2).f0)).f2))).setCell ⟨gb250, 3, none⟩ (.int .i64 ((rd_T63 l0 ((rd_T67 l1 x37_2).f0)).f3))) w.heap.size (fun k_ => some k_ ≠ (u5 : Value).ownBlock) u6 x6_2) := ⟨by (with_reducible repeat (first | apply Kd.R_alloc | apply Kd.R_drewN | apply Kd.R_drew)); exact Kd.R_mono (Kd.R_far (p := ⟨gb250, 3, none⟩) (Kd.R_far (p := ⟨gb250, 2, none⟩) (Kd.R_far (p := ⟨gb250, 1, none⟩) (Kd.R_far (p := ⟨gb250, 0, none⟩) (Kd.R_types HO_6.out BK250.out (by decide)) (fun _ hk => hk.2) (.int .i64 ((rd_T63 l0 ((rd_T67 l1 x37_2).f0)).f0))) (fun _ hk => hk.2) (.int .i64 ((rd_T63 l0 ((rd_T67 l1 x37_2).f0)).f1))) (fun _ hk => hk.2) (.int .i64 ((rd_T63 l0 ((rd_T67 l1 x37_2).f0)).f2))) (fun _ hk => hk.2) (.int .i64 ((rd_T63 l0 ((rd_T67 l1 x37_2).f0)).f3))) (fun _ hk => hk.1)⟩; have n2_ : Aside0 (((((w62.setCell ⟨gb250, 0, none⟩ (.int .i64 ((rd_T63 l0 ((rd_T67 l1 x37_2).f0)).f0))).setCell ⟨gb250, 1, none⟩ (.int .i64 ((rd_T63 l0 ((rd_T67 l1 x37_2).f0)).f1))).setCell ⟨gb250, 2, none⟩ (.int .i64 ((rd_T63 l0 ((rd_T67 l1 x37_2).f0)).f2))).setCell ⟨gb250, 3, none⟩ (.int .i64 ((rd_T63 l0 ((rd_T67 l1 x37_2).f0)).f3))).heap[gb244]? = some (.cells #[.int .i64 ((rd_T67 l1 x37_2).f0), .int .i64 ((rd_T67 l1 x37_2).f1), .int .i64 ((rd_T67 l1 x37_2).f2)] 67 (0, 0))) := ⟨by (with_reducible repeat (first | refine blk_drewN ?_ _ | refine blk_drew ?_ | refine blk_alloc ?_ _)); refine blk_far ?_ NB244_250.out _; (with_reducible repeat (first | refine blk_drewN ?_ _ | refine blk_drew ?_ | refine blk_alloc ?_ _)); refine blk_far ?_ NB244_250.out _; (with_reducible repeat (first | refine blk_drewN ?_ _ | refine blk_drew ?_ | refine blk_alloc ?_ _)); refine blk_far ?_ NB244_250.out _; (with_reducible repeat (first | refine blk_drewN ?_ _ | refine blk_drew ?_ | refine blk_alloc ?_ _)); refine blk_far ?_ NB244_250.out _; exact vb BK244.out⟩; have n3_ : Aside0 (((((w62.setCell ⟨gb250, 0, none⟩ (.int .i64 ((rd_T63 l0 ((rd_T67 l1 x37_2).f0)).f0))).setCell ⟨gb250, 1, none⟩ (.int .i64 ((rd_T63 l0 ((rd_T67 l1 x37_2).f0)).f1))).setCell ⟨gb250, 2, none⟩ (.int .i64 ((rd_T63 l0 ((rd_T67 l1 x37_2).f0)).f2))).setCell ⟨gb250, 3, none⟩ (.int .i64 ((rd_T63 l0 ((rd_T67 l1 x37_2).f0)).f3))).heap[gb250]? = some (.cells #[.int .i64 ((rd_T63 l0 ((rd_T67 l1 x37_2).f0)).f0), .int .i64 ((rd_T63 l0 ((rd_T67 l1 x37_2).f0)).f1), .int .i64 ((rd_T63 l0 ((rd_T67 l1 x37_2).f0)).f2), .int .i64 ((rd_T63 l0 ((rd_T67 l1 x37_2).f0)).f3)] 63 (0, 0))) := ⟨by (with_reducible repeat (first | refine blk_drewN ?_ _ | refine blk_drew ?_ | refine blk_alloc ?_ _)); refine blk_put (cs := #[.int .i64 ((rd_T63 l0 ((rd_T67 l1 x37_2).f0)).f0), .int .i64 ((rd_T63 l0 ((rd_T67 l1 x37_2).f0)).f1), .int .i64 ((rd_T63 l0 ((rd_T67 l1 x37_2).f0)).f2), .int .i64 0]) ?_ 3 _ rfl; (with_reducible repeat (first | refine blk_drewN ?_ _ | refine blk_drew ?_ | refine blk_alloc ?_ _)); refine blk_put (cs := #[.int .i64 ((rd_T63 l0 ((rd_T67 l1 x37_2).f0)).f0), .int .i64 ((rd_T63 l0 ((rd_T67 l1 x37_2).f0)).f1), .int .i64 0, .int .i64 0]) ?_ 2 _ rfl; (with_reducible repeat (first | refine blk_drewN ?_ _ | refine blk_drew ?_ | refine blk_alloc ?_ _)); refine blk_put (cs := #[.int .i64 ((rd_T63 l0 ((rd_T67 l1 x37_2).f0)).f0), .int .i64 0, .int .i64 0, .int .i64 0]) ?_ 1 _ rfl; (with_reducible repeat (first | refine blk_drewN ?_ _ | refine blk_drew ?_ | refine blk_alloc ?_ _)); refine blk_put (cs := #[.int .i64 0, .int .i64 0, .int .i64 0, .int .i64 0]) ?_ 0 _ rfl; exact vb BK250.out⟩; have n4_ : Aside0 (Below w.heap.size w ((((w62.setCell ⟨gb250, 0, none⟩ (.int .i64 ((rd_T63 l0 ((rd_T67 l1 x37_2).f0)).f0))).setCell ⟨gb250, 1, none⟩ (.int .i64 ((rd_T63 l0 ((rd_T67 l1 x37_2).f0)).f1))).setCell ⟨gb250, 2, none⟩ (.int .i64 ((rd_T63 l0 ((rd_T67 l1 x37_2).f0)).f2))).setCell ⟨gb250, 3, none⟩ (.int .i64 ((rd_T63 l0 ((rd_T67 l1 x37_2).f0)).f3)))) := ⟨by exact vs2 HB.out GE244.out GE250.out⟩; (try clear HO_5); (try clear HO_6); (try clear BK244); (try clear BK250); (try clear HB); generalize ((((w62.setCell ⟨gb250, 0, none⟩ (.int .i64 ((rd_T63 l0 ((rd_T67 l1 x37_2).f0)).f0))).setCell ⟨gb250, 1, none⟩ (.int .i64 ((rd_T63 l0 ((rd_T67 l1 x37_2).f0)).f1))).setCell ⟨gb250, 2, none⟩ (.int .i64 ((rd_T63 l0 ((rd_T67 l1 x37_2).f0)).f2))).setCell ⟨gb250, 3, none⟩ (.int .i64 ((rd_T63 l0 ((rd_T67 l1 x37_2).f0)).f3))) = w74 at n0_ n1_ n2_ n3_ n4_ ⊢
                   have HO_5 := n0_; have HO_6 := n1_; have BK244 := n2_; have BK250 := n3_; have HB := n4_; clear n0_ n1_ n2_ n3_ n4_; have n0_ := ak (Kd.R_drew HO_5.out); have n1_ := ak (Kd.R_drew HO_6.out); have n2_ := ak (blk_drew BK244.out); have n3_ := ak (blk_drew BK250.out); have n4_ := ak (below_drew1 HB.out); clear HO_5; clear HO_6; clear BK244; clear BK250; clear HB; have HO_5 := n0_; have HO_6 := n1_; have BK244 := n2_; have BK250 := n3_; have HB := n4_; clear n0_ n1_ n2_ n3_ n4_; obtain ⟨Ao76, co76, eo76⟩ := Kd.R_slice HO_5.out; (first | subst eo76 | (injection eo76 with f1_ f2_ f3_; have f4_ := f1_.symm; have f5_ := f3_.symm; clear f1_ f2_ f3_; subst f4_; subst f5_)); have p251 : 0 ≤ (((rd_T67 l1 x37_2).f0) : Int) := of_decide_eq_true va; have q251 : ((rd_T67 l1 x37_2).f0) < (x5_2.length : Int) := of_decide_eq_true va; obtain ⟨ad251, e251, hx251_0⟩ := Kd.at_int (Kd.R_reads' HO_5.out).2.2 ((rd_T67 l1 x37_2).f0) p251 q251; cases e251; replace p251 := eq_true p251; replace q251 := eq_true q251; have p252 : 0 ≤ (((rd_T67 l1 x37_2).f0) : Int) := of_decide_eq_true va; have q252 : ((rd_T67 l1 x37_2).f0) < (x5_2.length : Int) := of_decide_eq_true va; obtain ⟨ad252, e252, hx252_0⟩ := Kd.at_int (Kd.R_reads' HO_5.out).2.2 ((rd_T67 l1 x37_2).f0) p252 q252; obtain rfl : ad251 = ad252 := (by injection e252); replace p252 := eq_true p252; replace q252 := eq_true q252; obtain ⟨Ao77, co77, eo77⟩ := Kd.R_slice HO_6.out; (first | subst eo77 | (injection eo77 with f1_ f2_ f3_; have f4_ := f1_.symm; have f5_ := f3_.symm; clear f1_ f2_ f3_; subst f4_; subst f5_)); have p253 : 0 ≤ (((rd_T67 l1 x37_2).f0) : Int) := of_decide_eq_true va; have q253 : ((rd_T67 l1 x37_2).f0) < (x6_2.length : Int) := of_decide_eq_true va; obtain ⟨ad253, e253, hx253_0⟩ := Kd.at_int (Kd.R_reads' HO_6.out).2.2 ((rd_T67 l1 x37_2).f0) p253 q253; cases e253; replace p253 := eq_true p253; replace q253 := eq_true q253; refine start_ (n := 28) (S := fun w' => w'.cell? ⟨gb244, 0, none⟩ = some (.int .i64 ((rd_T67 l1 x37_2).f0)) ∧ w'.cell? ⟨gb244, 1, none⟩ = some (.int .i64 ((rd_T67 l1 x37_2).f1)) ∧ w'.cell? ⟨gb244, 2, none⟩ = some (.int .i64 ((rd_T67 l1 x37_2).f2)) ∧ w'.cell? ⟨gb250, 0, none⟩ = some (.int .i64 ((rd_T63 l0 ((rd_T67 l1 x37_2).f0)).f0)) ∧ w'.cell? ⟨gb250, 1, none⟩ = some (.int .i64 ((rd_T63 l0 ((rd_T67 l1 x37_2).f0)).f1)) ∧ w'.cell? ⟨gb250, 2, none⟩ = some (.int .i64 ((rd_T63 l0 ((rd_T67 l1 x37_2).f0)).f2)) ∧ w'.cell? ⟨gb250, 3, none⟩ = some (.int .i64 ((rd_T63 l0 ((rd_T67 l1 x37_2).f0)).f3)) ∧ w'.cell? (ad251.add (((rd_T67 l1 x37_2).f0)).toNat) = some (.int .i64 (rd x5_2 ((rd_T67 l1 x37_2).f0))) ∧ w'.cell? (ad251.add (((rd_T67 l1 x37_2).f0)).toNat) = some (.int .i64 (rd x5_2 ((rd_T67 l1 x37_2).f0))) ∧ w'.cell? (ad253.add (((rd_T67 l1 x37_2).f0)).toNat) = some (.int .i64 (rd x6_2 ((rd_T67 l1 x37_2).f0)))) (ds := []) #[false, false, false, false, false, false, false, false, false, false, false, false, false, false, false, false, false, false, false, false, false, false, false, false, false, false, false, false] (by kernel_rfl) rfl rfl ⟨(blk_cell BK244.out 0).trans rfl, (blk_cell BK244.out 1).trans rfl, (blk_cell BK244.out 2).trans rfl, (blk_cell BK250.out 0).trans rfl, (blk_cell BK250.out 1).trans rfl, (blk_cell BK250.out 2).trans rfl, (blk_cell BK250.out 3).trans rfl, hx251_0, hx252_0, hx253_0⟩ (fun hHeld => ?_); refine with_tabW impl_isPlan.tab13 impl_isPlan.bits13 (fun HT_ HW_ => ?_); generalize w74.drew = w75 at HO_5 HO_6 BK244 BK250 HB hx251_0 hx252_0 hx253_0 hHeld ⊢
                   refine px 0 74 #[true, false, false, false, false, false, false, false, false, false, false, false, false, false, false, false, false, false, false, false, false, false, false, false, false, false, false, false] rfl HT_.out ?_ (.inl ⟨by rfl, ?_⟩) ?_ ?_ ?_; rotate_left
                   ·intro w'; go_simp; with_reducible rfl
                   rotate_left
                   ·simp only [ap1, ap2, ap3, ap4, i64_w, i32_w]; rfl
                   refine px 1 75 #[true, true, false, false, false, false, false, false, false, false, false, false, false, false, false, false, false, false, false, false, false, false, false, false, false, false, false, false] rfl HT_.out ?_ (.inl ⟨by rfl, ?_⟩) ?_ ?_ ?_; rotate_left
                   ·intro w'; go_simp; with_reducible rfl
                   rotate_left
                   ·simp only [ap1, ap2, ap3, ap4, i64_w, i32_w]; rfl
                   refine px 5 79 #[true, true, false, false, false, true, false, false, false, false, false, false, false, false, false, false, false, false, false, false, false, false, false, false, false, false, false, false] rfl HT_.out ?_ (.inl ⟨by rfl, ?_⟩) ?_ ?_ ?_; rotate_left
                   ·intro w'; go_simp; with_reducible rfl
                   rotate_left
                   ·simp only [ap1, ap2, ap3, ap4, i64_w, i32_w]; rfl
                   refine tx 2 76 #[true, true, true, false, false, true, false, false, false, false, false, false, false, false, false, false, false, false, false, false, false, false, false, false, false, false, false, false] rfl HT_.out HW_.out hHeld ?_ (.inl ⟨by rfl, ?_⟩) ?_ ?_ ?_; rotate_left
                   ·rintro w' ⟨s0, s1, s2, s3, s4, s5, s6, s7, s8, s9⟩; go_simp; with_reducible rfl
                   rotate_left
                   ·simp only [ap1, ap2, ap3, ap4, i64_w, i32_w]; rfl
                   refine px 3 77 #[true, true, true, true, false, true, false, false, false, false, false, false, false, false, false, false, false, false, false, false, false, false, false, false, false, false, false, false] rfl HT_.out ?_ (.inl ⟨by rfl, ?_⟩) ?_ ?_ ?_; rotate_left
                   ·intro w'; go_simp; with_reducible rfl
                   rotate_left
                   ·simp only [ap1, ap2, ap3, ap4, i64_w, i32_w]; rfl
                   refine tx 4 78 #[true, true, true, true, true, true, false, false, false, false, false, false, false, false, false, false, false, false, false, false, false, false, false, false, false, false, false, false] rfl HT_.out HW_.out hHeld ?_ (.inl ⟨by rfl, ?_⟩) ?_ ?_ ?_; rotate_left
                   ·rintro w' ⟨s0, s1, s2, s3, s4, s5, s6, s7, s8, s9⟩; go_simp; with_reducible rfl
                   rotate_left
                   ·simp only [ap1, ap2, ap3, ap4, i64_w, i32_w]; rfl
                   refine tx 6 80 #[true, true, true, true, true, true, true, false, false, false, false, false, false, false, false, false, false, false, false, false, false, false, false, false, false, false, false, false] rfl HT_.out HW_.out hHeld ?_ (.inl ⟨by rfl, ?_⟩) ?_ ?_ ?_; rotate_left
                   ·rintro w' ⟨s0, s1, s2, s3, s4, s5, s6, s7, s8, s9⟩; go_simp; with_reducible rfl
                   rotate_left
                   ·simp only [ap1, ap2, ap3, ap4, i64_w, i32_w]; rfl
                   refine px 7 81 #[true, true, true, true, true, true, true, true, false, false, false, false, false, false, false, false, false, false, false, false, false, false, false, false, false, false, false, false] rfl HT_.out ?_ (.inl ⟨by rfl, ?_⟩) ?_ ?_ ?_; rotate_left
                   ·intro w'; go_simp; with_reducible rfl
                   rotate_left
                   ·simp only [ap1, ap2, ap3, ap4, i64_w, i32_w]; rfl
                   refine px 8 82 #[true, true, true, true, true, true, true, true, true, false, false, false, false, false, false, false, false, false, false, false, false, false, false, false, false, false, false, false] rfl HT_.out ?_ (.inl ⟨by rfl, ?_⟩) ?_ ?_ ?_; rotate_left
                   ·intro w'; go_simp; with_reducible rfl
                   rotate_left
                   ·simp only [ap1, ap2, ap3, ap4, i64_w, i32_w]; rfl
                   refine px 9 83 #[true, true, true, true, true, true, true, true, true, true, false, false, false, false, false, false, false, false, false, false, false, false, false, false, false, false, false, false] rfl HT_.out ?_ (.inl ⟨by rfl, ?_⟩) ?_ ?_ ?_; rotate_left
                   ·intro w'; go_simp; with_reducible rfl
                   rotate_left
                   ·simp only [ap1, ap2, ap3, ap4, i64_w, i32_w]; rfl
                   refine px 11 85 #[true, true, true, true, true, true, true, true, true, true, false, true, false, false, false, false, false, false, false, false, false, false, false, false, false, false, false, false] rfl HT_.out ?_ (.inl ⟨by rfl, ?_⟩) ?_ ?_ ?_; rotate_left
                   ·intro w'; go_simp; with_reducible rfl
                   rotate_left
                   ·simp only [ap1, ap2, ap3, ap4, i64_w, i32_w]; rfl
                   refine px 12 86 #[true, true, true, true, true, true, true, true, true, true, false, true, true, false, false, false, false, false, false, false, false, false, false, false, false, false, false, false] rfl HT_.out ?_ (.inl ⟨by rfl, ?_⟩) ?_ ?_ ?_; rotate_left
                   ·intro w'; go_simp; with_reducible rfl
                   rotate_left
                   ·simp only [ap1, ap2, ap3, ap4, i64_w, i32_w]; rfl
                   refine tx 10 84 #[true, true, true, true, true, true, true, true, true, true, true, true, true, false, false, false, false, false, false, false, false, false, false, false, false, false, false, false] rfl HT_.out HW_.out hHeld ?_ (.inl ⟨by rfl, ?_⟩) ?_ ?_ ?_; rotate_left
                   ·rintro w' ⟨s0, s1, s2, s3, s4, s5, s6, s7, s8, s9⟩; go_simp; with_reducible rfl
                   rotate_left
                   ·simp only [ap1, ap2, ap3, ap4, i64_w, i32_w]; rfl
                   refine tx 13 87 #[true, true, true, true, true, true, true, true, true, true, true, true, true, true, false, false, false, false, false, false, false, false, false, false, false, false, false, false] rfl HT_.out HW_.out hHeld ?_ (.inl ⟨by rfl, ?_⟩) ?_ ?_ ?_; rotate_left
                   ·rintro w' ⟨s0, s1, s2, s3, s4, s5, s6, s7, s8, s9⟩; go_simp; with_reducible rfl
                   rotate_left
                   ·simp only [ap1, ap2, ap3, ap4, i64_w, i32_w]; rfl
                   refine px 14 88 #[true, true, true, true, true, true, true, true, true, true, true, true, true, true, true, false, false, false, false, false, false, false, false, false, false, false, false, false] rfl HT_.out ?_ (.inl ⟨by rfl, ?_⟩) ?_ ?_ ?_; rotate_left
                   ·intro w'; go_simp; with_reducible rfl
                   rotate_left
                   ·simp only [ap1, ap2, ap3, ap4, i64_w, i32_w]; rfl
                   refine tx 15 89 #[true, true, true, true, true, true, true, true, true, true, true, true, true, true, true, true, false, false, false, false, false, false, false, false, false, false, false, false] rfl HT_.out HW_.out hHeld ?_ (.inl ⟨by rfl, ?_⟩) ?_ ?_ ?_; rotate_left
                   ·rintro w' ⟨s0, s1, s2, s3, s4, s5, s6, s7, s8, s9⟩; go_simp; with_reducible rfl
                   rotate_left
                   ·simp only [ap1, ap2, ap3, ap4, i64_w, i32_w]; rfl
                   refine px 16 90 #[true, true, true, true, true, true, true, true, true, true, true, true, true, true, true, true, true, false, false, false, false, false, false, false, false, false, false, false] rfl HT_.out ?_ (.inl ⟨by rfl, ?_⟩) ?_ ?_ ?_; rotate_left
                   ·intro w'; go_simp; with_reducible rfl
                   rotate_left
                   ·simp only [ap1, ap2, ap3, ap4, i64_w, i32_w]; rfl
                   refine px 17 91 #[true, true, true, true, true, true, true, true, true, true, true, true, true, true, true, true, true, true, false, false, false, false, false, false, false, false, false, false] rfl HT_.out ?_ (.inl ⟨by rfl, ?_⟩) ?_ ?_ ?_; rotate_left
                   ·intro w'; go_simp; with_reducible rfl
                   rotate_left
                   ·simp only [ap1, ap2, ap3, ap4, i64_w, i32_w]; rfl
                   refine px 18 92 #[true, true, true, true, true, true, true, true, true, true, true, true, true, true, true, true, true, true, true, false, false, false, false, false, false, false, false, false] rfl HT_.out ?_ (.inl ⟨by rfl, ?_⟩) ?_ ?_ ?_; rotate_left
                   ·intro w'; go_simp; with_reducible rfl
                   rotate_left
                   ·simp only [ap1, ap2, ap3, ap4, i64_w, i32_w]; rfl
                   refine px 19 93 #[true, true, true, true, true, true, true, true, true, true, true, true, true, true, true, true, true, true, true, true, false, false, false, false, false, false, false, false] rfl HT_.out ?_ (.inl ⟨by rfl, ?_⟩) ?_ ?_ ?_; rotate_left
                   ·intro w'; go_simp; with_reducible rfl
                   rotate_left
                   ·simp only [ap1, ap2, ap3, ap4, i64_w, i32_w]; rfl
                   refine px 21 95 #[true, true, true, true, true, true, true, true, true, true, true, true, true, true, true, true, true, true, true, true, false, true, false, false, false, false, false, false] rfl HT_.out ?_ (.inl ⟨by rfl, ?_⟩) ?_ ?_ ?_; rotate_left
                   ·intro w'; go_simp; with_reducible rfl
                   rotate_left
                   ·simp only [ap1, ap2, ap3, ap4, i64_w, i32_w]; rfl
                   refine px 22 96 #[true, true, true, true, true, true, true, true, true, true, true, true, true, true, true, true, true, true, true, true, false, true, true, false, false, false, false, false] rfl HT_.out ?_ (.inl ⟨by rfl, ?_⟩) ?_ ?_ ?_; rotate_left
                   ·intro w'; go_simp; with_reducible rfl
                   rotate_left
                   ·simp only [ap1, ap2, ap3, ap4, i64_w, i32_w]; rfl
                   refine tx 20 94 #[true, true, true, true, true, true, true, true, true, true, true, true, true, true, true, true, true, true, true, true, true, true, true, false, false, false, false, false] rfl HT_.out HW_.out hHeld ?_ (.inl ⟨by rfl, ?_⟩) ?_ ?_ ?_; rotate_left
                   ·rintro w' ⟨s0, s1, s2, s3, s4, s5, s6, s7, s8, s9⟩; go_simp; with_reducible rfl
                   rotate_left
                   ·simp only [ap1, ap2, ap3, ap4, i64_w, i32_w]; rfl
                   refine tx 23 97 #[true, true, true, true, true, true, true, true, true, true, true, true, true, true, true, true, true, true, true, true, true, true, true, true, false, false, false, false] rfl HT_.out HW_.out hHeld ?_ (.inl ⟨by rfl, ?_⟩) ?_ ?_ ?_; rotate_left
                   ·rintro w' ⟨s0, s1, s2, s3, s4, s5, s6, s7, s8, s9⟩; go_simp; with_reducible rfl
                   rotate_left
                   ·simp only [ap1, ap2, ap3, ap4, i64_w, i32_w]; rfl
                   refine px 24 98 #[true, true, true, true, true, true, true, true, true, true, true, true, true, true, true, true, true, true, true, true, true, true, true, true, true, false, false, false] rfl HT_.out ?_ (.inl ⟨by rfl, ?_⟩) ?_ ?_ ?_; rotate_left
                   ·intro w'; go_simp; with_reducible rfl
                   rotate_left
                   ·simp only [ap1, ap2, ap3, ap4, i64_w, i32_w]; rfl
                   refine tx 25 99 #[true, true, true, true, true, true, true, true, true, true, true, true, true, true, true, true, true, true, true, true, true, true, true, true, true, true, false, false] rfl HT_.out HW_.out hHeld ?_ (.inl ⟨by rfl, ?_⟩) ?_ ?_ ?_; rotate_left
                   ·rintro w' ⟨s0, s1, s2, s3, s4, s5, s6, s7, s8, s9⟩; go_simp; with_reducible rfl
                   rotate_left
                   ·simp only [ap1, ap2, ap3, ap4, i64_w, i32_w]; rfl
                   refine px 26 100 #[true, true, true, true, true, true, true, true, true, true, true, true, true, true, true, true, true, true, true, true, true, true, true, true, true, true, true, false] rfl HT_.out ?_ (.inl ⟨by rfl, ?_⟩) ?_ ?_ ?_; rotate_left
                   ·intro w'; go_simp; with_reducible rfl
                   rotate_left
                   ·simp only [ap1, ap2, ap3, ap4, i64_w, i32_w]; rfl
                   refine px 27 101 #[true, true, true, true, true, true, true, true, true, true, true, true, true, true, true, true, true, true, true, true, true, true, true, true, true, true, true, true] rfl HT_.out ?_ (.inl ⟨by rfl, ?_⟩) ?_ ?_ ?_; rotate_left
                   ·intro w'; go_simp; with_reducible rfl
                   rotate_left
                   ·simp only [ap1, ap2, ap3, ap4, i64_w, i32_w]; rfl
                   refine done_ (done_of HT_.out (by kernel_rfl)) ?_; try go_wp2
                   go_meet
                   case rel => exact ⟨_, (decide (((rd_T67 l1 x37_2).f2) < (rd x6_2 ((rd_T67 l1 x37_2).f0)))), (by first | rfl | (simp; done) | (simp [*]; done)), H', ⟨by have := HK1.out; have := HK2.out; have := HJ31.out; first | omega | exact Nat.le_refl _⟩, ⟨by exact vr HO_5.out⟩, ⟨by exact vr HO_6.out⟩, ⟨by exact vb BK244.out⟩, ⟨by exact vb BK250.out⟩, ⟨by exact vs2 HB.out GE244.out GE250.out⟩⟩
                  ·rw [if_neg c73] at H
                   exact absurd H (by simp)
                 ·rw [if_neg c72] at H
                  have c72b0 : (((rd_T67 l1 x37_2).f1) == (rd x5_2 ((rd_T67 l1 x37_2).f0))) = false := beq_eq_false_iff_ne.mpr c72; have c72b1 : (((rd_T67 l1 x37_2).f1) != (rd x5_2 ((rd_T67 l1 x37_2).f0))) = true := bne_iff_ne.mpr c72; have H' := Aside0.mk H; clear H; try go_wp2
                  have n0_ : Aside0 (Kd.R (Kd.int .i64) 3 ((((w62.setCell ⟨gb250, 0, none⟩ (.int .i64 ((rd_T63 l0 ((rd_T67 l1 x37_2).f0)).f0))).setCell ⟨gb250, 1, none⟩ (.int .i64 ((rd_T63 l0 ((rd_T67 l1 x37_2).f0)).f1))).setCell ⟨gb250, 2, none⟩ (.int .i64 ((rd_T63 l0 ((rd_T67 l1 x37_2).f0)).f2))).setCell ⟨gb250, 3, none⟩ (.int .i64 ((rd_T63 l0 ((rd_T67 l1 x37_2).f0)).f3))) w.heap.size (fun k_ => some k_ ≠ (u6 : Value).ownBlock) u5 x5_2) := ⟨by (with_reducible repeat (first | apply Kd.R_alloc | apply Kd.R_drewN | apply Kd.R_drew)); exact Kd.R_mono (Kd.R_far (p := ⟨gb250, 3, none⟩) (Kd.R_far (p := ⟨gb250, 2, none⟩) (Kd.R_far (p := ⟨gb250, 1, none⟩) (Kd.R_far (p := ⟨gb250, 0, none⟩) (Kd.R_types HO_5.out BK250.out (by decide)) (fun _ hk => hk.2) (.int .i64 ((rd_T63 l0 ((rd_T67 l1 x37_2).f0)).f0))) (fun _ hk => hk.2) (.int .i64 ((rd_T63 l0 ((rd_T67 l1 x37_2).f0)).f1))) (fun _ hk => hk.2) (.int .i64 ((rd_T63 l0 ((rd_T67 l1 x37_2).f0)).f2))) (fun _ hk => hk.2) (.int .i64 ((rd_T63 l0 ((rd_T67 l1 x37_2).f0)).f3))) (fun _ hk => hk.1)⟩; have n1_ : Aside0 (Kd.R (Kd.int .i64) 3 ((((w62.setCell ⟨gb250, 0, none⟩ (.int .i64 ((rd_T63 l0 ((rd_T67 l1 x37_2).f0)).f0))).setCell ⟨gb250, 1, none⟩ (.int .i64 ((rd_T63 l0 ((rd_T67 l1 x37_2).f0)).f1))).setCell ⟨gb250, 2, none⟩ (.int .i64 ((rd_T63 l0 ((rd_T67 l1 x37_2).f0)).f2))).setCell ⟨gb250, 3, none⟩ (.int .i64 ((rd_T63 l0 ((rd_T67 l1 x37_2).f0)).f3))) w.heap.size (fun k_ => some k_ ≠ (u5 : Value).ownBlock) u6 x6_2) := ⟨by (with_reducible repeat (first | apply Kd.R_alloc | apply Kd.R_drewN | apply Kd.R_drew)); exact Kd.R_mono (Kd.R_far (p := ⟨gb250, 3, none⟩) (Kd.R_far (p := ⟨gb250, 2, none⟩) (Kd.R_far (p := ⟨gb250, 1, none⟩) (Kd.R_far (p := ⟨gb250, 0, none⟩) (Kd.R_types HO_6.out BK250.out (by decide)) (fun _ hk => hk.2) (.int .i64 ((rd_T63 l0 ((rd_T67 l1 x37_2).f0)).f0))) (fun _ hk => hk.2) (.int .i64 ((rd_T63 l0 ((rd_T67 l1 x37_2).f0)).f1))) (fun _ hk => hk.2) (.int .i64 ((rd_T63 l0 ((rd_T67 l1 x37_2).f0)).f2))) (fun _ hk => hk.2) (.int .i64 ((rd_T63 l0 ((rd_T67 l1 x37_2).f0)).f3))) (fun _ hk => hk.1)⟩; have n2_ : Aside0 (((((w62.setCell ⟨gb250, 0, none⟩ (.int .i64 ((rd_T63 l0 ((rd_T67 l1 x37_2).f0)).f0))).setCell ⟨gb250, 1, none⟩ (.int .i64 ((rd_T63 l0 ((rd_T67 l1 x37_2).f0)).f1))).setCell ⟨gb250, 2, none⟩ (.int .i64 ((rd_T63 l0 ((rd_T67 l1 x37_2).f0)).f2))).setCell ⟨gb250, 3, none⟩ (.int .i64 ((rd_T63 l0 ((rd_T67 l1 x37_2).f0)).f3))).heap[gb244]? = some (.cells #[.int .i64 ((rd_T67 l1 x37_2).f0), .int .i64 ((rd_T67 l1 x37_2).f1), .int .i64 ((rd_T67 l1 x37_2).f2)] 67 (0, 0))) := ⟨by (with_reducible repeat (first | refine blk_drewN ?_ _ | refine blk_drew ?_ | refine blk_alloc ?_ _)); refine blk_far ?_ NB244_250.out _; (with_reducible repeat (first | refine blk_drewN ?_ _ | refine blk_drew ?_ | refine blk_alloc ?_ _)); refine blk_far ?_ NB244_250.out _; (with_reducible repeat (first | refine blk_drewN ?_ _ | refine blk_drew ?_ | refine blk_alloc ?_ _)); refine blk_far ?_ NB244_250.out _; (with_reducible repeat (first | refine blk_drewN ?_ _ | refine blk_drew ?_ | refine blk_alloc ?_ _)); refine blk_far ?_ NB244_250.out _; exact vb BK244.out⟩; have n3_ : Aside0 (((((w62.setCell ⟨gb250, 0, none⟩ (.int .i64 ((rd_T63 l0 ((rd_T67 l1 x37_2).f0)).f0))).setCell ⟨gb250, 1, none⟩ (.int .i64 ((rd_T63 l0 ((rd_T67 l1 x37_2).f0)).f1))).setCell ⟨gb250, 2, none⟩ (.int .i64 ((rd_T63 l0 ((rd_T67 l1 x37_2).f0)).f2))).setCell ⟨gb250, 3, none⟩ (.int .i64 ((rd_T63 l0 ((rd_T67 l1 x37_2).f0)).f3))).heap[gb250]? = some (.cells #[.int .i64 ((rd_T63 l0 ((rd_T67 l1 x37_2).f0)).f0), .int .i64 ((rd_T63 l0 ((rd_T67 l1 x37_2).f0)).f1), .int .i64 ((rd_T63 l0 ((rd_T67 l1 x37_2).f0)).f2), .int .i64 ((rd_T63 l0 ((rd_T67 l1 x37_2).f0)).f3)] 63 (0, 0))) := ⟨by (with_reducible repeat (first | refine blk_drewN ?_ _ | refine blk_drew ?_ | refine blk_alloc ?_ _)); refine blk_put (cs := #[.int .i64 ((rd_T63 l0 ((rd_T67 l1 x37_2).f0)).f0), .int .i64 ((rd_T63 l0 ((rd_T67 l1 x37_2).f0)).f1), .int .i64 ((rd_T63 l0 ((rd_T67 l1 x37_2).f0)).f2), .int .i64 0]) ?_ 3 _ rfl; (with_reducible repeat (first | refine blk_drewN ?_ _ | refine blk_drew ?_ | refine blk_alloc ?_ _)); refine blk_put (cs := #[.int .i64 ((rd_T63 l0 ((rd_T67 l1 x37_2).f0)).f0), .int .i64 ((rd_T63 l0 ((rd_T67 l1 x37_2).f0)).f1), .int .i64 0, .int .i64 0]) ?_ 2 _ rfl; (with_reducible repeat (first | refine blk_drewN ?_ _ | refine blk_drew ?_ | refine blk_alloc ?_ _)); refine blk_put (cs := #[.int .i64 ((rd_T63 l0 ((rd_T67 l1 x37_2).f0)).f0), .int .i64 0, .int .i64 0, .int .i64 0]) ?_ 1 _ rfl; (with_reducible repeat (first | refine blk_drewN ?_ _ | refine blk_drew ?_ | refine blk_alloc ?_ _)); refine blk_put (cs := #[.int .i64 0, .int .i64 0, .int .i64 0, .int .i64 0]) ?_ 0 _ rfl; exact vb BK250.out⟩; have n4_ : Aside0 (Below w.heap.size w ((((w62.setCell ⟨gb250, 0, none⟩ (.int .i64 ((rd_T63 l0 ((rd_T67 l1 x37_2).f0)).f0))).setCell ⟨gb250, 1, none⟩ (.int .i64 ((rd_T63 l0 ((rd_T67 l1 x37_2).f0)).f1))).setCell ⟨gb250, 2, none⟩ (.int .i64 ((rd_T63 l0 ((rd_T67 l1 x37_2).f0)).f2))).setCell ⟨gb250, 3, none⟩ (.int .i64 ((rd_T63 l0 ((rd_T67 l1 x37_2).f0)).f3)))) := ⟨by exact vs2 HB.out GE244.out GE250.out⟩; (try clear HO_5); (try clear HO_6); (try clear BK244); (try clear BK250); (try clear HB); generalize ((((w62.setCell ⟨gb250, 0, none⟩ (.int .i64 ((rd_T63 l0 ((rd_T67 l1 x37_2).f0)).f0))).setCell ⟨gb250, 1, none⟩ (.int .i64 ((rd_T63 l0 ((rd_T67 l1 x37_2).f0)).f1))).setCell ⟨gb250, 2, none⟩ (.int .i64 ((rd_T63 l0 ((rd_T67 l1 x37_2).f0)).f2))).setCell ⟨gb250, 3, none⟩ (.int .i64 ((rd_T63 l0 ((rd_T67 l1 x37_2).f0)).f3))) = w78 at n0_ n1_ n2_ n3_ n4_ ⊢
                  have HO_5 := n0_; have HO_6 := n1_; have BK244 := n2_; have BK250 := n3_; have HB := n4_; clear n0_ n1_ n2_ n3_ n4_; have n0_ := ak (Kd.R_drew HO_5.out); have n1_ := ak (Kd.R_drew HO_6.out); have n2_ := ak (blk_drew BK244.out); have n3_ := ak (blk_drew BK250.out); have n4_ := ak (below_drew1 HB.out); clear HO_5; clear HO_6; clear BK244; clear BK250; clear HB; have HO_5 := n0_; have HO_6 := n1_; have BK244 := n2_; have BK250 := n3_; have HB := n4_; clear n0_ n1_ n2_ n3_ n4_; obtain ⟨Ao80, co80, eo80⟩ := Kd.R_slice HO_5.out; (first | subst eo80 | (injection eo80 with f1_ f2_ f3_; have f4_ := f1_.symm; have f5_ := f3_.symm; clear f1_ f2_ f3_; subst f4_; subst f5_)); have p251 : 0 ≤ (((rd_T67 l1 x37_2).f0) : Int) := of_decide_eq_true va; have q251 : ((rd_T67 l1 x37_2).f0) < (x5_2.length : Int) := of_decide_eq_true va; obtain ⟨ad251, e251, hx251_0⟩ := Kd.at_int (Kd.R_reads' HO_5.out).2.2 ((rd_T67 l1 x37_2).f0) p251 q251; cases e251; replace p251 := eq_true p251; replace q251 := eq_true q251; have p252 : 0 ≤ (((rd_T67 l1 x37_2).f0) : Int) := of_decide_eq_true va; have q252 : ((rd_T67 l1 x37_2).f0) < (x5_2.length : Int) := of_decide_eq_true va; obtain ⟨ad252, e252, hx252_0⟩ := Kd.at_int (Kd.R_reads' HO_5.out).2.2 ((rd_T67 l1 x37_2).f0) p252 q252; obtain rfl : ad251 = ad252 := (by injection e252); replace p252 := eq_true p252; replace q252 := eq_true q252; refine start_ (n := 28) (S := fun w' => w'.cell? ⟨gb244, 0, none⟩ = some (.int .i64 ((rd_T67 l1 x37_2).f0)) ∧ w'.cell? ⟨gb244, 1, none⟩ = some (.int .i64 ((rd_T67 l1 x37_2).f1)) ∧ w'.cell? ⟨gb244, 2, none⟩ = some (.int .i64 ((rd_T67 l1 x37_2).f2)) ∧ w'.cell? ⟨gb250, 0, none⟩ = some (.int .i64 ((rd_T63 l0 ((rd_T67 l1 x37_2).f0)).f0)) ∧ w'.cell? ⟨gb250, 1, none⟩ = some (.int .i64 ((rd_T63 l0 ((rd_T67 l1 x37_2).f0)).f1)) ∧ w'.cell? ⟨gb250, 2, none⟩ = some (.int .i64 ((rd_T63 l0 ((rd_T67 l1 x37_2).f0)).f2)) ∧ w'.cell? ⟨gb250, 3, none⟩ = some (.int .i64 ((rd_T63 l0 ((rd_T67 l1 x37_2).f0)).f3)) ∧ w'.cell? (ad251.add (((rd_T67 l1 x37_2).f0)).toNat) = some (.int .i64 (rd x5_2 ((rd_T67 l1 x37_2).f0))) ∧ w'.cell? (ad251.add (((rd_T67 l1 x37_2).f0)).toNat) = some (.int .i64 (rd x5_2 ((rd_T67 l1 x37_2).f0)))) (ds := []) #[false, false, false, false, false, false, false, false, false, false, false, false, false, false, false, false, false, false, false, false, false, false, false, false, false, false, false, false] (by kernel_rfl) rfl rfl ⟨(blk_cell BK244.out 0).trans rfl, (blk_cell BK244.out 1).trans rfl, (blk_cell BK244.out 2).trans rfl, (blk_cell BK250.out 0).trans rfl, (blk_cell BK250.out 1).trans rfl, (blk_cell BK250.out 2).trans rfl, (blk_cell BK250.out 3).trans rfl, hx251_0, hx252_0⟩ (fun hHeld => ?_); refine with_tabW impl_isPlan.tab13 impl_isPlan.bits13 (fun HT_ HW_ => ?_); generalize w78.drew = w79 at HO_5 HO_6 BK244 BK250 HB hx251_0 hx252_0 hHeld ⊢
                  refine px 0 74 #[true, false, false, false, false, false, false, false, false, false, false, false, false, false, false, false, false, false, false, false, false, false, false, false, false, false, false, false] rfl HT_.out ?_ (.inl ⟨by rfl, ?_⟩) ?_ ?_ ?_; rotate_left
                  ·intro w'; go_simp; with_reducible rfl
                  rotate_left
                  ·simp only [ap1, ap2, ap3, ap4, i64_w, i32_w]; rfl
                  refine px 1 75 #[true, true, false, false, false, false, false, false, false, false, false, false, false, false, false, false, false, false, false, false, false, false, false, false, false, false, false, false] rfl HT_.out ?_ (.inl ⟨by rfl, ?_⟩) ?_ ?_ ?_; rotate_left
                  ·intro w'; go_simp; with_reducible rfl
                  rotate_left
                  ·simp only [ap1, ap2, ap3, ap4, i64_w, i32_w]; rfl
                  refine px 5 79 #[true, true, false, false, false, true, false, false, false, false, false, false, false, false, false, false, false, false, false, false, false, false, false, false, false, false, false, false] rfl HT_.out ?_ (.inl ⟨by rfl, ?_⟩) ?_ ?_ ?_; rotate_left
                  ·intro w'; go_simp; with_reducible rfl
                  rotate_left
                  ·simp only [ap1, ap2, ap3, ap4, i64_w, i32_w]; rfl
                  refine tx 2 76 #[true, true, true, false, false, true, false, false, false, false, false, false, false, false, false, false, false, false, false, false, false, false, false, false, false, false, false, false] rfl HT_.out HW_.out hHeld ?_ (.inl ⟨by rfl, ?_⟩) ?_ ?_ ?_; rotate_left
                  ·rintro w' ⟨s0, s1, s2, s3, s4, s5, s6, s7, s8⟩; go_simp; with_reducible rfl
                  rotate_left
                  ·simp only [ap1, ap2, ap3, ap4, i64_w, i32_w]; rfl
                  refine px 3 77 #[true, true, true, true, false, true, false, false, false, false, false, false, false, false, false, false, false, false, false, false, false, false, false, false, false, false, false, false] rfl HT_.out ?_ (.inl ⟨by rfl, ?_⟩) ?_ ?_ ?_; rotate_left
                  ·intro w'; go_simp; with_reducible rfl
                  rotate_left
                  ·simp only [ap1, ap2, ap3, ap4, i64_w, i32_w]; rfl
                  refine tx 4 78 #[true, true, true, true, true, true, false, false, false, false, false, false, false, false, false, false, false, false, false, false, false, false, false, false, false, false, false, false] rfl HT_.out HW_.out hHeld ?_ (.inl ⟨by rfl, ?_⟩) ?_ ?_ ?_; rotate_left
                  ·rintro w' ⟨s0, s1, s2, s3, s4, s5, s6, s7, s8⟩; go_simp; with_reducible rfl
                  rotate_left
                  ·simp only [ap1, ap2, ap3, ap4, i64_w, i32_w]; rfl
                  refine tx 6 80 #[true, true, true, true, true, true, true, false, false, false, false, false, false, false, false, false, false, false, false, false, false, false, false, false, false, false, false, false] rfl HT_.out HW_.out hHeld ?_ (.inl ⟨by rfl, ?_⟩) ?_ ?_ ?_; rotate_left
                  ·rintro w' ⟨s0, s1, s2, s3, s4, s5, s6, s7, s8⟩; go_simp; with_reducible rfl
                  rotate_left
                  ·simp only [ap1, ap2, ap3, ap4, i64_w, i32_w]; rfl
                  refine px 7 81 #[true, true, true, true, true, true, true, true, false, false, false, false, false, false, false, false, false, false, false, false, false, false, false, false, false, false, false, false] rfl HT_.out ?_ (.inl ⟨by rfl, ?_⟩) ?_ ?_ ?_; rotate_left
                  ·intro w'; go_simp; with_reducible rfl
                  rotate_left
                  ·simp only [ap1, ap2, ap3, ap4, i64_w, i32_w]; rfl
                  refine px 8 82 #[true, true, true, true, true, true, true, true, true, false, false, false, false, false, false, false, false, false, false, false, false, false, false, false, false, false, false, false] rfl HT_.out ?_ (.inl ⟨by rfl, ?_⟩) ?_ ?_ ?_; rotate_left
                  ·intro w'; go_simp; with_reducible rfl
                  rotate_left
                  ·simp only [ap1, ap2, ap3, ap4, i64_w, i32_w]; rfl
                  refine px 9 83 #[true, true, true, true, true, true, true, true, true, true, false, false, false, false, false, false, false, false, false, false, false, false, false, false, false, false, false, false] rfl HT_.out ?_ (.inl ⟨by rfl, ?_⟩) ?_ ?_ ?_; rotate_left
                  ·intro w'; go_simp; with_reducible rfl
                  rotate_left
                  ·simp only [ap1, ap2, ap3, ap4, i64_w, i32_w]; rfl
                  refine px 11 85 #[true, true, true, true, true, true, true, true, true, true, false, true, false, false, false, false, false, false, false, false, false, false, false, false, false, false, false, false] rfl HT_.out ?_ (.inl ⟨by rfl, ?_⟩) ?_ ?_ ?_; rotate_left
                  ·intro w'; go_simp; with_reducible rfl
                  rotate_left
                  ·simp only [ap1, ap2, ap3, ap4, i64_w, i32_w]; rfl
                  refine px 12 86 #[true, true, true, true, true, true, true, true, true, true, false, true, true, false, false, false, false, false, false, false, false, false, false, false, false, false, false, false] rfl HT_.out ?_ (.inl ⟨by rfl, ?_⟩) ?_ ?_ ?_; rotate_left
                  ·intro w'; go_simp; with_reducible rfl
                  rotate_left
                  ·simp only [ap1, ap2, ap3, ap4, i64_w, i32_w]; rfl
                  refine tx 10 84 #[true, true, true, true, true, true, true, true, true, true, true, true, true, false, false, false, false, false, false, false, false, false, false, false, false, false, false, false] rfl HT_.out HW_.out hHeld ?_ (.inl ⟨by rfl, ?_⟩) ?_ ?_ ?_; rotate_left
                  ·rintro w' ⟨s0, s1, s2, s3, s4, s5, s6, s7, s8⟩; go_simp; with_reducible rfl
                  rotate_left
                  ·simp only [ap1, ap2, ap3, ap4, i64_w, i32_w]; rfl
                  refine tx 13 87 #[true, true, true, true, true, true, true, true, true, true, true, true, true, true, false, false, false, false, false, false, false, false, false, false, false, false, false, false] rfl HT_.out HW_.out hHeld ?_ (.inl ⟨by rfl, ?_⟩) ?_ ?_ ?_; rotate_left
                  ·rintro w' ⟨s0, s1, s2, s3, s4, s5, s6, s7, s8⟩; go_simp; with_reducible rfl
                  rotate_left
                  ·simp only [ap1, ap2, ap3, ap4, i64_w, i32_w]; rfl
                  refine px 14 88 #[true, true, true, true, true, true, true, true, true, true, true, true, true, true, true, false, false, false, false, false, false, false, false, false, false, false, false, false] rfl HT_.out ?_ (.inl ⟨by rfl, ?_⟩) ?_ ?_ ?_; rotate_left
                  ·intro w'; go_simp; with_reducible rfl
                  rotate_left
                  ·simp only [ap1, ap2, ap3, ap4, i64_w, i32_w]; rfl
                  refine tx 15 89 #[true, true, true, true, true, true, true, true, true, true, true, true, true, true, true, true, false, false, false, false, false, false, false, false, false, false, false, false] rfl HT_.out HW_.out hHeld ?_ (.inl ⟨by rfl, ?_⟩) ?_ ?_ ?_; rotate_left
                  ·rintro w' ⟨s0, s1, s2, s3, s4, s5, s6, s7, s8⟩; go_simp; with_reducible rfl
                  rotate_left
                  ·simp only [ap1, ap2, ap3, ap4, i64_w, i32_w]; rfl
                  refine px 16 90 #[true, true, true, true, true, true, true, true, true, true, true, true, true, true, true, true, true, false, false, false, false, false, false, false, false, false, false, false] rfl HT_.out ?_ (.inl ⟨by rfl, ?_⟩) ?_ ?_ ?_; rotate_left
                  ·intro w'; go_simp; with_reducible rfl
                  rotate_left
                  ·simp only [ap1, ap2, ap3, ap4, i64_w, i32_w]; rfl
                  refine px 17 91 #[true, true, true, true, true, true, true, true, true, true, true, true, true, true, true, true, true, true, false, false, false, false, false, false, false, false, false, false] rfl HT_.out ?_ (.inl ⟨by rfl, ?_⟩) ?_ ?_ ?_; rotate_left
                  ·intro w'; go_simp; with_reducible rfl
                  rotate_left
                  ·simp only [ap1, ap2, ap3, ap4, i64_w, i32_w]; rfl
                  refine px 18 92 #[true, true, true, true, true, true, true, true, true, true, true, true, true, true, true, true, true, true, true, false, false, false, false, false, false, false, false, false] rfl HT_.out ?_ (.inl ⟨by rfl, ?_⟩) ?_ ?_ ?_; rotate_left
                  ·intro w'; go_simp; with_reducible rfl
                  rotate_left
                  ·simp only [ap1, ap2, ap3, ap4, i64_w, i32_w]; rfl
                  refine pure_ (i := 19) (N := some 93) (v := undef) (a' := ?_) #[true, true, true, true, true, true, true, true, true, true, true, true, true, true, true, true, true, true, true, true, false, false, false, false, false, false, false, false] rfl rfl (ao HT_.out) (fun _ _ _ h => h) (Or.inr ⟨by rfl, rfl⟩) ?_ ?_; rotate_left
                  ·simp only [ap1, ap2, ap3, ap4, i64_w, i32_w]; rfl
                  refine pure_ (i := 20) (N := some 94) (v := undef) (a' := ?_) #[true, true, true, true, true, true, true, true, true, true, true, true, true, true, true, true, true, true, true, true, true, false, false, false, false, false, false, false] rfl rfl (ao HT_.out) (fun _ _ _ h => h) (Or.inr ⟨by rfl, rfl⟩) ?_ ?_; rotate_left
                  ·simp only [ap1, ap2, ap3, ap4, i64_w, i32_w]; rfl
                  refine pure_ (i := 21) (N := some 95) (v := undef) (a' := ?_) #[true, true, true, true, true, true, true, true, true, true, true, true, true, true, true, true, true, true, true, true, true, true, false, false, false, false, false, false] rfl rfl (ao HT_.out) (fun _ _ _ h => h) (Or.inr ⟨by rfl, rfl⟩) ?_ ?_; rotate_left
                  ·simp only [ap1, ap2, ap3, ap4, i64_w, i32_w]; rfl
                  refine pure_ (i := 22) (N := some 96) (v := undef) (a' := ?_) #[true, true, true, true, true, true, true, true, true, true, true, true, true, true, true, true, true, true, true, true, true, true, true, false, false, false, false, false] rfl rfl (ao HT_.out) (fun _ _ _ h => h) (Or.inr ⟨by rfl, rfl⟩) ?_ ?_; rotate_left
                  ·simp only [ap1, ap2, ap3, ap4, i64_w, i32_w]; rfl
                  refine pure_ (i := 23) (N := some 97) (v := undef) (a' := ?_) #[true, true, true, true, true, true, true, true, true, true, true, true, true, true, true, true, true, true, true, true, true, true, true, true, false, false, false, false] rfl rfl (ao HT_.out) (fun _ _ _ h => h) (Or.inr ⟨by rfl, rfl⟩) ?_ ?_; rotate_left
                  ·simp only [ap1, ap2, ap3, ap4, i64_w, i32_w]; rfl
                  refine pure_ (i := 24) (N := some 98) (v := undef) (a' := ?_) #[true, true, true, true, true, true, true, true, true, true, true, true, true, true, true, true, true, true, true, true, true, true, true, true, true, false, false, false] rfl rfl (ao HT_.out) (fun _ _ _ h => h) (Or.inr ⟨by rfl, rfl⟩) ?_ ?_; rotate_left
                  ·simp only [ap1, ap2, ap3, ap4, i64_w, i32_w]; rfl
                  refine pure_ (i := 25) (N := some 99) (v := undef) (a' := ?_) #[true, true, true, true, true, true, true, true, true, true, true, true, true, true, true, true, true, true, true, true, true, true, true, true, true, true, false, false] rfl rfl (ao HT_.out) (fun _ _ _ h => h) (Or.inr ⟨by rfl, rfl⟩) ?_ ?_; rotate_left
                  ·simp only [ap1, ap2, ap3, ap4, i64_w, i32_w]; rfl
                  refine pure_ (i := 26) (N := some 100) (v := undef) (a' := ?_) #[true, true, true, true, true, true, true, true, true, true, true, true, true, true, true, true, true, true, true, true, true, true, true, true, true, true, true, false] rfl rfl (ao HT_.out) (fun _ _ _ h => h) (Or.inr ⟨by rfl, rfl⟩) ?_ ?_; rotate_left
                  ·simp only [ap1, ap2, ap3, ap4, i64_w, i32_w]; rfl
                  refine px 27 101 #[true, true, true, true, true, true, true, true, true, true, true, true, true, true, true, true, true, true, true, true, true, true, true, true, true, true, true, true] rfl HT_.out ?_ (.inl ⟨by rfl, ?_⟩) ?_ ?_ ?_; rotate_left
                  ·intro w'; go_simp; with_reducible rfl
                  rotate_left
                  ·simp only [ap1, ap2, ap3, ap4, i64_w, i32_w]; rfl
                  refine done_ (done_of HT_.out (by kernel_rfl)) ?_; try go_wp2
                  go_meet
                  case rel => exact ⟨_, (true), (by first | rfl | (simp; done) | (simp [*]; done)), H', ⟨by have := HK1.out; have := HK2.out; have := HJ31.out; first | omega | exact Nat.le_refl _⟩, ⟨by exact vr HO_5.out⟩, ⟨by exact vr HO_6.out⟩, ⟨by exact vb BK244.out⟩, ⟨by exact vb BK250.out⟩, ⟨by exact vs2 HB.out GE244.out GE250.out⟩⟩
               ·rw [if_neg c67] at H
                exact absurd H (by simp)
              case rest =>
               clear HC58; try clear p2
               try clear q2
               try clear hx2
               try clear c6
               try clear c7
               try clear p25
               try clear q25
               try clear hx25
               try clear c67
               try clear c68
               try clear c68b0
               try clear c68b1
               try clear c72
               try clear c72b0
               try clear c72b1
               try clear c73
               try clear c73b0
               try clear hx251_0
               try clear hx252_0
               try clear hx253_0
               try clear p251
               try clear p252
               try clear p253
               try clear q251
               try clear q252
               try clear q253
               obtain ⟨kq, x101_57, rfl, HA, HJ57, HO_5, HO_6, BK244, BK250, HB⟩ := hcut; cases kq with
               | zero => exact absurd HA.out (by simp [impl_isPlan.j3])
               | succ kj57 =>
                have H := HA.out; clear HA; simp only [impl_isPlan.j3] at H
                by_cases c81 : x101_57 = true
                ·subst c81; have H1 : (some false) = some r := by rw [if_pos rfl] at H; first | exact H | (simp only [if_true, eq_self] at H ⊢; exact H)
                 clear H; have H := H1; clear H1; obtain rfl := Option.some.inj H; go_wp2
                 go_ret
                 exact ⟨by first | rfl | (simp [errW_none, errW_some] <;> rfl) | (simp [*, errW_none, errW_some] <;> rfl), by exact vs2 HB.out GE244.out GE250.out⟩
                ·replace c81 := Bool.eq_false_iff.mpr c81; subst c81; have H1 : (if 0 ≤ x37_2 then (if x37_2 ≤ (l1.length : Int) then ((some (l1.take (x37_2 : Int).toNat : List (S67))).bind fun y254 => (impl_isPlan.l2 kj57 l0 l1 x5_2 x6_2 l1 (l1.length : Int) x37_2 y254 (y254.length : Int) 0 ((rd_T67 l1 x37_2).f0) ((rd_T67 l1 x37_2).f1) ((rd_T67 l1 x37_2).f2) ((rd_T63 l0 ((rd_T67 l1 x37_2).f0)).f0) ((rd_T63 l0 ((rd_T67 l1 x37_2).f0)).f1) ((rd_T63 l0 ((rd_T67 l1 x37_2).f0)).f2) ((rd_T63 l0 ((rd_T67 l1 x37_2).f0)).f3))) else (none)) else (none)) = some r := by rw [if_neg (show ¬ (false = true) by decide)] at H; first | exact H | (simp only [if_true, eq_self] at H ⊢; exact H)
                 clear H; have H := H1; clear H1; by_cases c82 : 0 ≤ x37_2
                 ·rw [if_pos c82] at H
                  have c82b0 := eq_true c82; have c82b1 : decide (0 ≤ x37_2) = true := decide_eq_true c82; clear c82; by_cases c83 : x37_2 ≤ (l1.length : Int)
                  ·rw [if_pos c83] at H
                   have c83b0 := eq_true c83; have c83b1 : decide (x37_2 ≤ (l1.length : Int)) = true := decide_eq_true c83; clear c83; obtain ⟨y254, hy254⟩ : ∃ y_ : List (S67), y_ = (l1.take (x37_2 : Int).toNat) := ⟨_, rfl⟩; replace H : (impl_isPlan.l2 kj57 l0 l1 x5_2 x6_2 l1 (l1.length : Int) x37_2 y254 (y254.length : Int) 0 ((rd_T67 l1 x37_2).f0) ((rd_T67 l1 x37_2).f1) ((rd_T67 l1 x37_2).f2) ((rd_T63 l0 ((rd_T67 l1 x37_2).f0)).f0) ((rd_T63 l0 ((rd_T67 l1 x37_2).f0)).f1) ((rd_T63 l0 ((rd_T67 l1 x37_2).f0)).f2) ((rd_T63 l0 ((rd_T67 l1 x37_2).f0)).f3)) = some r := by first | (rw [hy254]; with_reducible exact H) | (have H2_ := (Option.bind_some _ _).symm.trans H; rw [hy254]; with_reducible exact H2_) | (have H2_ := (Option.bind_some _ _).symm.trans H; with_reducible exact H2_) | with_reducible exact H | (rw [hy254]; exact H) | exact H
                   have Ny254 := Aside0.mk hy254; clear hy254; have H' := Aside0.mk H; clear H; have q84 : (x37_2 : Int) ≤ ((l1.length : Int) : Int) := of_decide_eq_true va; obtain ⟨i084, hi084, _, hsz84, _⟩ := info_parts info67; have hroom84 : l1.length ≤ c1 := HC1.out; have hC84 : Kd.C k67 _ (some ad243) l1.length l1 := HR1.out; have hcut84 := cut_to (P := Try.prog) 38 67 .i64 Try.underlying38 hi084 (some ad243) l1.length c1 x37_2 (of_decide_eq_true va) q84 hroom84; have hr84 := Kd.C_take (m := (x37_2 : Int).toNat) hC84 (by omega); have hy84 : y254.length = (x37_2 : Int).toNat := (by rw [Ny254.out, List.length_take]; omega); rw [← Ny254.out] at hr84
                   rw [← hy84] at hcut84
                   have HR257 := Aside0.mk hr84; have HC257 := ak (show y254.length ≤ c1 from by omega); clear hr84 hC84 hroom84 hi084 hsz84; have KY84 := Aside0.mk hy84; clear hy84; replace q84 := eq_true q84; go_wp2
                   go_loopg [106] kj57 (fun kq v106 w' => ∃ (x106_5 : Int), v106 = .int .i64 x106_5 ∧ Aside0 (impl_isPlan.l2 kq l0 l1 x5_2 x6_2 l1 (l1.length : Int) x37_2 y254 (y254.length : Int) x106_5 ((rd_T67 l1 x37_2).f0) ((rd_T67 l1 x37_2).f1) ((rd_T67 l1 x37_2).f2) ((rd_T63 l0 ((rd_T67 l1 x37_2).f0)).f0) ((rd_T63 l0 ((rd_T67 l1 x37_2).f0)).f1) ((rd_T63 l0 ((rd_T67 l1 x37_2).f0)).f2) ((rd_T63 l0 ((rd_T67 l1 x37_2).f0)).f3) = some r) ∧ Aside0 (kq ≤ kj57) ∧ Aside0 (Kd.R (Kd.int .i64) 3 w' w.heap.size (fun k_ => some k_ ≠ (u6 : Value).ownBlock) u5 x5_2) ∧ Aside0 (Kd.R (Kd.int .i64) 3 w' w.heap.size (fun k_ => some k_ ≠ (u5 : Value).ownBlock) u6 x6_2) ∧ Aside0 (w'.heap[gb244]? = some (.cells #[.int .i64 ((rd_T67 l1 x37_2).f0), .int .i64 ((rd_T67 l1 x37_2).f1), .int .i64 ((rd_T67 l1 x37_2).f2)] 67 (0, 0))) ∧ Aside0 (w'.heap[gb250]? = some (.cells #[.int .i64 ((rd_T63 l0 ((rd_T67 l1 x37_2).f0)).f0), .int .i64 ((rd_T63 l0 ((rd_T67 l1 x37_2).f0)).f1), .int .i64 ((rd_T63 l0 ((rd_T67 l1 x37_2).f0)).f2), .int .i64 ((rd_T63 l0 ((rd_T67 l1 x37_2).f0)).f3)] 63 (0, 0))) ∧ Aside0 (Below w.heap.size w w'))
                   case atStart => exact ⟨(0), (by first | rfl | (simp; done) | (simp [*]; done)), H', ⟨Nat.le_refl _⟩, ⟨by exact vr HO_5.out⟩, ⟨by exact vr HO_6.out⟩, ⟨by exact vb BK244.out⟩, ⟨by exact vb BK250.out⟩, ⟨by exact vs2 HB.out GE244.out GE250.out⟩⟩
                   case round =>
                    clear H'; try clear c1
                    try clear p2
                    try clear q2
                    try clear hx2
                    try clear c6
                    try clear c7
                    try clear c8
                    try clear q8
                    try clear p25
                    try clear q25
                    try clear hx25
                    try clear c67
                    try clear c68
                    try clear c68b0
                    try clear c68b1
                    try clear c72
                    try clear c72b0
                    try clear c72b1
                    try clear c73
                    try clear c73b0
                    try clear c81
                    try clear c82
                    try clear c82b0
                    try clear c82b1
                    try clear c83
                    try clear c83b0
                    try clear c83b1
                    try clear q84
                    try clear hx251_0
                    try clear hx252_0
                    try clear hx253_0
                    try clear p2
                    try clear p25
                    try clear p251
                    try clear p252
                    try clear p253
                    try clear q2
                    try clear q25
                    try clear q251
                    try clear q252
                    try clear q253
                    try clear q84
                    obtain ⟨x106_5, rfl, HA, HK5, HO_5, HO_6, BK244, BK250, HB⟩ := hrel; cases gk with
                    | zero => exact absurd HA.out (by simp [impl_isPlan.l2])
                    | succ k5 =>
                     have H := HA.out; clear HA; simp only [impl_isPlan.l2] at H
                     by_cases c85 : x106_5 < (y254.length : Int)
                     ·rw [if_pos c85] at H
                      have c85b0 : decide (x106_5 < (y254.length : Int)) = true := decide_eq_true c85; clear c85; by_cases c86 : 0 ≤ x106_5
                      ·rw [if_pos c86] at H
                       have c86b0 : decide (0 ≤ x106_5) = true := decide_eq_true c86; clear c86; by_cases c87 : x106_5 < (y254.length : Int)
                       ·rw [if_pos c87] at H
                        have c87b0 : decide (x106_5 < (y254.length : Int)) = true := decide_eq_true c87; clear c87; replace H := Option.bind_eq_some_iff.mp H; obtain ⟨t260, A880, H⟩ := H; replace H : (if t260 = true then (some false) else (impl_isPlan.l2 k5 l0 l1 x5_2 x6_2 l1 (l1.length : Int) x37_2 y254 (y254.length : Int) (wrap64 (x106_5 + 1)) ((rd_T67 l1 x37_2).f0) ((rd_T67 l1 x37_2).f1) ((rd_T67 l1 x37_2).f2) ((rd_T63 l0 ((rd_T67 l1 x37_2).f0)).f0) ((rd_T63 l0 ((rd_T67 l1 x37_2).f0)).f1) ((rd_T63 l0 ((rd_T67 l1 x37_2).f0)).f2) ((rd_T63 l0 ((rd_T67 l1 x37_2).f0)).f3))) = some r := H; have A88 := Aside0.mk A880; clear A880; by_cases c89 : t260 = true
                        ·subst c89; have H1 : (some false) = some r := by rw [if_pos rfl] at H; first | exact H | (simp only [if_true, eq_self] at H ⊢; exact H)
                         clear H; have H := H1; clear H1; obtain rfl := Option.some.inj H; have p258 : 0 ≤ (x106_5 : Int) := of_decide_eq_true va; have q258 : x106_5 < (y254.length : Int) := of_decide_eq_true va; obtain ⟨ad258, e258, hx258_0, hx258_1, hx258_2⟩ := at_T67 HR257.out x106_5 p258 q258; obtain rfl : ad243 = ad258 := (by injection e258); (try replace hx258_0 := vl HB.out hx258_0); (try replace hx258_1 := vl HB.out hx258_1); (try replace hx258_2 := vl HB.out hx258_2); replace p258 := eq_true p258; replace q258 := eq_true q258; go_wp2_with (first | ((with_reducible refine gate_dst (N := 13) rfl ?_); refine vbe (N := 13) (cs := #[.int .i64 0, .int .i64 0, .int .i64 0]) (t := 67) ?_; intro gb259 hg w90 hbox hb; have n0_ := ak (Kd.R_below (vr HO_5.out) hb); have n1_ := ak (Kd.R_below (vr HO_6.out) hb); have n2_ := ak (blk_below (g := gb244) (o := .cells #[.int .i64 ((rd_T67 l1 x37_2).f0), .int .i64 ((rd_T67 l1 x37_2).f1), .int .i64 ((rd_T67 l1 x37_2).f2)] 67 (0, 0)) (vb BK244.out) hb); have n3_ := ak (blk_below (g := gb250) (o := .cells #[.int .i64 ((rd_T63 l0 ((rd_T67 l1 x37_2).f0)).f0), .int .i64 ((rd_T63 l0 ((rd_T67 l1 x37_2).f0)).f1), .int .i64 ((rd_T63 l0 ((rd_T67 l1 x37_2).f0)).f2), .int .i64 ((rd_T63 l0 ((rd_T67 l1 x37_2).f0)).f3)] 63 (0, 0)) (vb BK250.out) hb); have n4_ := ak (below_step (vs2 HB.out GE244.out GE250.out) hb); have n5_ := ak (hbox); have n6_ := ak (vg hg (vs2 HB.out GE244.out GE250.out)); have n7_ := ak (vg hg (vs2 HB.out GE244.out GE250.out)); have n8_ := ak ((by rw [hg]; exact Nat.ne_of_lt (blk_lt (g := gb244) (o := .cells #[.int .i64 ((rd_T67 l1 x37_2).f0), .int .i64 ((rd_T67 l1 x37_2).f1), .int .i64 ((rd_T67 l1 x37_2).f2)] 67 (0, 0)) (vb BK244.out)) : gb244 ≠ gb259)); have n9_ := ak ((by rw [hg]; exact Nat.ne_of_gt (blk_lt (g := gb244) (o := .cells #[.int .i64 ((rd_T67 l1 x37_2).f0), .int .i64 ((rd_T67 l1 x37_2).f1), .int .i64 ((rd_T67 l1 x37_2).f2)] 67 (0, 0)) (vb BK244.out)) : gb259 ≠ gb244)); have n10_ := ak ((by rw [hg]; exact Nat.ne_of_lt (blk_lt (g := gb250) (o := .cells #[.int .i64 ((rd_T63 l0 ((rd_T67 l1 x37_2).f0)).f0), .int .i64 ((rd_T63 l0 ((rd_T67 l1 x37_2).f0)).f1), .int .i64 ((rd_T63 l0 ((rd_T67 l1 x37_2).f0)).f2), .int .i64 ((rd_T63 l0 ((rd_T67 l1 x37_2).f0)).f3)] 63 (0, 0)) (vb BK250.out)) : gb250 ≠ gb259)); have n11_ := ak ((by rw [hg]; exact Nat.ne_of_gt (blk_lt (g := gb250) (o := .cells #[.int .i64 ((rd_T63 l0 ((rd_T67 l1 x37_2).f0)).f0), .int .i64 ((rd_T63 l0 ((rd_T67 l1 x37_2).f0)).f1), .int .i64 ((rd_T63 l0 ((rd_T67 l1 x37_2).f0)).f2), .int .i64 ((rd_T63 l0 ((rd_T67 l1 x37_2).f0)).f3)] 63 (0, 0)) (vb BK250.out)) : gb259 ≠ gb250)); clear HO_5; clear HO_6; clear BK244; clear BK250; clear HB; have HO_5 := n0_; have HO_6 := n1_; have BK244 := n2_; have BK250 := n3_; have HB := n4_; have BK259 := n5_; have GW259 := n6_; have GE259 := n7_; have NB244_259 := n8_; have NB259_244 := n9_; have NB250_259 := n10_; have NB259_250 := n11_; clear n0_ n1_ n2_ n3_ n4_ n5_ n6_ n7_ n8_ n9_ n10_ n11_; clear hb hbox hg; have hnb91 := NB259_244.out; have hnc91 := NB244_259.out; have hnb92 := NB259_250.out; have hnc92 := NB250_259.out; (try (have hnw94 := Kd.R_ne HO_5.out BK259.out (by decide); change some gb259 ≠ some _ at hnw94; have how94 := fun (e_ : gb259 = _) => hnw94 (congrArg some e_); have hpw94 := fun e_ => how94 (Eq.symm e_); clear hnw94; replace how94 := eq_false how94; replace hpw94 := eq_false hpw94)); (try (have hnw95 := Kd.R_ne HO_6.out BK259.out (by decide); change some gb259 ≠ some _ at hnw95; have how95 := fun (e_ : gb259 = _) => hnw95 (congrArg some e_); have hpw95 := fun e_ => how95 (Eq.symm e_); clear hnw95; replace how95 := eq_false how95; replace hpw95 := eq_false hpw95)); have hcz93_0 : w90.cell? ⟨gb259, 0, none⟩ = some (.int .i64 0) := (blk_cell BK259.out 0).trans rfl; have hcz93_1 : w90.cell? ⟨gb259, 1, none⟩ = some (.int .i64 0) := (blk_cell BK259.out 1).trans rfl; have hcz93_2 : w90.cell? ⟨gb259, 2, none⟩ = some (.int .i64 0) := (blk_cell BK259.out 2).trans rfl; have hfz93_0 := blk_frozen BK259.out 0; have hfz93_1 := blk_frozen BK259.out 1; have hfz93_2 := blk_frozen BK259.out 2; have hnb96 := NB244_250.out; have hnc96 := NB250_244.out; (try (have hnw98 := Kd.R_ne HO_5.out BK244.out (by decide); change some gb244 ≠ some _ at hnw98; have how98 := fun (e_ : gb244 = _) => hnw98 (congrArg some e_); have hpw98 := fun e_ => how98 (Eq.symm e_); clear hnw98; replace how98 := eq_false how98; replace hpw98 := eq_false hpw98)); (try (have hnw99 := Kd.R_ne HO_6.out BK244.out (by decide); change some gb244 ≠ some _ at hnw99; have how99 := fun (e_ : gb244 = _) => hnw99 (congrArg some e_); have hpw99 := fun e_ => how99 (Eq.symm e_); clear hnw99; replace how99 := eq_false how99; replace hpw99 := eq_false hpw99)); have hcz97_0 : w90.cell? ⟨gb244, 0, none⟩ = some (.int .i64 ((rd_T67 l1 x37_2).f0)) := (blk_cell BK244.out 0).trans rfl; have hcz97_1 : w90.cell? ⟨gb244, 1, none⟩ = some (.int .i64 ((rd_T67 l1 x37_2).f1)) := (blk_cell BK244.out 1).trans rfl; have hcz97_2 : w90.cell? ⟨gb244, 2, none⟩ = some (.int .i64 ((rd_T67 l1 x37_2).f2)) := (blk_cell BK244.out 2).trans rfl; have hfz97_0 := blk_frozen BK244.out 0; have hfz97_1 := blk_frozen BK244.out 1; have hfz97_2 := blk_frozen BK244.out 2) | ((with_reducible refine gate_callee (f := 68) rfl ?_); refine goesL_ (some 113) rfl rfl Try.func68 (by kernel_rfl) rfl #[.slice (some ad249) l0.length c0, .agg #[.int .i64 ((rd_T67 y254 x106_5).f0), .int .i64 ((rd_T67 y254 x106_5).f1), .int .i64 ((rd_T67 y254 x106_5).f2)], .agg #[.int .i64 ((rd_T67 l1 x37_2).f0), .int .i64 ((rd_T67 l1 x37_2).f1), .int .i64 ((rd_T67 l1 x37_2).f2)]] rfl vm ?_; (with_reducible refine (impl_overlaps.calls k5 _ _ l0 ((rd_T67 y254 x106_5).f0) ((rd_T67 y254 x106_5).f1) ((rd_T67 y254 x106_5).f2) ((rd_T67 l1 x37_2).f0) ((rd_T67 l1 x37_2).f1) ((rd_T67 l1 x37_2).f2) true _ ?side1 ?side2 A88.out).mono ?_); (case side1 => exact Kd.C_below HR0.out (vs3 HB.out GE244.out GE250.out GE259.out)); (case side2 => exact HC0.out); rintro e w100 ⟨rfl, hb⟩; refine ⟨_, rfl, ?_⟩; have n0_ := ak (Kd.R_below (by (with_reducible repeat (first | apply Kd.R_alloc | apply Kd.R_drewN | apply Kd.R_drew)); exact (Kd.R_mono (Kd.R_far (p := ⟨gb259, 2, none⟩) (Kd.R_far (p := ⟨gb259, 1, none⟩) (Kd.R_far (p := ⟨gb259, 0, none⟩) (Kd.R_types HO_5.out BK259.out (by decide)) (fun _ hk => hk.2) (.int .i64 ((rd_T67 y254 x106_5).f0))) (fun _ hk => hk.2) (.int .i64 ((rd_T67 y254 x106_5).f1))) (fun _ hk => hk.2) (.int .i64 ((rd_T67 y254 x106_5).f2))) (fun _ h_ => h_.1))) hb); have n1_ := ak (Kd.R_below (by (with_reducible repeat (first | apply Kd.R_alloc | apply Kd.R_drewN | apply Kd.R_drew)); exact (Kd.R_mono (Kd.R_far (p := ⟨gb259, 2, none⟩) (Kd.R_far (p := ⟨gb259, 1, none⟩) (Kd.R_far (p := ⟨gb259, 0, none⟩) (Kd.R_types HO_6.out BK259.out (by decide)) (fun _ hk => hk.2) (.int .i64 ((rd_T67 y254 x106_5).f0))) (fun _ hk => hk.2) (.int .i64 ((rd_T67 y254 x106_5).f1))) (fun _ hk => hk.2) (.int .i64 ((rd_T67 y254 x106_5).f2))) (fun _ h_ => h_.1))) hb); have n2_ := ak (blk_below (g := gb244) (o := .cells #[.int .i64 ((rd_T67 l1 x37_2).f0), .int .i64 ((rd_T67 l1 x37_2).f1), .int .i64 ((rd_T67 l1 x37_2).f2)] 67 (0, 0)) (by (with_reducible repeat (first | refine blk_drewN ?_ _ | refine blk_drew ?_ | refine blk_alloc ?_ _)); refine blk_far ?_ NB244_259.out _; (with_reducible repeat (first | refine blk_drewN ?_ _ | refine blk_drew ?_ | refine blk_alloc ?_ _)); refine blk_far ?_ NB244_259.out _; (with_reducible repeat (first | refine blk_drewN ?_ _ | refine blk_drew ?_ | refine blk_alloc ?_ _)); refine blk_far ?_ NB244_259.out _; exact vb BK244.out) hb); have n3_ := ak (blk_below (g := gb250) (o := .cells #[.int .i64 ((rd_T63 l0 ((rd_T67 l1 x37_2).f0)).f0), .int .i64 ((rd_T63 l0 ((rd_T67 l1 x37_2).f0)).f1), .int .i64 ((rd_T63 l0 ((rd_T67 l1 x37_2).f0)).f2), .int .i64 ((rd_T63 l0 ((rd_T67 l1 x37_2).f0)).f3)] 63 (0, 0)) (by (with_reducible repeat (first | refine blk_drewN ?_ _ | refine blk_drew ?_ | refine blk_alloc ?_ _)); refine blk_far ?_ NB250_259.out _; (with_reducible repeat (first | refine blk_drewN ?_ _ | refine blk_drew ?_ | refine blk_alloc ?_ _)); refine blk_far ?_ NB250_259.out _; (with_reducible repeat (first | refine blk_drewN ?_ _ | refine blk_drew ?_ | refine blk_alloc ?_ _)); refine blk_far ?_ NB250_259.out _; exact vb BK250.out) hb); have n4_ := ak (blk_below (g := gb259) (o := .cells #[.int .i64 ((rd_T67 y254 x106_5).f0), .int .i64 ((rd_T67 y254 x106_5).f1), .int .i64 ((rd_T67 y254 x106_5).f2)] 67 (0, 0)) (by (with_reducible repeat (first | refine blk_drewN ?_ _ | refine blk_drew ?_ | refine blk_alloc ?_ _)); refine blk_put (cs := #[.int .i64 ((rd_T67 y254 x106_5).f0), .int .i64 ((rd_T67 y254 x106_5).f1), .int .i64 0]) ?_ 2 _ rfl; (with_reducible repeat (first | refine blk_drewN ?_ _ | refine blk_drew ?_ | refine blk_alloc ?_ _)); refine blk_put (cs := #[.int .i64 ((rd_T67 y254 x106_5).f0), .int .i64 0, .int .i64 0]) ?_ 1 _ rfl; (with_reducible repeat (first | refine blk_drewN ?_ _ | refine blk_drew ?_ | refine blk_alloc ?_ _)); refine blk_put (cs := #[.int .i64 0, .int .i64 0, .int .i64 0]) ?_ 0 _ rfl; exact vb BK259.out) hb); have n5_ := ak (below_step (vs3 HB.out GE244.out GE250.out GE259.out) hb); clear HO_5; clear HO_6; clear BK244; clear BK250; clear BK259; clear HB; have HO_5 := n0_; have HO_6 := n1_; have BK244 := n2_; have BK250 := n3_; have BK259 := n4_; have HB := n5_; clear n0_ n1_ n2_ n3_ n4_ n5_; (try clear hb); (try clear hb2); (try clear hk); (try clear hi)))
                         go_ret
                         exact ⟨by first | rfl | (simp [errW_none, errW_some] <;> rfl) | (simp [*, errW_none, errW_some] <;> rfl), by exact vs3 HB.out GE244.out GE250.out GE259.out⟩
                        ·replace c89 := Bool.eq_false_iff.mpr c89; subst c89; have H1 : (impl_isPlan.l2 k5 l0 l1 x5_2 x6_2 l1 (l1.length : Int) x37_2 y254 (y254.length : Int) (wrap64 (x106_5 + 1)) ((rd_T67 l1 x37_2).f0) ((rd_T67 l1 x37_2).f1) ((rd_T67 l1 x37_2).f2) ((rd_T63 l0 ((rd_T67 l1 x37_2).f0)).f0) ((rd_T63 l0 ((rd_T67 l1 x37_2).f0)).f1) ((rd_T63 l0 ((rd_T67 l1 x37_2).f0)).f2) ((rd_T63 l0 ((rd_T67 l1 x37_2).f0)).f3)) = some r := by rw [if_neg (show ¬ (false = true) by decide)] at H; first | exact H | (simp only [if_true, eq_self] at H ⊢; exact H)
                         clear H; have H := H1; clear H1; have H' := Aside0.mk H; clear H; have p258 : 0 ≤ (x106_5 : Int) := of_decide_eq_true va; have q258 : x106_5 < (y254.length : Int) := of_decide_eq_true va; obtain ⟨ad258, e258, hx258_0, hx258_1, hx258_2⟩ := at_T67 HR257.out x106_5 p258 q258; obtain rfl : ad243 = ad258 := (by injection e258); (try replace hx258_0 := vl HB.out hx258_0); (try replace hx258_1 := vl HB.out hx258_1); (try replace hx258_2 := vl HB.out hx258_2); replace p258 := eq_true p258; replace q258 := eq_true q258; go_wp2_with (first | ((with_reducible refine gate_dst (N := 13) rfl ?_); refine vbe (N := 13) (cs := #[.int .i64 0, .int .i64 0, .int .i64 0]) (t := 67) ?_; intro gb259 hg w101 hbox hb; have n0_ := ak (Kd.R_below (vr HO_5.out) hb); have n1_ := ak (Kd.R_below (vr HO_6.out) hb); have n2_ := ak (blk_below (g := gb244) (o := .cells #[.int .i64 ((rd_T67 l1 x37_2).f0), .int .i64 ((rd_T67 l1 x37_2).f1), .int .i64 ((rd_T67 l1 x37_2).f2)] 67 (0, 0)) (vb BK244.out) hb); have n3_ := ak (blk_below (g := gb250) (o := .cells #[.int .i64 ((rd_T63 l0 ((rd_T67 l1 x37_2).f0)).f0), .int .i64 ((rd_T63 l0 ((rd_T67 l1 x37_2).f0)).f1), .int .i64 ((rd_T63 l0 ((rd_T67 l1 x37_2).f0)).f2), .int .i64 ((rd_T63 l0 ((rd_T67 l1 x37_2).f0)).f3)] 63 (0, 0)) (vb BK250.out) hb); have n4_ := ak (below_step (vs2 HB.out GE244.out GE250.out) hb); have n5_ := ak (hbox); have n6_ := ak (vg hg (vs2 HB.out GE244.out GE250.out)); have n7_ := ak (vg hg (vs2 HB.out GE244.out GE250.out)); have n8_ := ak ((by rw [hg]; exact Nat.ne_of_lt (blk_lt (g := gb244) (o := .cells #[.int .i64 ((rd_T67 l1 x37_2).f0), .int .i64 ((rd_T67 l1 x37_2).f1), .int .i64 ((rd_T67 l1 x37_2).f2)] 67 (0, 0)) (vb BK244.out)) : gb244 ≠ gb259)); have n9_ := ak ((by rw [hg]; exact Nat.ne_of_gt (blk_lt (g := gb244) (o := .cells #[.int .i64 ((rd_T67 l1 x37_2).f0), .int .i64 ((rd_T67 l1 x37_2).f1), .int .i64 ((rd_T67 l1 x37_2).f2)] 67 (0, 0)) (vb BK244.out)) : gb259 ≠ gb244)); have n10_ := ak ((by rw [hg]; exact Nat.ne_of_lt (blk_lt (g := gb250) (o := .cells #[.int .i64 ((rd_T63 l0 ((rd_T67 l1 x37_2).f0)).f0), .int .i64 ((rd_T63 l0 ((rd_T67 l1 x37_2).f0)).f1), .int .i64 ((rd_T63 l0 ((rd_T67 l1 x37_2).f0)).f2), .int .i64 ((rd_T63 l0 ((rd_T67 l1 x37_2).f0)).f3)] 63 (0, 0)) (vb BK250.out)) : gb250 ≠ gb259)); have n11_ := ak ((by rw [hg]; exact Nat.ne_of_gt (blk_lt (g := gb250) (o := .cells #[.int .i64 ((rd_T63 l0 ((rd_T67 l1 x37_2).f0)).f0), .int .i64 ((rd_T63 l0 ((rd_T67 l1 x37_2).f0)).f1), .int .i64 ((rd_T63 l0 ((rd_T67 l1 x37_2).f0)).f2), .int .i64 ((rd_T63 l0 ((rd_T67 l1 x37_2).f0)).f3)] 63 (0, 0)) (vb BK250.out)) : gb259 ≠ gb250)); clear HO_5; clear HO_6; clear BK244; clear BK250; clear HB; have HO_5 := n0_; have HO_6 := n1_; have BK244 := n2_; have BK250 := n3_; have HB := n4_; have BK259 := n5_; have GW259 := n6_; have GE259 := n7_; have NB244_259 := n8_; have NB259_244 := n9_; have NB250_259 := n10_; have NB259_250 := n11_; clear n0_ n1_ n2_ n3_ n4_ n5_ n6_ n7_ n8_ n9_ n10_ n11_; clear hb hbox hg; have hnb102 := NB259_244.out; have hnc102 := NB244_259.out; have hnb103 := NB259_250.out; have hnc103 := NB250_259.out; (try (have hnw105 := Kd.R_ne HO_5.out BK259.out (by decide); change some gb259 ≠ some _ at hnw105; have how105 := fun (e_ : gb259 = _) => hnw105 (congrArg some e_); have hpw105 := fun e_ => how105 (Eq.symm e_); clear hnw105; replace how105 := eq_false how105; replace hpw105 := eq_false hpw105)); (try (have hnw106 := Kd.R_ne HO_6.out BK259.out (by decide); change some gb259 ≠ some _ at hnw106; have how106 := fun (e_ : gb259 = _) => hnw106 (congrArg some e_); have hpw106 := fun e_ => how106 (Eq.symm e_); clear hnw106; replace how106 := eq_false how106; replace hpw106 := eq_false hpw106)); have hcz104_0 : w101.cell? ⟨gb259, 0, none⟩ = some (.int .i64 0) := (blk_cell BK259.out 0).trans rfl; have hcz104_1 : w101.cell? ⟨gb259, 1, none⟩ = some (.int .i64 0) := (blk_cell BK259.out 1).trans rfl; have hcz104_2 : w101.cell? ⟨gb259, 2, none⟩ = some (.int .i64 0) := (blk_cell BK259.out 2).trans rfl; have hfz104_0 := blk_frozen BK259.out 0; have hfz104_1 := blk_frozen BK259.out 1; have hfz104_2 := blk_frozen BK259.out 2; have hnb107 := NB244_250.out; have hnc107 := NB250_244.out; (try (have hnw109 := Kd.R_ne HO_5.out BK244.out (by decide); change some gb244 ≠ some _ at hnw109; have how109 := fun (e_ : gb244 = _) => hnw109 (congrArg some e_); have hpw109 := fun e_ => how109 (Eq.symm e_); clear hnw109; replace how109 := eq_false how109; replace hpw109 := eq_false hpw109)); (try (have hnw110 := Kd.R_ne HO_6.out BK244.out (by decide); change some gb244 ≠ some _ at hnw110; have how110 := fun (e_ : gb244 = _) => hnw110 (congrArg some e_); have hpw110 := fun e_ => how110 (Eq.symm e_); clear hnw110; replace how110 := eq_false how110; replace hpw110 := eq_false hpw110)); have hcz108_0 : w101.cell? ⟨gb244, 0, none⟩ = some (.int .i64 ((rd_T67 l1 x37_2).f0)) := (blk_cell BK244.out 0).trans rfl; have hcz108_1 : w101.cell? ⟨gb244, 1, none⟩ = some (.int .i64 ((rd_T67 l1 x37_2).f1)) := (blk_cell BK244.out 1).trans rfl; have hcz108_2 : w101.cell? ⟨gb244, 2, none⟩ = some (.int .i64 ((rd_T67 l1 x37_2).f2)) := (blk_cell BK244.out 2).trans rfl; have hfz108_0 := blk_frozen BK244.out 0; have hfz108_1 := blk_frozen BK244.out 1; have hfz108_2 := blk_frozen BK244.out 2) | ((with_reducible refine gate_callee (f := 68) rfl ?_); refine goesL_ (some 113) rfl rfl Try.func68 (by kernel_rfl) rfl #[.slice (some ad249) l0.length c0, .agg #[.int .i64 ((rd_T67 y254 x106_5).f0), .int .i64 ((rd_T67 y254 x106_5).f1), .int .i64 ((rd_T67 y254 x106_5).f2)], .agg #[.int .i64 ((rd_T67 l1 x37_2).f0), .int .i64 ((rd_T67 l1 x37_2).f1), .int .i64 ((rd_T67 l1 x37_2).f2)]] rfl vm ?_; (with_reducible refine (impl_overlaps.calls k5 _ _ l0 ((rd_T67 y254 x106_5).f0) ((rd_T67 y254 x106_5).f1) ((rd_T67 y254 x106_5).f2) ((rd_T67 l1 x37_2).f0) ((rd_T67 l1 x37_2).f1) ((rd_T67 l1 x37_2).f2) false _ ?side1 ?side2 A88.out).mono ?_); (case side1 => exact Kd.C_below HR0.out (vs3 HB.out GE244.out GE250.out GE259.out)); (case side2 => exact HC0.out); rintro e w111 ⟨rfl, hb⟩; refine ⟨_, rfl, ?_⟩; have n0_ := ak (Kd.R_below (by (with_reducible repeat (first | apply Kd.R_alloc | apply Kd.R_drewN | apply Kd.R_drew)); exact (Kd.R_mono (Kd.R_far (p := ⟨gb259, 2, none⟩) (Kd.R_far (p := ⟨gb259, 1, none⟩) (Kd.R_far (p := ⟨gb259, 0, none⟩) (Kd.R_types HO_5.out BK259.out (by decide)) (fun _ hk => hk.2) (.int .i64 ((rd_T67 y254 x106_5).f0))) (fun _ hk => hk.2) (.int .i64 ((rd_T67 y254 x106_5).f1))) (fun _ hk => hk.2) (.int .i64 ((rd_T67 y254 x106_5).f2))) (fun _ h_ => h_.1))) hb); have n1_ := ak (Kd.R_below (by (with_reducible repeat (first | apply Kd.R_alloc | apply Kd.R_drewN | apply Kd.R_drew)); exact (Kd.R_mono (Kd.R_far (p := ⟨gb259, 2, none⟩) (Kd.R_far (p := ⟨gb259, 1, none⟩) (Kd.R_far (p := ⟨gb259, 0, none⟩) (Kd.R_types HO_6.out BK259.out (by decide)) (fun _ hk => hk.2) (.int .i64 ((rd_T67 y254 x106_5).f0))) (fun _ hk => hk.2) (.int .i64 ((rd_T67 y254 x106_5).f1))) (fun _ hk => hk.2) (.int .i64 ((rd_T67 y254 x106_5).f2))) (fun _ h_ => h_.1))) hb); have n2_ := ak (blk_below (g := gb244) (o := .cells #[.int .i64 ((rd_T67 l1 x37_2).f0), .int .i64 ((rd_T67 l1 x37_2).f1), .int .i64 ((rd_T67 l1 x37_2).f2)] 67 (0, 0)) (by (with_reducible repeat (first | refine blk_drewN ?_ _ | refine blk_drew ?_ | refine blk_alloc ?_ _)); refine blk_far ?_ NB244_259.out _; (with_reducible repeat (first | refine blk_drewN ?_ _ | refine blk_drew ?_ | refine blk_alloc ?_ _)); refine blk_far ?_ NB244_259.out _; (with_reducible repeat (first | refine blk_drewN ?_ _ | refine blk_drew ?_ | refine blk_alloc ?_ _)); refine blk_far ?_ NB244_259.out _; exact vb BK244.out) hb); have n3_ := ak (blk_below (g := gb250) (o := .cells #[.int .i64 ((rd_T63 l0 ((rd_T67 l1 x37_2).f0)).f0), .int .i64 ((rd_T63 l0 ((rd_T67 l1 x37_2).f0)).f1), .int .i64 ((rd_T63 l0 ((rd_T67 l1 x37_2).f0)).f2), .int .i64 ((rd_T63 l0 ((rd_T67 l1 x37_2).f0)).f3)] 63 (0, 0)) (by (with_reducible repeat (first | refine blk_drewN ?_ _ | refine blk_drew ?_ | refine blk_alloc ?_ _)); refine blk_far ?_ NB250_259.out _; (with_reducible repeat (first | refine blk_drewN ?_ _ | refine blk_drew ?_ | refine blk_alloc ?_ _)); refine blk_far ?_ NB250_259.out _; (with_reducible repeat (first | refine blk_drewN ?_ _ | refine blk_drew ?_ | refine blk_alloc ?_ _)); refine blk_far ?_ NB250_259.out _; exact vb BK250.out) hb); have n4_ := ak (blk_below (g := gb259) (o := .cells #[.int .i64 ((rd_T67 y254 x106_5).f0), .int .i64 ((rd_T67 y254 x106_5).f1), .int .i64 ((rd_T67 y254 x106_5).f2)] 67 (0, 0)) (by (with_reducible repeat (first | refine blk_drewN ?_ _ | refine blk_drew ?_ | refine blk_alloc ?_ _)); refine blk_put (cs := #[.int .i64 ((rd_T67 y254 x106_5).f0), .int .i64 ((rd_T67 y254 x106_5).f1), .int .i64 0]) ?_ 2 _ rfl; (with_reducible repeat (first | refine blk_drewN ?_ _ | refine blk_drew ?_ | refine blk_alloc ?_ _)); refine blk_put (cs := #[.int .i64 ((rd_T67 y254 x106_5).f0), .int .i64 0, .int .i64 0]) ?_ 1 _ rfl; (with_reducible repeat (first | refine blk_drewN ?_ _ | refine blk_drew ?_ | refine blk_alloc ?_ _)); refine blk_put (cs := #[.int .i64 0, .int .i64 0, .int .i64 0]) ?_ 0 _ rfl; exact vb BK259.out) hb); have n5_ := ak (below_step (vs3 HB.out GE244.out GE250.out GE259.out) hb); clear HO_5; clear HO_6; clear BK244; clear BK250; clear BK259; clear HB; have HO_5 := n0_; have HO_6 := n1_; have BK244 := n2_; have BK250 := n3_; have BK259 := n4_; have HB := n5_; clear n0_ n1_ n2_ n3_ n4_ n5_; (try clear hb); (try clear hb2); (try clear hk); (try clear hi)))
                         go_roundg k5
                         case measure => have := HK1.out; have := HK2.out; have := HJ31.out; have := HJ57.out; have := HK5.out; omega
                         case rel => exact ⟨(wrap64 (x106_5 + 1)), vq, H', ⟨by have := HK1.out; have := HK2.out; have := HJ31.out; have := HJ57.out; have := HK5.out; omega⟩, ⟨by exact vr HO_5.out⟩, ⟨by exact vr HO_6.out⟩, ⟨by exact vb BK244.out⟩, ⟨by exact vb BK250.out⟩, ⟨by exact vs3 HB.out GE244.out GE250.out GE259.out⟩⟩
                       ·rw [if_neg c87] at H
                        exact absurd H (by simp)
                      ·rw [if_neg c86] at H
                       exact absurd H (by simp)
                     ·rw [if_neg c85] at H
                      have c85b0 : decide (x106_5 < (y254.length : Int)) = false := decide_eq_false c85; clear c85; replace H := Option.bind_eq_some_iff.mp H; obtain ⟨t261, A1120, H⟩ := H; replace H : (if 0 ≤ ((rd_T67 l1 x37_2).f0) then (if ((rd_T67 l1 x37_2).f0) < (x5_2.length : Int) then (if ((rd_T67 l1 x37_2).f0) < (x6_2.length : Int) then (impl_isPlan.l1 k5 l0 l1 (x5_2.set (((rd_T67 l1 x37_2).f0) : Int).toNat t261) (x6_2.set (((rd_T67 l1 x37_2).f0) : Int).toNat (wrap64 (((rd_T67 l1 x37_2).f2) + ((rd_T63 l0 ((rd_T67 l1 x37_2).f0)).f2)))) l1 (l1.length : Int) (wrap64 (x37_2 + 1))) else (none)) else (none)) else (none)) = some r := H; have A112 := Aside0.mk A1120; clear A1120; by_cases c113 : 0 ≤ ((rd_T67 l1 x37_2).f0)
                      ·rw [if_pos c113] at H
                       have c113b0 : decide (0 ≤ ((rd_T67 l1 x37_2).f0)) = true := decide_eq_true c113; clear c113; by_cases c114 : ((rd_T67 l1 x37_2).f0) < (x5_2.length : Int)
                       ·rw [if_pos c114] at H
                        have c114b0 : decide (((rd_T67 l1 x37_2).f0) < (x5_2.length : Int)) = true := decide_eq_true c114; clear c114; obtain ⟨y262, hy262⟩ : ∃ y_ : List Int, y_ = (x5_2.set (((rd_T67 l1 x37_2).f0) : Int).toNat t261) := ⟨_, rfl⟩; replace H : (if ((rd_T67 l1 x37_2).f0) < (x6_2.length : Int) then (impl_isPlan.l1 k5 l0 l1 y262 (x6_2.set (((rd_T67 l1 x37_2).f0) : Int).toNat (wrap64 (((rd_T67 l1 x37_2).f2) + ((rd_T63 l0 ((rd_T67 l1 x37_2).f0)).f2)))) l1 (l1.length : Int) (wrap64 (x37_2 + 1))) else (none)) = some r := by first | (rw [hy262]; with_reducible exact H) | (have H2_ := (Option.bind_some _ _).symm.trans H; rw [hy262]; with_reducible exact H2_) | (have H2_ := (Option.bind_some _ _).symm.trans H; with_reducible exact H2_) | with_reducible exact H | (rw [hy262]; exact H) | exact H
                        have Ny262 := Aside0.mk hy262; clear hy262; by_cases c116 : ((rd_T67 l1 x37_2).f0) < (x6_2.length : Int)
                        ·rw [if_pos c116] at H
                         have c116b0 : decide (((rd_T67 l1 x37_2).f0) < (x6_2.length : Int)) = true := decide_eq_true c116; clear c116; obtain ⟨y263, hy263⟩ : ∃ y_ : List Int, y_ = (x6_2.set (((rd_T67 l1 x37_2).f0) : Int).toNat (wrap64 (((rd_T67 l1 x37_2).f2) + ((rd_T63 l0 ((rd_T67 l1 x37_2).f0)).f2)))) := ⟨_, rfl⟩; replace H : (impl_isPlan.l1 k5 l0 l1 y262 y263 l1 (l1.length : Int) (wrap64 (x37_2 + 1))) = some r := by first | (rw [hy263]; with_reducible exact H) | (have H2_ := (Option.bind_some _ _).symm.trans H; rw [hy263]; with_reducible exact H2_) | (have H2_ := (Option.bind_some _ _).symm.trans H; with_reducible exact H2_) | with_reducible exact H | (rw [hy263]; exact H) | exact H
                         have Ny263 := Aside0.mk hy263; clear hy263; have H' := Aside0.mk H; clear H; try go_wp2
                         have n0_ := ak (Kd.R_drew HO_5.out); have n1_ := ak (Kd.R_drew HO_6.out); have n2_ := ak (blk_drew BK244.out); have n3_ := ak (blk_drew BK250.out); have n4_ := ak (below_drew1 HB.out); clear HO_5; clear HO_6; clear BK244; clear BK250; clear HB; have HO_5 := n0_; have HO_6 := n1_; have BK244 := n2_; have BK250 := n3_; have HB := n4_; clear n0_ n1_ n2_ n3_ n4_; refine start_ (n := 19) (S := fun w' => w'.cell? ⟨gb244, 0, none⟩ = some (.int .i64 ((rd_T67 l1 x37_2).f0)) ∧ w'.cell? ⟨gb244, 1, none⟩ = some (.int .i64 ((rd_T67 l1 x37_2).f1)) ∧ w'.cell? ⟨gb244, 2, none⟩ = some (.int .i64 ((rd_T67 l1 x37_2).f2)) ∧ w'.cell? ⟨gb250, 0, none⟩ = some (.int .i64 ((rd_T63 l0 ((rd_T67 l1 x37_2).f0)).f0)) ∧ w'.cell? ⟨gb250, 1, none⟩ = some (.int .i64 ((rd_T63 l0 ((rd_T67 l1 x37_2).f0)).f1)) ∧ w'.cell? ⟨gb250, 2, none⟩ = some (.int .i64 ((rd_T63 l0 ((rd_T67 l1 x37_2).f0)).f2)) ∧ w'.cell? ⟨gb250, 3, none⟩ = some (.int .i64 ((rd_T63 l0 ((rd_T67 l1 x37_2).f0)).f3))) (ds := [18]) #[false, false, false, false, false, false, false, false, false, false, false, false, false, false, false, false, false, false, false] (by kernel_rfl) rfl rfl ⟨(blk_cell BK244.out 0).trans rfl, (blk_cell BK244.out 1).trans rfl, (blk_cell BK244.out 2).trans rfl, (blk_cell BK250.out 0).trans rfl, (blk_cell BK250.out 1).trans rfl, (blk_cell BK250.out 2).trans rfl, (blk_cell BK250.out 3).trans rfl⟩ (fun hHeld => ?_); refine with_tabW impl_isPlan.tab21 impl_isPlan.bits21 (fun HT_ HW_ => ?_); generalize wr.drew = w118 at HO_5 HO_6 BK244 BK250 HB hHeld ⊢
                         refine px 0 115 #[true, false, false, false, false, false, false, false, false, false, false, false, false, false, false, false, false, false, false] rfl HT_.out ?_ (.inl ⟨by rfl, ?_⟩) ?_ ?_ ?_; rotate_left
                         ·intro w'; go_simp; with_reducible rfl
                         rotate_left
                         ·simp only [ap1, ap2, ap3, ap4, i64_w, i32_w]; rfl
                         refine px 1 116 #[true, true, false, false, false, false, false, false, false, false, false, false, false, false, false, false, false, false, false] rfl HT_.out ?_ (.inl ⟨by rfl, ?_⟩) ?_ ?_ ?_; rotate_left
                         ·intro w'; go_simp; with_reducible rfl
                         rotate_left
                         ·simp only [ap1, ap2, ap3, ap4, i64_w, i32_w]; rfl
                         refine px 3 118 #[true, true, false, true, false, false, false, false, false, false, false, false, false, false, false, false, false, false, false] rfl HT_.out ?_ (.inl ⟨by rfl, ?_⟩) ?_ ?_ ?_; rotate_left
                         ·intro w'; go_simp; with_reducible rfl
                         rotate_left
                         ·simp only [ap1, ap2, ap3, ap4, i64_w, i32_w]; rfl
                         refine px 4 119 #[true, true, false, true, true, false, false, false, false, false, false, false, false, false, false, false, false, false, false] rfl HT_.out ?_ (.inl ⟨by rfl, ?_⟩) ?_ ?_ ?_; rotate_left
                         ·intro w'; go_simp; with_reducible rfl
                         rotate_left
                         ·simp only [ap1, ap2, ap3, ap4, i64_w, i32_w]; rfl
                         refine px 7 122 #[true, true, false, true, true, false, false, true, false, false, false, false, false, false, false, false, false, false, false] rfl HT_.out ?_ (.inl ⟨by rfl, ?_⟩) ?_ ?_ ?_; rotate_left
                         ·intro w'; go_simp; with_reducible rfl
                         rotate_left
                         ·simp only [ap1, ap2, ap3, ap4, i64_w, i32_w]; rfl
                         refine px 10 125 #[true, true, false, true, true, false, false, true, false, false, true, false, false, false, false, false, false, false, false] rfl HT_.out ?_ (.inl ⟨by rfl, ?_⟩) ?_ ?_ ?_; rotate_left
                         ·intro w'; go_simp; with_reducible rfl
                         rotate_left
                         ·simp only [ap1, ap2, ap3, ap4, i64_w, i32_w]; rfl
                         refine px 12 127 #[true, true, false, true, true, false, false, true, false, false, true, false, true, false, false, false, false, false, false] rfl HT_.out ?_ (.inl ⟨by rfl, ?_⟩) ?_ ?_ ?_; rotate_left
                         ·intro w'; go_simp; with_reducible rfl
                         rotate_left
                         ·simp only [ap1, ap2, ap3, ap4, i64_w, i32_w]; rfl
                         refine tx 2 117 #[true, true, true, true, true, false, false, true, false, false, true, false, true, false, false, false, false, false, false] rfl HT_.out HW_.out hHeld ?_ (.inl ⟨by rfl, ?_⟩) ?_ ?_ ?_; rotate_left
                         ·rintro w' ⟨s0, s1, s2, s3, s4, s5, s6⟩; go_simp; with_reducible rfl
                         rotate_left
                         ·simp only [ap1, ap2, ap3, ap4, i64_w, i32_w]; rfl
                         refine tx 5 120 #[true, true, true, true, true, true, false, true, false, false, true, false, true, false, false, false, false, false, false] rfl HT_.out HW_.out hHeld ?_ (.inl ⟨by rfl, ?_⟩) ?_ ?_ ?_; rotate_left
                         ·rintro w' ⟨s0, s1, s2, s3, s4, s5, s6⟩; go_simp; with_reducible rfl
                         rotate_left
                         ·simp only [ap1, ap2, ap3, ap4, i64_w, i32_w]; rfl
                         refine tx 6 121 #[true, true, true, true, true, true, true, true, false, false, true, false, true, false, false, false, false, false, false] rfl HT_.out HW_.out hHeld ?_ (.inl ⟨by rfl, ?_⟩) ?_ ?_ ?_; rotate_left
                         ·rintro w' ⟨s0, s1, s2, s3, s4, s5, s6⟩; go_simp; with_reducible rfl
                         rotate_left
                         ·simp only [ap1, ap2, ap3, ap4, i64_w, i32_w]; rfl
                         refine tx 8 123 #[true, true, true, true, true, true, true, true, true, false, true, false, true, false, false, false, false, false, false] rfl HT_.out HW_.out hHeld ?_ (.inl ⟨by rfl, ?_⟩) ?_ ?_ ?_; rotate_left
                         ·rintro w' ⟨s0, s1, s2, s3, s4, s5, s6⟩; go_simp; with_reducible rfl
                         rotate_left
                         ·simp only [ap1, ap2, ap3, ap4, i64_w, i32_w]; rfl
                         refine tx 11 126 #[true, true, true, true, true, true, true, true, true, false, true, true, true, false, false, false, false, false, false] rfl HT_.out HW_.out hHeld ?_ (.inl ⟨by rfl, ?_⟩) ?_ ?_ ?_; rotate_left
                         ·rintro w' ⟨s0, s1, s2, s3, s4, s5, s6⟩; go_simp; with_reducible rfl
                         rotate_left
                         ·simp only [ap1, ap2, ap3, ap4, i64_w, i32_w]; rfl
                         refine tx 13 128 #[true, true, true, true, true, true, true, true, true, false, true, true, true, true, false, false, false, false, false] rfl HT_.out HW_.out hHeld ?_ (.inl ⟨by rfl, ?_⟩) ?_ ?_ ?_; rotate_left
                         ·rintro w' ⟨s0, s1, s2, s3, s4, s5, s6⟩; go_simp; with_reducible rfl
                         rotate_left
                         ·simp only [ap1, ap2, ap3, ap4, i64_w, i32_w]; rfl
                         refine px 14 129 #[true, true, true, true, true, true, true, true, true, false, true, true, true, true, true, false, false, false, false] rfl HT_.out ?_ (.inl ⟨by rfl, ?_⟩) ?_ ?_ ?_; rotate_left
                         ·intro w'; go_simp; with_reducible rfl
                         rotate_left
                         ·simp only [ap1, ap2, ap3, ap4, i64_w, i32_w]; rfl
                         refine one_ (i := 9) (N := some 124) #[true, true, true, true, true, true, true, true, true, true, true, true, true, true, true, false, false, false, false] rfl rfl (one_of HT_.out (by kernel_rfl)) (by decide) (fun K hK => ?_); refine goes_ Try.func69 (by kernel_rfl) rfl #[.agg #[.int .i64 ((rd_T63 l0 ((rd_T67 l1 x37_2).f0)).f0), .int .i64 ((rd_T63 l0 ((rd_T67 l1 x37_2).f0)).f1), .int .i64 ((rd_T63 l0 ((rd_T67 l1 x37_2).f0)).f2), .int .i64 ((rd_T63 l0 ((rd_T67 l1 x37_2).f0)).f3)], .int .i64 ((rd_T67 l1 x37_2).f1)] (by rfl) rfl rfl vm ?_; with_reducible refine (impl_Job_next.calls ((rd_T63 l0 ((rd_T67 l1 x37_2).f0)).f0) ((rd_T63 l0 ((rd_T67 l1 x37_2).f0)).f1) ((rd_T63 l0 ((rd_T67 l1 x37_2).f0)).f2) ((rd_T63 l0 ((rd_T67 l1 x37_2).f0)).f3) ((rd_T67 l1 x37_2).f1) t261 _ A112.out).mono ?_
                         rintro e w119 ⟨rfl, hb⟩; refine ⟨_, rfl, ?_⟩; have n0_ := ak (Kd.R_below (vr HO_5.out) hb); have n1_ := ak (Kd.R_below (vr HO_6.out) hb); have n2_ := ak (blk_below (g := gb244) (o := .cells #[.int .i64 ((rd_T67 l1 x37_2).f0), .int .i64 ((rd_T67 l1 x37_2).f1), .int .i64 ((rd_T67 l1 x37_2).f2)] 67 (0, 0)) (vb BK244.out) hb); have n3_ := ak (blk_below (g := gb250) (o := .cells #[.int .i64 ((rd_T63 l0 ((rd_T67 l1 x37_2).f0)).f0), .int .i64 ((rd_T63 l0 ((rd_T67 l1 x37_2).f0)).f1), .int .i64 ((rd_T63 l0 ((rd_T67 l1 x37_2).f0)).f2), .int .i64 ((rd_T63 l0 ((rd_T67 l1 x37_2).f0)).f3)] 63 (0, 0)) (vb BK250.out) hb); have n4_ := ak (below_step (vs2 HB.out GE244.out GE250.out) hb); clear HO_5; clear HO_6; clear BK244; clear BK250; clear HB; have HO_5 := n0_; have HO_6 := n1_; have BK244 := n2_; have BK250 := n3_; have HB := n4_; clear n0_ n1_ n2_ n3_ n4_; (try clear hb); (try clear hb2); (try clear hk); (try clear hi); have p115 : 0 ≤ (((rd_T67 l1 x37_2).f0) : Int) := of_decide_eq_true va; have q115 : (((rd_T67 l1 x37_2).f0) : Int) < ((x5_2.length : Int) : Int) := of_decide_eq_true va; obtain ⟨go115, co115, eo115, gb115, gl115, cl115, HG115⟩ := Kd.R_form HO_5.out (by omega); (first | cases eo115 | (injection eo115 with ea_ en_ ec_; (first | subst ea_ | (injection ea_ with ea_; subst ea_)); subst ec_; clear en_)); have GB115 := Aside0.mk gb115; have GG115 := Aside0.mk HG115; clear gb115 gl115 HG115; obtain ⟨hx115_0, hf115_0⟩ := Kd.R_celln 0 HO_5.out (((rd_T67 l1 x37_2).f0) : Int) p115 q115; replace p115 := eq_true p115; replace q115 := eq_true q115; have HP120 := Kd.R_putn HO_5.out (((rd_T67 l1 x37_2).f0) : Int) t261; rw [← Ny262.out] at HP120
                         have HQ120 := Aside0.mk HP120; clear HP120; have p117 : 0 ≤ (((rd_T67 l1 x37_2).f0) : Int) := of_decide_eq_true va; have q117 : (((rd_T67 l1 x37_2).f0) : Int) < ((x6_2.length : Int) : Int) := of_decide_eq_true va; obtain ⟨go117, co117, eo117, gb117, gl117, cl117, HG117⟩ := Kd.R_form HO_6.out (by omega); (first | cases eo117 | (injection eo117 with ea_ en_ ec_; (first | subst ea_ | (injection ea_ with ea_; subst ea_)); subst ec_; clear en_)); have GB117 := Aside0.mk gb117; have GG117 := Aside0.mk HG117; clear gb117 gl117 HG117; obtain ⟨hx117_0, hf117_0⟩ := Kd.R_celln 0 (Kd.R_far (p := ⟨go115, (((rd_T67 l1 x37_2).f0) : Int).toNat, none⟩) (Kd.R_mono HO_6.out (fun k_ hk => (⟨hk, fun e_ => hk (by rw [e_]; rfl)⟩ : _ ∧ k_ ≠ go115))) (fun _ hk => hk.2) (.int .i64 t261)) (((rd_T67 l1 x37_2).f0) : Int) p117 q117; replace p117 := eq_true p117; replace q117 := eq_true q117; have HP121 := Kd.R_putn (Kd.R_far (p := ⟨go115, (((rd_T67 l1 x37_2).f0) : Int).toNat, none⟩) (Kd.R_mono HO_6.out (fun k_ hk => (⟨hk, fun e_ => hk (by rw [e_]; rfl)⟩ : _ ∧ k_ ≠ go115))) (fun _ hk => hk.2) (.int .i64 t261)) (((rd_T67 l1 x37_2).f0) : Int) (wrap64 (((rd_T67 l1 x37_2).f2) + ((rd_T63 l0 ((rd_T67 l1 x37_2).f0)).f2))); rw [← Ny263.out] at HP121
                         have HQ121 := Aside0.mk HP121; clear HP121; refine hK.out _ _ ⟨(blk_cell BK244.out 0).trans rfl, (blk_cell BK244.out 1).trans rfl, (blk_cell BK244.out 2).trans rfl, (blk_cell BK250.out 0).trans rfl, (blk_cell BK250.out 1).trans rfl, (blk_cell BK250.out 2).trans rfl, (blk_cell BK250.out 3).trans rfl⟩ (fun hHeld => ?_); clear hK K; refine norm_ (a' := ?_) ?_ ?_; rotate_left
                         ·show Act.put _ (some 124) _ = _; simp only [ap1, ap2, ap3, ap4, i64_w, i32_w]; rfl
                         refine px 15 130 #[true, true, true, true, true, true, true, true, true, true, true, true, true, true, true, true, false, false, false] rfl HT_.out ?_ (.inl ⟨by rfl, ?_⟩) ?_ ?_ ?_; rotate_left
                         ·intro w'; go_simp; with_reducible rfl
                         rotate_left
                         ·simp only [ap1, ap2, ap3, ap4, i64_w, i32_w]; rfl
                         refine one_ (i := 16) (N := none) #[true, true, true, true, true, true, true, true, true, true, true, true, true, true, true, true, true, false, false] rfl rfl (one_of HT_.out (by kernel_rfl)) (by decide) (fun K hK => ?_); refine skip_ (w1 := ?_) (by rfl) rfl ?_ ?_; rotate_left
                         ·go_simp; rfl
                         refine hK.out _ _ ⟨((cell_far (by have h_ := Kd.R_ne HO_5.out BK244.out (by decide); intro e_; first | exact h_ (by rw [e_]; rfl) | exact h_ (congrArg some e_) | exact h_ (congrArg some e_.symm)) _).trans (hHeld.1)), ((cell_far (by have h_ := Kd.R_ne HO_5.out BK244.out (by decide); intro e_; first | exact h_ (by rw [e_]; rfl) | exact h_ (congrArg some e_) | exact h_ (congrArg some e_.symm)) _).trans (hHeld.2.1)), ((cell_far (by have h_ := Kd.R_ne HO_5.out BK244.out (by decide); intro e_; first | exact h_ (by rw [e_]; rfl) | exact h_ (congrArg some e_) | exact h_ (congrArg some e_.symm)) _).trans (hHeld.2.2.1)), ((cell_far (by have h_ := Kd.R_ne HO_5.out BK250.out (by decide); intro e_; first | exact h_ (by rw [e_]; rfl) | exact h_ (congrArg some e_) | exact h_ (congrArg some e_.symm)) _).trans (hHeld.2.2.2.1)), ((cell_far (by have h_ := Kd.R_ne HO_5.out BK250.out (by decide); intro e_; first | exact h_ (by rw [e_]; rfl) | exact h_ (congrArg some e_) | exact h_ (congrArg some e_.symm)) _).trans (hHeld.2.2.2.2.1)), ((cell_far (by have h_ := Kd.R_ne HO_5.out BK250.out (by decide); intro e_; first | exact h_ (by rw [e_]; rfl) | exact h_ (congrArg some e_) | exact h_ (congrArg some e_.symm)) _).trans (hHeld.2.2.2.2.2.1)), ((cell_far (by have h_ := Kd.R_ne HO_5.out BK250.out (by decide); intro e_; first | exact h_ (by rw [e_]; rfl) | exact h_ (congrArg some e_) | exact h_ (congrArg some e_.symm)) _).trans (hHeld.2.2.2.2.2.2))⟩ (fun hHeld => ?_); clear hK K; refine px 17 131 #[true, true, true, true, true, true, true, true, true, true, true, true, true, true, true, true, true, true, false] rfl HT_.out ?_ (.inl ⟨by rfl, ?_⟩) ?_ ?_ ?_; rotate_left
                         ·intro w'; go_simp; with_reducible rfl
                         rotate_left
                         ·simp only [ap1, ap2, ap3, ap4, i64_w, i32_w]; rfl
                         refine last_ (i := 18) (N := none) #[true, true, true, true, true, true, true, true, true, true, true, true, true, true, true, true, true, true, true] rfl rfl (one_of HT_.out (by kernel_rfl)) (by decide) (fun K hK => ?_); refine skip_ (w1 := ?_) (by rfl) rfl ?_ ?_; rotate_left
                         ·go_simp; rfl
                         refine hK.out _ _ ?_; clear hK K; refine done_ (done_of HT_.out (by kernel_rfl)) ?_; try go_wp2
                         go_roundg k5
                         case measure => have := HK1.out; have := HK2.out; have := HJ31.out; have := HJ57.out; have := HK5.out; omega
                         case rel => exact ⟨(y262), (y263), (wrap64 (x37_2 + 1)), vq, H', ⟨by have := HK1.out; have := HK2.out; have := HJ31.out; have := HJ57.out; have := HK5.out; omega⟩, ⟨by (with_reducible repeat (first | apply Kd.R_alloc | apply Kd.R_drewN | apply Kd.R_drew)); exact Kd.R_mono (Kd.R_far (p := ⟨go117, (((rd_T67 l1 x37_2).f0) : Int).toNat, none⟩) (Kd.R_mono HQ120.out (fun k_ hk => (⟨hk, fun e_ => hk (by rw [e_]; rfl)⟩ : _ ∧ k_ ≠ go117))) (fun _ hk => hk.2) (.int .i64 (wrap64 (((rd_T67 l1 x37_2).f2) + ((rd_T63 l0 ((rd_T67 l1 x37_2).f0)).f2))))) (fun _ hk => hk.1)⟩, ⟨by (with_reducible repeat (first | apply Kd.R_alloc | apply Kd.R_drewN | apply Kd.R_drew)); exact Kd.R_mono HQ121.out (fun _ hk => hk.1)⟩, ⟨by repeat (first | (with_reducible first | exact HB.out | apply below_alloc | apply pw_below_drewN | apply below_drew1 | refine below_set ?_ GB115.out | refine below_set ?_ GB117.out | refine below_set ?_ GE244.out | refine below_set ?_ GE250.out) | exact HB.out)⟩⟩
                        ·rw [if_neg c116] at H
                         exact absurd H (by simp)
                       ·rw [if_neg c114] at H
                        exact absurd H (by simp)
                      ·rw [if_neg c113] at H
                       exact absurd H (by simp)
                  ·rw [if_neg c83] at H
                   exact absurd H (by simp)
                 ·rw [if_neg c82] at H
                  exact absurd H (by simp)
             ·rw [if_neg c57] at H
              exact absurd H (by simp)
            ·rw [if_neg c56] at H
             exact absurd H (by simp)
        ·rw [if_neg c31] at H
         exact absurd H (by simp)
       ·rw [if_neg c30] at H
        exact absurd H (by simp)
      ·rw [if_neg c29] at H
       have c29b0 : decide (x37_2 < (l1.length : Int)) = false := decide_eq_false c29; clear c29; have H' := Aside0.mk H; clear H; go_wp2
       go_loopg [135] k2 (fun kq v135 w' => ∃ (x135_3 : Int), v135 = .int .i64 x135_3 ∧ Aside0 (impl_isPlan.l3 kq x5_2 l0 (l0.length : Int) x135_3 = some r) ∧ Aside0 (kq ≤ k2) ∧ Aside0 (Kd.R (Kd.int .i64) 3 w' w.heap.size (fun _ => True) u5 x5_2) ∧ Aside0 (Below w.heap.size w w'))
       case atStart => exact ⟨(0), (by first | rfl | (simp; done) | (simp [*]; done)), H', ⟨Nat.le_refl _⟩, ⟨by exact vr (Kd.R_mono HO_5.out (fun _ hk => trivial))⟩, ⟨by exact vh HB.out⟩⟩
       case round =>
        clear H'; try clear c1
        try clear p1
        try clear q1
        try clear hx1
        try clear c2
        try clear p2
        try clear q2
        try clear hx2
        try clear c3
        try clear c5
        try clear c6
        try clear p6
        try clear c7
        try clear c8
        try clear q8
        try clear c9
        try clear c10
        try clear c11
        try clear p11
        try clear q11
        try clear hx11
        try clear hf11
        try clear p25
        try clear q25
        try clear hx25
        try clear c29
        try clear c29b0
        try clear c30
        try clear c31
        try clear c56
        try clear c57
        try clear p64
        try clear c67
        try clear c68
        try clear c68b0
        try clear c68b1
        try clear c69
        try clear c72
        try clear c72b0
        try clear c72b1
        try clear c73
        try clear c73b0
        try clear c81
        try clear c82
        try clear c82b0
        try clear c82b1
        try clear c83
        try clear c83b0
        try clear c83b1
        try clear q84
        try clear c85
        try clear c85b0
        try clear c86
        try clear c86b0
        try clear c87
        try clear c87b0
        try clear c89
        try clear c91
        try clear c92
        try clear c96
        try clear c102
        try clear c103
        try clear c107
        try clear c113
        try clear c113b0
        try clear c114
        try clear c114b0
        try clear p115
        try clear q115
        try clear hx115
        try clear hf115
        try clear c116
        try clear c116b0
        try clear p117
        try clear q117
        try clear hx117
        try clear hf117
        try clear hcz104_0
        try clear hcz104_1
        try clear hcz104_2
        try clear hcz108_0
        try clear hcz108_1
        try clear hcz108_2
        try clear hcz93_0
        try clear hcz93_1
        try clear hcz93_2
        try clear hcz97_0
        try clear hcz97_1
        try clear hcz97_2
        try clear hfz104_0
        try clear hfz104_1
        try clear hfz104_2
        try clear hfz108_0
        try clear hfz108_1
        try clear hfz108_2
        try clear hfz93_0
        try clear hfz93_1
        try clear hfz93_2
        try clear hfz97_0
        try clear hfz97_1
        try clear hfz97_2
        try clear hx115_0
        try clear hx117_0
        try clear hx251_0
        try clear hx252_0
        try clear hx253_0
        try clear hx258_0
        try clear hx258_1
        try clear hx258_2
        try clear p115
        try clear p117
        try clear p2
        try clear p25
        try clear p251
        try clear p252
        try clear p253
        try clear p258
        try clear q115
        try clear q117
        try clear q2
        try clear q25
        try clear q251
        try clear q252
        try clear q253
        try clear q258
        try clear q8
        try clear q84
        obtain ⟨x135_3, rfl, HA, HK3, HO_5, HB⟩ := hrel; cases gk with
        | zero => exact absurd HA.out (by simp [impl_isPlan.l3])
        | succ k3 =>
         have H := HA.out; clear HA; simp only [impl_isPlan.l3] at H
         by_cases c122 : x135_3 < (l0.length : Int)
         ·rw [if_pos c122] at H
          have c122b0 : decide (x135_3 < (l0.length : Int)) = true := decide_eq_true c122; clear c122; by_cases c123 : 0 ≤ x135_3
          ·rw [if_pos c123] at H
           have c123b0 : decide (0 ≤ x135_3) = true := decide_eq_true c123; clear c123; by_cases c124 : x135_3 < (l0.length : Int)
           ·rw [if_pos c124] at H
            have c124b0 : decide (x135_3 < (l0.length : Int)) = true := decide_eq_true c124; clear c124; by_cases c125 : x135_3 < (x5_2.length : Int)
            ·rw [if_pos c125] at H
             have c125b0 : decide (x135_3 < (x5_2.length : Int)) = true := decide_eq_true c125; clear c125; by_cases c126 : (rd x5_2 x135_3) = ((rd_T63 l0 x135_3).f1)
             ·rw [if_pos c126] at H
              have c126b0 : ((rd x5_2 x135_3) == ((rd_T63 l0 x135_3).f1)) = true := beq_iff_eq.mpr c126; have c126b1 : ((rd x5_2 x135_3) != ((rd_T63 l0 x135_3).f1)) = false := bne_eq_false_iff_eq.mpr c126; clear c126; have H' := Aside0.mk H; clear H; have p264 : 0 ≤ (x135_3 : Int) := of_decide_eq_true va; have q264 : x135_3 < (l0.length : Int) := of_decide_eq_true va; obtain ⟨ad264, e264, hx264_0, hx264_1, hx264_2, hx264_3⟩ := at_T63 HR0.out x135_3 p264 q264; cases e264; (try replace hx264_0 := vl HB.out hx264_0); (try replace hx264_1 := vl HB.out hx264_1); (try replace hx264_2 := vl HB.out hx264_2); (try replace hx264_3 := vl HB.out hx264_3); replace p264 := eq_true p264; replace q264 := eq_true q264; try go_wp2_with (first | ((with_reducible refine gate_dst (N := 15) rfl ?_); refine vbe (N := 15) (cs := #[.int .i64 0, .int .i64 0, .int .i64 0, .int .i64 0]) (t := 63) ?_; intro gb265 hg w127 hbox hb; have n0_ := ak (Kd.R_below (vr HO_5.out) hb); have n1_ := ak (below_step (vh HB.out) hb); have n2_ := ak (hbox); have n3_ := ak (vg hg (vh HB.out)); have n4_ := ak (vg hg (vh HB.out)); clear HO_5; clear HB; have HO_5 := n0_; have HB := n1_; have BK265 := n2_; have GW265 := n3_; have GE265 := n4_; clear n0_ n1_ n2_ n3_ n4_; clear hb hbox hg; (try (have hnw129 := Kd.R_ne HO_5.out BK265.out (by decide); change some gb265 ≠ some _ at hnw129; have how129 := fun (e_ : gb265 = _) => hnw129 (congrArg some e_); have hpw129 := fun e_ => how129 (Eq.symm e_); clear hnw129; replace how129 := eq_false how129; replace hpw129 := eq_false hpw129)); have hcz128_0 : w127.cell? ⟨gb265, 0, none⟩ = some (.int .i64 0) := (blk_cell BK265.out 0).trans rfl; have hcz128_1 : w127.cell? ⟨gb265, 1, none⟩ = some (.int .i64 0) := (blk_cell BK265.out 1).trans rfl; have hcz128_2 : w127.cell? ⟨gb265, 2, none⟩ = some (.int .i64 0) := (blk_cell BK265.out 2).trans rfl; have hcz128_3 : w127.cell? ⟨gb265, 3, none⟩ = some (.int .i64 0) := (blk_cell BK265.out 3).trans rfl; have hfz128_0 := blk_frozen BK265.out 0; have hfz128_1 := blk_frozen BK265.out 1; have hfz128_2 := blk_frozen BK265.out 2; have hfz128_3 := blk_frozen BK265.out 3))
              have n0_ : Aside0 (Kd.R (Kd.int .i64) 3 ((((w127.setCell ⟨gb265, 0, none⟩ (.int .i64 ((rd_T63 l0 x135_3).f0))).setCell ⟨gb265, 1, none⟩ (.int .i64 ((rd_T63 l0 x135_3).f1))).setCell ⟨gb265, 2, none⟩ (.int .i64 ((rd_T63 l0 x135_3).f2))).setCell ⟨gb265, 3, none⟩ (.int .i64 ((rd_T63 l0 x135_3).f3))) w.heap.size (fun _ => True) u5 x5_2) := ⟨by (with_reducible repeat (first | apply Kd.R_alloc | apply Kd.R_drewN | apply Kd.R_drew)); exact Kd.R_mono (Kd.R_far (p := ⟨gb265, 3, none⟩) (Kd.R_far (p := ⟨gb265, 2, none⟩) (Kd.R_far (p := ⟨gb265, 1, none⟩) (Kd.R_far (p := ⟨gb265, 0, none⟩) (Kd.R_types HO_5.out BK265.out (by decide)) (fun _ hk => hk.2) (.int .i64 ((rd_T63 l0 x135_3).f0))) (fun _ hk => hk.2) (.int .i64 ((rd_T63 l0 x135_3).f1))) (fun _ hk => hk.2) (.int .i64 ((rd_T63 l0 x135_3).f2))) (fun _ hk => hk.2) (.int .i64 ((rd_T63 l0 x135_3).f3))) (fun _ hk => trivial)⟩; have n1_ : Aside0 (((((w127.setCell ⟨gb265, 0, none⟩ (.int .i64 ((rd_T63 l0 x135_3).f0))).setCell ⟨gb265, 1, none⟩ (.int .i64 ((rd_T63 l0 x135_3).f1))).setCell ⟨gb265, 2, none⟩ (.int .i64 ((rd_T63 l0 x135_3).f2))).setCell ⟨gb265, 3, none⟩ (.int .i64 ((rd_T63 l0 x135_3).f3))).heap[gb265]? = some (.cells #[.int .i64 ((rd_T63 l0 x135_3).f0), .int .i64 ((rd_T63 l0 x135_3).f1), .int .i64 ((rd_T63 l0 x135_3).f2), .int .i64 ((rd_T63 l0 x135_3).f3)] 63 (0, 0))) := ⟨by (with_reducible repeat (first | refine blk_drewN ?_ _ | refine blk_drew ?_ | refine blk_alloc ?_ _)); refine blk_put (cs := #[.int .i64 ((rd_T63 l0 x135_3).f0), .int .i64 ((rd_T63 l0 x135_3).f1), .int .i64 ((rd_T63 l0 x135_3).f2), .int .i64 0]) ?_ 3 _ rfl; (with_reducible repeat (first | refine blk_drewN ?_ _ | refine blk_drew ?_ | refine blk_alloc ?_ _)); refine blk_put (cs := #[.int .i64 ((rd_T63 l0 x135_3).f0), .int .i64 ((rd_T63 l0 x135_3).f1), .int .i64 0, .int .i64 0]) ?_ 2 _ rfl; (with_reducible repeat (first | refine blk_drewN ?_ _ | refine blk_drew ?_ | refine blk_alloc ?_ _)); refine blk_put (cs := #[.int .i64 ((rd_T63 l0 x135_3).f0), .int .i64 0, .int .i64 0, .int .i64 0]) ?_ 1 _ rfl; (with_reducible repeat (first | refine blk_drewN ?_ _ | refine blk_drew ?_ | refine blk_alloc ?_ _)); refine blk_put (cs := #[.int .i64 0, .int .i64 0, .int .i64 0, .int .i64 0]) ?_ 0 _ rfl; exact vb BK265.out⟩; have n2_ : Aside0 (Below w.heap.size w ((((w127.setCell ⟨gb265, 0, none⟩ (.int .i64 ((rd_T63 l0 x135_3).f0))).setCell ⟨gb265, 1, none⟩ (.int .i64 ((rd_T63 l0 x135_3).f1))).setCell ⟨gb265, 2, none⟩ (.int .i64 ((rd_T63 l0 x135_3).f2))).setCell ⟨gb265, 3, none⟩ (.int .i64 ((rd_T63 l0 x135_3).f3)))) := ⟨by exact vs1 HB.out GE265.out⟩; (try clear HO_5); (try clear BK265); (try clear HB); generalize ((((w127.setCell ⟨gb265, 0, none⟩ (.int .i64 ((rd_T63 l0 x135_3).f0))).setCell ⟨gb265, 1, none⟩ (.int .i64 ((rd_T63 l0 x135_3).f1))).setCell ⟨gb265, 2, none⟩ (.int .i64 ((rd_T63 l0 x135_3).f2))).setCell ⟨gb265, 3, none⟩ (.int .i64 ((rd_T63 l0 x135_3).f3))) = w130 at n0_ n1_ n2_ ⊢
              have HO_5 := n0_; have BK265 := n1_; have HB := n2_; clear n0_ n1_ n2_; have n0_ := ak (Kd.R_drew HO_5.out); have n1_ := ak (blk_drew BK265.out); have n2_ := ak (below_drew1 HB.out); clear HO_5; clear BK265; clear HB; have HO_5 := n0_; have BK265 := n1_; have HB := n2_; clear n0_ n1_ n2_; obtain ⟨Ao132, co132, eo132⟩ := Kd.R_slice HO_5.out; (first | subst eo132 | (injection eo132 with f1_ f2_ f3_; have f4_ := f1_.symm; have f5_ := f3_.symm; clear f1_ f2_ f3_; subst f4_; subst f5_)); have p266 : 0 ≤ (x135_3 : Int) := of_decide_eq_true va; have q266 : x135_3 < (x5_2.length : Int) := of_decide_eq_true va; obtain ⟨ad266, e266, hx266_0⟩ := Kd.at_int (Kd.R_reads' HO_5.out).2.2 x135_3 p266 q266; cases e266; replace p266 := eq_true p266; replace q266 := eq_true q266; refine start_ (n := 7) (S := fun w' => w'.cell? ⟨gb265, 0, none⟩ = some (.int .i64 ((rd_T63 l0 x135_3).f0)) ∧ w'.cell? ⟨gb265, 1, none⟩ = some (.int .i64 ((rd_T63 l0 x135_3).f1)) ∧ w'.cell? ⟨gb265, 2, none⟩ = some (.int .i64 ((rd_T63 l0 x135_3).f2)) ∧ w'.cell? ⟨gb265, 3, none⟩ = some (.int .i64 ((rd_T63 l0 x135_3).f3)) ∧ w'.cell? (ad266.add (x135_3).toNat) = some (.int .i64 (rd x5_2 x135_3))) (ds := []) #[false, false, false, false, false, false, false] (by kernel_rfl) rfl rfl ⟨(blk_cell BK265.out 0).trans rfl, (blk_cell BK265.out 1).trans rfl, (blk_cell BK265.out 2).trans rfl, (blk_cell BK265.out 3).trans rfl, hx266_0⟩ (fun hHeld => ?_); generalize w130.drew = w131 at HO_5 BK265 HB hx266_0 hHeld ⊢
              refine pure_ (i := 0) (N := some 140) (v := ?_) (a' := ?_) #[true, false, false, false, false, false, false] rfl rfl (by kernel_rfl) (fun _ _ _ h => h) (Or.inl ⟨by rfl, ?_⟩) ?_ ?_; rotate_left
              ·intro w'; go_simp; with_reducible rfl
              rotate_left
              ·simp only [ap1, ap2, ap3, ap4, i64_w, i32_w]; rfl
              refine pure_ (i := 1) (N := some 141) (v := ?_) (a' := ?_) #[true, true, false, false, false, false, false] rfl rfl (by kernel_rfl) (fun _ _ _ h => h) (Or.inl ⟨by rfl, ?_⟩) ?_ ?_; rotate_left
              ·intro w'; go_simp; with_reducible rfl
              rotate_left
              ·simp only [ap1, ap2, ap3, ap4, i64_w, i32_w]; rfl
              refine pure_ (i := 2) (N := some 142) (v := ?_) (a' := ?_) #[true, true, true, false, false, false, false] rfl rfl (by kernel_rfl) (fun _ _ _ h => h) (Or.inl ⟨by rfl, ?_⟩) ?_ ?_; rotate_left
              ·intro w'; go_simp; with_reducible rfl
              rotate_left
              ·simp only [ap1, ap2, ap3, ap4, i64_w, i32_w]; rfl
              refine pure_ (i := 4) (N := some 144) (v := ?_) (a' := ?_) #[true, true, true, false, true, false, false] rfl rfl (by kernel_rfl) (fun _ _ _ h => h) (Or.inl ⟨by rfl, ?_⟩) ?_ ?_; rotate_left
              ·intro w'; go_simp; with_reducible rfl
              rotate_left
              ·simp only [ap1, ap2, ap3, ap4, i64_w, i32_w]; rfl
              refine take_ (i := 3) (N := some 143) (v := ?_) (a' := ?_) #[true, true, true, true, true, false, false] rfl rfl (by kernel_rfl) (fun _ _ _ h => h) (Or.inl ⟨by rfl, ?_⟩) hHeld ?_ ?_; rotate_left
              ·rintro w' ⟨s0, s1, s2, s3, s4⟩; go_simp; with_reducible rfl
              rotate_left
              ·simp only [ap1, ap2, ap3, ap4, i64_w, i32_w]; rfl
              refine take_ (i := 5) (N := some 145) (v := ?_) (a' := ?_) #[true, true, true, true, true, true, false] rfl rfl (by kernel_rfl) (fun _ _ _ h => h) (Or.inl ⟨by rfl, ?_⟩) hHeld ?_ ?_; rotate_left
              ·rintro w' ⟨s0, s1, s2, s3, s4⟩; go_simp; with_reducible rfl
              rotate_left
              ·simp only [ap1, ap2, ap3, ap4, i64_w, i32_w]; rfl
              refine pure_ (i := 6) (N := some 146) (v := ?_) (a' := ?_) #[true, true, true, true, true, true, true] rfl rfl (by kernel_rfl) (fun _ _ _ h => h) (Or.inl ⟨by rfl, ?_⟩) ?_ ?_; rotate_left
              ·intro w'; go_simp; with_reducible rfl
              rotate_left
              ·simp only [ap1, ap2, ap3, ap4, i64_w, i32_w]; rfl
              refine done_ (by kernel_rfl) ?_; try go_wp2
              go_roundg k3
              case measure => have := HK1.out; have := HK2.out; have := HK3.out; omega
              case rel => exact ⟨(wrap64 (x135_3 + 1)), vq, H', ⟨by have := HK1.out; have := HK2.out; have := HK3.out; omega⟩, ⟨by exact vr HO_5.out⟩, ⟨by exact vs1 HB.out GE265.out⟩⟩
             ·rw [if_neg c126] at H
              have c126b0 : ((rd x5_2 x135_3) == ((rd_T63 l0 x135_3).f1)) = false := beq_eq_false_iff_ne.mpr c126; have c126b1 : ((rd x5_2 x135_3) != ((rd_T63 l0 x135_3).f1)) = true := bne_iff_ne.mpr c126; obtain rfl := Option.some.inj H; have p264 : 0 ≤ (x135_3 : Int) := of_decide_eq_true va; have q264 : x135_3 < (l0.length : Int) := of_decide_eq_true va; obtain ⟨ad264, e264, hx264_0, hx264_1, hx264_2, hx264_3⟩ := at_T63 HR0.out x135_3 p264 q264; cases e264; (try replace hx264_0 := vl HB.out hx264_0); (try replace hx264_1 := vl HB.out hx264_1); (try replace hx264_2 := vl HB.out hx264_2); (try replace hx264_3 := vl HB.out hx264_3); replace p264 := eq_true p264; replace q264 := eq_true q264; try go_wp2_with (first | ((with_reducible refine gate_dst (N := 15) rfl ?_); refine vbe (N := 15) (cs := #[.int .i64 0, .int .i64 0, .int .i64 0, .int .i64 0]) (t := 63) ?_; intro gb265 hg w133 hbox hb; have n0_ := ak (Kd.R_below (vr HO_5.out) hb); have n1_ := ak (below_step (vh HB.out) hb); have n2_ := ak (hbox); have n3_ := ak (vg hg (vh HB.out)); have n4_ := ak (vg hg (vh HB.out)); clear HO_5; clear HB; have HO_5 := n0_; have HB := n1_; have BK265 := n2_; have GW265 := n3_; have GE265 := n4_; clear n0_ n1_ n2_ n3_ n4_; clear hb hbox hg; (try (have hnw135 := Kd.R_ne HO_5.out BK265.out (by decide); change some gb265 ≠ some _ at hnw135; have how135 := fun (e_ : gb265 = _) => hnw135 (congrArg some e_); have hpw135 := fun e_ => how135 (Eq.symm e_); clear hnw135; replace how135 := eq_false how135; replace hpw135 := eq_false hpw135)); have hcz134_0 : w133.cell? ⟨gb265, 0, none⟩ = some (.int .i64 0) := (blk_cell BK265.out 0).trans rfl; have hcz134_1 : w133.cell? ⟨gb265, 1, none⟩ = some (.int .i64 0) := (blk_cell BK265.out 1).trans rfl; have hcz134_2 : w133.cell? ⟨gb265, 2, none⟩ = some (.int .i64 0) := (blk_cell BK265.out 2).trans rfl; have hcz134_3 : w133.cell? ⟨gb265, 3, none⟩ = some (.int .i64 0) := (blk_cell BK265.out 3).trans rfl; have hfz134_0 := blk_frozen BK265.out 0; have hfz134_1 := blk_frozen BK265.out 1; have hfz134_2 := blk_frozen BK265.out 2; have hfz134_3 := blk_frozen BK265.out 3))
              have n0_ : Aside0 (Kd.R (Kd.int .i64) 3 ((((w133.setCell ⟨gb265, 0, none⟩ (.int .i64 ((rd_T63 l0 x135_3).f0))).setCell ⟨gb265, 1, none⟩ (.int .i64 ((rd_T63 l0 x135_3).f1))).setCell ⟨gb265, 2, none⟩ (.int .i64 ((rd_T63 l0 x135_3).f2))).setCell ⟨gb265, 3, none⟩ (.int .i64 ((rd_T63 l0 x135_3).f3))) w.heap.size (fun _ => True) u5 x5_2) := ⟨by (with_reducible repeat (first | apply Kd.R_alloc | apply Kd.R_drewN | apply Kd.R_drew)); exact Kd.R_mono (Kd.R_far (p := ⟨gb265, 3, none⟩) (Kd.R_far (p := ⟨gb265, 2, none⟩) (Kd.R_far (p := ⟨gb265, 1, none⟩) (Kd.R_far (p := ⟨gb265, 0, none⟩) (Kd.R_types HO_5.out BK265.out (by decide)) (fun _ hk => hk.2) (.int .i64 ((rd_T63 l0 x135_3).f0))) (fun _ hk => hk.2) (.int .i64 ((rd_T63 l0 x135_3).f1))) (fun _ hk => hk.2) (.int .i64 ((rd_T63 l0 x135_3).f2))) (fun _ hk => hk.2) (.int .i64 ((rd_T63 l0 x135_3).f3))) (fun _ hk => trivial)⟩; have n1_ : Aside0 (((((w133.setCell ⟨gb265, 0, none⟩ (.int .i64 ((rd_T63 l0 x135_3).f0))).setCell ⟨gb265, 1, none⟩ (.int .i64 ((rd_T63 l0 x135_3).f1))).setCell ⟨gb265, 2, none⟩ (.int .i64 ((rd_T63 l0 x135_3).f2))).setCell ⟨gb265, 3, none⟩ (.int .i64 ((rd_T63 l0 x135_3).f3))).heap[gb265]? = some (.cells #[.int .i64 ((rd_T63 l0 x135_3).f0), .int .i64 ((rd_T63 l0 x135_3).f1), .int .i64 ((rd_T63 l0 x135_3).f2), .int .i64 ((rd_T63 l0 x135_3).f3)] 63 (0, 0))) := ⟨by (with_reducible repeat (first | refine blk_drewN ?_ _ | refine blk_drew ?_ | refine blk_alloc ?_ _)); refine blk_put (cs := #[.int .i64 ((rd_T63 l0 x135_3).f0), .int .i64 ((rd_T63 l0 x135_3).f1), .int .i64 ((rd_T63 l0 x135_3).f2), .int .i64 0]) ?_ 3 _ rfl; (with_reducible repeat (first | refine blk_drewN ?_ _ | refine blk_drew ?_ | refine blk_alloc ?_ _)); refine blk_put (cs := #[.int .i64 ((rd_T63 l0 x135_3).f0), .int .i64 ((rd_T63 l0 x135_3).f1), .int .i64 0, .int .i64 0]) ?_ 2 _ rfl; (with_reducible repeat (first | refine blk_drewN ?_ _ | refine blk_drew ?_ | refine blk_alloc ?_ _)); refine blk_put (cs := #[.int .i64 ((rd_T63 l0 x135_3).f0), .int .i64 0, .int .i64 0, .int .i64 0]) ?_ 1 _ rfl; (with_reducible repeat (first | refine blk_drewN ?_ _ | refine blk_drew ?_ | refine blk_alloc ?_ _)); refine blk_put (cs := #[.int .i64 0, .int .i64 0, .int .i64 0, .int .i64 0]) ?_ 0 _ rfl; exact vb BK265.out⟩; have n2_ : Aside0 (Below w.heap.size w ((((w133.setCell ⟨gb265, 0, none⟩ (.int .i64 ((rd_T63 l0 x135_3).f0))).setCell ⟨gb265, 1, none⟩ (.int .i64 ((rd_T63 l0 x135_3).f1))).setCell ⟨gb265, 2, none⟩ (.int .i64 ((rd_T63 l0 x135_3).f2))).setCell ⟨gb265, 3, none⟩ (.int .i64 ((rd_T63 l0 x135_3).f3)))) := ⟨by exact vs1 HB.out GE265.out⟩; (try clear HO_5); (try clear BK265); (try clear HB); generalize ((((w133.setCell ⟨gb265, 0, none⟩ (.int .i64 ((rd_T63 l0 x135_3).f0))).setCell ⟨gb265, 1, none⟩ (.int .i64 ((rd_T63 l0 x135_3).f1))).setCell ⟨gb265, 2, none⟩ (.int .i64 ((rd_T63 l0 x135_3).f2))).setCell ⟨gb265, 3, none⟩ (.int .i64 ((rd_T63 l0 x135_3).f3))) = w136 at n0_ n1_ n2_ ⊢
              have HO_5 := n0_; have BK265 := n1_; have HB := n2_; clear n0_ n1_ n2_; have n0_ := ak (Kd.R_drew HO_5.out); have n1_ := ak (blk_drew BK265.out); have n2_ := ak (below_drew1 HB.out); clear HO_5; clear BK265; clear HB; have HO_5 := n0_; have BK265 := n1_; have HB := n2_; clear n0_ n1_ n2_; obtain ⟨Ao138, co138, eo138⟩ := Kd.R_slice HO_5.out; (first | subst eo138 | (injection eo138 with f1_ f2_ f3_; have f4_ := f1_.symm; have f5_ := f3_.symm; clear f1_ f2_ f3_; subst f4_; subst f5_)); have p266 : 0 ≤ (x135_3 : Int) := of_decide_eq_true va; have q266 : x135_3 < (x5_2.length : Int) := of_decide_eq_true va; obtain ⟨ad266, e266, hx266_0⟩ := Kd.at_int (Kd.R_reads' HO_5.out).2.2 x135_3 p266 q266; cases e266; replace p266 := eq_true p266; replace q266 := eq_true q266; refine start_ (n := 7) (S := fun w' => w'.cell? ⟨gb265, 0, none⟩ = some (.int .i64 ((rd_T63 l0 x135_3).f0)) ∧ w'.cell? ⟨gb265, 1, none⟩ = some (.int .i64 ((rd_T63 l0 x135_3).f1)) ∧ w'.cell? ⟨gb265, 2, none⟩ = some (.int .i64 ((rd_T63 l0 x135_3).f2)) ∧ w'.cell? ⟨gb265, 3, none⟩ = some (.int .i64 ((rd_T63 l0 x135_3).f3)) ∧ w'.cell? (ad266.add (x135_3).toNat) = some (.int .i64 (rd x5_2 x135_3))) (ds := []) #[false, false, false, false, false, false, false] (by kernel_rfl) rfl rfl ⟨(blk_cell BK265.out 0).trans rfl, (blk_cell BK265.out 1).trans rfl, (blk_cell BK265.out 2).trans rfl, (blk_cell BK265.out 3).trans rfl, hx266_0⟩ (fun hHeld => ?_); generalize w136.drew = w137 at HO_5 BK265 HB hx266_0 hHeld ⊢
              refine pure_ (i := 0) (N := some 140) (v := ?_) (a' := ?_) #[true, false, false, false, false, false, false] rfl rfl (by kernel_rfl) (fun _ _ _ h => h) (Or.inl ⟨by rfl, ?_⟩) ?_ ?_; rotate_left
              ·intro w'; go_simp; with_reducible rfl
              rotate_left
              ·simp only [ap1, ap2, ap3, ap4, i64_w, i32_w]; rfl
              refine pure_ (i := 1) (N := some 141) (v := ?_) (a' := ?_) #[true, true, false, false, false, false, false] rfl rfl (by kernel_rfl) (fun _ _ _ h => h) (Or.inl ⟨by rfl, ?_⟩) ?_ ?_; rotate_left
              ·intro w'; go_simp; with_reducible rfl
              rotate_left
              ·simp only [ap1, ap2, ap3, ap4, i64_w, i32_w]; rfl
              refine pure_ (i := 2) (N := some 142) (v := ?_) (a' := ?_) #[true, true, true, false, false, false, false] rfl rfl (by kernel_rfl) (fun _ _ _ h => h) (Or.inl ⟨by rfl, ?_⟩) ?_ ?_; rotate_left
              ·intro w'; go_simp; with_reducible rfl
              rotate_left
              ·simp only [ap1, ap2, ap3, ap4, i64_w, i32_w]; rfl
              refine pure_ (i := 4) (N := some 144) (v := ?_) (a' := ?_) #[true, true, true, false, true, false, false] rfl rfl (by kernel_rfl) (fun _ _ _ h => h) (Or.inl ⟨by rfl, ?_⟩) ?_ ?_; rotate_left
              ·intro w'; go_simp; with_reducible rfl
              rotate_left
              ·simp only [ap1, ap2, ap3, ap4, i64_w, i32_w]; rfl
              refine take_ (i := 3) (N := some 143) (v := ?_) (a' := ?_) #[true, true, true, true, true, false, false] rfl rfl (by kernel_rfl) (fun _ _ _ h => h) (Or.inl ⟨by rfl, ?_⟩) hHeld ?_ ?_; rotate_left
              ·rintro w' ⟨s0, s1, s2, s3, s4⟩; go_simp; with_reducible rfl
              rotate_left
              ·simp only [ap1, ap2, ap3, ap4, i64_w, i32_w]; rfl
              refine take_ (i := 5) (N := some 145) (v := ?_) (a' := ?_) #[true, true, true, true, true, true, false] rfl rfl (by kernel_rfl) (fun _ _ _ h => h) (Or.inl ⟨by rfl, ?_⟩) hHeld ?_ ?_; rotate_left
              ·rintro w' ⟨s0, s1, s2, s3, s4⟩; go_simp; with_reducible rfl
              rotate_left
              ·simp only [ap1, ap2, ap3, ap4, i64_w, i32_w]; rfl
              refine pure_ (i := 6) (N := some 146) (v := ?_) (a' := ?_) #[true, true, true, true, true, true, true] rfl rfl (by kernel_rfl) (fun _ _ _ h => h) (Or.inl ⟨by rfl, ?_⟩) ?_ ?_; rotate_left
              ·intro w'; go_simp; with_reducible rfl
              rotate_left
              ·simp only [ap1, ap2, ap3, ap4, i64_w, i32_w]; rfl
              refine done_ (by kernel_rfl) ?_; try go_wp2
              go_ret
              exact ⟨by first | rfl | (simp [errW_none, errW_some] <;> rfl) | (simp [*, errW_none, errW_some] <;> rfl), by exact vs1 HB.out GE265.out⟩
            ·rw [if_neg c125] at H
             exact absurd H (by simp)
           ·rw [if_neg c124] at H
            exact absurd H (by simp)
          ·rw [if_neg c123] at H
           exact absurd H (by simp)
         ·rw [if_neg c122] at H
          have c122b0 : decide (x135_3 < (l0.length : Int)) = false := decide_eq_false c122; clear c122; obtain rfl := Option.some.inj H; go_wp2
          go_ret
          exact ⟨by first | rfl | (simp [errW_none, errW_some] <;> rfl) | (simp [*, errW_none, errW_some] <;> rfl), by exact vh HB.out⟩

end Go.Proofs.Ytlgmccliclmbaaa.PFnExactWaitsOf
