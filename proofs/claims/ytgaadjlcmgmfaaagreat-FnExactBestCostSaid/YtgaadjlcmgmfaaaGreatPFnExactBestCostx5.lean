-- Written by a program of this session (the kit's print with this session's additions, wip/tools): Lean checks it.
import Derived.Test.YtgaadjlcmgmfaaaGreatPFnExactBestCostx0
import Derived.Test.YtgaadjlcmgmfaaaGreatPFnExactBestCostx3
import Derived.Test.YtgaadjlcmgmfaaaGreatPFnExactBestCostx4
namespace Go.Proofs.YtgaadjlcmgmfaaaGreat.PFnExactBestCost
open Go.RowKit Go.Proofs.YtgaadjlcmgmfaaaGreatW.PrintWords Go.Proofs.YtgaadjlcmgmfaaaGreatW.PrintLast Go.Proofs.YtgaadjlcmgmfaaaGreatW.PrintMore
attribute [local go_sem] max2_int min2_int max_two min_two max_three min_three max_four min_four   -- for this text's walks alone
set_option linter.unusedVariables false
set_option linter.unusedSimpArgs false

/-! ### slices_SortFunc_string_string: function 43 -/
theorem slices_SortFunc_string_string_.or_ (k : Nat) (p q s x : Int) (W : World) (h : cmp_Or_int.f k [p, q, s] = some x) :
    Calls Tryz.prog 58 #[.slice (some ⟨W.heap.size, 0, none⟩) 3 3] (W.alloc (.cells #[.int .i64 p, .int .i64 q, .int .i64 s] 3)) fun e w' => e = .returned (.int .i64 x) ∧ ∃ n, w' = (W.alloc (.cells #[.int .i64 p, .int .i64 q, .int .i64 s] 3)).drewN n := by
  have hc : ∀ (j : Nat) (v : Value), (#[.int .i64 p, .int .i64 q, .int .i64 s] : Array Value)[j]? = some v → (W.alloc (.cells #[.int .i64 p, .int .i64 q, .int .i64 s] 3)).cell? ⟨W.heap.size, j, none⟩ = some v := fun j v h => by
    rw [cell_of_row _ _ j _ 3 (0, 0) (heap_alloc_last W _)]
    exact h
  exact (cmp_Or_int.calls k (some ⟨W.heap.size, 0, none⟩) 3 [p, q, s] x _ (by
    refine Kd.C_of_reads (enc := Value.int .i64) (d := 0) (h1 := fun _ => rfl) ⟨rfl, (by show (3 : Nat) ≤ 9223372036854775807; decide), fun _ => ⟨_, rfl, fun j hj => ?_⟩⟩
    have ha : (⟨W.heap.size, 0, none⟩ : Addr).add j = ⟨W.heap.size, j, none⟩ := by unfold Addr.add; split <;> simp_all
    rw [ha]
    have hj : j < 3 := hj
    rcases j with _ | _ | _ | j
    · exact hc 0 _ rfl
    · exact hc 1 _ rfl
    · exact hc 2 _ rfl
    · omega) (Nat.le_refl 3) h).mono fun e w' h => ⟨h.1, h.2.out⟩
theorem slices_SortFunc_string_string_.up (w w' : World) (h : opp_.Up w.heap.size w w') : ∃ q os, w' = Go.Sort.grow (w.drewN q) os := by
  refine ⟨w'.drawn - w.drawn, w'.heap.extract w.heap.size w'.heap.size, ?_⟩
  obtain ⟨⟨h1, h2, h3, h4, h5⟩, h6⟩ := h
  obtain ⟨H, T, D, O, U⟩ := w
  obtain ⟨H', T', D', O', U'⟩ := w'
  simp only at h1 h2 h3 h4 h5 h6
  subst h1 h2 h3
  unfold Go.Sort.grow World.drewN
  simp only [World.mk.injEq, true_and, and_true]
  refine ⟨?_, by omega⟩
  apply Array.ext
  · simp; omega
  · intro i hi1 hi2
    rw [Array.getElem_append]
    by_cases hi : i < H.size
    · rw [dif_pos hi]
      have := h5 i hi
      rw [Array.getElem?_eq_getElem hi1, Array.getElem?_eq_getElem hi] at this
      exact Option.some.inj this
    · rw [dif_neg hi, Array.getElem_extract]
      congr 1
      omega
set_option maxHeartbeats 8000000 in
set_option maxRecDepth 100000 in
theorem slices_SortFunc_string_string_.byTime (k : Nat) (a b : ByteArray) (r : Int) (w : World) (h : impl_byTime.f k a b = some r) :
    Calls Tryz.prog 44 #[.string a, .string b] w fun e w' => e = .returned (.int .i64 r) ∧ ∃ q os, w' = Go.Sort.grow (w.drewN q) os := by
  unfold impl_byTime.f at h
  obtain ⟨t1, e1, h⟩ := Option.bind_eq_some_iff.mp h
  obtain ⟨t2, e2, h⟩ := Option.bind_eq_some_iff.mp h
  obtain ⟨t3, e3, h⟩ := Option.bind_eq_some_iff.mp h
  obtain ⟨t4, e4, h⟩ := Option.bind_eq_some_iff.mp h
  obtain ⟨t5, e5, h⟩ := Option.bind_eq_some_iff.mp h
  obtain ⟨t6, e6, h⟩ := Option.bind_eq_some_iff.mp h
  obtain ⟨t7, e7, h⟩ := Option.bind_eq_some_iff.mp h
  obtain ⟨t8, e8, h⟩ := Option.bind_eq_some_iff.mp h
  obtain rfl := Option.some.inj h
  have H1 := Aside0.mk (fun w => (impl_timeOf.calls a t1 w e1).mono (R' := fun e w' => e = .returned (.int .i64 t1) ∧ ∃ n, w' = w.drewN n) (fun e w' h => ⟨h.1, h.2.out⟩))
  have H2 := Aside0.mk (fun w => (impl_timeOf.calls b t2 w e2).mono (R' := fun e w' => e = .returned (.int .i64 t2) ∧ ∃ n, w' = w.drewN n) (fun e w' h => ⟨h.1, h.2.out⟩))
  have H3 := Aside0.mk (fun w => (cmp_Compare_int.calls t1 t2 t3 w e3).mono (R' := fun e w' => e = .returned (.int .i64 t3) ∧ ∃ n, w' = w.drewN n) (fun e w' h => ⟨h.1, h.2.out⟩))
  have H4 := Aside0.mk (fun w => (cmp_Compare_int.calls _ _ t4 w e4).mono (R' := fun e w' => e = .returned (.int .i64 t4) ∧ ∃ n, w' = w.drewN n) (fun e w' h => ⟨h.1, h.2.out⟩))
  have H5 := Aside0.mk (fun w => impl_opposite.up_ a t5 w e5)
  have H6 := Aside0.mk (fun w => impl_opposite.up_ b t6 w e6)
  have H7 := Aside0.mk (fun w => strings_Compare.same t5 t6 t7 w e7)
  have H8 := Aside0.mk (fun W => slices_SortFunc_string_string_.or_ k t3 t4 t7 t8 W e8)
  clear e1 e2 e3 e4 e5 e6 e7 e8 h
  suffices hs : Calls Tryz.prog 44 #[.string a, .string b] w fun e w' => e = .returned (.int .i64 t8) ∧ opp_.Up w.heap.size w w' from hs.mono fun e w' h => ⟨h.1, slices_SortFunc_string_string_.up w w' h.2⟩
  go_enter Tryz.func44, Tryz.ntmps44
  go_wp2_with (first
    | (go_at_call_of 42 (Value.string a); refine (H1.out _).mono ?_; rintro e w' ⟨rfl, n1, rfl⟩)
    | (go_at_call_of 42 (Value.string b); refine (H2.out _).mono ?_; rintro e w' ⟨rfl, n2, rfl⟩)
    | (go_at_call_of 59 (Value.int .i64 t1); refine (H3.out _).mono ?_; rintro e w' ⟨rfl, n3, rfl⟩)
    | (go_at_call 59; refine (H4.out _).mono ?_; rintro e w' ⟨rfl, n4, rfl⟩)
    | (go_at_call_of 61 (Value.string a); refine (H5.out _).mono ?_; rintro e w5 ⟨rfl, h5⟩)
    | (go_at_call_of 61 (Value.string b); refine (H6.out _).mono ?_; rintro e w6 ⟨rfl, h6⟩)
    | (go_at_call 60; refine (H7.out _).mono ?_; rintro e w' ⟨rfl, rfl⟩)
    | (go_at_call 58; refine (H8.out _).mono ?_; rintro e w' ⟨rfl, n8, rfl⟩))
  go_ret
  refine ⟨rfl, opp_.Up.drewN ?_ _⟩
  refine opp_.Up.alloc ?_ ?_ _
  · exact ((opp_.Up.drewN (opp_.Up.refl _ w) _).trans h5).trans (h6.mono h5.size)
  · exact Nat.le_trans h5.below.size h6.below.size
def slices_SortFunc_string_string_.v (k : Nat) (x y : ByteArray) : Int := (impl_byTime.f k x y).getD 0
def slices_SortFunc_string_string_.ok (k : Nat) (l : List ByteArray) : Prop := l.length < 4611686018427387904 ∧ (∀ x ∈ l, ∀ y ∈ l, (impl_byTime.f k x y).isSome = true) ∧ (∀ x ∈ l, ¬ slices_SortFunc_string_string_.v k x x < 0) ∧ (∀ x ∈ l, ∀ y ∈ l, ∀ z ∈ l, slices_SortFunc_string_string_.v k x y < 0 → slices_SortFunc_string_string_.v k y z < 0 → slices_SortFunc_string_string_.v k x z < 0) ∧ (∀ x ∈ l, ∀ y ∈ l, ∀ z ∈ l, ¬ slices_SortFunc_string_string_.v k x y < 0 → ¬ slices_SortFunc_string_string_.v k y z < 0 → ¬ slices_SortFunc_string_string_.v k x z < 0) ∧ (∀ x ∈ l, ∀ y ∈ l, ¬ slices_SortFunc_string_string_.v k x y < 0 → ¬ slices_SortFunc_string_string_.v k y x < 0 → x = y)
instance (k : Nat) (l : List ByteArray) : Decidable (slices_SortFunc_string_string_.ok k l) := inferInstanceAs (Decidable (_ ∧ _ ∧ _ ∧ _ ∧ _ ∧ _))
def slices_SortFunc_string_string.f (k : Nat) (l : List ByteArray) : Option (List ByteArray) := if slices_SortFunc_string_string_.ok k l then some (l.mergeSort fun x y => !decide (slices_SortFunc_string_string_.v k y x < 0)) else none
theorem slices_SortFunc_string_string_.up1 (k : Nat) (x y : ByteArray) (h : (impl_byTime.f k x y).isSome = true) : slices_SortFunc_string_string_.v (k + 1) x y = slices_SortFunc_string_string_.v k x y ∧ (impl_byTime.f (k + 1) x y).isSome = true := by
  obtain ⟨d, hd⟩ := Option.isSome_iff_exists.1 h
  have := impl_byTime.mono _ _ k d hd
  unfold slices_SortFunc_string_string_.v
  rw [hd, this]
  exact ⟨rfl, rfl⟩
theorem slices_SortFunc_string_string.mono (l : List ByteArray) (k : Nat) : LeO (slices_SortFunc_string_string.f k l) (slices_SortFunc_string_string.f (k + 1) l) := by
  intro r h
  unfold slices_SortFunc_string_string.f at h ⊢
  by_cases c : slices_SortFunc_string_string_.ok k l
  · rw [if_pos c] at h
    obtain ⟨c1, c2, c3, c4, c5, c6⟩ := c
    have e : ∀ x ∈ l, ∀ y ∈ l, slices_SortFunc_string_string_.v (k + 1) x y = slices_SortFunc_string_string_.v k x y := fun x hx y hy => (slices_SortFunc_string_string_.up1 k x y (c2 x hx y hy)).1
    have c' : slices_SortFunc_string_string_.ok (k + 1) l := by
      refine ⟨c1, fun x hx y hy => (slices_SortFunc_string_string_.up1 k x y (c2 x hx y hy)).2, fun x hx => ?_, fun x hx y hy z hz => ?_, fun x hx y hy z hz => ?_, fun x hx y hy => ?_⟩
      · rw [e x hx x hx]; exact c3 x hx
      · rw [e x hx y hy, e y hy z hz, e x hx z hz]; exact c4 x hx y hy z hz
      · rw [e x hx y hy, e y hy z hz, e x hx z hz]; exact c5 x hx y hy z hz
      · rw [e x hx y hy, e y hy x hx]; exact c6 x hx y hy
    rw [if_pos c', ← h]
    congr 1
    have e4 := List.map_mergeSort (l := l) (f := id) (r := fun x y => !decide (slices_SortFunc_string_string_.v (k + 1) y x < 0)) (s := fun x y => !decide (slices_SortFunc_string_string_.v k y x < 0)) (fun x hx y hy => by simp only [id, e y hy x hx])
    simpa using e4
  · rw [if_neg c] at h
    cases h
theorem slices_SortFunc_string_string_.cells {α : Type} [Inhabited α] (enc : α → Value) (v : α → ByteArray) (h : ∀ x, enc x = .string (v x)) (d : Array α) (w : World) (g : Nat) : Go.Sort.putRow enc w g 0 d = Go.Sort.putRow Value.string w g 0 (d.map v) := by
  have e : Go.Sort.putCells enc 0 d = Go.Sort.putCells Value.string 0 (d.map v) := by
    funext c
    unfold Go.Sort.putCells
    congr 1
    funext i x
    by_cases hi : i < d.size
    · simp [hi, h]
    · simp [hi]
  unfold Go.Sort.putRow
  rw [e]
def slices_SortFunc_string_string_.cf (k : Nat) (l : List ByteArray) (x y : {x : ByteArray // x ∈ l}) : Int := slices_SortFunc_string_string_.v k x.1 y.1
set_option maxHeartbeats 8000000 in
set_option maxRecDepth 100000 in
theorem slices_SortFunc_string_string.calls (k : Nat) (P0_ : Nat → Prop) (u9000_ : Value) (l0 : List ByteArray) (r : List ByteArray) (w0 w : World) (hB : Below w0.heap.size w0 w) (ho0 : Kd.R Kd.string 9 w w0.heap.size P0_ u9000_ l0) (h : slices_SortFunc_string_string.f k l0 = some r) :
    Calls Tryz.prog 43 #[u9000_, .func (.func 44) #[] #[]] w fun e w' => e = .returned (.tuple #[]) ∧ Kd.R Kd.string 9 w' w0.heap.size (fun k_ => (P0_ k_ ∨ w.heap.size ≤ k_)) u9000_ r ∧ Below w0.heap.size w0 w' ∧ Kept w w' (fun k_ => P0_ k_) := by
  unfold slices_SortFunc_string_string.f at h
  by_cases c : slices_SortFunc_string_string_.ok k l0
  · rw [if_pos c] at h
    obtain rfl := Option.some.inj h
    obtain ⟨hl, hsome, c3, c4, c5, c6⟩ := c
    rcases Given.row_open ho0 with ⟨rfl, rfl⟩ | ⟨g, cap, cur, rfl, hok, hg, hlt, hh, hlc, hcm, hcs, hH⟩
    · refine (AnyF.slices_SortFunc_none (P := Tryz.prog) (ρ := Tryz.sortFuncStr_ren) { Tryz.sortFuncStr with } none 0 _ w).mono ?_
      rintro e w' ⟨rfl, hw⟩
      subst hw
      exact ⟨rfl, by rw [List.mergeSort_nil]; exact Kd.R_nil _ _ _ _ _, hB, Kept.refl _ _⟩
    · by_cases h0 : l0 = []
      · subst h0
        refine (AnyF.slices_SortFunc_none (P := Tryz.prog) (ρ := Tryz.sortFuncStr_ren) { Tryz.sortFuncStr with } (some ⟨g, 0, none⟩) cap _ w).mono ?_
        rintro e w' ⟨rfl, hw⟩
        subst hw
        exact ⟨rfl, by rw [List.mergeSort_nil]; exact Kd.R_mono ho0 (fun _ h => .inl h), hB, Kept.refl _ _⟩
      · obtain ⟨x0, hx0⟩ := List.exists_mem_of_ne_nil l0 h0
        letI : Inhabited {x : ByteArray // x ∈ l0} := ⟨⟨x0, hx0⟩⟩
        have hlt2 : ∀ x y : {x : ByteArray // x ∈ l0}, ltOf (slices_SortFunc_string_string_.cf k l0) x y = decide (slices_SortFunc_string_string_.v k x.1 y.1 < 0) := fun x y => rfl
        have hO : Go.Sort.SWO (ltOf (slices_SortFunc_string_string_.cf k l0)) := ⟨fun x => by rw [hlt2]; exact decide_eq_false (c3 x.1 x.2), fun x y z h1 h2 => by
          rw [hlt2, decide_eq_true_eq] at h1 h2 ⊢
          exact c4 x.1 x.2 y.1 y.2 z.1 z.2 h1 h2, fun x y z h1 h2 => by
          rw [hlt2, decide_eq_false_iff_not] at h1 h2 ⊢
          first | exact c5 x.1 x.2 y.1 y.2 z.1 z.2 h1 h2 | exact c5 z.1 z.2 y.1 y.2 x.1 x.2 h2 h1⟩
        have hT : ∀ x y, (ltOf (slices_SortFunc_string_string_.cf k l0)) x y = false → (ltOf (slices_SortFunc_string_string_.cf k l0)) y x = false → x = y := fun x y h1 h2 => by
          rw [hlt2, decide_eq_false_iff_not] at h1 h2
          exact Subtype.ext (c6 x.1 x.2 y.1 y.2 h1 h2)
        have hcmp : CmpLays1 Tryz.prog 44 #[] (fun x : {x : ByteArray // x ∈ l0} => Value.string x.1) (slices_SortFunc_string_string_.cf k l0) g 0 (l0.pmap Subtype.mk (fun x h => h)).toArray.size w := fun m os dk _ x y => by
          refine slices_SortFunc_string_string_.byTime k x.1 y.1 _ _ ?_
          obtain ⟨d, hd⟩ := Option.isSome_iff_exists.1 (hsome x.1 x.2 y.1 y.2)
          rw [hd]
          unfold slices_SortFunc_string_string_.cf slices_SortFunc_string_string_.v
          rw [hd]
          rfl
        have hsz : (l0.pmap Subtype.mk (fun x (h : x ∈ l0) => h)).toArray.size = l0.length := by simp
        have hHd : Go.Sort.Holds (fun x : {x : ByteArray // x ∈ l0} => Value.string x.1) w g 0 (l0.pmap Subtype.mk (fun x h => h)).toArray := fun j hj => by
          have hj' : j < l0.length := by rw [hsz] at hj; exact hj
          have h1 := hH j (by simpa using hj')
          simpa [hj'] using h1
        have eg : ∀ args w, (callFunc 44 args).run Tryz.prog w = .ok (.enter 44 args) w := enters_of Tryz.func44 (by kernel_rfl) rfl
        have hmain := Any.slices_SortFunc_total Tryz.sortFuncStr (fun x : {x : ByteArray // x ∈ l0} => Value.string x.1) (fun _ => rfl) (slices_SortFunc_string_string_.cf k l0) hO 44 #[] g 0 cap (l0.pmap Subtype.mk (fun x h => h)).toArray w eg hcmp hHd hlt (by rw [hsz]; exact hl) hT
        rw [hsz] at hmain
        refine hmain.mono ?_
        rintro e w' ⟨rfl, n, os, rfl⟩
        have hmap : ((l0.pmap Subtype.mk (fun x (h : x ∈ l0) => h)).toArray.toList.mergeSort fun x y => !(ltOf (slices_SortFunc_string_string_.cf k l0)) y x).map (fun x => x.1) = l0.mergeSort fun x y => !decide (slices_SortFunc_string_string_.v k y x < 0) := by
          rw [List.map_mergeSort (s := fun x y => !decide (slices_SortFunc_string_string_.v k y x < 0)) (fun x _ y _ => by rw [hlt2])]
          congr 1
          simp [List.map_pmap]
        have hm : (l0.mergeSort fun x y => !decide (slices_SortFunc_string_string_.v k y x < 0)).length = l0.length := List.length_mergeSort _
        have h := Given.row_put (enc := Value.string) (h1 := fun _ => rfl) (os := os) (n := n) (m := l0.length) (zs := l0.mergeSort fun x y => !decide (slices_SortFunc_string_string_.v k y x < 0)) hB hok hg hh hcm hcs (by omega) (by omega)
        rw [List.take_of_length_le (by omega)] at h
        have hw : sortWorld (fun x : {x : ByteArray // x ∈ l0} => Value.string x.1) w g 0 n ((l0.pmap Subtype.mk (fun x (h : x ∈ l0) => h)).toArray.toList.mergeSort fun x y => !(ltOf (slices_SortFunc_string_string_.cf k l0)) y x).toArray os = Go.Sort.grow (Go.Sort.putRow Value.string (Sort.ahead w n) g 0 (l0.mergeSort fun x y => !decide (slices_SortFunc_string_string_.v k y x < 0)).toArray) os := by
          unfold sortWorld
          rw [slices_SortFunc_string_string_.cells (fun x : {x : ByteArray // x ∈ l0} => Value.string x.1) (fun x => x.1) (fun _ => rfl), List.map_toArray, hmap]
        rw [hw]
        exact ⟨rfl, h.1, h.2.1, h.2.2⟩
  · rw [if_neg c] at h
    cases h

/-! ### impl_allMarks: function 26 -/
mutual
def impl_allMarks.l0 : Nat → List ByteArray → List ByteArray → Int → Int → Option (List ByteArray)
  | 0, _, _, _, _ => none
  | k + 1, x3, x4, x10, x11 => if x11 < x10 then (impl_allMarks.l1 k x3 (([] : List ByteArray)) x10 x11 x4 (x4.length : Int) 0) else ((slices_SortFunc_string_string.f k x3).bind fun t194 => (some t194))
def impl_allMarks.l1 : Nat → List ByteArray → List ByteArray → Int → Int → List ByteArray → Int → Int → Option (List ByteArray)
  | 0, _, _, _, _, _, _, _ => none
  | k + 1, x3, x5, x10, x11, x14, x15, x16 => if x16 < x15 then (if 0 ≤ x16 then (if x16 < (x14.length : Int) then (if (rdOf ByteArray.empty x14 x16).size + 1 ≤ 9223372036854775807 then ((some (([(rdOf ByteArray.empty x14 x16) ++ (⟨#[46]⟩ : ByteArray), (rdOf ByteArray.empty x14 x16) ++ (⟨#[45]⟩ : ByteArray)] : List ByteArray) : List ByteArray)).bind fun y199 => (if x5.length + y199.length < 8796093022208 then (impl_allMarks.l1 k x3 (x5 ++ y199) x10 x11 x14 x15 (wrap64 (x16 + 1))) else (none))) else (none)) else (none)) else (none)) else (if x3.length + x5.length < 8796093022208 then (impl_allMarks.l0 k (x3 ++ x5) x5 x10 (wrap64 (x11 + 1))) else (none))
end
def impl_allMarks.f (k : Nat) (a0 : Int) : Option (List ByteArray) := impl_allMarks.l0 k (([] : List ByteArray)) (([(⟨#[]⟩ : ByteArray)] : List ByteArray)) a0 0
theorem impl_allMarks.mono_l : ∀ k, (∀ y0 y1 y2 y3, LeO (impl_allMarks.l0 k y0 y1 y2 y3) (impl_allMarks.l0 (k + 1) y0 y1 y2 y3)) ∧ (∀ y0 y1 y2 y3 y4 y5 y6, LeO (impl_allMarks.l1 k y0 y1 y2 y3 y4 y5 y6) (impl_allMarks.l1 (k + 1) y0 y1 y2 y3 y4 y5 y6))
  | 0 => ⟨fun _ _ _ _ r h => by simp [impl_allMarks.l0] at h, fun _ _ _ _ _ _ _ r h => by simp [impl_allMarks.l1] at h⟩
  | k + 1 => by
    obtain ⟨ih0, ih1⟩ := impl_allMarks.mono_l k
    refine ⟨?_, ?_⟩
    · intro y0 y1 y2 y3
      unfold impl_allMarks.l0
      repeat' first
      | (with_reducible exact ih0 _ _ _ _)
      | (with_reducible exact ih1 _ _ _ _ _ _ _)
      | (with_reducible exact slices_SortFunc_string_string.mono _ _)
      | (with_reducible exact LeO.refl _)
      | (with_reducible exact LeO.none _)
      | (with_reducible refine LeO.ite ?_ ?_)
      | (with_reducible refine LeO.bind ?_ (fun _ => ?_))
      | exact ih0 _ _ _ _
      | exact ih1 _ _ _ _ _ _ _
      | exact slices_SortFunc_string_string.mono _ _
      | exact LeO.none _
      | refine LeO.ite ?_ ?_
      | refine LeO.bind ?_ (fun _ => ?_)
    · intro y0 y1 y2 y3 y4 y5 y6
      unfold impl_allMarks.l1
      repeat' first
      | (with_reducible exact ih0 _ _ _ _)
      | (with_reducible exact ih1 _ _ _ _ _ _ _)
      | (with_reducible exact slices_SortFunc_string_string.mono _ _)
      | (with_reducible exact LeO.refl _)
      | (with_reducible exact LeO.none _)
      | (with_reducible refine LeO.ite ?_ ?_)
      | (with_reducible refine LeO.bind ?_ (fun _ => ?_))
      | exact ih0 _ _ _ _
      | exact ih1 _ _ _ _ _ _ _
      | exact slices_SortFunc_string_string.mono _ _
      | exact LeO.none _
      | refine LeO.ite ?_ ?_
      | refine LeO.bind ?_ (fun _ => ?_)
theorem impl_allMarks.mono : ∀ a0 k, LeO (impl_allMarks.f k a0) (impl_allMarks.f (k + 1) a0) := by
  intro a0 k
  obtain ⟨ih0, ih1⟩ := impl_allMarks.mono_l k
  unfold impl_allMarks.f
  repeat' first
      | (with_reducible exact ih0 _ _ _ _)
      | (with_reducible exact ih1 _ _ _ _ _ _ _)
      | (with_reducible exact slices_SortFunc_string_string.mono _ _)
      | (with_reducible exact LeO.refl _)
      | (with_reducible exact LeO.none _)
      | (with_reducible refine LeO.ite ?_ ?_)
      | (with_reducible refine LeO.bind ?_ (fun _ => ?_))
      | exact ih0 _ _ _ _
      | exact ih1 _ _ _ _ _ _ _
      | exact slices_SortFunc_string_string.mono _ _
      | exact LeO.none _
      | refine LeO.ite ?_ ?_
      | refine LeO.bind ?_ (fun _ => ?_)
set_option maxHeartbeats 8000000 in
set_option maxRecDepth 100000 in
theorem impl_allMarks.calls (k : Nat) (a0 : Int) (r : List ByteArray) (w : World) (h : impl_allMarks.f k a0 = some r) :
    Calls Tryz.prog 26 #[.int .i64 a0] w fun e w' => ∃ v0_ : Value, e = .returned (v0_) ∧ Kd.R Kd.string 9 w' w.heap.size (fun _ => True) v0_ r ∧ Below w.heap.size w w' := by
  have HB := Aside0.mk (Below.refl w.heap.size w)
  have H : (impl_allMarks.l0 k (([] : List ByteArray)) (([(⟨#[]⟩ : ByteArray)] : List ByteArray)) a0 0) = some r := h
  clear h
  obtain ⟨y188, hy188⟩ : ∃ y_ : List ByteArray, y_ = (([] : List ByteArray)) := ⟨_, rfl⟩
  replace H : (impl_allMarks.l0 k y188 (([(⟨#[]⟩ : ByteArray)] : List ByteArray)) a0 0) = some r := by first | (rw [hy188]; with_reducible exact H) | (have H2_ := (Option.bind_some _ _).symm.trans H; rw [hy188]; with_reducible exact H2_) | (have H2_ := (Option.bind_some _ _).symm.trans H; with_reducible exact H2_) | with_reducible exact H | (rw [hy188]; exact H) | exact H
  have Ny188 := Aside0.mk hy188
  clear hy188
  obtain ⟨y191, hy191⟩ : ∃ y_ : List ByteArray, y_ = (([(⟨#[]⟩ : ByteArray)] : List ByteArray)) := ⟨_, rfl⟩
  replace H : (impl_allMarks.l0 k y188 y191 a0 0) = some r := by first | (rw [hy191]; with_reducible exact H) | (have H2_ := (Option.bind_some _ _).symm.trans H; rw [hy191]; with_reducible exact H2_) | (have H2_ := (Option.bind_some _ _).symm.trans H; with_reducible exact H2_) | with_reducible exact H | (rw [hy191]; exact H) | exact H
  have Ny191 := Aside0.mk hy191
  clear hy191
  have H' := Aside0.mk H
  clear H
  go_enter Tryz.func26, Tryz.ntmps26
  go_wp2_with (first | ((with_reducible refine gate_dst (N := 8) rfl ?_); refine Kd.R_lit Kd.string _ 9 ?hg (N := 8) ?hd (xs := ([] : List ByteArray)) (inner := []) (ok := fun _ => True) (okp := fun _ => True) ?hr ?hp (fun _ hk => hk) trivial (Below.refl _ _) (Nat.le_refl _) (by simp) ?_; (case hd => rfl); (case hg => rfl); (case hr => first | (go_simp; done) | (go_simp; rfl)); (case hp => exact (Reps.none _ _)); intro v189 w2 ho3 hb hg_ hnew_; clear hg_ hnew_; (first | rw [← Ny188.out] at ho3 | (simp only [Int.reduceToNat] at ho3; rw [← Ny188.out] at ho3)); have n0_ := Aside0.mk (Kd.R_lower ho3 (below_size (by repeat (first | (with_reducible first | exact HB.out | apply below_alloc | apply pw_below_drewN | apply below_drew1) | exact HB.out)))); have n1_ := Aside0.mk (below_step (by repeat (first | (with_reducible first | exact HB.out | apply below_alloc | apply pw_below_drewN | apply below_drew1) | exact HB.out)) hb); clear HB; have HO190 := n0_; have HB := n1_; clear n0_ n1_; clear hb ho3) | ((with_reducible refine gate_dst (N := 9) rfl ?_); refine Kd.R_lit Kd.string _ 9 ?hg (N := 9) ?hd (xs := ([(⟨#[]⟩ : ByteArray)] : List ByteArray)) (inner := [.string (⟨#[]⟩ : ByteArray)]) (ok := fun _ => True) (okp := fun _ => True) ?hr ?hp (fun _ hk => hk) trivial (Below.refl _ _) (Nat.le_refl _) (by simp) ?_; (case hd => rfl); (case hg => rfl); (case hr => first | (go_simp; done) | (go_simp; rfl)); (case hp => exact (Reps.one (show Kd.M Kd.string _ _ _ (⟨#[]⟩ : ByteArray) [.string (⟨#[]⟩ : ByteArray)] from rfl) (Reps.none _ _))); intro v192 w4 ho5 hb hg_ hnew_; clear hg_ hnew_; (first | rw [← Ny191.out] at ho5 | (simp only [Int.reduceToNat] at ho5; rw [← Ny191.out] at ho5)); have n0_ := Aside0.mk (Kd.R_elder' (by (with_reducible repeat (first | apply Kd.R_alloc | apply Kd.R_drewN | apply Kd.R_drew)); exact HO190.out) (Kd.R_base ho5) hb); have n1_ := Aside0.mk (Kd.R_lower (Kd.R_new' ho5 (Kd.R_lt (by (with_reducible repeat (first | apply Kd.R_alloc | apply Kd.R_drewN | apply Kd.R_drew)); exact HO190.out))) (below_size (by repeat (first | (with_reducible first | exact HB.out | apply below_alloc | apply pw_below_drewN | apply below_drew1) | exact HB.out)))); have n2_ := Aside0.mk (below_step (by repeat (first | (with_reducible first | exact HB.out | apply below_alloc | apply pw_below_drewN | apply below_drew1) | exact HB.out)) hb); clear HO190; clear HB; have HO190 := n0_; have HO193 := n1_; have HB := n2_; clear n0_ n1_ n2_; clear hb ho5))
  go_loopg [3, 4, 11] k (fun kq v3 v4 v11 w' => ∃ (x3_1 : List ByteArray) (x4_1 : List ByteArray) (x11_1 : Int), v11 = .int .i64 x11_1 ∧ Aside0 (impl_allMarks.l0 kq x3_1 x4_1 a0 x11_1 = some r) ∧ Aside0 (kq ≤ k) ∧ Aside0 (Kd.R Kd.string 9 w' w.heap.size (fun k_ => some k_ ≠ (v4 : Value).ownBlock) v3 x3_1) ∧ Aside0 (Kd.R Kd.string 9 w' w.heap.size (fun k_ => some k_ ≠ (v3 : Value).ownBlock) v4 x4_1) ∧ Aside0 (Below w.heap.size w w'))
  case atStart => exact ⟨(y188), (y191), (0), (by first | rfl | (simp; done) | (simp [*]; done)), H', ⟨Nat.le_refl _⟩, ⟨by (with_reducible repeat (first | apply Kd.R_alloc | apply Kd.R_drewN | apply Kd.R_drew)); exact Kd.R_mono HO190.out (fun _ hk => hk.2)⟩, ⟨by (with_reducible repeat (first | apply Kd.R_alloc | apply Kd.R_drewN | apply Kd.R_drew)); exact Kd.R_mono HO193.out (fun _ hk => hk.2)⟩, ⟨by repeat (first | (with_reducible first | exact HB.out | apply below_alloc | apply pw_below_drewN | apply below_drew1) | exact HB.out)⟩⟩
  case round =>
    clear H'
    try clear c2
    try clear p2
    obtain ⟨x3_1, x4_1, x11_1, rfl, HA, HK1, HO_3, HO_4, HB⟩ := hrel
    cases gk with
    | zero => exact absurd HA.out (by simp [impl_allMarks.l0])
    | succ k1 =>
      have H := HA.out
      clear HA
      simp only [impl_allMarks.l0] at H
      by_cases c6 : x11_1 < a0
      · rw [if_pos c6] at H
        have c6b0 : decide (x11_1 < a0) = true := decide_eq_true c6
        clear c6
        obtain ⟨y195, hy195⟩ : ∃ y_ : List ByteArray, y_ = (([] : List ByteArray)) := ⟨_, rfl⟩
        replace H : (impl_allMarks.l1 k1 x3_1 y195 a0 x11_1 x4_1 (x4_1.length : Int) 0) = some r := by first | (rw [hy195]; with_reducible exact H) | (have H2_ := (Option.bind_some _ _).symm.trans H; rw [hy195]; with_reducible exact H2_) | (have H2_ := (Option.bind_some _ _).symm.trans H; with_reducible exact H2_) | with_reducible exact H | (rw [hy195]; exact H) | exact H
        have Ny195 := Aside0.mk hy195
        clear hy195
        have H' := Aside0.mk H
        clear H
        go_wp2_with (first | ((with_reducible refine gate_dst (N := 13) rfl ?_); refine Kd.R_lit Kd.string _ 9 ?hg (N := 13) ?hd (xs := ([] : List ByteArray)) (inner := []) (ok := fun _ => True) (okp := fun _ => True) ?hr ?hp (fun _ hk => hk) trivial (Below.refl _ _) (Nat.le_refl _) (by simp) ?_; (case hd => rfl); (case hg => rfl); (case hr => first | (go_simp; done) | (go_simp; rfl)); (case hp => exact (Reps.none _ _)); intro v196 w7 ho8 hb hg_ hnew_; clear hg_ hnew_; (first | rw [← Ny195.out] at ho8 | (simp only [Int.reduceToNat] at ho8; rw [← Ny195.out] at ho8)); have n0_ := Aside0.mk (Kd.R_elder' (by (with_reducible repeat (first | apply Kd.R_alloc | apply Kd.R_drewN | apply Kd.R_drew)); exact HO_3.out) (Kd.R_base ho8) hb); have n1_ := Aside0.mk (Kd.R_elder' (by (with_reducible repeat (first | apply Kd.R_alloc | apply Kd.R_drewN | apply Kd.R_drew)); exact HO_4.out) (Kd.R_base ho8) hb); have n2_ := Aside0.mk (Kd.R_lower (Kd.R_new' (Kd.R_new' ho8 (Kd.R_lt (by (with_reducible repeat (first | apply Kd.R_alloc | apply Kd.R_drewN | apply Kd.R_drew)); exact HO_3.out))) (Kd.R_lt (by (with_reducible repeat (first | apply Kd.R_alloc | apply Kd.R_drewN | apply Kd.R_drew)); exact HO_4.out))) (below_size (by repeat (first | (with_reducible first | exact HB.out | apply below_alloc | apply pw_below_drewN | apply below_drew1) | exact HB.out)))); have n3_ := Aside0.mk (below_step (by repeat (first | (with_reducible first | exact HB.out | apply below_alloc | apply pw_below_drewN | apply below_drew1) | exact HB.out)) hb); clear HO_3; clear HO_4; clear HB; have HO_3 := n0_; have HO_4 := n1_; have HO197 := n2_; have HB := n3_; clear n0_ n1_ n2_ n3_; clear hb ho8; obtain ⟨Ao9, co9, eo9⟩ := Kd.R_slice HO_4.out; subst eo9))
        go_loopg [5, 16] k1 (fun kq v5 v16 w' => ∃ (x5_2 : List ByteArray) (x16_2 : Int), v16 = .int .i64 x16_2 ∧ Aside0 (impl_allMarks.l1 kq x3_1 x5_2 a0 x11_1 x4_1 (x4_1.length : Int) x16_2 = some r) ∧ Aside0 (kq ≤ k1) ∧ Aside0 (Kd.R Kd.string 9 w' w.heap.size (fun k_ => some k_ ≠ (v5 : Value).ownBlock ∧ some k_ ≠ ((.slice Ao9 x4_1.length co9) : Value).ownBlock) u3 x3_1) ∧ Aside0 (Kd.R Kd.string 9 w' w.heap.size (fun k_ => some k_ ≠ (u3 : Value).ownBlock ∧ some k_ ≠ ((.slice Ao9 x4_1.length co9) : Value).ownBlock) v5 x5_2) ∧ Aside0 (Kd.R Kd.string 9 w' w.heap.size (fun k_ => some k_ ≠ (u3 : Value).ownBlock ∧ some k_ ≠ (v5 : Value).ownBlock) (.slice Ao9 x4_1.length co9) x4_1) ∧ Aside0 (Below w.heap.size w w'))
        case atStart => exact ⟨(y195), (0), (by first | rfl | (simp; done) | (simp [*]; done)), H', ⟨Nat.le_refl _⟩, ⟨by (with_reducible repeat (first | apply Kd.R_alloc | apply Kd.R_drewN | apply Kd.R_drew)); exact Kd.R_mono HO_3.out (fun _ hk => ⟨hk.2, hk.1⟩)⟩, ⟨by (with_reducible repeat (first | apply Kd.R_alloc | apply Kd.R_drewN | apply Kd.R_drew)); exact Kd.R_mono HO197.out (fun _ hk => ⟨hk.1.2, hk.2⟩)⟩, ⟨by (with_reducible repeat (first | apply Kd.R_alloc | apply Kd.R_drewN | apply Kd.R_drew)); exact HO_4.out⟩, ⟨by repeat (first | (with_reducible first | exact HB.out | apply below_alloc | apply pw_below_drewN | apply below_drew1) | exact HB.out)⟩⟩
        case round =>
          clear H'
          try clear c2
          try clear p2
          try clear c6
          try clear c6b0
          try clear p2
          obtain ⟨x5_2, x16_2, rfl, HA, HK2, HO_3, HO_5, HO_14, HB⟩ := hrel
          cases gk with
          | zero => exact absurd HA.out (by simp [impl_allMarks.l1])
          | succ k2 =>
            have H := HA.out
            clear HA
            simp only [impl_allMarks.l1] at H
            by_cases c10 : x16_2 < (x4_1.length : Int)
            · rw [if_pos c10] at H
              have c10b0 : decide (x16_2 < (x4_1.length : Int)) = true := decide_eq_true c10
              clear c10
              by_cases c11 : 0 ≤ x16_2
              · rw [if_pos c11] at H
                have c11b0 : decide (0 ≤ x16_2) = true := decide_eq_true c11
                clear c11
                by_cases c12 : x16_2 < (x4_1.length : Int)
                · rw [if_pos c12] at H
                  have c12b0 : decide (x16_2 < (x4_1.length : Int)) = true := decide_eq_true c12
                  clear c12
                  by_cases c13 : (rdOf ByteArray.empty x4_1 x16_2).size + 1 ≤ 9223372036854775807
                  · rw [if_pos c13] at H
                    have c13b0 := eq_true c13
                    have c13b1 : decide ((rdOf ByteArray.empty x4_1 x16_2).size + 1 ≤ 9223372036854775807) = true := decide_eq_true c13
                    try have c13b2 : (9223372036854775807 < (rdOf ByteArray.empty x4_1 x16_2).size + 1) = False := eq_false (Nat.not_lt.2 c13)
                    obtain ⟨y199, hy199⟩ : ∃ y_ : List ByteArray, y_ = (([(rdOf ByteArray.empty x4_1 x16_2) ++ (⟨#[46]⟩ : ByteArray), (rdOf ByteArray.empty x4_1 x16_2) ++ (⟨#[45]⟩ : ByteArray)] : List ByteArray)) := ⟨_, rfl⟩
                    replace H : (if x5_2.length + y199.length < 8796093022208 then (impl_allMarks.l1 k2 x3_1 (x5_2 ++ y199) a0 x11_1 x4_1 (x4_1.length : Int) (wrap64 (x16_2 + 1))) else (none)) = some r := by first | (rw [hy199]; with_reducible exact H) | (have H2_ := (Option.bind_some _ _).symm.trans H; rw [hy199]; with_reducible exact H2_) | (have H2_ := (Option.bind_some _ _).symm.trans H; with_reducible exact H2_) | with_reducible exact H | (rw [hy199]; exact H) | exact H
                    have Ny199 := Aside0.mk hy199
                    clear hy199
                    by_cases c14 : x5_2.length + y199.length < 8796093022208
                    · rw [if_pos c14] at H
                      have LMc14 := Aside0.mk c14
                      clear c14
                      obtain ⟨y202, hy202⟩ : ∃ y_ : List ByteArray, y_ = (x5_2 ++ y199) := ⟨_, rfl⟩
                      replace H : (impl_allMarks.l1 k2 x3_1 y202 a0 x11_1 x4_1 (x4_1.length : Int) (wrap64 (x16_2 + 1))) = some r := by first | (rw [hy202]; with_reducible exact H) | (have H2_ := (Option.bind_some _ _).symm.trans H; rw [hy202]; with_reducible exact H2_) | (have H2_ := (Option.bind_some _ _).symm.trans H; with_reducible exact H2_) | with_reducible exact H | (rw [hy202]; exact H) | exact H
                      have Ny202 := Aside0.mk hy202
                      clear hy202
                      have H' := Aside0.mk H
                      clear H
                      have p198 : 0 ≤ (x16_2 : Int) := of_decide_eq_true (by first | (with_reducible assumption) | assumption)
                      have q198 : x16_2 < (x4_1.length : Int) := of_decide_eq_true (by first | (with_reducible assumption) | assumption)
                      obtain ⟨ad198, e198, hx198_0⟩ := Kd.at_string (Kd.R_reads' HO_14.out).2.2 x16_2 p198 q198
                      cases e198
                      replace p198 := eq_true p198
                      replace q198 := eq_true q198
                      go_wp2_with (first | ((with_reducible refine gate_dst (N := 25) rfl ?_); refine Kd.R_lit Kd.string _ 9 ?hg (N := 25) ?hd (xs := ([(rdOf ByteArray.empty x4_1 x16_2) ++ (⟨#[46]⟩ : ByteArray), (rdOf ByteArray.empty x4_1 x16_2) ++ (⟨#[45]⟩ : ByteArray)] : List ByteArray)) (inner := [.string ((rdOf ByteArray.empty x4_1 x16_2) ++ (⟨#[46]⟩ : ByteArray)), .string ((rdOf ByteArray.empty x4_1 x16_2) ++ (⟨#[45]⟩ : ByteArray))]) (ok := fun _ => True) (okp := fun _ => True) ?hr ?hp (fun _ hk => hk) trivial (Below.refl _ _) (Nat.le_refl _) (by simp) ?_; (case hd => rfl); (case hg => rfl); (case hr => first | (go_simp; done) | (go_simp; rfl)); (case hp => exact (Reps.one (show Kd.M Kd.string _ _ _ ((rdOf ByteArray.empty x4_1 x16_2) ++ (⟨#[46]⟩ : ByteArray)) [.string ((rdOf ByteArray.empty x4_1 x16_2) ++ (⟨#[46]⟩ : ByteArray))] from rfl) (Reps.one (show Kd.M Kd.string _ _ _ ((rdOf ByteArray.empty x4_1 x16_2) ++ (⟨#[45]⟩ : ByteArray)) [.string ((rdOf ByteArray.empty x4_1 x16_2) ++ (⟨#[45]⟩ : ByteArray))] from rfl) (Reps.none _ _)))); intro v200 w15 ho16 hb hg_ hnew_; clear hg_ hnew_; (first | rw [← Ny199.out] at ho16 | (simp only [Int.reduceToNat] at ho16; rw [← Ny199.out] at ho16)); have n0_ := Aside0.mk (Kd.R_elder' (by (with_reducible repeat (first | apply Kd.R_alloc | apply Kd.R_drewN | apply Kd.R_drew)); exact HO_3.out) (Kd.R_base ho16) hb); have n1_ := Aside0.mk (Kd.R_elder' (by (with_reducible repeat (first | apply Kd.R_alloc | apply Kd.R_drewN | apply Kd.R_drew)); exact HO_5.out) (Kd.R_base ho16) hb); have n2_ := Aside0.mk (Kd.R_elder' (by (with_reducible repeat (first | apply Kd.R_alloc | apply Kd.R_drewN | apply Kd.R_drew)); exact HO_14.out) (Kd.R_base ho16) hb); have n3_ := Aside0.mk (Kd.R_lower (Kd.R_new' (Kd.R_new' (Kd.R_new' ho16 (Kd.R_lt (by (with_reducible repeat (first | apply Kd.R_alloc | apply Kd.R_drewN | apply Kd.R_drew)); exact HO_3.out))) (Kd.R_lt (by (with_reducible repeat (first | apply Kd.R_alloc | apply Kd.R_drewN | apply Kd.R_drew)); exact HO_5.out))) (Kd.R_lt (by (with_reducible repeat (first | apply Kd.R_alloc | apply Kd.R_drewN | apply Kd.R_drew)); exact HO_14.out))) (below_size (by repeat (first | (with_reducible first | exact HB.out | apply below_alloc | apply pw_below_drewN | apply below_drew1) | exact HB.out)))); have n4_ := Aside0.mk (below_step (by repeat (first | (with_reducible first | exact HB.out | apply below_alloc | apply pw_below_drewN | apply below_drew1) | exact HB.out)) hb); clear HO_3; clear HO_5; clear HO_14; clear HB; have HO_3 := n0_; have HO_5 := n1_; have HO_14 := n2_; have HO201 := n3_; have HB := n4_; clear n0_ n1_ n2_ n3_ n4_; clear hb ho16; obtain ⟨Ao18, co18, eo18⟩ := Kd.R_slice HO201.out; subst eo18) | ((with_reducible refine gate_builtin (b := .append) (xs := #[.tmp 20, .tmp 25]) rfl ?_); at_builtin; refine Kd.R_append_rows Kd.string (w0 := w) w.heap.size rfl (.tmp 20) (.tmp 25) 23 9 (.string ⟨#[]⟩) 16 rfl Tryz.underlying23 info9 rfl (by decide) (by omega) u5 x5_2 y199 _ _ _ (fun k_ => some k_ ≠ (u3 : Value).ownBlock ∧ some k_ ≠ (.slice (some ad198) x4_1.length co9 : Value).ownBlock ∧ some k_ ≠ (.slice Ao18 y199.length co18 : Value).ownBlock) (fun _ => False) rfl rfl ?aO ?aR (fun _ _ h => h) (fun _ h => h.elim) ?aF ?aB ?aS ?aL ?_; (case aR => repeat (first | exact (Kd.R_reads' HO201.out).2.2 | (with_reducible refine Kd.C_alloc ?_ _) | (with_reducible refine Kd.C_drewN ?_ _) | (with_reducible refine Kd.C_drew ?_))); (case aB => exact (by repeat (first | (with_reducible first | exact HB.out | apply below_alloc | apply pw_below_drewN | apply below_drew1) | exact HB.out))); (case aF => exact (fun k_ hk => ⟨Kd.fresh' (Kd.R_lt (by (with_reducible repeat (first | apply Kd.R_alloc | apply Kd.R_drewN | apply Kd.R_drew)); exact HO_3.out)) k_ hk, Kd.fresh' (Kd.R_lt (by (with_reducible repeat (first | apply Kd.R_alloc | apply Kd.R_drewN | apply Kd.R_drew)); exact HO_14.out)) k_ hk, Kd.fresh' (Kd.R_lt (by (with_reducible repeat (first | apply Kd.R_alloc | apply Kd.R_drewN | apply Kd.R_drew)); exact HO201.out)) k_ hk⟩)); (case aO => exact (by (with_reducible repeat (first | apply Kd.R_alloc | apply Kd.R_drewN | apply Kd.R_drew)); exact Kd.R_mono HO_5.out (fun _ hk => ⟨hk.1.1, ⟨hk.1.2, hk.2⟩⟩))); (case aS => exact (below_size (by repeat (first | (with_reducible first | exact HB.out | apply below_alloc | apply pw_below_drewN | apply below_drew1) | exact HB.out)))); (case aL => have := LMc14.out; omega); intro v203 w17 ho hb hg hat; rw [← Ny202.out] at ho; have n0_ := Aside0.mk (Kd.R_after (ok := (fun k_ => some k_ ≠ (.slice (some ad198) x4_1.length co9 : Value).ownBlock ∧ some k_ ≠ (.slice Ao18 y199.length co18 : Value).ownBlock)) (by (with_reducible repeat (first | apply Kd.R_alloc | apply Kd.R_drewN | apply Kd.R_drew)); exact Kd.R_mono HO_3.out (fun _ hk => ⟨⟨hk.1.2, hk.2⟩, hk.1.1⟩)) hg hat); have n1_ := Aside0.mk (Kd.R_after (ok := (fun k_ => some k_ ≠ (u3 : Value).ownBlock ∧ some k_ ≠ (.slice Ao18 y199.length co18 : Value).ownBlock)) (by (with_reducible repeat (first | apply Kd.R_alloc | apply Kd.R_drewN | apply Kd.R_drew)); exact Kd.R_mono HO_14.out (fun _ hk => ⟨⟨hk.1.1, hk.2⟩, hk.1.2⟩)) hg hat); have n2_ := Aside0.mk (Kd.R_after (ok := (fun k_ => some k_ ≠ (u3 : Value).ownBlock ∧ some k_ ≠ (.slice (some ad198) x4_1.length co9 : Value).ownBlock)) (by (with_reducible repeat (first | apply Kd.R_alloc | apply Kd.R_drewN | apply Kd.R_drew)); exact Kd.R_mono HO201.out (fun _ hk => ⟨⟨hk.1.1.2, hk.2⟩, hk.1.2⟩)) hg hat); have n3_ := Aside0.mk (hb); have n4_ := Aside0.mk (ho); clear HO_3; clear HO_14; clear HO201; clear HB; clear HO_5; have HO_3 := n0_; have HO_14 := n1_; have HO201 := n2_; have HB := n3_; have HO204 := n4_; clear n0_ n1_ n2_ n3_ n4_; clear ho hb hg hat))
                      go_roundg k2
                      case measure => have := HK1.out; have := HK2.out; omega
                      case rel => exact ⟨(y202), (wrap64 (x16_2 + 1)), (by first | rfl | (simp; done) | (simp [*]; done) | (simp only [i64_w]; done) | (simp only [i64_w]; rfl) | (simp only [decide_eq_true_eq] at *; congr 1; unfold wrap64; omega)), H', ⟨by have := HK1.out; have := HK2.out; omega⟩, ⟨by (with_reducible repeat (first | apply Kd.R_alloc | apply Kd.R_drewN | apply Kd.R_drew)); exact Kd.R_mono HO_3.out (fun _ hk => ⟨hk.2, hk.1.1⟩)⟩, ⟨by (with_reducible repeat (first | apply Kd.R_alloc | apply Kd.R_drewN | apply Kd.R_drew)); exact Kd.R_mono HO204.out (fun _ hk => ⟨hk.1, hk.2.1⟩)⟩, ⟨by (with_reducible repeat (first | apply Kd.R_alloc | apply Kd.R_drewN | apply Kd.R_drew)); exact Kd.R_mono HO_14.out (fun _ hk => ⟨hk.1.1, hk.2⟩)⟩, ⟨by repeat (first | (with_reducible first | exact HB.out | apply below_alloc | apply pw_below_drewN | apply below_drew1) | exact HB.out)⟩⟩
                    · rw [if_neg c14] at H
                      exact absurd H (by simp)
                  · rw [if_neg c13] at H
                    exact absurd H (by simp)
                · rw [if_neg c12] at H
                  exact absurd H (by simp)
              · rw [if_neg c11] at H
                exact absurd H (by simp)
            · rw [if_neg c10] at H
              have c10b0 : decide (x16_2 < (x4_1.length : Int)) = false := decide_eq_false c10
              clear c10
              by_cases c19 : x3_1.length + x5_2.length < 8796093022208
              · rw [if_pos c19] at H
                have LMc19 := Aside0.mk c19
                clear c19
                obtain ⟨y205, hy205⟩ : ∃ y_ : List ByteArray, y_ = (x3_1 ++ x5_2) := ⟨_, rfl⟩
                replace H : (impl_allMarks.l0 k2 y205 x5_2 a0 (wrap64 (x11_1 + 1))) = some r := by first | (rw [hy205]; with_reducible exact H) | (have H2_ := (Option.bind_some _ _).symm.trans H; rw [hy205]; with_reducible exact H2_) | (have H2_ := (Option.bind_some _ _).symm.trans H; with_reducible exact H2_) | with_reducible exact H | (rw [hy205]; exact H) | exact H
                have Ny205 := Aside0.mk hy205
                clear hy205
                have H' := Aside0.mk H
                clear H
                obtain ⟨Ao21, co21, eo21⟩ := Kd.R_slice HO_5.out
                subst eo21
                go_wp2_with (first | ((with_reducible refine gate_builtin (b := .append) (xs := #[.tmp 28, .tmp 29]) rfl ?_); at_builtin; refine Kd.R_append_rows Kd.string (w0 := w) w.heap.size rfl (.tmp 28) (.tmp 29) 23 9 (.string ⟨#[]⟩) 16 rfl Tryz.underlying23 info9 rfl (by decide) (by omega) u3 x3_1 x5_2 _ _ _ (fun k_ => some k_ ≠ (.slice Ao21 x5_2.length co21 : Value).ownBlock ∧ some k_ ≠ (.slice Ao9 x4_1.length co9 : Value).ownBlock) (fun _ => False) rfl rfl ?aO ?aR (fun _ _ h => h) (fun _ h => h.elim) ?aF ?aB ?aS ?aL ?_; (case aR => repeat (first | exact (Kd.R_reads' HO_5.out).2.2 | (with_reducible refine Kd.C_alloc ?_ _) | (with_reducible refine Kd.C_drewN ?_ _) | (with_reducible refine Kd.C_drew ?_))); (case aB => exact (by repeat (first | (with_reducible first | exact HB.out | apply below_alloc | apply pw_below_drewN | apply below_drew1) | exact HB.out))); (case aF => exact (fun k_ hk => ⟨Kd.fresh' (Kd.R_lt (by (with_reducible repeat (first | apply Kd.R_alloc | apply Kd.R_drewN | apply Kd.R_drew)); exact HO_5.out)) k_ hk, Kd.fresh' (Kd.R_lt (by (with_reducible repeat (first | apply Kd.R_alloc | apply Kd.R_drewN | apply Kd.R_drew)); exact HO_14.out)) k_ hk⟩)); (case aO => exact (by (with_reducible repeat (first | apply Kd.R_alloc | apply Kd.R_drewN | apply Kd.R_drew)); exact HO_3.out)); (case aS => exact (below_size (by repeat (first | (with_reducible first | exact HB.out | apply below_alloc | apply pw_below_drewN | apply below_drew1) | exact HB.out)))); (case aL => have := LMc19.out; omega); intro v206 w20 ho hb hg hat; rw [← Ny205.out] at ho; have n0_ := Aside0.mk (Kd.R_after (ok := (fun k_ => some k_ ≠ (.slice Ao9 x4_1.length co9 : Value).ownBlock)) (by (with_reducible repeat (first | apply Kd.R_alloc | apply Kd.R_drewN | apply Kd.R_drew)); exact Kd.R_mono HO_5.out (fun _ hk => ⟨hk.2, hk.1⟩)) hg hat); have n1_ := Aside0.mk (Kd.R_after (ok := (fun k_ => some k_ ≠ (.slice Ao21 x5_2.length co21 : Value).ownBlock)) (by (with_reducible repeat (first | apply Kd.R_alloc | apply Kd.R_drewN | apply Kd.R_drew)); exact Kd.R_mono HO_14.out (fun _ hk => ⟨hk.2, hk.1⟩)) hg hat); have n2_ := Aside0.mk (hb); have n3_ := Aside0.mk (ho); clear HO_5; clear HO_14; clear HB; clear HO_3; have HO_5 := n0_; have HO_14 := n1_; have HB := n2_; have HO207 := n3_; clear n0_ n1_ n2_ n3_; clear ho hb hg hat))
                go_roundg k2
                case measure => have := HK1.out; have := HK2.out; omega
                case rel => exact ⟨(y205), (x5_2), (wrap64 (x11_1 + 1)), (by first | rfl | (simp; done) | (simp [*]; done) | (simp only [i64_w]; done) | (simp only [i64_w]; rfl) | (simp only [decide_eq_true_eq] at *; congr 1; unfold wrap64; omega)), H', ⟨by have := HK1.out; have := HK2.out; omega⟩, ⟨by (with_reducible repeat (first | apply Kd.R_alloc | apply Kd.R_drewN | apply Kd.R_drew)); exact Kd.R_mono HO207.out (fun _ hk => hk.1)⟩, ⟨by (with_reducible repeat (first | apply Kd.R_alloc | apply Kd.R_drewN | apply Kd.R_drew)); exact Kd.R_mono HO_5.out (fun _ hk => hk.2)⟩, ⟨by repeat (first | (with_reducible first | exact HB.out | apply below_alloc | apply pw_below_drewN | apply below_drew1) | exact HB.out)⟩⟩
              · rw [if_neg c19] at H
                exact absurd H (by simp)
      · rw [if_neg c6] at H
        have c6b0 : decide (x11_1 < a0) = false := decide_eq_false c6
        clear c6
        replace H := Option.bind_eq_some_iff.mp H
        obtain ⟨t194, A220, H⟩ := H
        replace H : (some t194) = some r := H
        have A22 := Aside0.mk A220
        clear A220
        obtain rfl := Option.some.inj H
        obtain ⟨Ao23, co23, eo23⟩ := Kd.R_slice HO_3.out
        subst eo23
        go_wp2_with (first | ((with_reducible refine gate_callee (f := 43) rfl ?_); refine goesL_ (some 34) rfl rfl Tryz.func43 (by kernel_rfl) rfl #[.slice Ao23 x3_1.length co23, .func (.func 44) #[] #[]] rfl (by (try simp only [List.map_toArray, List.map_cons, List.map_nil]); first | done | rfl | (simp only [List.length_drop, List.length_take]; rfl)) ?_; (with_reducible refine (slices_SortFunc_string_string.calls k1 (fun k_ => some k_ = (.slice Ao23 x3_1.length co23 : Value).ownBlock) (.slice Ao23 x3_1.length co23) x3_1  t194 w _ ?side1 ?side2 A22.out).mono ?_); (case side1 => repeat (first | (with_reducible first | exact HB.out | apply below_alloc | apply pw_below_drewN | apply below_drew1) | exact HB.out)); (case side2 => exact Kd.R_tight rfl HO_3.out); rintro e w24 ⟨rfl, hy0, hb, hkp⟩; refine ⟨_, rfl, ?_⟩; have n0_ := Aside0.mk (Kd.R_reok rfl hy0 (fun k_ e_ => HO_3.out.1 k_ e_)); have n1_ := Aside0.mk (Kd.R_mono (ok' := fun k_ => some k_ ≠ (.slice Ao23 x3_1.length co23 : Value).ownBlock) (Kd.R_keptB (HO_4.out) hkp (fun k_ hk_ hs_ => (hk_) hs_)) (fun k_ hk_ => hk_.1)); have n2_ := Aside0.mk (hb); clear HO_3; clear HO_4; clear HB; have HO_3 := n0_; have HO_4 := n1_; have HB := n2_; clear n0_ n1_ n2_; (try clear hb); (try clear hkp); (try clear hy0)))
        go_ret
        exact ⟨_, by first | rfl | (simp [errW_none, errW_some] <;> rfl) | (simp [*, errW_none, errW_some] <;> rfl), by (with_reducible repeat (first | apply Kd.R_alloc | apply Kd.R_drewN | apply Kd.R_drew)); exact Kd.R_mono HO_3.out (fun _ hk => trivial), by repeat (first | (with_reducible first | exact HB.out | apply below_alloc | apply pw_below_drewN | apply below_drew1) | exact HB.out)⟩

/-! ### slices_Clone_int_int: function 49 -/
def slices_Clone_int_int.f (l : List Int) : Option (List Int) := if l.length * 8 ≤ 140737488355328 then some l else none
set_option maxHeartbeats 8000000 in
set_option maxRecDepth 100000 in
theorem slices_Clone_int_int.calls (A0 : Option Addr) (c0 : Nat) (l0 : List Int) (r : List Int) (w : World) (hr0 : Kd.C (Kd.int .i64) w A0 l0.length l0) (hc0 : l0.length ≤ c0) (h : slices_Clone_int_int.f l0 = some r) :
    Calls Tryz.prog 49 #[.slice A0 l0.length c0] w fun e w' => ∃ v0_ : Value, e = .returned (v0_) ∧ Kd.R (Kd.int .i64) 3 w' w.heap.size (fun _ => True) v0_ r ∧ Below w.heap.size w w' := by
  unfold slices_Clone_int_int.f at h
  by_cases hl : l0.length * 8 ≤ 140737488355328
  · rw [if_pos hl] at h
    obtain rfl := Option.some.inj h
    by_cases h0 : l0.length = 0
    · obtain rfl := List.eq_nil_of_length_eq_zero h0
      cases A0 with
      | none => exact (Any.slices_Clone_int_nil Tryz.lays2_15 0 c0 w).mono fun e w' ⟨he, hw⟩ => ⟨_, he, Kd.R_nil _ _ _ _ _, hw ▸ Below.refl _ _⟩
      | some a => exact (Any.slices_Clone_int_zero Tryz.lays2_15 a c0 w).mono fun e w' ⟨v, he, ho, _, hb⟩ => ⟨v, he, Kd.R_of_own ho (fun _ _ => trivial), hb⟩
    · obtain ⟨b, off, rfl, _, hc⟩ := Given.base_of_C hr0 (by omega)
      refine (Any.slices_Clone_int Tryz.lays2_15 b off l0.length c0 l0 w (Nat.le_refl _) hl (fun j hj => ?_)).mono fun e w' ⟨v, he, ho, _, hb⟩ => ⟨v, he, Kd.R_of_own (by rw [List.take_length] at ho; exact ho) (fun _ _ => trivial), hb⟩
      rw [List.getD_eq_getElem?_getD, List.getElem?_eq_getElem hj]
      exact hc j _ (List.getElem?_eq_getElem hj)
  · rw [if_neg hl] at h
    cases h

/-! ### slices_Sort_int_int: function 50 -/
def slices_Sort_int_int.f (l : List Int) : Option (List Int) := if l.length < 4611686018427387904 then some (l.mergeSort fun x y => decide (x ≤ y)) else none
set_option maxHeartbeats 8000000 in
set_option maxRecDepth 100000 in
theorem slices_Sort_int_int.calls (P0_ : Nat → Prop) (u9000_ : Value) (l0 : List Int) (r : List Int) (w0 w : World) (hB : Below w0.heap.size w0 w) (ho0 : Kd.R (Kd.int .i64) 3 w w0.heap.size P0_ u9000_ l0) (h : slices_Sort_int_int.f l0 = some r) :
    Calls Tryz.prog 50 #[u9000_] w fun e w' => e = .returned (.tuple #[]) ∧ Kd.R (Kd.int .i64) 3 w' w0.heap.size (fun k_ => (P0_ k_ ∨ w.heap.size ≤ k_)) u9000_ r ∧ Below w0.heap.size w0 w' ∧ Kept w w' (fun k_ => P0_ k_) := by
  unfold slices_Sort_int_int.f at h
  by_cases hl : l0.length < 4611686018427387904
  · rw [if_pos hl] at h
    obtain rfl := Option.some.inj h
    rcases Given.row_open ho0 with ⟨rfl, rfl⟩ | ⟨g, cap, cur, rfl, hok, hg, hlt, hh, hlc, hcm, hcs, hH⟩
    · refine (Any.slices_Sort_int_none Tryz.lays189 none 0 w).mono ?_
      rintro e w' ⟨rfl, hw⟩
      subst hw
      exact ⟨rfl, by rw [List.mergeSort_nil]; exact Kd.R_nil _ _ _ _ _, hB, Kept.refl _ _⟩
    · refine (Any.slices_Sort_int Tryz.lays189 g 0 cap l0 w hH hlt hl).mono ?_
      rintro e w' ⟨rfl, n, os, rfl⟩
      have hm : (l0.mergeSort fun x y => decide (x ≤ y)).length = l0.length := List.length_mergeSort _
      have h := Given.row_put (enc := Value.int .i64) (h1 := fun _ => rfl) (os := os) (n := n) (m := l0.length) (zs := l0.mergeSort fun x y => decide (x ≤ y)) hB hok hg hh hcm hcs (by omega) (by omega)
      rw [List.take_of_length_le (by omega)] at h
      exact ⟨rfl, h.1, h.2.1, h.2.2⟩
  · rw [if_neg hl] at h
    cases h

/-! ### impl_leastCost: function 34 -/
section
attribute [local go_sem] Oper.semAt_some
/-- The pairs that have come when k rounds are over. -/
def impl_leastCost_.dn (zs : List Int) (k : Nat) : List (Nat × Int) := (List.range k).map fun j => (zs.length - 1 - j, zs[zs.length - 1 - j]?.getD 0)
theorem impl_leastCost_.dn_succ (zs : List Int) (k : Nat) : impl_leastCost_.dn zs (k + 1) = impl_leastCost_.dn zs k ++ [(zs.length - 1 - k, zs[zs.length - 1 - k]?.getD 0)] := by simp [impl_leastCost_.dn, List.range_succ]
theorem impl_leastCost_.dn_length (zs : List Int) (k : Nat) : (impl_leastCost_.dn zs k).length = k := by simp [impl_leastCost_.dn]
set_option maxRecDepth 100000 in
set_option maxHeartbeats 2000000 in
theorem impl_leastCost_.back (A : Option Addr) (len c : Nat) (w : World) :
    Calls Tryz.prog 51 #[.slice A len c] w fun e w' => e = .returned (.func (.func 66) #[] #[.pointer (some ⟨w.heap.size, 0, none⟩)]) ∧ w' = w.alloc (.cells #[.slice A len c] 22) := by
  go_enter Tryz.func51, Tryz.ntmps51
  go_wp2
  go_ret
  exact ⟨rfl, rfl⟩
/-- Below N all is as it was, but for the block ob. -/
def impl_leastCost_.KP (ob N : Nat) (A B : World) : Prop := A.heap.size ≤ B.heap.size ∧ ∀ k, k < N → k ≠ ob → B.heap[k]? = A.heap[k]?
theorem impl_leastCost_.KP.refl (ob N : Nat) (A : World) : impl_leastCost_.KP ob N A A := ⟨Nat.le_refl _, fun _ _ _ => rfl⟩
theorem impl_leastCost_.KP.trans {ob N : Nat} {A B C : World} (h : impl_leastCost_.KP ob N A B) (k : impl_leastCost_.KP ob N B C) : impl_leastCost_.KP ob N A C := ⟨Nat.le_trans h.1 k.1, fun i hi hn => (k.2 i hi hn).trans (h.2 i hi hn)⟩
theorem impl_leastCost_.KP.of_below {ob N : Nat} {A B : World} (h : Below N A B) : impl_leastCost_.KP ob N A B := ⟨h.size, fun i hi _ => h.block i hi⟩
theorem impl_leastCost_.KP.cell {ob N : Nat} {A B : World} (h : impl_leastCost_.KP ob N A B) {p : Addr} (hp : p.block < N) (hn : p.block ≠ ob) : B.cell? p = A.cell? p := World.cell?_of_block (w := A) (h.2 p.block hp hn)
set_option maxRecDepth 100000 in
set_option maxHeartbeats 2000000 in
theorem impl_leastCost_.back1 (F : Fence) (n : Nat) (h7 : F.fn 66) (hro : F.round = none) (hn : 1 ≤ n) (l Bs ob n₀ b off len cap : Nat) (zs : List Int) (hz : zs.length = len) (hreach : len * 8 ≤ 140737488351232) (hb : b < n₀) (hbo : b ≠ ob) (J Jx : List (Nat × Int) → World → Prop)
    (hY : ∀ pre x W, J pre W → pre.length < len → x = (zs.length - 1 - pre.length, zs[zs.length - 1 - pre.length]?.getD 0) → YieldAt F (n - 1) Tryz.prog l #[.int .i64 (x.1 : Int), .int .i64 x.2] W fun e W' =>
      (e = .returned (.bool true) ∧ J (pre ++ [x]) W' ∧ impl_leastCost_.KP ob n₀ W W') ∨ (e = .returned (.bool false) ∧ Jx (pre ++ [x]) W'))
    (W : World) (hBs : W.cell? ⟨Bs, 0, none⟩ = some (.slice (some ⟨b, off, none⟩) len cap)) (hBsn : Bs < n₀) (hBso : Bs ≠ ob) (hc : ∀ j, j < len → W.cell? ⟨b, off + j, none⟩ = some (.int .i64 (zs[j]?.getD 0))) (h0 : J [] W) :
    CallsIn F n Tryz.prog 66 #[.func (.yield l) #[] #[], .pointer (some ⟨Bs, 0, none⟩)] W fun e W' => (∃ v, e = .returned v) ∧
      ((∃ ys, ys = impl_leastCost_.dn zs len ∧ J ys W') ∨ (∃ pre, (∃ k, k ≤ len ∧ pre = impl_leastCost_.dn zs k) ∧ Jx pre W')) := by
  refine callsIn_of_wp Tryz.func66 rfl h7 ?_ hro
  simp only [Tryz.ntmps66, List.size_toArray, List.length_cons, List.length_nil, Nat.reduceAdd, Nat.reduceSub, Array.replicate_succ, Array.replicate_zero, List.push_toArray, List.append_toArray, List.nil_append, List.cons_append]
  gi_wp2
  gi_loopw [3] (fun i wr => ∃ k : Nat, k ≤ len ∧ i = .int .i64 ((len : Int) - 1 - k) ∧ J (impl_leastCost_.dn zs k) wr ∧ impl_leastCost_.KP ob n₀ W wr)
    (fun i _ => (intOf i + 1).toNat)
  case atStart => exact ⟨0, Nat.zero_le _, by simp, h0, impl_leastCost_.KP.refl _ _ _⟩
  case round =>
    obtain ⟨k, hk, rfl, hJs, hnx⟩ := hrel
    by_cases hlt : k < len
    · have hcx := (hnx.cell (p := ⟨b, off + (len - 1 - k), none⟩) hb hbo).trans (hc (len - 1 - k) (by omega))
      have hbx := (hnx.cell (p := ⟨Bs, 0, none⟩) hBsn hBso).trans hBs
      obtain ⟨i, hi⟩ : ∃ i : Nat, i = len - 1 - k := ⟨_, rfl⟩
      have hii : (len : Int) - 1 - (k : Int) = (i : Int) := by omega
      have hil : i < len := by omega
      have hil' : (i : Int) < (len : Int) := by omega
      rw [← hi] at hcx
      rw [hii]
      have HI : Hid (i = len - 1 - k) := hi
      obtain ⟨fn, tmps, assign, body, hy, hR⟩ := hY _ (i, zs[i]?.getD 0) wr hJs (by rw [impl_leastCost_.dn_length]; exact hlt) (by rw [impl_leastCost_.dn_length, hz, hi])
      obtain ⟨x, hx⟩ : ∃ x, x = zs[i]?.getD 0 := ⟨_, rfl⟩
      dsimp only at hy hR
      rw [← hx] at hy hR hcx
      have HX : Hid (x = zs[i]?.getD 0) := hx
      clear hi hii hx
      gi_wp2
      refine hR.mono ?_
      rintro e W3 (⟨rfl, hJ3, hk3⟩ | ⟨rfl, hJx3⟩)
      · gi_wp2
        go_roundw
        case rel => exact ⟨k + 1, by omega, by have := HI.out; first | (congr 1; omega) | (simp; omega), by rw [impl_leastCost_.dn_succ, hz, ← HI.out, ← HX.out]; exact hJ3, hnx.trans hk3⟩
        case measure => first | (simp [intOf]; done) | (simp [intOf]; omega)
      · gi_wp2
        refine bodyPost_ret (results_none rfl _ _ _) rfl ?_
        exact ⟨⟨_, rfl⟩, .inr ⟨_, ⟨k + 1, by omega, by rw [impl_leastCost_.dn_succ, hz, ← HI.out, ← HX.out]⟩, hJx3⟩⟩
    · obtain rfl : k = len := by omega
      have hneg : ¬ (0 : Int) ≤ (k : Int) - 1 - (k : Int) := by omega
      gi_wp2
      go_end0
      first | exact ⟨⟨_, rfl⟩, .inl ⟨_, rfl, hJs⟩⟩ | exact ⟨⟨_, rfl⟩, .inl hJs⟩
set_option maxRecDepth 100000 in
set_option maxHeartbeats 1000000 in
theorem impl_leastCost_.back0 (F : Fence) (n : Nat) (h7 : F.fn 66) (hro : F.round = none) (l Bs : Nat) (J : List (Nat × Int) → World → Prop) (A : Option Addr) (c : Nat) (W : World) (hBs : W.cell? ⟨Bs, 0, none⟩ = some (.slice A 0 c)) (h0 : J [] W) :
    CallsIn F n Tryz.prog 66 #[.func (.yield l) #[] #[], .pointer (some ⟨Bs, 0, none⟩)] W fun e W' => (∃ v, e = .returned v) ∧ J [] W' := by
  refine callsIn_of_wp Tryz.func66 rfl h7 ?_ hro
  simp only [Tryz.ntmps66, List.size_toArray, List.length_cons, List.length_nil, Nat.reduceAdd, Nat.reduceSub, Array.replicate_succ, Array.replicate_zero, List.push_toArray, List.append_toArray, List.nil_append, List.cons_append]
  gi_wp2
  gi_loopw [3] (fun i wr => i = .int .i64 (-1) ∧ J [] wr) (fun _ _ => 0)
  case atStart => exact ⟨by first | rfl | simp, h0⟩
  case round =>
    obtain ⟨rfl, hJs⟩ := hrel
    gi_wp2
    go_end0
    exact ⟨⟨_, rfl⟩, hJs⟩
/-- The slice value sv holds the numbers zs, in a block below n₀; or there are none. -/
def impl_leastCost_.Ints (ob n₀ : Nat) (W : World) (sv : Value) (zs : List Int) : Prop :=
  (∃ A c, sv = .slice A 0 c ∧ zs = []) ∨ ∃ b off cap, sv = .slice (some ⟨b, off, none⟩) zs.length cap ∧ b < n₀ ∧ b ≠ ob ∧ ∀ j, j < zs.length → W.cell? ⟨b, off + j, none⟩ = some (.int .i64 (zs[j]?.getD 0))
theorem impl_leastCost_.Ints.below {ob n₀ : Nat} {A B : World} (h : Below n₀ A B) {sv : Value} {zs : List Int} : impl_leastCost_.Ints ob n₀ A sv zs → impl_leastCost_.Ints ob n₀ B sv zs
  | .inl e => .inl e
  | .inr ⟨b, off, cap, e, hb, hbo, hc⟩ => .inr ⟨b, off, cap, e, hb, hbo, fun j hj => (h.cell (p := ⟨b, off + j, none⟩) hb).trans (hc j hj)⟩
theorem impl_leastCost_.fin_succ (N k : Nat) (h : k < N) : (List.finRange N).take (k + 1) = (List.finRange N).take k ++ [⟨k, h⟩] := by
  rw [List.take_succ_eq_append_getElem (by rw [List.length_finRange]; exact h), List.getElem_finRange]
  rfl
/-- The index and the number of round k. -/
def impl_leastCost_.ix (zs : List Int) (k : Nat) : Nat := zs.length - 1 - k
def impl_leastCost_.vl (zs : List Int) (k : Nat) : Int := zs[zs.length - 1 - k]?.getD 0
theorem impl_leastCost_.stops (F : Fence) (n : Nat) (h7 : F.fn 66) (hro : F.round = none) (hn : 1 ≤ n) (Bs ob n₀ : Nat) (sv : Value) (zs : List Int) (hreach : zs.length * 8 ≤ 140737488351232) (w : World) (hBs : Bs < n₀) (hBso : Bs ≠ ob) (hn₀ : n₀ ≤ w.heap.size)
    (hc : w.cell? ⟨Bs, 0, none⟩ = some sv) (hI : impl_leastCost_.Ints ob n₀ w sv zs) :
    SeqStopsK F n Tryz.prog 66 #[.pointer (some ⟨Bs, 0, none⟩)] (fun x : Fin zs.length => #[Value.int .i64 (impl_leastCost_.ix zs x.val : Int), Value.int .i64 (impl_leastCost_.vl zs x.val)]) (impl_leastCost_.KP ob n₀) (fun ys => ys = List.finRange zs.length) (fun pre => ∃ k, k ≤ zs.length ∧ pre = (List.finRange zs.length).take k) zs.length w := fun l J Jx W hW _ _ hY h0 => by
  have hc' := (hW.cell (p := ⟨Bs, 0, none⟩) (by show Bs < _; omega)).trans hc
  rcases hI.below (hW.mono hn₀) with ⟨A, c, rfl, rfl⟩ | ⟨b, off, cap, rfl, hb, hbo, hcs⟩
  · exact (impl_leastCost_.back0 F n h7 hro l Bs (fun _ W => J [] W) A c W hc' h0).mono fun e W' ⟨he, hj⟩ => ⟨he, .inl ⟨_, rfl, hj⟩⟩
  · refine (impl_leastCost_.back1 F n h7 hro hn l Bs ob n₀ b off zs.length cap zs rfl hreach hb hbo (fun pre W => ∃ k, k ≤ zs.length ∧ pre = impl_leastCost_.dn zs k ∧ J ((List.finRange zs.length).take k) W) (fun pre W => ∃ k, k ≤ zs.length ∧ pre = impl_leastCost_.dn zs k ∧ Jx ((List.finRange zs.length).take k) W) (fun pre x W h1 h2 h3 => ?_) W hc' hBs hBso hcs ⟨0, Nat.zero_le _, rfl, h0⟩).mono ?_
    · obtain ⟨k, hk, rfl, hj⟩ := h1
      rw [impl_leastCost_.dn_length] at h2 h3
      subst h3
      obtain ⟨fn, tmps, assign, body, hy, hR⟩ := hY _ ⟨k, h2⟩ W hj (by rw [List.length_take, List.length_finRange]; omega)
      refine ⟨fn, tmps, assign, body, hy, hR.mono ?_⟩
      rintro e W' (⟨he, h1, h2'⟩ | ⟨he, h1⟩)
      · exact .inl ⟨he, ⟨k + 1, by omega, (impl_leastCost_.dn_succ zs k).symm, by rw [impl_leastCost_.fin_succ _ _ h2]; exact h1⟩, h2'⟩
      · exact .inr ⟨he, k + 1, by omega, (impl_leastCost_.dn_succ zs k).symm, by rw [impl_leastCost_.fin_succ _ _ h2]; exact h1⟩
    · rintro e W' ⟨he, ⟨ys, rfl, k, hk, e1, hj⟩ | ⟨pre, ⟨k, hk, rfl⟩, k2, hk2, e1, hj⟩⟩
      · have e2 := congrArg List.length e1
        rw [impl_leastCost_.dn_length, impl_leastCost_.dn_length] at e2
        subst e2
        rw [List.take_of_length_le (by rw [List.length_finRange]; omega)] at hj
        exact ⟨he, .inl ⟨_, rfl, hj⟩⟩
      · exact ⟨he, .inr ⟨_, ⟨k2, hk2, rfl⟩, hj⟩⟩
def impl_leastCost_.tm (m : ByteArray) : Int := (impl_timeOf.f m).getD 0
/-- The sum when the indices p have come. -/
def impl_leastCost_.sum (zs : List Int) (texts : List ByteArray) (p : List Nat) : Int := p.foldl (fun o k => wrap64 (o + wrap64 ((impl_leastCost_.vl zs k) * impl_leastCost_.tm (rdOf ByteArray.empty texts (k : Int))))) 0
theorem impl_leastCost_.sum_snoc (zs : List Int) (texts : List ByteArray) (p : List Nat) (k : Nat) : impl_leastCost_.sum zs texts (p ++ [k]) = wrap64 (impl_leastCost_.sum zs texts p + wrap64 ((impl_leastCost_.vl zs k) * impl_leastCost_.tm (rdOf ByteArray.empty texts (k : Int)))) := by simp [impl_leastCost_.sum]
theorem impl_leastCost_.boxes {w w1 w3 : World} {T : Value} {Av : Option Addr} {n cv : Nat} {l : List Int} {P : Nat → Prop} (hv : Kd.R (Kd.int .i64) 3 w1 (w.alloc (.cells #[T] 23)).heap.size P (.slice Av n cv) l) (hB1 : Below (w.alloc (.cells #[T] 23)).heap.size (w.alloc (.cells #[T] 23)) w1)
    (hB3 : Below (w.alloc (.cells #[T] 23)).heap.size (w.alloc (.cells #[T] 23)) w3) (hk : Kept ((w1.alloc (.cells #[.slice Av n cv] 22)).alloc (.cells #[.int .i64 0] 3)) w3 (fun k => some k = (Value.slice Av n cv).ownBlock)) :
    Boxed w3 w1.heap.size 22 (.slice Av n cv) ∧ Boxed w3 (w1.heap.size + 1) 3 (.int .i64 0) ∧ Boxed w3 w.heap.size 23 T := by
  have hlt := Kd.R_lt hv
  refine ⟨?_, ?_, ?_⟩
  · show w3.heap[w1.heap.size]? = _
    rw [hk.2 w1.heap.size (by simp; omega) (fun e => by have := hlt _ e.symm; omega), Below.heap_alloc _ _ _ (by simp)]
    exact heap_alloc_last w1 _
  · show w3.heap[w1.heap.size + 1]? = _
    rw [hk.2 (w1.heap.size + 1) (by simp) (fun e => by have := hlt _ e.symm; omega)]
    have := heap_alloc_last (w1.alloc (.cells #[.slice Av n cv] 22)) (.cells #[.int .i64 0] 3)
    rwa [World.size_alloc] at this
  · show w3.heap[w.heap.size]? = _
    rw [hB3.block w.heap.size (by simp)]
    exact heap_alloc_last w _
theorem impl_leastCost_.wrapS (x : Int) (h0 : -1000001 ≤ x) (h1 : x ≤ 1000001) : wrap64 x = x := by unfold wrap64; omega
theorem impl_leastCost_.idx (n i k N : Nat) (hN : n ≤ 1000000) (hi : i = n - 1 - k) (hk : k < n) (hl : n ≤ N) : wrap64 ((n : Int) - 1) = (n : Int) - 1 ∧ (n : Int) - 1 - (i : Int) = (k : Int) ∧ wrap64 (k : Int) = (k : Int) ∧ wrap64 ((n : Int) - 1 - (i : Int)) = (k : Int) ∧ wrap64 (wrap64 ((n : Int) - 1) - (i : Int)) = (k : Int) ∧ (0 : Int) ≤ (k : Int) ∧ (k : Int) < (N : Int) ∧ (0 : Int) ≤ (n : Int) - 1 - (i : Int) ∧ (n : Int) - 1 - (i : Int) < (N : Int) := by
  have e1 : wrap64 ((n : Int) - 1) = (n : Int) - 1 := impl_leastCost_.wrapS _ (by omega) (by omega)
  have e2 : (n : Int) - 1 - (i : Int) = (k : Int) := by omega
  have e3 : wrap64 (k : Int) = (k : Int) := impl_leastCost_.wrapS _ (by omega) (by omega)
  refine ⟨e1, e2, e3, by rw [e2, e3], by rw [e1, e2, e3], Int.natCast_nonneg k, Int.ofNat_lt.2 (Nat.lt_of_lt_of_le hk hl), by rw [e2]; exact Int.natCast_nonneg k, by rw [e2]; exact Int.ofNat_lt.2 (Nat.lt_of_lt_of_le hk hl)⟩
theorem impl_leastCost_.wrIn (x : Int) (h0 : -9223372036854775808 ≤ x) (h1 : x < 9223372036854775808) : IntKind.wrap .i64 x = x := by
  have e64 : (2 ^ IntKind.i64.bits : Int) = 18446744073709551616 := by decide +kernel
  have e63 : (2 ^ (IntKind.i64.bits - 1) : Int) = 9223372036854775808 := by decide +kernel
  have es : IntKind.i64.signed = true := rfl
  unfold IntKind.wrap
  rw [e64, e63, es]
  by_cases h : x % 18446744073709551616 ≥ 9223372036854775808
  · simp only [Bool.true_and, h, decide_true, if_true]
    omega
  · simp only [Bool.true_and, h, decide_false, Bool.false_eq_true, if_false]
    omega
theorem impl_leastCost_.idw (n i k : Nat) (hN : n ≤ 1000000) (hi : i = n - 1 - k) (hk : k < n) : IntKind.wrap .i64 ((n : Int) - 1) = (n : Int) - 1 ∧ IntKind.wrap .i64 ((n : Int) - 1 - (i : Int)) = (k : Int) ∧ IntKind.wrap .i64 (k : Int) = (k : Int) := by
  have e2 : (n : Int) - 1 - (i : Int) = (k : Int) := by omega
  have e3 : IntKind.wrap .i64 (k : Int) = (k : Int) := impl_leastCost_.wrIn _ (by omega) (by omega)
  exact ⟨impl_leastCost_.wrIn _ (by omega) (by omega), by rw [e2]; exact e3, e3⟩
theorem impl_leastCost_.own {β : Type} {ob N : Nat} {w4 : World} (h4 : w4.heap.size = N) : OwnFrom N (fun (_ : β) W => impl_leastCost_.KP ob N w4 W) := fun _ W W' row hs hg hr =>
  ⟨Nat.le_trans hs.1 hg.size, fun k hk hn => (hg.block k (by have := hs.1; omega) (fun e => by have := (hr k e.symm).1; omega)).trans (hs.2 k hk hn)⟩
theorem impl_leastCost_.ints {W : World} {base n cv ob n₀ : Nat} {P : Nat → Prop} {Av : Option Addr} {zs : List Int} (h : Kd.R (Kd.int .i64) 3 W base P (.slice Av n cv) zs) (hn : n = zs.length) (hlt : ∀ k, (Value.slice Av n cv).ownBlock = some k → k < n₀ ∧ k ≠ ob) : impl_leastCost_.Ints ob n₀ W (.slice Av n cv) zs := by
  by_cases h0 : 0 < zs.length
  · obtain ⟨g, cap, e, _, _, _⟩ := Kd.R_form h h0
    rw [e] at h hlt ⊢
    have hg := hlt g rfl
    refine .inr ⟨g, 0, cap, rfl, hg.1, hg.2, fun j hj => ?_⟩
    have := (Kd.R_celln 0 h (j : Int) (by omega) (by omega)).1
    rw [Nat.zero_add]
    simpa [rdOf] using this
  · have e : zs = [] := List.eq_nil_of_length_eq_zero (by omega)
    subst e
    exact .inl ⟨Av, cv, by rw [hn]; rfl, rfl⟩
def impl_leastCost_.noDefer (ops : Array Oper) : Bool := ops.toList.all fun o => match o.op with | .defer _ => false | _ => true
theorem impl_leastCost_.inR {F : Fence} {n : Nat} {P : Program} {md : Region.Mode} {ops : Array Oper} {Q : Exit → Act → World → Prop} (hro : F.round = none) (l : Nat) (hd : impl_leastCost_.noDefer ops = true) :
    ∀ (fuel : Nat) (listed : Array Bool) (a : Act) (w : World), wpAnyIn F n P md ops Q fuel listed a w → wpAnyIn (F.inRound l) n P md ops Q fuel listed a w := by
  intro fuel
  induction fuel with
  | zero => intro listed a w h; exact h
  | succ fuel ih =>
    intro listed a w h
    refine ⟨h.1, fun i hi => ?_⟩
    have h2 := wpOpIn_mono (fun a w => ih (listed.setIfInBounds i true) a w) (h.2 i hi)
    unfold wpOpIn at h2 ⊢
    cases ho : ops[i]? with
    | none => rw [ho] at h2; exact h2
    | some o =>
      rw [ho] at h2
      have hnd : ∀ c, o.op ≠ .defer c := by
        intro c hc
        have hm := List.all_eq_true.1 hd o (Array.mem_toList_iff.2 (Array.mem_of_getElem? ho))
        rw [hc] at hm
        cases hm
      simp only at h2 ⊢
      by_cases hw : Region.wanted o (yielded ops a.tmps) = true
      · rw [if_pos hw] at h2 ⊢
        refine ⟨h2.1, ?_⟩
        have h3 := h2.2
        rw [hro, Oper.semAt_none] at h3
        show o.uponIn _ n P a _ Q ((o.semAt (some l) a.eval).run P w)
        rw [Oper.semAt_some l _ _ hnd]
        exact h3
      · rw [if_neg hw] at h2 ⊢
        exact h2
theorem impl_leastCost_.fin_range (n : Nat) : (List.finRange n).map (fun x => x.val) = List.range n := by
  apply List.ext_getElem
  · simp
  · intro i h1 h2
    simp
theorem impl_leastCost_.put {α : Type} {S N M : Nat} {B : Nat} {w4 w W : World} (I : List α → Int) (pre : List α) (x : α) {s y : Int} {act : Act} (n : Nat) (hcr : W.cell? ⟨S, 0, none⟩ = some (.int .i64 s)) (hfr : W.frozen? ⟨S, 0, none⟩ = false) (hKP : impl_leastCost_.KP S N w4 W) (hB : Below w.heap.size w W) (hS : w.heap.size ≤ S) (hy : y = I (pre ++ [x])) :
    ownPostG B (impl_leastCost_.KP S M) (fun (pre : List α) W => (W.cell? ⟨S, 0, none⟩ = some (.int .i64 (I pre)) ∧ W.frozen? ⟨S, 0, none⟩ = false) ∧ (impl_leastCost_.KP S N w4 W ∧ Below w.heap.size w W)) (fun _ _ _ => False) (pre ++ [x]) W .normal act ((W.drewN n).setCell ⟨S, 0, none⟩ (.int .i64 y)) := by
  have hk : ∀ N, impl_leastCost_.KP S N W ((W.drewN n).setCell ⟨S, 0, none⟩ (.int .i64 y)) := fun N => ⟨by simp, fun k _ hn => Below.heap_setCell (W.drewN n) ⟨S, 0, none⟩ _ k hn⟩
  refine ⟨((⟨Nat.le_refl _, fun _ _ h _ => h⟩ : KeepsOthers W (W.drewN n)).trans (KeepsOthers.setCell _ _ _)).from B, hk M, ⟨?_, ?_⟩, hKP.trans (hk N), ?_⟩
  · rw [← hy]
    exact World.cell?_setCell_same (W.drewN n) ⟨S, 0, none⟩ _ hcr
  · rw [World.frozen?_setCell]
    exact hfr
  · exact Below.setCell (w := W.drewN n) (⟨hB.os, hB.tape, hB.output, hB.size, hB.block⟩ : Below w.heap.size w (W.drewN n)) hS _
set_option maxRecDepth 100000 in
set_option maxHeartbeats 4000000 in
theorem impl_leastCost_.walk (A0 : Option Addr) (c0 : Nat) (l0 : List ByteArray) (A1 : Option Addr) (c1 : Nat) (l1 : List Int) (w : World) (hr0 : Kd.C Kd.string w A0 l0.length l0) (hc0 : l0.length ≤ c0) (hr1 : Kd.C (Kd.int .i64) w A1 l1.length l1) (hc1 : l1.length ≤ c1) (h1 : l1.length ≤ 1000000) (h2 : l1.length ≤ l0.length) (h3 : ∀ m ∈ l0, (impl_timeOf.f m).isSome = true) :
    CallsIn Fence.wide 5 Tryz.prog 34 #[.slice A0 l0.length c0, .slice A1 l1.length c1] w fun e w' => e = .returned (.int .i64 (impl_leastCost_.sum (l1.mergeSort fun x y => decide (x ≤ y)) l0 (List.range l1.length))) ∧ Below w.heap.size w w' := by
  have HC := Aside0.mk (fun (w' : World) (hB : Below w.heap.size w w') => slices_Clone_int_int.calls A1 c1 l1 l1 w' (Kd.C_below hr1 hB) hc1 (by unfold slices_Clone_int_int.f; rw [if_pos (by omega)]))
  have HS := Aside0.mk (fun (v : Value) (w0 w' : World) (hB : Below w0.heap.size w0 w') (ho : Kd.R (Kd.int .i64) 3 w' w0.heap.size (fun k => some k = v.ownBlock) v l1) => slices_Sort_int_int.calls _ v l1 (l1.mergeSort fun x y => decide (x ≤ y)) w0 w' hB ho (by unfold slices_Sort_int_int.f; rw [if_pos (by omega)]))
  have HR0 := Aside0.mk hr0
  have HP := Aside0.mk (And.intro h1 (And.intro h2 h3))
  clear hr1 h1 h2 h3 hr0
  have f31 : Fence.wide.fn 49 := trivial
  have f32 : Fence.wide.fn 50 := trivial
  have f33 : Fence.wide.fn 51 := trivial
  have f34 : Fence.wide.fn 42 := trivial
  refine callsIn_of_wp_marks Tryz.func34 rfl trivial ?_ rfl
  simp only [Tryz.ntmps34, List.size_toArray, List.length_cons, List.length_nil, Nat.reduceAdd, Nat.reduceSub, Array.replicate_succ, Array.replicate_zero, List.push_toArray, List.append_toArray, List.nil_append, List.cons_append]
  gi_wp2_with (first
    | (gi_at_call 49; refine (callsIn_wide.2 (HC.out _ (below_alloc (Below.refl _ _) _))).mono ?_; rintro e w1 ⟨v, rfl, hv, hB1⟩; obtain ⟨Av, cv, rfl⟩ := Kd.R_slice hv; have HV := Aside0.mk hv; clear hv; have HB1 := Aside0.mk hB1; clear hB1)
    | (gi_at_call 50; refine (callsIn_wide.2 (HS.out _ (w.alloc (.cells #[.slice A0 l0.length c0] 23)) _ (below_alloc (below_alloc HB1.out _) _) (Kd.R_alloc (Kd.R_alloc (Kd.R_tight rfl HV.out) _) _))).mono ?_; rintro e w3 ⟨rfl, hr, hB3, hk3⟩; obtain ⟨hbS, hbO, hbT⟩ := impl_leastCost_.boxes HV.out HB1.out hB3 hk3; have hcS := Boxed.cell hbS; have HR := Aside0.mk hr; clear hr; have HK := Aside0.mk hk3; clear hk3; have HB3 := Aside0.mk hB3; clear hB3)
    | (gi_at_call 51; refine (callsIn_wide.2 (impl_leastCost_.back _ _ _ _)).mono ?_; rintro e w' ⟨rfl, rfl⟩))
  have bO := hbO.alloc (.cells #[.slice Av l1.length cv] 22)
  have bS := hbS.alloc (.cells #[.slice Av l1.length cv] 22)
  have bT := hbT.alloc (.cells #[.slice Av l1.length cv] 22)
  have bB := Boxed.new w3 22 (.slice Av l1.length cv)
  have hBw : Below w.heap.size w (w3.alloc (.cells #[.slice Av l1.length cv] 22)) := below_alloc (Below.trans (below_alloc (Below.refl _ _) _) (HB3.out.mono (by simp))) _
  have hw13 : w1.heap.size + 2 ≤ w3.heap.size := by have := HK.out.1; simpa using this
  have hw01 : w.heap.size + 1 ≤ w1.heap.size := by have := HB1.out.size; simpa using this
  have hlen : (l1.mergeSort fun x y => decide (x ≤ y)).length = l1.length := List.length_mergeSort _
  have hI := Aside0.mk (impl_leastCost_.ints (ob := w1.heap.size + 1) (n₀ := w3.heap.size + 1) (W := w3.alloc (.cells #[.slice Av l1.length cv] 22)) (Kd.R_alloc HR.out _) hlen.symm (fun k hk => by
    have := Kd.R_lt HV.out k hk
    omega))
  obtain ⟨zs, hzs⟩ : ∃ zs, zs = l1.mergeSort fun x y => decide (x ≤ y) := ⟨_, rfl⟩
  rw [← hzs] at hI hlen
  have HZ := Aside0.mk hzs
  clear hzs HR HS HC HK
  obtain ⟨w4, hw4⟩ : ∃ w4, w4 = w3.alloc (.cells #[.slice Av l1.length cv] 22) := ⟨_, rfl⟩
  have hs4 : w4.heap.size = w3.heap.size + 1 := by rw [hw4]; simp
  rw [← hw4] at bO bS bT bB hBw hI ⊢
  clear hw4
  refine wpIn_rangeFunc_ownG rfl (by decide) (gf := 66) (lb := #[.pointer (some ⟨w3.heap.size, 0, none⟩)]) rfl trivial (enters_of Tryz.func66 (by kernel_rfl) rfl)
    (impl_leastCost_.stops Fence.wide (5 - 1) trivial rfl (by decide) w3.heap.size (w1.heap.size + 1) (w3.heap.size + 1) _ zs (by have := HP.out.1; omega) w4 (by omega) (by omega) (by omega) bB.cell hI.out) (fun h k => h.trans k) (fun W l o o' hl ho h1 h2 => impl_leastCost_.KP.of_below (belowK_b (w := w4) (by omega) W l o o' hl ho h1 h2)) (Below.refl _ _) (fun _ => rfl)
    (fun (pre : List (Fin zs.length)) W => (W.cell? ⟨w1.heap.size + 1, 0, none⟩ = some (.int .i64 (impl_leastCost_.sum zs l0 (pre.map (·.val)))) ∧ W.frozen? ⟨w1.heap.size + 1, 0, none⟩ = false) ∧ (impl_leastCost_.KP (w1.heap.size + 1) w4.heap.size w4 W ∧ Below w.heap.size w W))
    (fun _ _ _ => False)
    (OwnFrom.and (Own.from (fun s A B row hs hg hr => ⟨cell_kept hs.1 hg hr, (frozen_kept hs.1 hg hr).trans hs.2⟩) _) (OwnFrom.and (impl_leastCost_.own rfl) (ownFrom_below (Nat.le_refl _) (by have := hBw.size; omega))))
    (fun _ _ _ _ _ hs _ _ => hs)
    ⟨⟨bO.cell, bO.frozen⟩, impl_leastCost_.KP.refl _ _ _, hBw⟩
    (fun x => { tmps := #[.slice A0 l0.length c0, .slice A1 l1.length c1, .pointer (some ⟨w.heap.size, 0, none⟩), undef, .int .i64 0, .pointer (some ⟨w1.heap.size, 0, none⟩), .pointer (some ⟨w1.heap.size + 1, 0, none⟩), .int .i64 (impl_leastCost_.ix zs x.val : Int), .int .i64 (impl_leastCost_.vl zs x.val), .slice A1 l1.length c1, .slice Av l1.length cv, .slice Av l1.length cv, .tuple #[], .slice Av l1.length cv, .func (.func 66) #[] #[.pointer (some ⟨w3.heap.size, 0, none⟩)], .int .i64 (impl_leastCost_.ix zs x.val : Int), .int .i64 (impl_leastCost_.vl zs x.val), undef, undef, undef, undef, undef, undef, undef, undef, undef, undef, undef, undef, undef, undef], defers := [] }) ?assign ?body ?done ?stop
  case assign =>
    intro l x W K hK
    gi_wp2
    exact hK
  case body =>
    rintro l pre x W ⟨⟨hcr, hfr⟩, hKP, hB⟩ hlt
    have hx := x.2
    have cT := (hKP.cell (p := ⟨w.heap.size, 0, none⟩) (by show w.heap.size < _; omega) (by show w.heap.size ≠ _; omega)).trans bT.cell
    have cS := (hKP.cell (p := ⟨w1.heap.size, 0, none⟩) (by show w1.heap.size < _; omega) (by show w1.heap.size ≠ _; omega)).trans bS.cell
    have hx0 : x.val < l0.length := by have := HP.out.2.1; omega
    obtain ⟨ad, ead, hxc⟩ := Kd.at_string (Kd.C_below HR0.out hB) (x.val : Int) (by omega) (by omega)
    subst ead
    obtain ⟨tv, htv⟩ := Option.isSome_iff_exists.1 (HP.out.2.2 (rdOf ByteArray.empty l0 (x.val : Int)) (by
      unfold rdOf
      rw [Int.toNat_natCast, List.getD_eq_getElem?_getD, List.getElem?_eq_getElem hx0]
      exact List.getElem_mem hx0))
    have HT := Aside0.mk (fun w' => impl_timeOf.calls _ tv w' htv)
    rw [Int.toNat_natCast] at hxc
    obtain ⟨-, i2, -, -, -, i6, i7, -, -⟩ := impl_leastCost_.idx l1.length (impl_leastCost_.ix zs x.val) x.val l0.length HP.out.1 (congrArg (fun z => z - 1 - x.val) hlen) (Nat.lt_of_lt_of_eq hx hlen) HP.out.2.1
    obtain ⟨j1, j2, j3⟩ := impl_leastCost_.idw l1.length (impl_leastCost_.ix zs x.val) x.val HP.out.1 (congrArg (fun z => z - 1 - x.val) hlen) (Nat.lt_of_lt_of_eq hx hlen)
    clear hlt hx i2
    have HV2 : Hid (impl_leastCost_.tm (rdOf ByteArray.empty l0 (x.val : Int)) = tv) := by
      unfold impl_leastCost_.tm
      rw [htv]
      exact rfl
    clear htv
    have HS2 := Aside0.mk (impl_leastCost_.sum_snoc zs l0 (pre.map (·.val)) x.val)
    have HM : Aside0 ((pre ++ [x]).map (·.val) = pre.map (·.val) ++ [x.val]) := Aside0.mk (by simp)
    generalize x.val = xv at *
    generalize impl_leastCost_.ix zs xv = iv at *
    generalize impl_leastCost_.vl zs xv = vv at *
    have g34 : (Fence.wide.inRound l).fn 42 := trivial
    have hmx : Tryz.prog.follows .mixedOrders = true := by kernel_rfl
    gi_wp2
    have HKP := Aside0.mk hKP
    have HBB := Aside0.mk hB
    have HSS := Aside0.mk (show w.heap.size ≤ w1.heap.size + 1 by omega)
    clear hbS hbO hbT hcS hw13 hw01 hlen HZ hI hBw bB bS bO bT HR0 HV HB1 HB3 hKP hB HP hc0 hc1 f31 f32 f33 j3
    refine wpIn_region_any (by assumption) ?_
    change wpAnyIn _ _ _ _ _ _ _ _ _ (World.drew _)
    refine impl_leastCost_.inR rfl l (by kernel_rfl) _ _ _ _ ?_
    repeat' (first
      | (refine wpAnyIn_take (i := 1) (v := ?_) rfl rfl (by kernel_rfl) (by decide +kernel) (by decide +kernel) (fun _ _ _ h => h) ⟨Or.inl ⟨by rfl, ?_⟩, fun _ => rfl⟩ ?_; rotate_left; (focus (intro w; go_simp; try with_reducible rfl)))
      | (refine wpAnyIn_take (i := 6) (v := ?_) rfl rfl (by kernel_rfl) (by decide +kernel) (by decide +kernel) (fun _ _ _ h => h) ⟨Or.inl ⟨by rfl, ?_⟩, fun _ => rfl⟩ ?_; rotate_left; (focus (intro w; go_simp; try with_reducible rfl)))
      | (refine wpAnyIn_take (i := 4) (v := ?_) rfl rfl (by kernel_rfl) (by decide +kernel) (by decide +kernel) (fun _ _ _ h => h) ⟨Or.inl ⟨by rfl, ?_⟩, fun _ => rfl⟩ ?_; rotate_left; (focus (intro w; go_simp; try with_reducible rfl)))
      | (refine wpAnyIn_take (i := 5) (v := ?_) rfl rfl (by kernel_rfl) (by decide +kernel) (by decide +kernel) (fun _ _ _ h => h) ⟨Or.inl ⟨by rfl, ?_⟩, fun _ => rfl⟩ ?_; rotate_left; (focus (intro w; go_simp; try with_reducible rfl)))
      | (refine wpAnyIn_take (i := 7) (v := ?_) rfl rfl (by kernel_rfl) (by decide +kernel) (by decide +kernel) (fun _ _ _ h => h) ⟨Or.inl ⟨by rfl, ?_⟩, fun _ => rfl⟩ ?_; rotate_left; (focus (intro w; go_simp; try with_reducible rfl)))
      | (refine wpAnyIn_take (i := 8) (v := ?_) rfl rfl (by kernel_rfl) (by decide +kernel) (by decide +kernel) (fun _ _ _ h => h) ⟨Or.inl ⟨by rfl, ?_⟩, fun _ => rfl⟩ ?_; rotate_left; (focus (intro w; go_simp; try with_reducible rfl)))
      | (refine wpAnyIn_take (i := 11) (v := ?_) rfl rfl (by kernel_rfl) (by decide +kernel) (by decide +kernel) (fun _ _ _ h => h) ⟨Or.inl ⟨by rfl, ?_⟩, fun _ => rfl⟩ ?_; rotate_left; (focus (intro w; go_simp; try with_reducible rfl)))
      | (refine wpAnyIn_take (i := 12) (v := ?_) rfl rfl (by kernel_rfl) (by decide +kernel) (by decide +kernel) (fun _ _ _ h => h) ⟨Or.inl ⟨by rfl, ?_⟩, fun _ => rfl⟩ ?_; rotate_left; (focus (intro w; go_simp; try with_reducible rfl)))
      | (refine wpAnyIn_ready (rs := [0, 2, 3]) (by decide +kernel) (by simp) ?_)
      | (refine wpAnyIn_ready (rs := [2, 3]) (by decide +kernel) (by simp) ?_)
      | (refine wpAnyIn_ready (rs := [0, 3]) (by decide +kernel) (by simp) ?_)
      | (refine wpAnyIn_ready (rs := [0, 2]) (by decide +kernel) (by simp) ?_)
      | (refine wpAnyIn_ready (rs := [0]) (by decide +kernel) (by simp) ?_)
      | (refine wpAnyIn_ready (rs := [2]) (by decide +kernel) (by simp) ?_)
      | (refine wpAnyIn_ready (rs := [3]) (by decide +kernel) (by simp) ?_)
      | (refine wpAnyIn_ready (rs := [0, 9]) (by decide +kernel) (by simp) ?_)
      | (refine wpAnyIn_ready (rs := [9]) (by decide +kernel) (by simp) ?_)
      | (refine wpAnyIn_ready (rs := [0, 10]) (by decide +kernel) (by simp) ?_)
      | (refine wpAnyIn_ready (rs := [10]) (by decide +kernel) (by simp) ?_)
      | (refine wpAnyIn_ready (rs := [13]) (by decide +kernel) (by simp) ?_)
      | exact AllReadyIn.nil
      | (refine AllReadyIn.cons rfl (fun K hK => ?_) ?_)
      | (go_simp; refine hK _ _ ?_; clear hK K)
      | (go_simp; gi_at_call 42; refine (callsIn_wide.2 (HT.out _)).mono ?_; rintro e w' ⟨rfl, hd⟩; obtain ⟨nd, rfl⟩ := hd.out; refine hK _ _ ?_; clear hK K)
      | (refine wpAnyIn_done (by decide +kernel) ?_ _))
    all_goals gi_wp2
    all_goals refine impl_leastCost_.put (fun pre => impl_leastCost_.sum zs l0 (pre.map (·.val))) pre x _ hcr hfr HKP.out HBB.out HSS.out ?_
    all_goals rw [i64_w, i64_w, HM.out, HS2.out, HV2.out]
  case done =>
    rintro D ys W hD rfl ⟨⟨hcr, hfr⟩, hKP, hB⟩ hK
    gi_wp2
    refine ⟨by simp, .inl ⟨_, _, rfl, run_takeDeferred hK, ?_⟩⟩
    refine ⟨_, results_tmp rfl _ _ _, ?_, hB.trans (belowK_b (w := w) (Nat.le_refl _) W D _ _ (by have := hBw.size; omega) hK rfl rfl)⟩
    rw [← HZ.out, ← hlen, impl_leastCost_.fin_range]
    rfl
  case stop =>
    rintro D c pre W _ _ h _
    exact h.elim
end
def impl_leastCost.f (l0 : List ByteArray) (l1 : List Int) : Option Int := if l1.length ≤ 1000000 ∧ l1.length ≤ l0.length ∧ (∀ m ∈ l0, (impl_timeOf.f m).isSome = true) then some (impl_leastCost_.sum (l1.mergeSort fun x y => decide (x ≤ y)) l0 (List.range l1.length)) else none
theorem impl_leastCost.calls (A0 : Option Addr) (c0 : Nat) (l0 : List ByteArray) (A1 : Option Addr) (c1 : Nat) (l1 : List Int) (r : Int) (w : World) (hr0 : Kd.C Kd.string w A0 l0.length l0) (hc0 : l0.length ≤ c0) (hr1 : Kd.C (Kd.int .i64) w A1 l1.length l1) (hc1 : l1.length ≤ c1) (h : impl_leastCost.f l0 l1 = some r) :
    Calls Tryz.prog 34 #[.slice A0 l0.length c0, .slice A1 l1.length c1] w fun e w' => e = .returned (.int .i64 r) ∧ Below w.heap.size w w' := by
  unfold impl_leastCost.f at h
  by_cases hc : l1.length ≤ 1000000 ∧ l1.length ≤ l0.length ∧ (∀ m ∈ l0, (impl_timeOf.f m).isSome = true)
  · rw [if_pos hc] at h
    obtain rfl := Option.some.inj h
    exact callsIn_wide.1 (impl_leastCost_.walk A0 c0 l0 A1 c1 l1 w hr0 hc0 hr1 hc1 hc.1 hc.2.1 hc.2.2)
  · rw [if_neg hc] at h
    cases h

/-! ### impl_BestCost: function 20 -/
def impl_BestCost.f (k : Nat) (l0 : List Int) : Option (Int × Bool) := (impl_areWeights.f l0).bind fun t208 => (if t208 = true then ((impl_allMarks.f k 5).bind fun t209 => ((impl_leastCost.f t209 l0).bind fun t212 => (some (t212, true)))) else (some (0, false)))
theorem impl_BestCost.mono : ∀ a0 k, LeO (impl_BestCost.f k a0) (impl_BestCost.f (k + 1) a0) := by
  intro a0 k
  unfold impl_BestCost.f
  repeat' first
      | (with_reducible exact impl_allMarks.mono _ _)
      | (with_reducible exact LeO.refl _)
      | (with_reducible exact LeO.none _)
      | (with_reducible refine LeO.ite ?_ ?_)
      | (with_reducible refine LeO.bind ?_ (fun _ => ?_))
      | exact impl_allMarks.mono _ _
      | exact LeO.none _
      | refine LeO.ite ?_ ?_
      | refine LeO.bind ?_ (fun _ => ?_)
set_option maxHeartbeats 8000000 in
set_option maxRecDepth 100000 in
theorem impl_BestCost.calls (k : Nat) (A0 : Option Addr) (c0 : Nat) (l0 : List Int) (r1 : Int) (r2 : Bool) (w : World) (hr0 : Kd.C (Kd.int .i64) w A0 l0.length l0) (hc0 : l0.length ≤ c0) (h : impl_BestCost.f k l0 = some (r1, r2)) :
    Calls Tryz.prog 20 #[.slice A0 l0.length c0] w fun e w' => e = .returned (.tuple #[.int .i64 r1, .bool r2]) ∧ Below w.heap.size w w' := by
  have HR0 := Aside0.mk hr0
  have HC0 := Aside0.mk hc0
  clear hr0 hc0
  have HB := Aside0.mk (Below.refl w.heap.size w)
  have H : ((impl_areWeights.f l0).bind fun t208 => (if t208 = true then ((impl_allMarks.f k 5).bind fun t209 => ((impl_leastCost.f t209 l0).bind fun t212 => (some (t212, true)))) else (some (0, false)))) = some (r1, r2) := h
  clear h
  replace H := Option.bind_eq_some_iff.mp H
  obtain ⟨t208, A20, H⟩ := H
  replace H : (if t208 = true then ((impl_allMarks.f k 5).bind fun t209 => ((impl_leastCost.f t209 l0).bind fun t212 => (some (t212, true)))) else (some (0, false))) = some (r1, r2) := H
  have A2 := Aside0.mk A20
  clear A20
  by_cases c3 : t208 = true
  · subst c3
    have H1 : ((impl_allMarks.f k 5).bind fun t209 => ((impl_leastCost.f t209 l0).bind fun t212 => (some (t212, true)))) = some (r1, r2) := by rw [if_pos rfl] at H; first | exact H | (simp only [if_true, eq_self] at H ⊢; exact H)
    clear H
    have H := H1
    clear H1
    replace H := Option.bind_eq_some_iff.mp H
    obtain ⟨t209, A40, H⟩ := H
    replace H : ((impl_leastCost.f t209 l0).bind fun t212 => (some (t212, true))) = some (r1, r2) := H
    have A4 := Aside0.mk A40
    clear A40
    replace H := Option.bind_eq_some_iff.mp H
    obtain ⟨t212, A50, H⟩ := H
    replace H : (some (t212, true)) = some (r1, r2) := H
    have A5 := Aside0.mk A50
    clear A50
    simp only [Option.some.injEq, Prod.mk.injEq] at H
    obtain ⟨rfl, rfl⟩ := H
    go_enter Tryz.func20, Tryz.ntmps20
    go_wp2_with (first | ((with_reducible refine gate_callee (f := 24) rfl ?_); refine goesL_ (some 5) rfl rfl Tryz.func24 (by kernel_rfl) rfl #[.slice A0 l0.length c0] rfl (by (try simp only [List.map_toArray, List.map_cons, List.map_nil]); first | done | rfl | (simp only [List.length_drop, List.length_take]; rfl)) ?_; (with_reducible refine (impl_areWeights.calls _ _ l0 true _ ?side1 ?side2 A2.out).mono ?_); (case side1 => repeat (first | exact HR0.out | (with_reducible refine Kd.C_alloc ?_ _) | (with_reducible refine Kd.C_drewN ?_ _) | (with_reducible refine Kd.C_drew ?_))); (case side2 => exact HC0.out); rintro e w' ⟨rfl, ⟨nd, rfl⟩⟩; refine ⟨_, rfl, ?_⟩) | ((with_reducible refine gate_callee (f := 26) rfl ?_); refine goesL_ (some 7) rfl rfl Tryz.func26 (by kernel_rfl) rfl #[.int .i64 5] rfl (by (try simp only [List.map_toArray, List.map_cons, List.map_nil]); first | done | rfl | (simp only [List.length_drop, List.length_take]; rfl)) ?_; (with_reducible refine (impl_allMarks.calls k 5 t209 _ A4.out).mono ?_); rintro e w6 ⟨v210, rfl, ho0, hb⟩; refine ⟨_, rfl, ?_⟩; have n0_ := Aside0.mk (Kd.R_lower ho0 (below_size (by repeat (first | (with_reducible first | exact HB.out | apply below_alloc | apply pw_below_drewN | apply below_drew1) | exact HB.out)))); have n1_ := Aside0.mk (below_step (by repeat (first | (with_reducible first | exact HB.out | apply below_alloc | apply pw_below_drewN | apply below_drew1) | exact HB.out)) hb); clear HB; have HO211 := n0_; have HB := n1_; clear n0_ n1_; (try clear hb); (try clear hb2); (try clear hk); (try clear hi); (try clear ho0); obtain ⟨Ao7, co7, eo7⟩ := Kd.R_slice HO211.out; subst eo7) | ((with_reducible refine gate_callee (f := 34) rfl ?_); refine goesL_ (some 9) rfl rfl Tryz.func34 (by kernel_rfl) rfl #[.slice Ao7 t209.length co7, .slice A0 l0.length c0] rfl (by (try simp only [List.map_toArray, List.map_cons, List.map_nil]); first | done | rfl | (simp only [List.length_drop, List.length_take]; rfl)) ?_; (with_reducible refine (impl_leastCost.calls _ _ t209 _ _ l0 t212 _ ?side1 ?side2 ?side3 ?side4 A5.out).mono ?_); (case side1 => repeat (first | exact (Kd.R_reads' HO211.out).2.2 | (with_reducible refine Kd.C_alloc ?_ _) | (with_reducible refine Kd.C_drewN ?_ _) | (with_reducible refine Kd.C_drew ?_))); (case side2 => exact (Kd.R_reads' HO211.out).2.1); (case side3 => repeat (first | exact (Kd.C_below HR0.out HB.out) | (with_reducible refine Kd.C_alloc ?_ _) | (with_reducible refine Kd.C_drewN ?_ _) | (with_reducible refine Kd.C_drew ?_))); (case side4 => exact HC0.out); rintro e w8 ⟨rfl, hb⟩; refine ⟨_, rfl, ?_⟩; have n0_ := Aside0.mk (Kd.R_below (by (with_reducible repeat (first | apply Kd.R_alloc | apply Kd.R_drewN | apply Kd.R_drew)); exact HO211.out) hb); have n1_ := Aside0.mk (below_step (by repeat (first | (with_reducible first | exact HB.out | apply below_alloc | apply pw_below_drewN | apply below_drew1) | exact HB.out)) hb); clear HO211; clear HB; have HO211 := n0_; have HB := n1_; clear n0_ n1_; (try clear hb); (try clear hb2); (try clear hk); (try clear hi)))
    go_ret2
    exact ⟨by first | rfl | (simp [errW_none, errW_some] <;> rfl) | (simp [*, errW_none, errW_some] <;> rfl), by repeat (first | (with_reducible first | exact HB.out | apply below_alloc | apply pw_below_drewN | apply below_drew1) | exact HB.out)⟩
  · replace c3 := Bool.eq_false_iff.mpr c3
    subst c3
    have H1 : (some (0, false)) = some (r1, r2) := by rw [if_neg (show ¬ (false = true) by decide)] at H; first | exact H | (simp only [if_true, eq_self] at H ⊢; exact H)
    clear H
    have H := H1
    clear H1
    simp only [Option.some.injEq, Prod.mk.injEq] at H
    obtain ⟨rfl, rfl⟩ := H
    go_enter Tryz.func20, Tryz.ntmps20
    go_wp2_with (first | ((with_reducible refine gate_callee (f := 24) rfl ?_); refine goesL_ (some 5) rfl rfl Tryz.func24 (by kernel_rfl) rfl #[.slice A0 l0.length c0] rfl (by (try simp only [List.map_toArray, List.map_cons, List.map_nil]); first | done | rfl | (simp only [List.length_drop, List.length_take]; rfl)) ?_; (with_reducible refine (impl_areWeights.calls _ _ l0 false _ ?side1 ?side2 A2.out).mono ?_); (case side1 => repeat (first | exact HR0.out | (with_reducible refine Kd.C_alloc ?_ _) | (with_reducible refine Kd.C_drewN ?_ _) | (with_reducible refine Kd.C_drew ?_))); (case side2 => exact HC0.out); rintro e w' ⟨rfl, ⟨nd, rfl⟩⟩; refine ⟨_, rfl, ?_⟩))
    go_ret2
    exact ⟨by first | rfl | (simp [errW_none, errW_some] <;> rfl) | (simp [*, errW_none, errW_some] <;> rfl), by repeat (first | (with_reducible first | exact HB.out | apply below_alloc | apply pw_below_drewN | apply below_drew1) | exact HB.out)⟩

end Go.Proofs.YtgaadjlcmgmfaaaGreat.PFnExactBestCost
