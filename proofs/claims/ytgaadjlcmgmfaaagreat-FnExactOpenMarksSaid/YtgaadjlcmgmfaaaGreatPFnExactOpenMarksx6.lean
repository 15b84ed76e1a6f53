-- Written by a program of this session (the kit's print with this session's additions, wip/tools): Lean checks it.
import Derived.Test.YtgaadjlcmgmfaaaGreatPFnExactOpenMarksx0
import Derived.Test.YtgaadjlcmgmfaaaGreatPFnExactOpenMarksx5
namespace Go.Proofs.YtgaadjlcmgmfaaaGreat.PFnExactOpenMarks
open Go.RowKit Go.Proofs.YtgaadjlcmgmfaaaGreatW.PrintWords Go.Proofs.YtgaadjlcmgmfaaaGreatW.PrintLast Go.Proofs.YtgaadjlcmgmfaaaGreatW.PrintMore
attribute [local go_sem] max2_int min2_int max_two min_two max_three min_three max_four min_four   -- for this text's walks alone
set_option linter.unusedVariables false
set_option linter.unusedSimpArgs false

/-! ### impl_byTime: function 44 -/
def impl_byTime.f (k : Nat) (a0 : ByteArray) (a1 : ByteArray) : Option (Int) := (impl_timeOf.f a0).bind fun t191 => ((impl_timeOf.f a1).bind fun t192 => ((cmp_Compare_int.f t191 t192).bind fun t193 => ((cmp_Compare_int.f (a0.size : Int) (a1.size : Int)).bind fun t194 => ((impl_opposite.f a0).bind fun t195 => ((impl_opposite.f a1).bind fun t196 => ((strings_Compare.f t195 t196).bind fun t197 => ((cmp_Or_int.f k (([t193, t194, t197] : List Int))).bind fun t201 => (some t201))))))))
theorem impl_byTime.mono : ∀ a0 a1 k, LeO (impl_byTime.f k a0 a1) (impl_byTime.f (k + 1) a0 a1) := by
  intro a0 a1 k
  unfold impl_byTime.f
  repeat' first
      | (with_reducible exact cmp_Or_int.mono _ _)
      | (with_reducible exact LeO.refl _)
      | (with_reducible exact LeO.none _)
      | (with_reducible refine LeO.ite ?_ ?_)
      | (with_reducible refine LeO.bind ?_ (fun _ => ?_))
      | exact cmp_Or_int.mono _ _
      | exact LeO.none _
      | refine LeO.ite ?_ ?_
      | refine LeO.bind ?_ (fun _ => ?_)
set_option maxHeartbeats 8000000 in
set_option maxRecDepth 100000 in
theorem impl_byTime.calls (k : Nat) (a0 : ByteArray) (a1 : ByteArray) (r : Int) (w : World) (h : impl_byTime.f k a0 a1 = some r) :
    Calls Tryz.prog 44 #[.string a0, .string a1] w fun e w' => e = .returned (.int .i64 r) ∧ Below w.heap.size w w' := by
  have HB := Aside0.mk (Below.refl w.heap.size w)
  have H : ((impl_timeOf.f a0).bind fun t191 => ((impl_timeOf.f a1).bind fun t192 => ((cmp_Compare_int.f t191 t192).bind fun t193 => ((cmp_Compare_int.f (a0.size : Int) (a1.size : Int)).bind fun t194 => ((impl_opposite.f a0).bind fun t195 => ((impl_opposite.f a1).bind fun t196 => ((strings_Compare.f t195 t196).bind fun t197 => ((cmp_Or_int.f k (([t193, t194, t197] : List Int))).bind fun t201 => (some t201))))))))) = some r := h
  clear h
  replace H := Option.bind_eq_some_iff.mp H
  obtain ⟨t191, A30, H⟩ := H
  replace H : ((impl_timeOf.f a1).bind fun t192 => ((cmp_Compare_int.f t191 t192).bind fun t193 => ((cmp_Compare_int.f (a0.size : Int) (a1.size : Int)).bind fun t194 => ((impl_opposite.f a0).bind fun t195 => ((impl_opposite.f a1).bind fun t196 => ((strings_Compare.f t195 t196).bind fun t197 => ((cmp_Or_int.f k (([t193, t194, t197] : List Int))).bind fun t201 => (some t201)))))))) = some r := H
  have A3 := Aside0.mk A30
  clear A30
  replace H := Option.bind_eq_some_iff.mp H
  obtain ⟨t192, A40, H⟩ := H
  replace H : ((cmp_Compare_int.f t191 t192).bind fun t193 => ((cmp_Compare_int.f (a0.size : Int) (a1.size : Int)).bind fun t194 => ((impl_opposite.f a0).bind fun t195 => ((impl_opposite.f a1).bind fun t196 => ((strings_Compare.f t195 t196).bind fun t197 => ((cmp_Or_int.f k (([t193, t194, t197] : List Int))).bind fun t201 => (some t201))))))) = some r := H
  have A4 := Aside0.mk A40
  clear A40
  replace H := Option.bind_eq_some_iff.mp H
  obtain ⟨t193, A50, H⟩ := H
  replace H : ((cmp_Compare_int.f (a0.size : Int) (a1.size : Int)).bind fun t194 => ((impl_opposite.f a0).bind fun t195 => ((impl_opposite.f a1).bind fun t196 => ((strings_Compare.f t195 t196).bind fun t197 => ((cmp_Or_int.f k (([t193, t194, t197] : List Int))).bind fun t201 => (some t201)))))) = some r := H
  have A5 := Aside0.mk A50
  clear A50
  replace H := Option.bind_eq_some_iff.mp H
  obtain ⟨t194, A60, H⟩ := H
  replace H : ((impl_opposite.f a0).bind fun t195 => ((impl_opposite.f a1).bind fun t196 => ((strings_Compare.f t195 t196).bind fun t197 => ((cmp_Or_int.f k (([t193, t194, t197] : List Int))).bind fun t201 => (some t201))))) = some r := H
  have A6 := Aside0.mk A60
  clear A60
  replace H := Option.bind_eq_some_iff.mp H
  obtain ⟨t195, A70, H⟩ := H
  replace H : ((impl_opposite.f a1).bind fun t196 => ((strings_Compare.f t195 t196).bind fun t197 => ((cmp_Or_int.f k (([t193, t194, t197] : List Int))).bind fun t201 => (some t201)))) = some r := H
  have A7 := Aside0.mk A70
  clear A70
  replace H := Option.bind_eq_some_iff.mp H
  obtain ⟨t196, A80, H⟩ := H
  replace H : ((strings_Compare.f t195 t196).bind fun t197 => ((cmp_Or_int.f k (([t193, t194, t197] : List Int))).bind fun t201 => (some t201))) = some r := H
  have A8 := Aside0.mk A80
  clear A80
  replace H := Option.bind_eq_some_iff.mp H
  obtain ⟨t197, A90, H⟩ := H
  replace H : ((cmp_Or_int.f k (([t193, t194, t197] : List Int))).bind fun t201 => (some t201)) = some r := H
  have A9 := Aside0.mk A90
  clear A90
  obtain ⟨y198, hy198⟩ : ∃ y_ : List Int, y_ = (([t193, t194, t197] : List Int)) := ⟨_, rfl⟩
  replace H : ((cmp_Or_int.f k y198).bind fun t201 => (some t201)) = some r := by first | (rw [hy198]; with_reducible exact H) | (have H2_ := (Option.bind_some _ _).symm.trans H; rw [hy198]; with_reducible exact H2_) | (have H2_ := (Option.bind_some _ _).symm.trans H; with_reducible exact H2_) | with_reducible exact H | (rw [hy198]; exact H) | exact H
  have Ny198 := Aside0.mk hy198
  clear hy198
  replace H := Option.bind_eq_some_iff.mp H
  obtain ⟨t201, A100, H⟩ := H
  replace H : (some t201) = some r := H
  have A10 := Aside0.mk A100
  clear A100
  obtain rfl := Option.some.inj H
  go_enter Tryz.func44, Tryz.ntmps44
  go_wp2_with (first | ((with_reducible refine gate_callee (f := 42) rfl ?_); refine goesL_ (some 6) rfl rfl Tryz.func42 (by kernel_rfl) rfl #[.string a0] rfl (by (try simp only [List.map_toArray, List.map_cons, List.map_nil]); first | done | rfl | (simp only [List.length_drop, List.length_take]; rfl)) ?_; (with_reducible refine (impl_timeOf.calls a0 t191 _ A3.out).mono ?_); rintro e w' ⟨rfl, ⟨nd, rfl⟩⟩; refine ⟨_, rfl, ?_⟩) | ((with_reducible refine gate_callee (f := 42) rfl ?_); refine goesL_ (some 8) rfl rfl Tryz.func42 (by kernel_rfl) rfl #[.string a1] rfl (by (try simp only [List.map_toArray, List.map_cons, List.map_nil]); first | done | rfl | (simp only [List.length_drop, List.length_take]; rfl)) ?_; (with_reducible refine (impl_timeOf.calls a1 t192 _ A4.out).mono ?_); rintro e w' ⟨rfl, ⟨nd, rfl⟩⟩; refine ⟨_, rfl, ?_⟩) | ((with_reducible refine gate_callee (f := 59) rfl ?_); refine goesL_ (some 9) rfl rfl Tryz.func59 (by kernel_rfl) rfl #[.int .i64 t191, .int .i64 t192] rfl (by (try simp only [List.map_toArray, List.map_cons, List.map_nil]); first | done | rfl | (simp only [List.length_drop, List.length_take]; rfl)) ?_; (with_reducible refine (cmp_Compare_int.calls t191 t192 t193 _ A5.out).mono ?_); rintro e w' ⟨rfl, ⟨nd, rfl⟩⟩; refine ⟨_, rfl, ?_⟩) | ((with_reducible refine gate_callee (f := 59) rfl ?_); refine goesL_ (some 14) rfl rfl Tryz.func59 (by kernel_rfl) rfl #[.int .i64 (a0.size : Int), .int .i64 (a1.size : Int)] rfl (by (try simp only [List.map_toArray, List.map_cons, List.map_nil]); first | done | rfl | (simp only [List.length_drop, List.length_take]; rfl)) ?_; (with_reducible refine (cmp_Compare_int.calls (a0.size : Int) (a1.size : Int) t194 _ A6.out).mono ?_); rintro e w' ⟨rfl, ⟨nd, rfl⟩⟩; refine ⟨_, rfl, ?_⟩) | ((with_reducible refine gate_callee (f := 61) rfl ?_); refine goesL_ (some 16) rfl rfl Tryz.func61 (by kernel_rfl) rfl #[.string a0] rfl (by (try simp only [List.map_toArray, List.map_cons, List.map_nil]); first | done | rfl | (simp only [List.length_drop, List.length_take]; rfl)) ?_; (with_reducible refine (impl_opposite.calls a0 t195 _ A7.out).mono ?_); rintro e w11 ⟨rfl, hb⟩; refine ⟨_, rfl, ?_⟩; have n0_ := Aside0.mk (below_step (by repeat (first | (with_reducible first | exact HB.out | apply below_alloc | apply pw_below_drewN | apply below_drew1) | exact HB.out)) hb); clear HB; have HB := n0_; clear n0_; (try clear hb); (try clear hb2); (try clear hk); (try clear hi)) | ((with_reducible refine gate_callee (f := 61) rfl ?_); refine goesL_ (some 18) rfl rfl Tryz.func61 (by kernel_rfl) rfl #[.string a1] rfl (by (try simp only [List.map_toArray, List.map_cons, List.map_nil]); first | done | rfl | (simp only [List.length_drop, List.length_take]; rfl)) ?_; (with_reducible refine (impl_opposite.calls a1 t196 _ A8.out).mono ?_); rintro e w12 ⟨rfl, hb⟩; refine ⟨_, rfl, ?_⟩; have n0_ := Aside0.mk (below_step (by repeat (first | (with_reducible first | exact HB.out | apply below_alloc | apply pw_below_drewN | apply below_drew1) | exact HB.out)) hb); clear HB; have HB := n0_; clear n0_; (try clear hb); (try clear hb2); (try clear hk); (try clear hi)) | ((with_reducible refine gate_callee (f := 60) rfl ?_); refine goesL_ (some 19) rfl rfl Tryz.func60 (by kernel_rfl) rfl #[.string t195, .string t196] rfl (by (try simp only [List.map_toArray, List.map_cons, List.map_nil]); first | done | rfl | (simp only [List.length_drop, List.length_take]; rfl)) ?_; (with_reducible refine (strings_Compare.calls t195 t196 t197 _ A9.out).mono ?_); rintro e w13 ⟨rfl, hb⟩; refine ⟨_, rfl, ?_⟩; have n0_ := Aside0.mk (below_step (by repeat (first | (with_reducible first | exact HB.out | apply below_alloc | apply pw_below_drewN | apply below_drew1) | exact HB.out)) hb); clear HB; have HB := n0_; clear n0_; (try clear hb); (try clear hb2); (try clear hk); (try clear hi)) | ((with_reducible refine gate_dst (N := 20) rfl ?_); refine Kd.R_lit (Kd.int .i64) _ 3 ?hg (N := 20) ?hd (xs := ([t193, t194, t197] : List Int)) (inner := [.int .i64 t193, .int .i64 t194, .int .i64 t197]) (ok := fun _ => True) (okp := fun _ => True) ?hr ?hp (fun _ hk => hk) trivial (Below.refl _ _) (Nat.le_refl _) (by simp) ?_; (case hd => rfl); (case hg => rfl); (case hr => first | (go_simp; done) | (go_simp; rfl)); (case hp => exact (Reps.one (show Kd.M (Kd.int .i64) _ _ _ t193 [.int .i64 t193] from rfl) (Reps.one (show Kd.M (Kd.int .i64) _ _ _ t194 [.int .i64 t194] from rfl) (Reps.one (show Kd.M (Kd.int .i64) _ _ _ t197 [.int .i64 t197] from rfl) (Reps.none _ _))))); intro v199 w14 ho15 hb hg_ hnew_; clear hg_ hnew_; (first | rw [← Ny198.out] at ho15 | (simp only [Int.reduceToNat] at ho15; rw [← Ny198.out] at ho15)); have n0_ := Aside0.mk (Kd.R_lower ho15 (below_size (by repeat (first | (with_reducible first | exact HB.out | apply below_alloc | apply pw_below_drewN | apply below_drew1) | exact HB.out)))); have n1_ := Aside0.mk (below_step (by repeat (first | (with_reducible first | exact HB.out | apply below_alloc | apply pw_below_drewN | apply below_drew1) | exact HB.out)) hb); clear HB; have HO200 := n0_; have HB := n1_; clear n0_ n1_; clear hb ho15; obtain ⟨Ao16, co16, eo16⟩ := Kd.R_slice HO200.out; subst eo16) | ((with_reducible refine gate_callee (f := 58) rfl ?_); refine goesL_ (some 21) rfl rfl Tryz.func58 (by kernel_rfl) rfl #[.slice Ao16 y198.length co16] rfl (by (try simp only [List.map_toArray, List.map_cons, List.map_nil]); first | done | rfl | (simp only [List.length_drop, List.length_take]; rfl)) ?_; (with_reducible refine (cmp_Or_int.calls k _ _ y198 t201 _ ?side1 ?side2 A10.out).mono ?_); (case side1 => repeat (first | exact (Kd.R_reads' HO200.out).2.2 | (with_reducible refine Kd.C_alloc ?_ _) | (with_reducible refine Kd.C_drewN ?_ _) | (with_reducible refine Kd.C_drew ?_))); (case side2 => exact (Kd.R_reads' HO200.out).2.1); rintro e w' ⟨rfl, ⟨nd, rfl⟩⟩; refine ⟨_, rfl, ?_⟩))
  go_ret
  exact ⟨by first | rfl | (simp [errW_none, errW_some] <;> rfl) | (simp [*, errW_none, errW_some] <;> rfl), by repeat (first | (with_reducible first | exact HB.out | apply below_alloc | apply pw_below_drewN | apply below_drew1) | exact HB.out)⟩

/-! ### slices_SortFunc_string_string: function 43 -/
theorem slices_SortFunc_string_string_.or_ (k : Nat) (p q s x : Int) (W : World) (h : cmp_Or_int.f k [p, q, s] = some x) :
    Calls Tryz.prog 58 #[.slice (some ⟨W.heap.size, 0, none⟩) 3 3] (W.alloc (.cells #[.int .i64 p, .int .i64 q, .int .i64 s] 3)) fun e w' => e = .returned (.int .i64 x) ∧ ∃ n, w' = (W.alloc (.cells #[.int .i64 p, .int .i64 q, .int .i64 s] 3)).drewN n := by
  have hc : ∀ (j : Nat) (v : Value), (#[.int .i64 p, .int .i64 q, .int .i64 s] : Array Value)[j]? = some v → (W.alloc (.cells #[.int .i64 p, .int .i64 q, .int .i64 s] 3)).cell? ⟨W.heap.size, j, none⟩ = some v := fun j v h => by
    rw [cell_of_row _ _ j _ 3 (0, 0) (heap_alloc_last W _)]
    exact h
  exact (cmp_Or_int.calls k (some ⟨W.heap.size, 0, none⟩) 3 [p, q, s] x _ (by
    refine Kd.C_of_reads (enc := Value.int .i64) (d := 0) (h1 := fun _ => rfl) ⟨rfl, (by show (3 : Nat) ≤ 9223372036854775807; decide), fun _ => ⟨_, rfl, fun j hj => ?_⟩⟩
    have ha : (⟨W.heap.size, 0, none⟩ : Addr).add j = ⟨W.heap.size, j, none⟩ := by unfold Addr.add; split <;> simp_all
    rw [ha]
    have hj : j < 3 := hj
    rcases j with _ | _ | _ | j
    · exact hc 0 _ rfl
    · exact hc 1 _ rfl
    · exact hc 2 _ rfl
    · omega) (Nat.le_refl 3) h).mono fun e w' h => ⟨h.1, h.2.out⟩
theorem slices_SortFunc_string_string_.up (w w' : World) (h : opp_.Up w.heap.size w w') : ∃ q os, w' = Go.Sort.grow (w.drewN q) os := by
  refine ⟨w'.drawn - w.drawn, w'.heap.extract w.heap.size w'.heap.size, ?_⟩
  obtain ⟨⟨h1, h2, h3, h4, h5⟩, h6⟩ := h
  obtain ⟨H, T, D, O, U⟩ := w
  obtain ⟨H', T', D', O', U'⟩ := w'
  simp only at h1 h2 h3 h4 h5 h6
  subst h1 h2 h3
  unfold Go.Sort.grow World.drewN
  simp only [World.mk.injEq, true_and, and_true]
  refine ⟨?_, by omega⟩
  apply Array.ext
  · simp; omega
  · intro i hi1 hi2
    rw [Array.getElem_append]
    by_cases hi : i < H.size
    · rw [dif_pos hi]
      have := h5 i hi
      rw [Array.getElem?_eq_getElem hi1, Array.getElem?_eq_getElem hi] at this
      exact Option.some.inj this
    · rw [dif_neg hi, Array.getElem_extract]
      congr 1
      omega
set_option maxHeartbeats 8000000 in
set_option maxRecDepth 100000 in
theorem slices_SortFunc_string_string_.byTime (k : Nat) (a b : ByteArray) (r : Int) (w : World) (h : impl_byTime.f k a b = some r) :
    Calls Tryz.prog 44 #[.string a, .string b] w fun e w' => e = .returned (.int .i64 r) ∧ ∃ q os, w' = Go.Sort.grow (w.drewN q) os := by
  unfold impl_byTime.f at h
  obtain ⟨t1, e1, h⟩ := Option.bind_eq_some_iff.mp h
  obtain ⟨t2, e2, h⟩ := Option.bind_eq_some_iff.mp h
  obtain ⟨t3, e3, h⟩ := Option.bind_eq_some_iff.mp h
  obtain ⟨t4, e4, h⟩ := Option.bind_eq_some_iff.mp h
  obtain ⟨t5, e5, h⟩ := Option.bind_eq_some_iff.mp h
  obtain ⟨t6, e6, h⟩ := Option.bind_eq_some_iff.mp h
  obtain ⟨t7, e7, h⟩ := Option.bind_eq_some_iff.mp h
  obtain ⟨t8, e8, h⟩ := Option.bind_eq_some_iff.mp h
  obtain rfl := Option.some.inj h
  have H1 := Aside0.mk (fun w => (impl_timeOf.calls a t1 w e1).mono (R' := fun e w' => e = .returned (.int .i64 t1) ∧ ∃ n, w' = w.drewN n) (fun e w' h => ⟨h.1, h.2.out⟩))
  have H2 := Aside0.mk (fun w => (impl_timeOf.calls b t2 w e2).mono (R' := fun e w' => e = .returned (.int .i64 t2) ∧ ∃ n, w' = w.drewN n) (fun e w' h => ⟨h.1, h.2.out⟩))
  have H3 := Aside0.mk (fun w => (cmp_Compare_int.calls t1 t2 t3 w e3).mono (R' := fun e w' => e = .returned (.int .i64 t3) ∧ ∃ n, w' = w.drewN n) (fun e w' h => ⟨h.1, h.2.out⟩))
  have H4 := Aside0.mk (fun w => (cmp_Compare_int.calls _ _ t4 w e4).mono (R' := fun e w' => e = .returned (.int .i64 t4) ∧ ∃ n, w' = w.drewN n) (fun e w' h => ⟨h.1, h.2.out⟩))
  have H5 := Aside0.mk (fun w => impl_opposite.up_ a t5 w e5)
  have H6 := Aside0.mk (fun w => impl_opposite.up_ b t6 w e6)
  have H7 := Aside0.mk (fun w => strings_Compare.same t5 t6 t7 w e7)
  have H8 := Aside0.mk (fun W => slices_SortFunc_string_string_.or_ k t3 t4 t7 t8 W e8)
  clear e1 e2 e3 e4 e5 e6 e7 e8 h
  suffices hs : Calls Tryz.prog 44 #[.string a, .string b] w fun e w' => e = .returned (.int .i64 t8) ∧ opp_.Up w.heap.size w w' from hs.mono fun e w' h => ⟨h.1, slices_SortFunc_string_string_.up w w' h.2⟩
  go_enter Tryz.func44, Tryz.ntmps44
  go_wp2_with (first
    | (go_at_call_of 42 (Value.string a); refine (H1.out _).mono ?_; rintro e w' ⟨rfl, n1, rfl⟩)
    | (go_at_call_of 42 (Value.string b); refine (H2.out _).mono ?_; rintro e w' ⟨rfl, n2, rfl⟩)
    | (go_at_call_of 59 (Value.int .i64 t1); refine (H3.out _).mono ?_; rintro e w' ⟨rfl, n3, rfl⟩)
    | (go_at_call 59; refine (H4.out _).mono ?_; rintro e w' ⟨rfl, n4, rfl⟩)
    | (go_at_call_of 61 (Value.string a); refine (H5.out _).mono ?_; rintro e w5 ⟨rfl, h5⟩)
    | (go_at_call_of 61 (Value.string b); refine (H6.out _).mono ?_; rintro e w6 ⟨rfl, h6⟩)
    | (go_at_call 60; refine (H7.out _).mono ?_; rintro e w' ⟨rfl, rfl⟩)
    | (go_at_call 58; refine (H8.out _).mono ?_; rintro e w' ⟨rfl, n8, rfl⟩))
  go_ret
  refine ⟨rfl, opp_.Up.drewN ?_ _⟩
  refine opp_.Up.alloc ?_ ?_ _
  · exact ((opp_.Up.drewN (opp_.Up.refl _ w) _).trans h5).trans (h6.mono h5.size)
  · exact Nat.le_trans h5.below.size h6.below.size
def slices_SortFunc_string_string_.v (k : Nat) (x y : ByteArray) : Int := (impl_byTime.f k x y).getD 0
def slices_SortFunc_string_string_.ok (k : Nat) (l : List ByteArray) : Prop := l.length < 4611686018427387904 ∧ (∀ x ∈ l, ∀ y ∈ l, (impl_byTime.f k x y).isSome = true) ∧ (∀ x ∈ l, ¬ slices_SortFunc_string_string_.v k x x < 0) ∧ (∀ x ∈ l, ∀ y ∈ l, ∀ z ∈ l, slices_SortFunc_string_string_.v k x y < 0 → slices_SortFunc_string_string_.v k y z < 0 → slices_SortFunc_string_string_.v k x z < 0) ∧ (∀ x ∈ l, ∀ y ∈ l, ∀ z ∈ l, ¬ slices_SortFunc_string_string_.v k x y < 0 → ¬ slices_SortFunc_string_string_.v k y z < 0 → ¬ slices_SortFunc_string_string_.v k x z < 0) ∧ (∀ x ∈ l, ∀ y ∈ l, ¬ slices_SortFunc_string_string_.v k x y < 0 → ¬ slices_SortFunc_string_string_.v k y x < 0 → x = y)
instance (k : Nat) (l : List ByteArray) : Decidable (slices_SortFunc_string_string_.ok k l) := inferInstanceAs (Decidable (_ ∧ _ ∧ _ ∧ _ ∧ _ ∧ _))
def slices_SortFunc_string_string.f (k : Nat) (l : List ByteArray) : Option (List ByteArray) := if slices_SortFunc_string_string_.ok k l then some (l.mergeSort fun x y => !decide (slices_SortFunc_string_string_.v k y x < 0)) else none
theorem slices_SortFunc_string_string_.up1 (k : Nat) (x y : ByteArray) (h : (impl_byTime.f k x y).isSome = true) : slices_SortFunc_string_string_.v (k + 1) x y = slices_SortFunc_string_string_.v k x y ∧ (impl_byTime.f (k + 1) x y).isSome = true := by
  obtain ⟨d, hd⟩ := Option.isSome_iff_exists.1 h
  have := impl_byTime.mono _ _ k d hd
  unfold slices_SortFunc_string_string_.v
  rw [hd, this]
  exact ⟨rfl, rfl⟩
theorem slices_SortFunc_string_string.mono (l : List ByteArray) (k : Nat) : LeO (slices_SortFunc_string_string.f k l) (slices_SortFunc_string_string.f (k + 1) l) := by
  intro r h
  unfold slices_SortFunc_string_string.f at h ⊢
  by_cases c : slices_SortFunc_string_string_.ok k l
  · rw [if_pos c] at h
    obtain ⟨c1, c2, c3, c4, c5, c6⟩ := c
    have e : ∀ x ∈ l, ∀ y ∈ l, slices_SortFunc_string_string_.v (k + 1) x y = slices_SortFunc_string_string_.v k x y := fun x hx y hy => (slices_SortFunc_string_string_.up1 k x y (c2 x hx y hy)).1
    have c' : slices_SortFunc_string_string_.ok (k + 1) l := by
      refine ⟨c1, fun x hx y hy => (slices_SortFunc_string_string_.up1 k x y (c2 x hx y hy)).2, fun x hx => ?_, fun x hx y hy z hz => ?_, fun x hx y hy z hz => ?_, fun x hx y hy => ?_⟩
      · rw [e x hx x hx]; exact c3 x hx
      · rw [e x hx y hy, e y hy z hz, e x hx z hz]; exact c4 x hx y hy z hz
      · rw [e x hx y hy, e y hy z hz, e x hx z hz]; exact c5 x hx y hy z hz
      · rw [e x hx y hy, e y hy x hx]; exact c6 x hx y hy
    rw [if_pos c', ← h]
    congr 1
    have e4 := List.map_mergeSort (l := l) (f := id) (r := fun x y => !decide (slices_SortFunc_string_string_.v (k + 1) y x < 0)) (s := fun x y => !decide (slices_SortFunc_string_string_.v k y x < 0)) (fun x hx y hy => by simp only [id, e y hy x hx])
    simpa using e4
  · rw [if_neg c] at h
    cases h
theorem slices_SortFunc_string_string_.cells {α : Type} [Inhabited α] (enc : α → Value) (v : α → ByteArray) (h : ∀ x, enc x = .string (v x)) (d : Array α) (w : World) (g : Nat) : Go.Sort.putRow enc w g 0 d = Go.Sort.putRow Value.string w g 0 (d.map v) := by
  have e : Go.Sort.putCells enc 0 d = Go.Sort.putCells Value.string 0 (d.map v) := by
    funext c
    unfold Go.Sort.putCells
    congr 1
    funext i x
    by_cases hi : i < d.size
    · simp [hi, h]
    · simp [hi]
  unfold Go.Sort.putRow
  rw [e]
def slices_SortFunc_string_string_.cf (k : Nat) (l : List ByteArray) (x y : {x : ByteArray // x ∈ l}) : Int := slices_SortFunc_string_string_.v k x.1 y.1
set_option maxHeartbeats 8000000 in
set_option maxRecDepth 100000 in
theorem slices_SortFunc_string_string.calls (k : Nat) (P0_ : Nat → Prop) (u9000_ : Value) (l0 : List ByteArray) (r : List ByteArray) (w0 w : World) (hB : Below w0.heap.size w0 w) (ho0 : Kd.R Kd.string 9 w w0.heap.size P0_ u9000_ l0) (h : slices_SortFunc_string_string.f k l0 = some r) :
    Calls Tryz.prog 43 #[u9000_, .func (.func 44) #[] #[]] w fun e w' => e = .returned (.tuple #[]) ∧ Kd.R Kd.string 9 w' w0.heap.size (fun k_ => (P0_ k_ ∨ w.heap.size ≤ k_)) u9000_ r ∧ Below w0.heap.size w0 w' ∧ Kept w w' (fun k_ => P0_ k_) := by
  unfold slices_SortFunc_string_string.f at h
  by_cases c : slices_SortFunc_string_string_.ok k l0
  · rw [if_pos c] at h
    obtain rfl := Option.some.inj h
    obtain ⟨hl, hsome, c3, c4, c5, c6⟩ := c
    rcases Given.row_open ho0 with ⟨rfl, rfl⟩ | ⟨g, cap, cur, rfl, hok, hg, hlt, hh, hlc, hcm, hcs, hH⟩
    · refine (AnyF.slices_SortFunc_none (P := Tryz.prog) (ρ := Tryz.sortFuncStr_ren) { Tryz.sortFuncStr with } none 0 _ w).mono ?_
      rintro e w' ⟨rfl, hw⟩
      subst hw
      exact ⟨rfl, by rw [List.mergeSort_nil]; exact Kd.R_nil _ _ _ _ _, hB, Kept.refl _ _⟩
    · by_cases h0 : l0 = []
      · subst h0
        refine (AnyF.slices_SortFunc_none (P := Tryz.prog) (ρ := Tryz.sortFuncStr_ren) { Tryz.sortFuncStr with } (some ⟨g, 0, none⟩) cap _ w).mono ?_
        rintro e w' ⟨rfl, hw⟩
        subst hw
        exact ⟨rfl, by rw [List.mergeSort_nil]; exact Kd.R_mono ho0 (fun _ h => .inl h), hB, Kept.refl _ _⟩
      · obtain ⟨x0, hx0⟩ := List.exists_mem_of_ne_nil l0 h0
        letI : Inhabited {x : ByteArray // x ∈ l0} := ⟨⟨x0, hx0⟩⟩
        have hlt2 : ∀ x y : {x : ByteArray // x ∈ l0}, ltOf (slices_SortFunc_string_string_.cf k l0) x y = decide (slices_SortFunc_string_string_.v k x.1 y.1 < 0) := fun x y => rfl
        have hO : Go.Sort.SWO (ltOf (slices_SortFunc_string_string_.cf k l0)) := ⟨fun x => by rw [hlt2]; exact decide_eq_false (c3 x.1 x.2), fun x y z h1 h2 => by
          rw [hlt2, decide_eq_true_eq] at h1 h2 ⊢
          exact c4 x.1 x.2 y.1 y.2 z.1 z.2 h1 h2, fun x y z h1 h2 => by
          rw [hlt2, decide_eq_false_iff_not] at h1 h2 ⊢
          first | exact c5 x.1 x.2 y.1 y.2 z.1 z.2 h1 h2 | exact c5 z.1 z.2 y.1 y.2 x.1 x.2 h2 h1⟩
        have hT : ∀ x y, (ltOf (slices_SortFunc_string_string_.cf k l0)) x y = false → (ltOf (slices_SortFunc_string_string_.cf k l0)) y x = false → x = y := fun x y h1 h2 => by
          rw [hlt2, decide_eq_false_iff_not] at h1 h2
          exact Subtype.ext (c6 x.1 x.2 y.1 y.2 h1 h2)
        have hcmp : CmpLays1 Tryz.prog 44 #[] (fun x : {x : ByteArray // x ∈ l0} => Value.string x.1) (slices_SortFunc_string_string_.cf k l0) g 0 (l0.pmap Subtype.mk (fun x h => h)).toArray.size w := fun m os dk _ x y => by
          refine slices_SortFunc_string_string_.byTime k x.1 y.1 _ _ ?_
          obtain ⟨d, hd⟩ := Option.isSome_iff_exists.1 (hsome x.1 x.2 y.1 y.2)
          rw [hd]
          unfold slices_SortFunc_string_string_.cf slices_SortFunc_string_string_.v
          rw [hd]
          rfl
        have hsz : (l0.pmap Subtype.mk (fun x (h : x ∈ l0) => h)).toArray.size = l0.length := by simp
        have hHd : Go.Sort.Holds (fun x : {x : ByteArray // x ∈ l0} => Value.string x.1) w g 0 (l0.pmap Subtype.mk (fun x h => h)).toArray := fun j hj => by
          have hj' : j < l0.length := by rw [hsz] at hj; exact hj
          have h1 := hH j (by simpa using hj')
          simpa [hj'] using h1
        have eg : ∀ args w, (callFunc 44 args).run Tryz.prog w = .ok (.enter 44 args) w := enters_of Tryz.func44 (by kernel_rfl) rfl
        have hmain := Any.slices_SortFunc_total Tryz.sortFuncStr (fun x : {x : ByteArray // x ∈ l0} => Value.string x.1) (fun _ => rfl) (slices_SortFunc_string_string_.cf k l0) hO 44 #[] g 0 cap (l0.pmap Subtype.mk (fun x h => h)).toArray w eg hcmp hHd hlt (by rw [hsz]; exact hl) hT
        rw [hsz] at hmain
        refine hmain.mono ?_
        rintro e w' ⟨rfl, n, os, rfl⟩
        have hmap : ((l0.pmap Subtype.mk (fun x (h : x ∈ l0) => h)).toArray.toList.mergeSort fun x y => !(ltOf (slices_SortFunc_string_string_.cf k l0)) y x).map (fun x => x.1) = l0.mergeSort fun x y => !decide (slices_SortFunc_string_string_.v k y x < 0) := by
          rw [List.map_mergeSort (s := fun x y => !decide (slices_SortFunc_string_string_.v k y x < 0)) (fun x _ y _ => by rw [hlt2])]
          congr 1
          simp [List.map_pmap]
        have hm : (l0.mergeSort fun x y => !decide (slices_SortFunc_string_string_.v k y x < 0)).length = l0.length := List.length_mergeSort _
        have h := Given.row_put (enc := Value.string) (h1 := fun _ => rfl) (os := os) (n := n) (m := l0.length) (zs := l0.mergeSort fun x y => !decide (slices_SortFunc_string_string_.v k y x < 0)) hB hok hg hh hcm hcs (by omega) (by omega)
        rw [List.take_of_length_le (by omega)] at h
        have hw : sortWorld (fun x : {x : ByteArray // x ∈ l0} => Value.string x.1) w g 0 n ((l0.pmap Subtype.mk (fun x (h : x ∈ l0) => h)).toArray.toList.mergeSort fun x y => !(ltOf (slices_SortFunc_string_string_.cf k l0)) y x).toArray os = Go.Sort.grow (Go.Sort.putRow Value.string (Sort.ahead w n) g 0 (l0.mergeSort fun x y => !decide (slices_SortFunc_string_string_.v k y x < 0)).toArray) os := by
          unfold sortWorld
          rw [slices_SortFunc_string_string_.cells (fun x : {x : ByteArray // x ∈ l0} => Value.string x.1) (fun x => x.1) (fun _ => rfl), List.map_toArray, hmap]
        rw [hw]
        exact ⟨rfl, h.1, h.2.1, h.2.2⟩
  · rw [if_neg c] at h
    cases h

/-! ### impl_allMarks: function 26 -/
mutual
def impl_allMarks.l0 : Nat → List ByteArray → List ByteArray → Int → Int → Option (List ByteArray)
  | 0, _, _, _, _ => none
  | k + 1, x3, x4, x10, x11 => if x11 < x10 then (impl_allMarks.l1 k x3 (([] : List ByteArray)) x10 x11 x4 (x4.length : Int) 0) else ((slices_SortFunc_string_string.f k x3).bind fun t208 => (some t208))
def impl_allMarks.l1 : Nat → List ByteArray → List ByteArray → Int → Int → List ByteArray → Int → Int → Option (List ByteArray)
  | 0, _, _, _, _, _, _, _ => none
  | k + 1, x3, x5, x10, x11, x14, x15, x16 => if x16 < x15 then (if 0 ≤ x16 then (if x16 < (x14.length : Int) then (if (rdOf ByteArray.empty x14 x16).size + 1 ≤ 9223372036854775807 then ((some (([(rdOf ByteArray.empty x14 x16) ++ (⟨#[46]⟩ : ByteArray), (rdOf ByteArray.empty x14 x16) ++ (⟨#[45]⟩ : ByteArray)] : List ByteArray) : List ByteArray)).bind fun y213 => (if x5.length + y213.length < 8796093022208 then (impl_allMarks.l1 k x3 (x5 ++ y213) x10 x11 x14 x15 (wrap64 (x16 + 1))) else (none))) else (none)) else (none)) else (none)) else (if x3.length + x5.length < 8796093022208 then (impl_allMarks.l0 k (x3 ++ x5) x5 x10 (wrap64 (x11 + 1))) else (none))
end
def impl_allMarks.f (k : Nat) (a0 : Int) : Option (List ByteArray) := impl_allMarks.l0 k (([] : List ByteArray)) (([(⟨#[]⟩ : ByteArray)] : List ByteArray)) a0 0
theorem impl_allMarks.mono_l : ∀ k, (∀ y0 y1 y2 y3, LeO (impl_allMarks.l0 k y0 y1 y2 y3) (impl_allMarks.l0 (k + 1) y0 y1 y2 y3)) ∧ (∀ y0 y1 y2 y3 y4 y5 y6, LeO (impl_allMarks.l1 k y0 y1 y2 y3 y4 y5 y6) (impl_allMarks.l1 (k + 1) y0 y1 y2 y3 y4 y5 y6))
  | 0 => ⟨fun _ _ _ _ r h => by simp [impl_allMarks.l0] at h, fun _ _ _ _ _ _ _ r h => by simp [impl_allMarks.l1] at h⟩
  | k + 1 => by
    obtain ⟨ih0, ih1⟩ := impl_allMarks.mono_l k
    refine ⟨?_, ?_⟩
    · intro y0 y1 y2 y3
      unfold impl_allMarks.l0
      repeat' first
      | (with_reducible exact ih0 _ _ _ _)
      | (with_reducible exact ih1 _ _ _ _ _ _ _)
      | (with_reducible exact slices_SortFunc_string_string.mono _ _)
      | (with_reducible exact LeO.refl _)
      | (with_reducible exact LeO.none _)
      | (with_reducible refine LeO.ite ?_ ?_)
      | (with_reducible refine LeO.bind ?_ (fun _ => ?_))
      | exact ih0 _ _ _ _
      | exact ih1 _ _ _ _ _ _ _
      | exact slices_SortFunc_string_string.mono _ _
      | exact LeO.none _
      | refine LeO.ite ?_ ?_
      | refine LeO.bind ?_ (fun _ => ?_)
    · intro y0 y1 y2 y3 y4 y5 y6
      unfold impl_allMarks.l1
      repeat' first
      | (with_reducible exact ih0 _ _ _ _)
      | (with_reducible exact ih1 _ _ _ _ _ _ _)
      | (with_reducible exact slices_SortFunc_string_string.mono _ _)
      | (with_reducible exact LeO.refl _)
      | (with_reducible exact LeO.none _)
      | (with_reducible refine LeO.ite ?_ ?_)
      | (with_reducible refine LeO.bind ?_ (fun _ => ?_))
      | exact ih0 _ _ _ _
      | exact ih1 _ _ _ _ _ _ _
      | exact slices_SortFunc_string_string.mono _ _
      | exact LeO.none _
      | refine LeO.ite ?_ ?_
      | refine LeO.bind ?_ (fun _ => ?_)
theorem impl_allMarks.mono : ∀ a0 k, LeO (impl_allMarks.f k a0) (impl_allMarks.f (k + 1) a0) := by
  intro a0 k
  obtain ⟨ih0, ih1⟩ := impl_allMarks.mono_l k
  unfold impl_allMarks.f
  repeat' first
      | (with_reducible exact ih0 _ _ _ _)
      | (with_reducible exact ih1 _ _ _ _ _ _ _)
      | (with_reducible exact slices_SortFunc_string_string.mono _ _)
      | (with_reducible exact LeO.refl _)
      | (with_reducible exact LeO.none _)
      | (with_reducible refine LeO.ite ?_ ?_)
      | (with_reducible refine LeO.bind ?_ (fun _ => ?_))
      | exact ih0 _ _ _ _
      | exact ih1 _ _ _ _ _ _ _
      | exact slices_SortFunc_string_string.mono _ _
      | exact LeO.none _
      | refine LeO.ite ?_ ?_
      | refine LeO.bind ?_ (fun _ => ?_)
set_option maxHeartbeats 8000000 in
set_option maxRecDepth 100000 in
theorem impl_allMarks.calls (k : Nat) (a0 : Int) (r : List ByteArray) (w : World) (h : impl_allMarks.f k a0 = some r) :
    Calls Tryz.prog 26 #[.int .i64 a0] w fun e w' => ∃ v0_ : Value, e = .returned (v0_) ∧ Kd.R Kd.string 9 w' w.heap.size (fun _ => True) v0_ r ∧ Below w.heap.size w w' := by
  have HB := Aside0.mk (Below.refl w.heap.size w)
  have H : (impl_allMarks.l0 k (([] : List ByteArray)) (([(⟨#[]⟩ : ByteArray)] : List ByteArray)) a0 0) = some r := h
  clear h
  obtain ⟨y202, hy202⟩ : ∃ y_ : List ByteArray, y_ = (([] : List ByteArray)) := ⟨_, rfl⟩
  replace H : (impl_allMarks.l0 k y202 (([(⟨#[]⟩ : ByteArray)] : List ByteArray)) a0 0) = some r := by first | (rw [hy202]; with_reducible exact H) | (have H2_ := (Option.bind_some _ _).symm.trans H; rw [hy202]; with_reducible exact H2_) | (have H2_ := (Option.bind_some _ _).symm.trans H; with_reducible exact H2_) | with_reducible exact H | (rw [hy202]; exact H) | exact H
  have Ny202 := Aside0.mk hy202
  clear hy202
  obtain ⟨y205, hy205⟩ : ∃ y_ : List ByteArray, y_ = (([(⟨#[]⟩ : ByteArray)] : List ByteArray)) := ⟨_, rfl⟩
  replace H : (impl_allMarks.l0 k y202 y205 a0 0) = some r := by first | (rw [hy205]; with_reducible exact H) | (have H2_ := (Option.bind_some _ _).symm.trans H; rw [hy205]; with_reducible exact H2_) | (have H2_ := (Option.bind_some _ _).symm.trans H; with_reducible exact H2_) | with_reducible exact H | (rw [hy205]; exact H) | exact H
  have Ny205 := Aside0.mk hy205
  clear hy205
  have H' := Aside0.mk H
  clear H
  go_enter Tryz.func26, Tryz.ntmps26
  go_wp2_with (first | ((with_reducible refine gate_dst (N := 8) rfl ?_); refine Kd.R_lit Kd.string _ 9 ?hg (N := 8) ?hd (xs := ([] : List ByteArray)) (inner := []) (ok := fun _ => True) (okp := fun _ => True) ?hr ?hp (fun _ hk => hk) trivial (Below.refl _ _) (Nat.le_refl _) (by simp) ?_; (case hd => rfl); (case hg => rfl); (case hr => first | (go_simp; done) | (go_simp; rfl)); (case hp => exact (Reps.none _ _)); intro v203 w2 ho3 hb hg_ hnew_; clear hg_ hnew_; (first | rw [← Ny202.out] at ho3 | (simp only [Int.reduceToNat] at ho3; rw [← Ny202.out] at ho3)); have n0_ := Aside0.mk (Kd.R_lower ho3 (below_size (by repeat (first | (with_reducible first | exact HB.out | apply below_alloc | apply pw_below_drewN | apply below_drew1) | exact HB.out)))); have n1_ := Aside0.mk (below_step (by repeat (first | (with_reducible first | exact HB.out | apply below_alloc | apply pw_below_drewN | apply below_drew1) | exact HB.out)) hb); clear HB; have HO204 := n0_; have HB := n1_; clear n0_ n1_; clear hb ho3) | ((with_reducible refine gate_dst (N := 9) rfl ?_); refine Kd.R_lit Kd.string _ 9 ?hg (N := 9) ?hd (xs := ([(⟨#[]⟩ : ByteArray)] : List ByteArray)) (inner := [.string (⟨#[]⟩ : ByteArray)]) (ok := fun _ => True) (okp := fun _ => True) ?hr ?hp (fun _ hk => hk) trivial (Below.refl _ _) (Nat.le_refl _) (by simp) ?_; (case hd => rfl); (case hg => rfl); (case hr => first | (go_simp; done) | (go_simp; rfl)); (case hp => exact (Reps.one (show Kd.M Kd.string _ _ _ (⟨#[]⟩ : ByteArray) [.string (⟨#[]⟩ : ByteArray)] from rfl) (Reps.none _ _))); intro v206 w4 ho5 hb hg_ hnew_; clear hg_ hnew_; (first | rw [← Ny205.out] at ho5 | (simp only [Int.reduceToNat] at ho5; rw [← Ny205.out] at ho5)); have n0_ := Aside0.mk (Kd.R_elder' (by (with_reducible repeat (first | apply Kd.R_alloc | apply Kd.R_drewN | apply Kd.R_drew)); exact HO204.out) (Kd.R_base ho5) hb); have n1_ := Aside0.mk (Kd.R_lower (Kd.R_new' ho5 (Kd.R_lt (by (with_reducible repeat (first | apply Kd.R_alloc | apply Kd.R_drewN | apply Kd.R_drew)); exact HO204.out))) (below_size (by repeat (first | (with_reducible first | exact HB.out | apply below_alloc | apply pw_below_drewN | apply below_drew1) | exact HB.out)))); have n2_ := Aside0.mk (below_step (by repeat (first | (with_reducible first | exact HB.out | apply below_alloc | apply pw_below_drewN | apply below_drew1) | exact HB.out)) hb); clear HO204; clear HB; have HO204 := n0_; have HO207 := n1_; have HB := n2_; clear n0_ n1_ n2_; clear hb ho5))
  go_loopg [3, 4, 11] k (fun kq v3 v4 v11 w' => ∃ (x3_1 : List ByteArray) (x4_1 : List ByteArray) (x11_1 : Int), v11 = .int .i64 x11_1 ∧ Aside0 (impl_allMarks.l0 kq x3_1 x4_1 a0 x11_1 = some r) ∧ Aside0 (kq ≤ k) ∧ Aside0 (Kd.R Kd.string 9 w' w.heap.size (fun k_ => some k_ ≠ (v4 : Value).ownBlock) v3 x3_1) ∧ Aside0 (Kd.R Kd.string 9 w' w.heap.size (fun k_ => some k_ ≠ (v3 : Value).ownBlock) v4 x4_1) ∧ Aside0 (Below w.heap.size w w'))
  case atStart => exact ⟨(y202), (y205), (0), (by first | rfl | (simp; done) | (simp [*]; done)), H', ⟨Nat.le_refl _⟩, ⟨by (with_reducible repeat (first | apply Kd.R_alloc | apply Kd.R_drewN | apply Kd.R_drew)); exact Kd.R_mono HO204.out (fun _ hk => hk.2)⟩, ⟨by (with_reducible repeat (first | apply Kd.R_alloc | apply Kd.R_drewN | apply Kd.R_drew)); exact Kd.R_mono HO207.out (fun _ hk => hk.2)⟩, ⟨by repeat (first | (with_reducible first | exact HB.out | apply below_alloc | apply pw_below_drewN | apply below_drew1) | exact HB.out)⟩⟩
  case round =>
    clear H'
    try clear c2
    try clear p2
    try clear HO_3
    try clear HO_4
    obtain ⟨x3_1, x4_1, x11_1, rfl, HA, HK1, HO_3, HO_4, HB⟩ := hrel
    cases gk with
    | zero => exact absurd HA.out (by simp [impl_allMarks.l0])
    | succ k1 =>
      have H := HA.out
      clear HA
      simp only [impl_allMarks.l0] at H
      by_cases c6 : x11_1 < a0
      · rw [if_pos c6] at H
        have c6b0 : decide (x11_1 < a0) = true := decide_eq_true c6
        clear c6
        obtain ⟨y209, hy209⟩ : ∃ y_ : List ByteArray, y_ = (([] : List ByteArray)) := ⟨_, rfl⟩
        replace H : (impl_allMarks.l1 k1 x3_1 y209 a0 x11_1 x4_1 (x4_1.length : Int) 0) = some r := by first | (rw [hy209]; with_reducible exact H) | (have H2_ := (Option.bind_some _ _).symm.trans H; rw [hy209]; with_reducible exact H2_) | (have H2_ := (Option.bind_some _ _).symm.trans H; with_reducible exact H2_) | with_reducible exact H | (rw [hy209]; exact H) | exact H
        have Ny209 := Aside0.mk hy209
        clear hy209
        have H' := Aside0.mk H
        clear H
        go_wp2_with (first | ((with_reducible refine gate_dst (N := 13) rfl ?_); refine Kd.R_lit Kd.string _ 9 ?hg (N := 13) ?hd (xs := ([] : List ByteArray)) (inner := []) (ok := fun _ => True) (okp := fun _ => True) ?hr ?hp (fun _ hk => hk) trivial (Below.refl _ _) (Nat.le_refl _) (by simp) ?_; (case hd => rfl); (case hg => rfl); (case hr => first | (go_simp; done) | (go_simp; rfl)); (case hp => exact (Reps.none _ _)); intro v210 w7 ho8 hb hg_ hnew_; clear hg_ hnew_; (first | rw [← Ny209.out] at ho8 | (simp only [Int.reduceToNat] at ho8; rw [← Ny209.out] at ho8)); have n0_ := Aside0.mk (Kd.R_elder' (by (with_reducible repeat (first | apply Kd.R_alloc | apply Kd.R_drewN | apply Kd.R_drew)); exact HO_3.out) (Kd.R_base ho8) hb); have n1_ := Aside0.mk (Kd.R_elder' (by (with_reducible repeat (first | apply Kd.R_alloc | apply Kd.R_drewN | apply Kd.R_drew)); exact HO_4.out) (Kd.R_base ho8) hb); have n2_ := Aside0.mk (Kd.R_lower (Kd.R_new' (Kd.R_new' ho8 (Kd.R_lt (by (with_reducible repeat (first | apply Kd.R_alloc | apply Kd.R_drewN | apply Kd.R_drew)); exact HO_3.out))) (Kd.R_lt (by (with_reducible repeat (first | apply Kd.R_alloc | apply Kd.R_drewN | apply Kd.R_drew)); exact HO_4.out))) (below_size (by repeat (first | (with_reducible first | exact HB.out | apply below_alloc | apply pw_below_drewN | apply below_drew1) | exact HB.out)))); have n3_ := Aside0.mk (below_step (by repeat (first | (with_reducible first | exact HB.out | apply below_alloc | apply pw_below_drewN | apply below_drew1) | exact HB.out)) hb); clear HO_3; clear HO_4; clear HB; have HO_3 := n0_; have HO_4 := n1_; have HO211 := n2_; have HB := n3_; clear n0_ n1_ n2_ n3_; clear hb ho8; obtain ⟨Ao9, co9, eo9⟩ := Kd.R_slice HO_4.out; subst eo9))
        go_loopg [5, 16] k1 (fun kq v5 v16 w' => ∃ (x5_2 : List ByteArray) (x16_2 : Int), v16 = .int .i64 x16_2 ∧ Aside0 (impl_allMarks.l1 kq x3_1 x5_2 a0 x11_1 x4_1 (x4_1.length : Int) x16_2 = some r) ∧ Aside0 (kq ≤ k1) ∧ Aside0 (Kd.R Kd.string 9 w' w.heap.size (fun k_ => some k_ ≠ (v5 : Value).ownBlock ∧ some k_ ≠ ((.slice Ao9 x4_1.length co9) : Value).ownBlock) u3 x3_1) ∧ Aside0 (Kd.R Kd.string 9 w' w.heap.size (fun k_ => some k_ ≠ (u3 : Value).ownBlock ∧ some k_ ≠ ((.slice Ao9 x4_1.length co9) : Value).ownBlock) v5 x5_2) ∧ Aside0 (Kd.R Kd.string 9 w' w.heap.size (fun k_ => some k_ ≠ (u3 : Value).ownBlock ∧ some k_ ≠ (v5 : Value).ownBlock) (.slice Ao9 x4_1.length co9) x4_1) ∧ Aside0 (Below w.heap.size w w'))
        case atStart => exact ⟨(y209), (0), (by first | rfl | (simp; done) | (simp [*]; done)), H', ⟨Nat.le_refl _⟩, ⟨by (with_reducible repeat (first | apply Kd.R_alloc | apply Kd.R_drewN | apply Kd.R_drew)); exact Kd.R_mono HO_3.out (fun _ hk => ⟨hk.2, hk.1⟩)⟩, ⟨by (with_reducible repeat (first | apply Kd.R_alloc | apply Kd.R_drewN | apply Kd.R_drew)); exact Kd.R_mono HO211.out (fun _ hk => ⟨hk.1.2, hk.2⟩)⟩, ⟨by (with_reducible repeat (first | apply Kd.R_alloc | apply Kd.R_drewN | apply Kd.R_drew)); exact HO_4.out⟩, ⟨by repeat (first | (with_reducible first | exact HB.out | apply below_alloc | apply pw_below_drewN | apply below_drew1) | exact HB.out)⟩⟩
        case round =>
          clear H'
          try clear c2
          try clear p2
          try clear c6
          try clear c6b0
          try clear p2
          try clear HO_3
          try clear HO_5
          try clear HO_14
          obtain ⟨x5_2, x16_2, rfl, HA, HK2, HO_3, HO_5, HO_14, HB⟩ := hrel
          cases gk with
          | zero => exact absurd HA.out (by simp [impl_allMarks.l1])
          | succ k2 =>
            have H := HA.out
            clear HA
            simp only [impl_allMarks.l1] at H
            by_cases c10 : x16_2 < (x4_1.length : Int)
            · rw [if_pos c10] at H
              have c10b0 : decide (x16_2 < (x4_1.length : Int)) = true := decide_eq_true c10
              clear c10
              by_cases c11 : 0 ≤ x16_2
              · rw [if_pos c11] at H
                have c11b0 : decide (0 ≤ x16_2) = true := decide_eq_true c11
                clear c11
                by_cases c12 : x16_2 < (x4_1.length : Int)
                · rw [if_pos c12] at H
                  have c12b0 : decide (x16_2 < (x4_1.length : Int)) = true := decide_eq_true c12
                  clear c12
                  by_cases c13 : (rdOf ByteArray.empty x4_1 x16_2).size + 1 ≤ 9223372036854775807
                  · rw [if_pos c13] at H
                    have c13b0 := eq_true c13
                    have c13b1 : decide ((rdOf ByteArray.empty x4_1 x16_2).size + 1 ≤ 9223372036854775807) = true := decide_eq_true c13
                    try have c13b2 : (9223372036854775807 < (rdOf ByteArray.empty x4_1 x16_2).size + 1) = False := eq_false (Nat.not_lt.2 c13)
                    obtain ⟨y213, hy213⟩ : ∃ y_ : List ByteArray, y_ = (([(rdOf ByteArray.empty x4_1 x16_2) ++ (⟨#[46]⟩ : ByteArray), (rdOf ByteArray.empty x4_1 x16_2) ++ (⟨#[45]⟩ : ByteArray)] : List ByteArray)) := ⟨_, rfl⟩
                    replace H : (if x5_2.length + y213.length < 8796093022208 then (impl_allMarks.l1 k2 x3_1 (x5_2 ++ y213) a0 x11_1 x4_1 (x4_1.length : Int) (wrap64 (x16_2 + 1))) else (none)) = some r := by first | (rw [hy213]; with_reducible exact H) | (have H2_ := (Option.bind_some _ _).symm.trans H; rw [hy213]; with_reducible exact H2_) | (have H2_ := (Option.bind_some _ _).symm.trans H; with_reducible exact H2_) | with_reducible exact H | (rw [hy213]; exact H) | exact H
                    have Ny213 := Aside0.mk hy213
                    clear hy213
                    by_cases c14 : x5_2.length + y213.length < 8796093022208
                    · rw [if_pos c14] at H
                      have LMc14 := Aside0.mk c14
                      clear c14
                      obtain ⟨y216, hy216⟩ : ∃ y_ : List ByteArray, y_ = (x5_2 ++ y213) := ⟨_, rfl⟩
                      replace H : (impl_allMarks.l1 k2 x3_1 y216 a0 x11_1 x4_1 (x4_1.length : Int) (wrap64 (x16_2 + 1))) = some r := by first | (rw [hy216]; with_reducible exact H) | (have H2_ := (Option.bind_some _ _).symm.trans H; rw [hy216]; with_reducible exact H2_) | (have H2_ := (Option.bind_some _ _).symm.trans H; with_reducible exact H2_) | with_reducible exact H | (rw [hy216]; exact H) | exact H
                      have Ny216 := Aside0.mk hy216
                      clear hy216
                      have H' := Aside0.mk H
                      clear H
                      have p212 : 0 ≤ (x16_2 : Int) := of_decide_eq_true (by first | (with_reducible assumption) | assumption)
                      have q212 : x16_2 < (x4_1.length : Int) := of_decide_eq_true (by first | (with_reducible assumption) | assumption)
                      obtain ⟨ad212, e212, hx212_0⟩ := Kd.at_string (Kd.R_reads' HO_14.out).2.2 x16_2 p212 q212
                      cases e212
                      replace p212 := eq_true p212
                      replace q212 := eq_true q212
                      go_wp2_with (first | ((with_reducible refine gate_dst (N := 25) rfl ?_); refine Kd.R_lit Kd.string _ 9 ?hg (N := 25) ?hd (xs := ([(rdOf ByteArray.empty x4_1 x16_2) ++ (⟨#[46]⟩ : ByteArray), (rdOf ByteArray.empty x4_1 x16_2) ++ (⟨#[45]⟩ : ByteArray)] : List ByteArray)) (inner := [.string ((rdOf ByteArray.empty x4_1 x16_2) ++ (⟨#[46]⟩ : ByteArray)), .string ((rdOf ByteArray.empty x4_1 x16_2) ++ (⟨#[45]⟩ : ByteArray))]) (ok := fun _ => True) (okp := fun _ => True) ?hr ?hp (fun _ hk => hk) trivial (Below.refl _ _) (Nat.le_refl _) (by simp) ?_; (case hd => rfl); (case hg => rfl); (case hr => first | (go_simp; done) | (go_simp; rfl)); (case hp => exact (Reps.one (show Kd.M Kd.string _ _ _ ((rdOf ByteArray.empty x4_1 x16_2) ++ (⟨#[46]⟩ : ByteArray)) [.string ((rdOf ByteArray.empty x4_1 x16_2) ++ (⟨#[46]⟩ : ByteArray))] from rfl) (Reps.one (show Kd.M Kd.string _ _ _ ((rdOf ByteArray.empty x4_1 x16_2) ++ (⟨#[45]⟩ : ByteArray)) [.string ((rdOf ByteArray.empty x4_1 x16_2) ++ (⟨#[45]⟩ : ByteArray))] from rfl) (Reps.none _ _)))); intro v214 w15 ho16 hb hg_ hnew_; clear hg_ hnew_; (first | rw [← Ny213.out] at ho16 | (simp only [Int.reduceToNat] at ho16; rw [← Ny213.out] at ho16)); have n0_ := Aside0.mk (Kd.R_elder' (by (with_reducible repeat (first | apply Kd.R_alloc | apply Kd.R_drewN | apply Kd.R_drew)); exact HO_3.out) (Kd.R_base ho16) hb); have n1_ := Aside0.mk (Kd.R_elder' (by (with_reducible repeat (first | apply Kd.R_alloc | apply Kd.R_drewN | apply Kd.R_drew)); exact HO_5.out) (Kd.R_base ho16) hb); have n2_ := Aside0.mk (Kd.R_elder' (by (with_reducible repeat (first | apply Kd.R_alloc | apply Kd.R_drewN | apply Kd.R_drew)); exact HO_14.out) (Kd.R_base ho16) hb); have n3_ := Aside0.mk (Kd.R_lower (Kd.R_new' (Kd.R_new' (Kd.R_new' ho16 (Kd.R_lt (by (with_reducible repeat (first | apply Kd.R_alloc | apply Kd.R_drewN | apply Kd.R_drew)); exact HO_3.out))) (Kd.R_lt (by (with_reducible repeat (first | apply Kd.R_alloc | apply Kd.R_drewN | apply Kd.R_drew)); exact HO_5.out))) (Kd.R_lt (by (with_reducible repeat (first | apply Kd.R_alloc | apply Kd.R_drewN | apply Kd.R_drew)); exact HO_14.out))) (below_size (by repeat (first | (with_reducible first | exact HB.out | apply below_alloc | apply pw_below_drewN | apply below_drew1) | exact HB.out)))); have n4_ := Aside0.mk (below_step (by repeat (first | (with_reducible first | exact HB.out | apply below_alloc | apply pw_below_drewN | apply below_drew1) | exact HB.out)) hb); clear HO_3; clear HO_5; clear HO_14; clear HB; have HO_3 := n0_; have HO_5 := n1_; have HO_14 := n2_; have HO215 := n3_; have HB := n4_; clear n0_ n1_ n2_ n3_ n4_; clear hb ho16; obtain ⟨Ao18, co18, eo18⟩ := Kd.R_slice HO215.out; subst eo18) | ((with_reducible refine gate_builtin (b := .append) (xs := #[.tmp 20, .tmp 25]) rfl ?_); at_builtin; refine Kd.R_append_rows Kd.string (w0 := w) w.heap.size rfl (.tmp 20) (.tmp 25) 23 9 (.string ⟨#[]⟩) 16 rfl Tryz.underlying23 info9 rfl (by decide) (by omega) u5 x5_2 y213 _ _ _ (fun k_ => some k_ ≠ (u3 : Value).ownBlock ∧ some k_ ≠ (.slice (some ad212) x4_1.length co9 : Value).ownBlock ∧ some k_ ≠ (.slice Ao18 y213.length co18 : Value).ownBlock) (fun _ => False) rfl rfl ?aO ?aR (fun _ _ h => h) (fun _ h => h.elim) ?aF ?aB ?aS ?aL ?_; (case aR => repeat (first | exact (Kd.R_reads' HO215.out).2.2 | (with_reducible refine Kd.C_alloc ?_ _) | (with_reducible refine Kd.C_drewN ?_ _) | (with_reducible refine Kd.C_drew ?_))); (case aB => exact (by repeat (first | (with_reducible first | exact HB.out | apply below_alloc | apply pw_below_drewN | apply below_drew1) | exact HB.out))); (case aF => exact (fun k_ hk => ⟨Kd.fresh' (Kd.R_lt (by (with_reducible repeat (first | apply Kd.R_alloc | apply Kd.R_drewN | apply Kd.R_drew)); exact HO_3.out)) k_ hk, Kd.fresh' (Kd.R_lt (by (with_reducible repeat (first | apply Kd.R_alloc | apply Kd.R_drewN | apply Kd.R_drew)); exact HO_14.out)) k_ hk, Kd.fresh' (Kd.R_lt (by (with_reducible repeat (first | apply Kd.R_alloc | apply Kd.R_drewN | apply Kd.R_drew)); exact HO215.out)) k_ hk⟩)); (case aO => exact (by (with_reducible repeat (first | apply Kd.R_alloc | apply Kd.R_drewN | apply Kd.R_drew)); exact Kd.R_mono HO_5.out (fun _ hk => ⟨hk.1.1, ⟨hk.1.2, hk.2⟩⟩))); (case aS => exact (below_size (by repeat (first | (with_reducible first | exact HB.out | apply below_alloc | apply pw_below_drewN | apply below_drew1) | exact HB.out)))); (case aL => have := LMc14.out; omega); intro v217 w17 ho hb hg hat; rw [← Ny216.out] at ho; have n0_ := Aside0.mk (Kd.R_after (ok := (fun k_ => some k_ ≠ (.slice (some ad212) x4_1.length co9 : Value).ownBlock ∧ some k_ ≠ (.slice Ao18 y213.length co18 : Value).ownBlock)) (by (with_reducible repeat (first | apply Kd.R_alloc | apply Kd.R_drewN | apply Kd.R_drew)); exact Kd.R_mono HO_3.out (fun _ hk => ⟨⟨hk.1.2, hk.2⟩, hk.1.1⟩)) hg hat); have n1_ := Aside0.mk (Kd.R_after (ok := (fun k_ => some k_ ≠ (u3 : Value).ownBlock ∧ some k_ ≠ (.slice Ao18 y213.length co18 : Value).ownBlock)) (by (with_reducible repeat (first | apply Kd.R_alloc | apply Kd.R_drewN | apply Kd.R_drew)); exact Kd.R_mono HO_14.out (fun _ hk => ⟨⟨hk.1.1, hk.2⟩, hk.1.2⟩)) hg hat); have n2_ := Aside0.mk (Kd.R_after (ok := (fun k_ => some k_ ≠ (u3 : Value).ownBlock ∧ some k_ ≠ (.slice (some ad212) x4_1.length co9 : Value).ownBlock)) (by (with_reducible repeat (first | apply Kd.R_alloc | apply Kd.R_drewN | apply Kd.R_drew)); exact Kd.R_mono HO215.out (fun _ hk => ⟨⟨hk.1.1.2, hk.2⟩, hk.1.2⟩)) hg hat); have n3_ := Aside0.mk (hb); have n4_ := Aside0.mk (ho); clear HO_3; clear HO_14; clear HO215; clear HB; clear HO_5; have HO_3 := n0_; have HO_14 := n1_; have HO215 := n2_; have HB := n3_; have HO218 := n4_; clear n0_ n1_ n2_ n3_ n4_; clear ho hb hg hat))
                      go_roundg k2
                      case measure => have := HK1.out; have := HK2.out; omega
                      case rel => exact ⟨(y216), (wrap64 (x16_2 + 1)), (by first | rfl | (simp; done) | (simp [*]; done) | (simp only [i64_w]; done) | (simp only [i64_w]; rfl) | (simp only [decide_eq_true_eq] at *; congr 1; unfold wrap64; omega)), H', ⟨by have := HK1.out; have := HK2.out; omega⟩, ⟨by (with_reducible repeat (first | apply Kd.R_alloc | apply Kd.R_drewN | apply Kd.R_drew)); exact Kd.R_mono HO_3.out (fun _ hk => ⟨hk.2, hk.1.1⟩)⟩, ⟨by (with_reducible repeat (first | apply Kd.R_alloc | apply Kd.R_drewN | apply Kd.R_drew)); exact Kd.R_mono HO218.out (fun _ hk => ⟨hk.1, hk.2.1⟩)⟩, ⟨by (with_reducible repeat (first | apply Kd.R_alloc | apply Kd.R_drewN | apply Kd.R_drew)); exact Kd.R_mono HO_14.out (fun _ hk => ⟨hk.1.1, hk.2⟩)⟩, ⟨by repeat (first | (with_reducible first | exact HB.out | apply below_alloc | apply pw_below_drewN | apply below_drew1) | exact HB.out)⟩⟩
                    · rw [if_neg c14] at H
                      exact absurd H (by simp)
                  · rw [if_neg c13] at H
                    exact absurd H (by simp)
                · rw [if_neg c12] at H
                  exact absurd H (by simp)
              · rw [if_neg c11] at H
                exact absurd H (by simp)
            · rw [if_neg c10] at H
              have c10b0 : decide (x16_2 < (x4_1.length : Int)) = false := decide_eq_false c10
              clear c10
              by_cases c19 : x3_1.length + x5_2.length < 8796093022208
              · rw [if_pos c19] at H
                have LMc19 := Aside0.mk c19
                clear c19
                obtain ⟨y219, hy219⟩ : ∃ y_ : List ByteArray, y_ = (x3_1 ++ x5_2) := ⟨_, rfl⟩
                replace H : (impl_allMarks.l0 k2 y219 x5_2 a0 (wrap64 (x11_1 + 1))) = some r := by first | (rw [hy219]; with_reducible exact H) | (have H2_ := (Option.bind_some _ _).symm.trans H; rw [hy219]; with_reducible exact H2_) | (have H2_ := (Option.bind_some _ _).symm.trans H; with_reducible exact H2_) | with_reducible exact H | (rw [hy219]; exact H) | exact H
                have Ny219 := Aside0.mk hy219
                clear hy219
                have H' := Aside0.mk H
                clear H
                obtain ⟨Ao21, co21, eo21⟩ := Kd.R_slice HO_5.out
                subst eo21
                go_wp2_with (first | ((with_reducible refine gate_builtin (b := .append) (xs := #[.tmp 28, .tmp 29]) rfl ?_); at_builtin; refine Kd.R_append_rows Kd.string (w0 := w) w.heap.size rfl (.tmp 28) (.tmp 29) 23 9 (.string ⟨#[]⟩) 16 rfl Tryz.underlying23 info9 rfl (by decide) (by omega) u3 x3_1 x5_2 _ _ _ (fun k_ => some k_ ≠ (.slice Ao21 x5_2.length co21 : Value).ownBlock ∧ some k_ ≠ (.slice Ao9 x4_1.length co9 : Value).ownBlock) (fun _ => False) rfl rfl ?aO ?aR (fun _ _ h => h) (fun _ h => h.elim) ?aF ?aB ?aS ?aL ?_; (case aR => repeat (first | exact (Kd.R_reads' HO_5.out).2.2 | (with_reducible refine Kd.C_alloc ?_ _) | (with_reducible refine Kd.C_drewN ?_ _) | (with_reducible refine Kd.C_drew ?_))); (case aB => exact (by repeat (first | (with_reducible first | exact HB.out | apply below_alloc | apply pw_below_drewN | apply below_drew1) | exact HB.out))); (case aF => exact (fun k_ hk => ⟨Kd.fresh' (Kd.R_lt (by (with_reducible repeat (first | apply Kd.R_alloc | apply Kd.R_drewN | apply Kd.R_drew)); exact HO_5.out)) k_ hk, Kd.fresh' (Kd.R_lt (by (with_reducible repeat (first | apply Kd.R_alloc | apply Kd.R_drewN | apply Kd.R_drew)); exact HO_14.out)) k_ hk⟩)); (case aO => exact (by (with_reducible repeat (first | apply Kd.R_alloc | apply Kd.R_drewN | apply Kd.R_drew)); exact HO_3.out)); (case aS => exact (below_size (by repeat (first | (with_reducible first | exact HB.out | apply below_alloc | apply pw_below_drewN | apply below_drew1) | exact HB.out)))); (case aL => have := LMc19.out; omega); intro v220 w20 ho hb hg hat; rw [← Ny219.out] at ho; have n0_ := Aside0.mk (Kd.R_after (ok := (fun k_ => some k_ ≠ (.slice Ao9 x4_1.length co9 : Value).ownBlock)) (by (with_reducible repeat (first | apply Kd.R_alloc | apply Kd.R_drewN | apply Kd.R_drew)); exact Kd.R_mono HO_5.out (fun _ hk => ⟨hk.2, hk.1⟩)) hg hat); have n1_ := Aside0.mk (Kd.R_after (ok := (fun k_ => some k_ ≠ (.slice Ao21 x5_2.length co21 : Value).ownBlock)) (by (with_reducible repeat (first | apply Kd.R_alloc | apply Kd.R_drewN | apply Kd.R_drew)); exact Kd.R_mono HO_14.out (fun _ hk => ⟨hk.2, hk.1⟩)) hg hat); have n2_ := Aside0.mk (hb); have n3_ := Aside0.mk (ho); clear HO_5; clear HO_14; clear HB; clear HO_3; have HO_5 := n0_; have HO_14 := n1_; have HB := n2_; have HO221 := n3_; clear n0_ n1_ n2_ n3_; clear ho hb hg hat))
                go_roundg k2
                case measure => have := HK1.out; have := HK2.out; omega
                case rel => exact ⟨(y219), (x5_2), (wrap64 (x11_1 + 1)), (by first | rfl | (simp; done) | (simp [*]; done) | (simp only [i64_w]; done) | (simp only [i64_w]; rfl) | (simp only [decide_eq_true_eq] at *; congr 1; unfold wrap64; omega)), H', ⟨by have := HK1.out; have := HK2.out; omega⟩, ⟨by (with_reducible repeat (first | apply Kd.R_alloc | apply Kd.R_drewN | apply Kd.R_drew)); exact Kd.R_mono HO221.out (fun _ hk => hk.1)⟩, ⟨by (with_reducible repeat (first | apply Kd.R_alloc | apply Kd.R_drewN | apply Kd.R_drew)); exact Kd.R_mono HO_5.out (fun _ hk => hk.2)⟩, ⟨by repeat (first | (with_reducible first | exact HB.out | apply below_alloc | apply pw_below_drewN | apply below_drew1) | exact HB.out)⟩⟩
              · rw [if_neg c19] at H
                exact absurd H (by simp)
      · rw [if_neg c6] at H
        have c6b0 : decide (x11_1 < a0) = false := decide_eq_false c6
        clear c6
        replace H := Option.bind_eq_some_iff.mp H
        obtain ⟨t208, A220, H⟩ := H
        replace H : (some t208) = some r := H
        have A22 := Aside0.mk A220
        clear A220
        obtain rfl := Option.some.inj H
        obtain ⟨Ao23, co23, eo23⟩ := Kd.R_slice HO_3.out
        subst eo23
        go_wp2_with (first | ((with_reducible refine gate_callee (f := 43) rfl ?_); refine goesL_ (some 34) rfl rfl Tryz.func43 (by kernel_rfl) rfl #[.slice Ao23 x3_1.length co23, .func (.func 44) #[] #[]] rfl (by (try simp only [List.map_toArray, List.map_cons, List.map_nil]); first | done | rfl | (simp only [List.length_drop, List.length_take]; rfl)) ?_; (with_reducible refine (slices_SortFunc_string_string.calls k1 (fun k_ => some k_ = (.slice Ao23 x3_1.length co23 : Value).ownBlock) (.slice Ao23 x3_1.length co23) x3_1  t208 w _ ?side1 ?side2 A22.out).mono ?_); (case side1 => repeat (first | (with_reducible first | exact HB.out | apply below_alloc | apply pw_below_drewN | apply below_drew1) | exact HB.out)); (case side2 => exact Kd.R_tight rfl HO_3.out); rintro e w24 ⟨rfl, hy0, hb, hkp⟩; refine ⟨_, rfl, ?_⟩; have n0_ := Aside0.mk (Kd.R_reok rfl hy0 (fun k_ e_ => HO_3.out.1 k_ e_)); have n1_ := Aside0.mk (Kd.R_mono (ok' := fun k_ => some k_ ≠ (.slice Ao23 x3_1.length co23 : Value).ownBlock) (Kd.R_keptB (HO_4.out) hkp (fun k_ hk_ hs_ => (hk_) hs_)) (fun k_ hk_ => hk_.1)); have n2_ := Aside0.mk (hb); clear HO_3; clear HO_4; clear HB; have HO_3 := n0_; have HO_4 := n1_; have HB := n2_; clear n0_ n1_ n2_; (try clear hb); (try clear hkp); (try clear hy0)))
        go_ret
        exact ⟨_, by first | rfl | (simp [errW_none, errW_some] <;> rfl) | (simp [*, errW_none, errW_some] <;> rfl), by (with_reducible repeat (first | apply Kd.R_alloc | apply Kd.R_drewN | apply Kd.R_drew)); exact Kd.R_mono HO_3.out (fun _ hk => trivial), by repeat (first | (with_reducible first | exact HB.out | apply below_alloc | apply pw_below_drewN | apply below_drew1) | exact HB.out)⟩

/-! ### slices_Clone_string_string: function 40 -/
def slices_Clone_string_string.f (l : List ByteArray) : Option (List ByteArray) := if l.length * 16 ≤ 140737488355328 then some l else none
set_option maxHeartbeats 8000000 in
set_option maxRecDepth 100000 in
theorem slices_Clone_string_string.calls (A0 : Option Addr) (c0 : Nat) (l0 : List ByteArray) (r : List ByteArray) (w : World) (hr0 : Kd.C Kd.string w A0 l0.length l0) (hc0 : l0.length ≤ c0) (h : slices_Clone_string_string.f l0 = some r) :
    Calls Tryz.prog 40 #[.slice A0 l0.length c0] w fun e w' => ∃ v0_ : Value, e = .returned (v0_) ∧ Kd.R Kd.string 9 w' w.heap.size (fun _ => True) v0_ r ∧ Below w.heap.size w w' := by
  unfold slices_Clone_string_string.f at h
  by_cases hl : l0.length * 16 ≤ 140737488355328
  · rw [if_pos hl] at h
    obtain rfl := Option.some.inj h
    by_cases h0 : l0.length = 0
    · obtain rfl := List.eq_nil_of_length_eq_zero h0
      cases A0 with
      | none => exact (Any.slices_Clone_string_nil Tryz.lays2_16 0 c0 w).mono fun e w' ⟨he, hw⟩ => ⟨_, he, Kd.R_nil _ _ _ _ _, hw ▸ Below.refl _ _⟩
      | some a => exact (Any.slices_Clone_string_zero Tryz.lays2_16 a c0 w).mono fun e w' ⟨v, he, ho, _, hb⟩ => ⟨v, he, Kd.R_of_own ho (fun _ _ => trivial), hb⟩
    · obtain ⟨b, off, rfl, _, hc⟩ := Given.base_of_C hr0 (by omega)
      refine (Any.slices_Clone_string Tryz.lays2_16 b off l0.length c0 l0 w (Nat.le_refl _) hl (fun j hj => ?_)).mono fun e w' ⟨v, he, ho, _, hb⟩ => ⟨v, he, Kd.R_of_own (by rw [List.take_length] at ho; exact ho) (fun _ _ => trivial), hb⟩
      rw [List.getD_eq_getElem?_getD, List.getElem?_eq_getElem hj]
      exact hc j _ (List.getElem?_eq_getElem hj)
  · rw [if_neg hl] at h
    cases h

end Go.Proofs.YtgaadjlcmgmfaaaGreat.PFnExactOpenMarks
