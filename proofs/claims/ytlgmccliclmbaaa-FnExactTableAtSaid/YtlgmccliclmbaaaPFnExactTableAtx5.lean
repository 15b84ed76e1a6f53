-- Written by a program of this session (the kit's print with this session's additions, wip/tools): Lean checks it.
import Derived.Test.YtlgmccliclmbaaaPFnExactTableAtx0
import Derived.Test.YtlgmccliclmbaaaPFnExactTableAtx2
import Derived.Test.YtlgmccliclmbaaaPFnExactTableAtx3
import Derived.Test.YtlgmccliclmbaaaPFnExactTableAtx4
namespace Go.Proofs.Ytlgmccliclmbaaa.PFnExactTableAt
open Go.RowKit Go.Proofs.YtlgmccliclmbaaaW.PrintWords Go.Proofs.YtlgmccliclmbaaaW.PrintLast Go.Proofs.YtlgmccliclmbaaaW.PrintMore
attribute [local go_sem] max2_int min2_int max_two min_two max_three min_three max_four min_four   -- for this text's walks alone
set_option linter.unusedVariables false
set_option linter.unusedSimpArgs false

/-! ### laws_FnExactTableAt: function 3 -/
mutual
def laws_FnExactTableAt.j0 : Nat → Int → Int → Int → Bool → Bool → List ByteArray → List ByteArray → Option (Bool)
  | 0, _, _, _, _, _, _, _ => none
  | k + 1, x0, x1, x2, x8, x37, x179000, x184000 => if x37 = true then (some false) else ((laws_markTable.f k x184000 1).bind fun bt185 => ((laws_heldTable.f k bt185.2 1).bind fun t187 => (if t187 < 0 then (some false) else (if t187 = bt185.1 then ((impl_TableAt.f k x0 x1 x2).bind fun bt188 => ((laws_eqTable.f k bt188.1 x179000).bind fun t193 => (if t193 = true then (laws_FnExactTableAt.j1 k bt185.1 (bt188.2 != x8) bt185.2) else (laws_FnExactTableAt.j1 k bt185.1 true bt185.2)))) else (some false)))))
def laws_FnExactTableAt.j1 : Nat → Int → Bool → List ByteArray → Option (Bool)
  | 0, _, _, _ => none
  | k + 1, x11, x64, x184000 => if x64 = true then (some false) else ((laws_heldTable.f k x184000 1).bind fun t194 => (if t194 < 0 then (some false) else (if t194 = x11 then (some true) else (some false))))
end
def laws_FnExactTableAt.f (k : Nat) (a0 : Int) (a1 : Int) (a2 : Int) : Option (Bool) := (spec_TableAt.f k a0 a1 a2).bind fun bt174 => ((impl_TableAt.f k a0 a1 a2).bind fun bt179 => ((laws_eqTable.f k bt179.1 bt174.1).bind fun t184 => (if t184 = true then (laws_FnExactTableAt.j0 k a0 a1 a2 bt174.2 (bt179.2 != bt174.2) bt174.1 bt179.1) else (laws_FnExactTableAt.j0 k a0 a1 a2 bt174.2 true bt174.1 bt179.1))))
theorem laws_FnExactTableAt.mono_l : ∀ k, (∀ y0 y1 y2 y3 y4 y5 y6, LeO (laws_FnExactTableAt.j0 k y0 y1 y2 y3 y4 y5 y6) (laws_FnExactTableAt.j0 (k + 1) y0 y1 y2 y3 y4 y5 y6)) ∧ (∀ y0 y1 y2, LeO (laws_FnExactTableAt.j1 k y0 y1 y2) (laws_FnExactTableAt.j1 (k + 1) y0 y1 y2))
  | 0 => ⟨fun _ _ _ _ _ _ _ r h => by simp [laws_FnExactTableAt.j0] at h, fun _ _ _ r h => by simp [laws_FnExactTableAt.j1] at h⟩
  | k + 1 => by
    obtain ⟨ih0, ih1⟩ := laws_FnExactTableAt.mono_l k
    refine ⟨?_, ?_⟩
    · intro y0 y1 y2 y3 y4 y5 y6
      unfold laws_FnExactTableAt.j0
      repeat' first
      | (with_reducible exact ih0 _ _ _ _ _ _ _)
      | (with_reducible exact ih1 _ _ _)
      | (with_reducible exact impl_TableAt.mono _ _ _ _)
      | (with_reducible exact laws_eqTable.mono _ _ _)
      | (with_reducible exact laws_heldTable.mono _ _ _)
      | (with_reducible exact laws_markTable.mono _ _ _)
      | (with_reducible exact spec_TableAt.mono _ _ _ _)
      | (with_reducible exact LeO.refl _)
      | (with_reducible exact LeO.none _)
      | (with_reducible refine LeO.ite ?_ ?_)
      | (with_reducible refine LeO.bind ?_ (fun _ => ?_))
      | exact ih0 _ _ _ _ _ _ _
      | exact ih1 _ _ _
      | exact impl_TableAt.mono _ _ _ _
      | exact laws_eqTable.mono _ _ _
      | exact laws_heldTable.mono _ _ _
      | exact laws_markTable.mono _ _ _
      | exact spec_TableAt.mono _ _ _ _
      | exact LeO.none _
      | refine LeO.ite ?_ ?_
      | refine LeO.bind ?_ (fun _ => ?_)
    · intro y0 y1 y2
      unfold laws_FnExactTableAt.j1
      repeat' first
      | (with_reducible exact ih0 _ _ _ _ _ _ _)
      | (with_reducible exact ih1 _ _ _)
      | (with_reducible exact impl_TableAt.mono _ _ _ _)
      | (with_reducible exact laws_eqTable.mono _ _ _)
      | (with_reducible exact laws_heldTable.mono _ _ _)
      | (with_reducible exact laws_markTable.mono _ _ _)
      | (with_reducible exact spec_TableAt.mono _ _ _ _)
      | (with_reducible exact LeO.refl _)
      | (with_reducible exact LeO.none _)
      | (with_reducible refine LeO.ite ?_ ?_)
      | (with_reducible refine LeO.bind ?_ (fun _ => ?_))
      | exact ih0 _ _ _ _ _ _ _
      | exact ih1 _ _ _
      | exact impl_TableAt.mono _ _ _ _
      | exact laws_eqTable.mono _ _ _
      | exact laws_heldTable.mono _ _ _
      | exact laws_markTable.mono _ _ _
      | exact spec_TableAt.mono _ _ _ _
      | exact LeO.none _
      | refine LeO.ite ?_ ?_
      | refine LeO.bind ?_ (fun _ => ?_)
theorem laws_FnExactTableAt.mono : ∀ a0 a1 a2 k, LeO (laws_FnExactTableAt.f k a0 a1 a2) (laws_FnExactTableAt.f (k + 1) a0 a1 a2) := by
  intro a0 a1 a2 k
  obtain ⟨ih0, ih1⟩ := laws_FnExactTableAt.mono_l k
  unfold laws_FnExactTableAt.f
  repeat' first
      | (with_reducible exact ih0 _ _ _ _ _ _ _)
      | (with_reducible exact ih1 _ _ _)
      | (with_reducible exact impl_TableAt.mono _ _ _ _)
      | (with_reducible exact laws_eqTable.mono _ _ _)
      | (with_reducible exact laws_heldTable.mono _ _ _)
      | (with_reducible exact laws_markTable.mono _ _ _)
      | (with_reducible exact spec_TableAt.mono _ _ _ _)
      | (with_reducible exact LeO.refl _)
      | (with_reducible exact LeO.none _)
      | (with_reducible refine LeO.ite ?_ ?_)
      | (with_reducible refine LeO.bind ?_ (fun _ => ?_))
      | exact ih0 _ _ _ _ _ _ _
      | exact ih1 _ _ _
      | exact impl_TableAt.mono _ _ _ _
      | exact laws_eqTable.mono _ _ _
      | exact laws_heldTable.mono _ _ _
      | exact laws_markTable.mono _ _ _
      | exact spec_TableAt.mono _ _ _ _
      | exact LeO.none _
      | refine LeO.ite ?_ ?_
      | refine LeO.bind ?_ (fun _ => ?_)
set_option maxHeartbeats 8000000 in
set_option maxRecDepth 100000 in
theorem laws_FnExactTableAt.calls (k : Nat) (a0 : Int) (a1 : Int) (a2 : Int) (r : Bool) (w : World) (h : laws_FnExactTableAt.f k a0 a1 a2 = some r) :
    Calls Try.prog 3 #[.int .i64 a0, .int .i64 a1, .int .i64 a2] w fun e w' => e = .returned (.bool r) ∧ Below w.heap.size w w' := by
  have hu24 := Try.underlying24
  have HB := Aside0.mk (Below.refl w.heap.size w)
  have H : ((spec_TableAt.f k a0 a1 a2).bind fun bt174 => ((impl_TableAt.f k a0 a1 a2).bind fun bt179 => ((laws_eqTable.f k bt179.1 bt174.1).bind fun t184 => (if t184 = true then (laws_FnExactTableAt.j0 k a0 a1 a2 bt174.2 (bt179.2 != bt174.2) bt174.1 bt179.1) else (laws_FnExactTableAt.j0 k a0 a1 a2 bt174.2 true bt174.1 bt179.1))))) = some r := h
  clear h
  replace H := Option.bind_eq_some_iff.mp H
  obtain ⟨⟨t174, t177⟩, A40, H⟩ := H
  replace H : ((impl_TableAt.f k a0 a1 a2).bind fun bt179 => ((laws_eqTable.f k bt179.1 t174).bind fun t184 => (if t184 = true then (laws_FnExactTableAt.j0 k a0 a1 a2 t177 (bt179.2 != t177) t174 bt179.1) else (laws_FnExactTableAt.j0 k a0 a1 a2 t177 true t174 bt179.1)))) = some r := H
  have A4 := Aside0.mk A40
  clear A40
  replace H := Option.bind_eq_some_iff.mp H
  obtain ⟨⟨t179, t182⟩, A50, H⟩ := H
  replace H : ((laws_eqTable.f k t179 t174).bind fun t184 => (if t184 = true then (laws_FnExactTableAt.j0 k a0 a1 a2 t177 (t182 != t177) t174 t179) else (laws_FnExactTableAt.j0 k a0 a1 a2 t177 true t174 t179))) = some r := H
  have A5 := Aside0.mk A50
  clear A50
  have HC6 := Aside0.mk H
  clear H
  go_enter Try.func3, Try.ntmps3
  go_upto_region 3 with (first | ((with_reducible refine gate_callee (f := 7) rfl ?_); refine goesL_ (some 19) rfl rfl Try.func7 (by kernel_rfl) rfl #[.int .i64 a0, .int .i64 a1, .int .i64 a2] rfl (by (try simp only [List.map_toArray, List.map_cons, List.map_nil]); first | done | rfl | (simp only [List.length_drop, List.length_take]; rfl)) ?_; (with_reducible refine (spec_TableAt.calls k a0 a1 a2 t174 t177 _ A4.out).mono ?_); rintro e w7 ⟨v175, rfl, ho0, hb⟩; refine ⟨_, rfl, ?_⟩; have n0_ := Aside0.mk (Kd.R_lower ho0 (below_size (by repeat (first | (with_reducible first | exact HB.out | apply below_alloc | apply pw_below_drewN | apply below_drew1) | exact HB.out)))); have n1_ := Aside0.mk (below_step (by repeat (first | (with_reducible first | exact HB.out | apply below_alloc | apply pw_below_drewN | apply below_drew1) | exact HB.out)) hb); clear HB; have HO176 := n0_; have HB := n1_; clear n0_ n1_; (try clear hb); (try clear hb2); (try clear hk); (try clear hi); (try clear ho0)) | ((with_reducible refine gate_dst (N := 7) rfl ?_); refine box_event ?hg (N := 7) ?hd (cs := #[.slice none 0 0]) (t := 24) ?hr ?_; (case hd => rfl); (case hg => rfl); (case hr => first | (go_simp; done) | (go_simp; rfl)); intro gb178 hg w8 hbox hb; have n0_ := Aside0.mk (Kd.R_below (by (with_reducible repeat (first | apply Kd.R_alloc | apply Kd.R_drewN | apply Kd.R_drew)); exact HO176.out) hb); have n1_ := Aside0.mk (below_step (by repeat (first | (with_reducible first | exact HB.out | apply below_alloc | apply pw_below_drewN | apply below_drew1) | exact HB.out)) hb); have n2_ := Aside0.mk (hbox); have n3_ := Aside0.mk ((by rw [hg]; exact (below_size (by repeat (first | (with_reducible first | exact HB.out | apply below_alloc | apply pw_below_drewN | apply below_drew1) | exact HB.out))) : w.heap.size ≤ gb178)); have n4_ := Aside0.mk ((by rw [hg]; exact (below_size (by repeat (first | (with_reducible first | exact HB.out | apply below_alloc | apply pw_below_drewN | apply below_drew1) | exact HB.out))) : w.heap.size ≤ gb178)); clear HO176; clear HB; have HO176 := n0_; have HB := n1_; have BK178 := n2_; have GW178 := n3_; have GE178 := n4_; clear n0_ n1_ n2_ n3_ n4_; clear hb hbox hg; obtain ⟨Ao9, co9, eo9⟩ := Kd.R_slice HO176.out; subst eo9; (try (have hnw11 := Kd.R_ne HO176.out BK178.out (by decide); change some gb178 ≠ some _ at hnw11; have how11 := fun (e_ : gb178 = _) => hnw11 (congrArg some e_); have hpw11 := fun e_ => how11 (Eq.symm e_); clear hnw11; replace how11 := eq_false how11; replace hpw11 := eq_false hpw11)); have hcz10_0 : w8.cell? ⟨gb178, 0, none⟩ = some (.slice none 0 0) := (blk_cell BK178.out 0).trans rfl; have hfz10_0 := blk_frozen BK178.out 0) | ((with_reducible refine gate_callee (f := 8) rfl ?_); refine goesL_ (some 26) rfl rfl Try.func8 (by kernel_rfl) rfl #[.int .i64 a0, .int .i64 a1, .int .i64 a2] rfl (by (try simp only [List.map_toArray, List.map_cons, List.map_nil]); first | done | rfl | (simp only [List.length_drop, List.length_take]; rfl)) ?_; (with_reducible refine (impl_TableAt.calls k a0 a1 a2 t179 t182 _ A5.out).mono ?_); rintro e w12 ⟨v180, rfl, ho0, hb⟩; refine ⟨_, rfl, ?_⟩; have n0_ := Aside0.mk (Kd.R_elder' (by (with_reducible repeat (first | apply Kd.R_alloc | apply Kd.R_drewN | apply Kd.R_drew)); exact (Kd.R_mono (Kd.R_far (p := ⟨gb178, 0, none⟩) (Kd.R_types HO176.out BK178.out (by decide)) (fun _ hk => hk.2) (.slice Ao9 t174.length co9)) (fun _ h_ => h_.1))) (Kd.R_base ho0) hb); have n1_ := Aside0.mk (Kd.R_lower (Kd.R_new' ho0 (Kd.R_lt (by (with_reducible repeat (first | apply Kd.R_alloc | apply Kd.R_drewN | apply Kd.R_drew)); exact (Kd.R_mono (Kd.R_far (p := ⟨gb178, 0, none⟩) (Kd.R_types HO176.out BK178.out (by decide)) (fun _ hk => hk.2) (.slice Ao9 t174.length co9)) (fun _ h_ => h_.1))))) (below_size (by repeat (first | (with_reducible first | exact HB.out | apply below_alloc | apply pw_below_drewN | apply below_drew1 | refine below_set ?_ GE178.out) | exact HB.out)))); have n2_ := Aside0.mk (blk_below (g := gb178) (o := .cells #[.slice Ao9 t174.length co9] 24 (0, 0)) (by (with_reducible repeat (first | refine blk_drewN ?_ _ | refine blk_drew ?_ | refine blk_alloc ?_ _)); refine blk_put (cs := #[.slice none 0 0]) ?_ 0 _ rfl; (with_reducible repeat (first | refine blk_drewN ?_ _ | refine blk_drew ?_ | refine blk_alloc ?_ _)); exact BK178.out) hb); have n3_ := Aside0.mk (below_step (by repeat (first | (with_reducible first | exact HB.out | apply below_alloc | apply pw_below_drewN | apply below_drew1 | refine below_set ?_ GE178.out) | exact HB.out)) hb); clear HO176; clear BK178; clear HB; have HO176 := n0_; have HO181 := n1_; have BK178 := n2_; have HB := n3_; clear n0_ n1_ n2_ n3_; (try clear hb); (try clear hb2); (try clear hk); (try clear hi); (try clear ho0)) | ((with_reducible refine gate_dst (N := 9) rfl ?_); refine box_event ?hg (N := 9) ?hd (cs := #[.slice none 0 0]) (t := 24) ?hr ?_; (case hd => rfl); (case hg => rfl); (case hr => first | (go_simp; done) | (go_simp; rfl)); intro gb183 hg w13 hbox hb; have n0_ := Aside0.mk (Kd.R_below (by (with_reducible repeat (first | apply Kd.R_alloc | apply Kd.R_drewN | apply Kd.R_drew)); exact HO176.out) hb); have n1_ := Aside0.mk (Kd.R_below (by (with_reducible repeat (first | apply Kd.R_alloc | apply Kd.R_drewN | apply Kd.R_drew)); exact HO181.out) hb); have n2_ := Aside0.mk (blk_below (g := gb178) (o := .cells #[.slice Ao9 t174.length co9] 24 (0, 0)) (by (with_reducible repeat (first | refine blk_drewN ?_ _ | refine blk_drew ?_ | refine blk_alloc ?_ _)); exact BK178.out) hb); have n3_ := Aside0.mk (below_step (by repeat (first | (with_reducible first | exact HB.out | apply below_alloc | apply pw_below_drewN | apply below_drew1 | refine below_set ?_ GE178.out) | exact HB.out)) hb); have n4_ := Aside0.mk (hbox); have n5_ := Aside0.mk ((by rw [hg]; exact (below_size (by repeat (first | (with_reducible first | exact HB.out | apply below_alloc | apply pw_below_drewN | apply below_drew1 | refine below_set ?_ GE178.out) | exact HB.out))) : w.heap.size ≤ gb183)); have n6_ := Aside0.mk ((by rw [hg]; exact (below_size (by repeat (first | (with_reducible first | exact HB.out | apply below_alloc | apply pw_below_drewN | apply below_drew1 | refine below_set ?_ GE178.out) | exact HB.out))) : w.heap.size ≤ gb183)); have n7_ := Aside0.mk ((by rw [hg]; exact Nat.ne_of_lt (blk_lt (g := gb178) (o := .cells #[.slice Ao9 t174.length co9] 24 (0, 0)) (by (with_reducible repeat (first | refine blk_drewN ?_ _ | refine blk_drew ?_ | refine blk_alloc ?_ _)); exact BK178.out)) : gb178 ≠ gb183)); have n8_ := Aside0.mk ((by rw [hg]; exact Nat.ne_of_gt (blk_lt (g := gb178) (o := .cells #[.slice Ao9 t174.length co9] 24 (0, 0)) (by (with_reducible repeat (first | refine blk_drewN ?_ _ | refine blk_drew ?_ | refine blk_alloc ?_ _)); exact BK178.out)) : gb183 ≠ gb178)); clear HO176; clear HO181; clear BK178; clear HB; have HO176 := n0_; have HO181 := n1_; have BK178 := n2_; have HB := n3_; have BK183 := n4_; have GW183 := n5_; have GE183 := n6_; have NB178_183 := n7_; have NB183_178 := n8_; clear n0_ n1_ n2_ n3_ n4_ n5_ n6_ n7_ n8_; clear hb hbox hg; obtain ⟨Ao14, co14, eo14⟩ := Kd.R_slice HO181.out; subst eo14; have hnb15 := NB183_178.out; have hnc15 := NB178_183.out; (try (have hnw17 := Kd.R_ne HO176.out BK183.out (by decide); change some gb183 ≠ some _ at hnw17; have how17 := fun (e_ : gb183 = _) => hnw17 (congrArg some e_); have hpw17 := fun e_ => how17 (Eq.symm e_); clear hnw17; replace how17 := eq_false how17; replace hpw17 := eq_false hpw17)); (try (have hnw18 := Kd.R_ne HO181.out BK183.out (by decide); change some gb183 ≠ some _ at hnw18; have how18 := fun (e_ : gb183 = _) => hnw18 (congrArg some e_); have hpw18 := fun e_ => how18 (Eq.symm e_); clear hnw18; replace how18 := eq_false how18; replace hpw18 := eq_false hpw18)); have hcz16_0 : w13.cell? ⟨gb183, 0, none⟩ = some (.slice none 0 0) := (blk_cell BK183.out 0).trans rfl; have hfz16_0 := blk_frozen BK183.out 0))
  (try simp only [Act.put, List.setIfInBounds_toArray, List.set_cons_zero, List.set_cons_succ])
  go_cut [37] (fun v37 wc => ∃ (kq : Nat) (x37_5 : Bool), v37 = .bool x37_5 ∧ Aside0 (laws_FnExactTableAt.j0 kq a0 a1 a2 t177 x37_5 t174 t179 = some r) ∧ Aside0 (kq ≤ k) ∧ Aside0 (Kd.R Kd.string 9 wc w.heap.size (fun k_ => some k_ ≠ ((.slice Ao14 t179.length co14) : Value).ownBlock) (.slice Ao9 t174.length co9) t174) ∧ Aside0 (Kd.R Kd.string 9 wc w.heap.size (fun k_ => some k_ ≠ ((.slice Ao9 t174.length co9) : Value).ownBlock) (.slice Ao14 t179.length co14) t179) ∧ Aside0 (wc.heap[gb178]? = some (.cells #[(.slice Ao9 t174.length co9)] 24 (0, 0))) ∧ Aside0 (wc.heap[gb183]? = some (.cells #[(.slice Ao14 t179.length co14)] 24 (0, 0))) ∧ Aside0 (Below w.heap.size w wc))
  case first =>
    have H := HC6.out
    clear HC6
    replace H := Option.bind_eq_some_iff.mp H
    obtain ⟨t184, A190, H⟩ := H
    replace H : (if t184 = true then (laws_FnExactTableAt.j0 k a0 a1 a2 t177 (t182 != t177) t174 t179) else (laws_FnExactTableAt.j0 k a0 a1 a2 t177 true t174 t179)) = some r := H
    have A19 := Aside0.mk A190
    clear A190
    by_cases c20 : t184 = true
    · subst c20
      have H1 : (laws_FnExactTableAt.j0 k a0 a1 a2 t177 (t182 != t177) t174 t179) = some r := by rw [if_pos rfl] at H; first | exact H | (simp only [if_true, eq_self] at H ⊢; exact H)
      clear H
      have H := H1
      clear H1
      have H' := Aside0.mk H
      clear H
      have hnb21 := NB183_178.out
      have hnc21 := NB178_183.out
      (try (have hnw23 := Kd.R_ne HO176.out BK183.out (by decide); change some gb183 ≠ some _ at hnw23; have how23 := fun (e_ : gb183 = _) => hnw23 (congrArg some e_); have hpw23 := fun e_ => how23 (Eq.symm e_); clear hnw23; replace how23 := eq_false how23; replace hpw23 := eq_false hpw23))
      (try (have hnw24 := Kd.R_ne HO181.out BK183.out (by decide); change some gb183 ≠ some _ at hnw24; have how24 := fun (e_ : gb183 = _) => hnw24 (congrArg some e_); have hpw24 := fun e_ => how24 (Eq.symm e_); clear hnw24; replace how24 := eq_false how24; replace hpw24 := eq_false hpw24))
      have hcz22_0 : w13.cell? ⟨gb183, 0, none⟩ = some (.slice none 0 0) := (blk_cell BK183.out 0).trans rfl
      have hfz22_0 := blk_frozen BK183.out 0
      (try (have hnw26 := Kd.R_ne HO176.out BK178.out (by decide); change some gb178 ≠ some _ at hnw26; have how26 := fun (e_ : gb178 = _) => hnw26 (congrArg some e_); have hpw26 := fun e_ => how26 (Eq.symm e_); clear hnw26; replace how26 := eq_false how26; replace hpw26 := eq_false hpw26))
      (try (have hnw27 := Kd.R_ne HO181.out BK178.out (by decide); change some gb178 ≠ some _ at hnw27; have how27 := fun (e_ : gb178 = _) => hnw27 (congrArg some e_); have hpw27 := fun e_ => how27 (Eq.symm e_); clear hnw27; replace how27 := eq_false how27; replace hpw27 := eq_false hpw27))
      have hcz25_0 : w13.cell? ⟨gb178, 0, none⟩ = some (.slice Ao9 t174.length co9) := (blk_cell BK178.out 0).trans rfl
      have hfz25_0 := blk_frozen BK178.out 0
      go_wp2_with (first | ((with_reducible refine gate_callee (f := 9) rfl ?_); refine goesL_ (some 31) rfl rfl Try.func9 (by kernel_rfl) rfl #[.agg #[.slice Ao14 t179.length co14], .agg #[.slice Ao9 t174.length co9]] rfl (by (try simp only [List.map_toArray, List.map_cons, List.map_nil]); first | done | rfl | (simp only [List.length_drop, List.length_take]; rfl)) ?_; (with_reducible refine (laws_eqTable.calls k _ _ t179 _ _ t174 true _ ?side1 ?side2 ?side3 ?side4 A19.out).mono ?_); (case side1 => refine (Kd.R_reads' (e := 9) (base := w.heap.size) (ok := fun k_ => (True ∧ some k_ ≠ (.slice Ao9 t174.length co9 : Value).ownBlock)) (n := t179.length) (c := co14) ?_).2.2; exact (by (with_reducible repeat (first | apply Kd.R_alloc | apply Kd.R_drewN | apply Kd.R_drew)); exact (Kd.R_mono (Kd.R_far (p := ⟨gb183, 0, none⟩) (Kd.R_types HO181.out BK183.out (by decide)) (fun _ hk => hk.2) (.slice Ao14 t179.length co14)) (fun _ h_ => h_.1)))); (case side2 => exact (Kd.R_reads' HO181.out).2.1); (case side3 => refine (Kd.R_reads' (e := 9) (base := w.heap.size) (ok := fun k_ => (True ∧ some k_ ≠ (.slice Ao14 t179.length co14 : Value).ownBlock)) (n := t174.length) (c := co9) ?_).2.2; exact (by (with_reducible repeat (first | apply Kd.R_alloc | apply Kd.R_drewN | apply Kd.R_drew)); exact (Kd.R_mono (Kd.R_far (p := ⟨gb183, 0, none⟩) (Kd.R_types HO176.out BK183.out (by decide)) (fun _ hk => hk.2) (.slice Ao14 t179.length co14)) (fun _ h_ => h_.1)))); (case side4 => exact (Kd.R_reads' HO176.out).2.1); rintro e w28 ⟨rfl, hb⟩; refine ⟨_, rfl, ?_⟩; have n0_ := Aside0.mk (Kd.R_below (by (with_reducible repeat (first | apply Kd.R_alloc | apply Kd.R_drewN | apply Kd.R_drew)); exact (Kd.R_mono (Kd.R_far (p := ⟨gb183, 0, none⟩) (Kd.R_types HO176.out BK183.out (by decide)) (fun _ hk => hk.2) (.slice Ao14 t179.length co14)) (fun _ h_ => h_.1))) hb); have n1_ := Aside0.mk (Kd.R_below (by (with_reducible repeat (first | apply Kd.R_alloc | apply Kd.R_drewN | apply Kd.R_drew)); exact (Kd.R_mono (Kd.R_far (p := ⟨gb183, 0, none⟩) (Kd.R_types HO181.out BK183.out (by decide)) (fun _ hk => hk.2) (.slice Ao14 t179.length co14)) (fun _ h_ => h_.1))) hb); have n2_ := Aside0.mk (blk_below (g := gb178) (o := .cells #[.slice Ao9 t174.length co9] 24 (0, 0)) (by (with_reducible repeat (first | refine blk_drewN ?_ _ | refine blk_drew ?_ | refine blk_alloc ?_ _)); refine blk_far ?_ NB178_183.out _; (with_reducible repeat (first | refine blk_drewN ?_ _ | refine blk_drew ?_ | refine blk_alloc ?_ _)); exact BK178.out) hb); have n3_ := Aside0.mk (blk_below (g := gb183) (o := .cells #[.slice Ao14 t179.length co14] 24 (0, 0)) (by (with_reducible repeat (first | refine blk_drewN ?_ _ | refine blk_drew ?_ | refine blk_alloc ?_ _)); refine blk_put (cs := #[.slice none 0 0]) ?_ 0 _ rfl; (with_reducible repeat (first | refine blk_drewN ?_ _ | refine blk_drew ?_ | refine blk_alloc ?_ _)); exact BK183.out) hb); have n4_ := Aside0.mk (below_step (by repeat (first | (with_reducible first | exact HB.out | apply below_alloc | apply pw_below_drewN | apply below_drew1 | refine below_set ?_ GE178.out | refine below_set ?_ GE183.out) | exact HB.out)) hb); clear HO176; clear HO181; clear BK178; clear BK183; clear HB; have HO176 := n0_; have HO181 := n1_; have BK178 := n2_; have BK183 := n3_; have HB := n4_; clear n0_ n1_ n2_ n3_ n4_; (try clear hb); (try clear hb2); (try clear hk); (try clear hi)))
      go_meet
      case rel => exact ⟨_, ((t182 != t177)), (by first | rfl | (simp; done) | (simp [*]; done)), H', ⟨by first | omega | exact Nat.le_refl _⟩, ⟨by (with_reducible repeat (first | apply Kd.R_alloc | apply Kd.R_drewN | apply Kd.R_drew)); exact Kd.R_mono HO176.out (fun _ hk => hk.2)⟩, ⟨by (with_reducible repeat (first | apply Kd.R_alloc | apply Kd.R_drewN | apply Kd.R_drew)); exact Kd.R_mono HO181.out (fun _ hk => hk.2)⟩, ⟨by (with_reducible repeat (first | refine blk_drewN ?_ _ | refine blk_drew ?_ | refine blk_alloc ?_ _)); exact BK178.out⟩, ⟨by (with_reducible repeat (first | refine blk_drewN ?_ _ | refine blk_drew ?_ | refine blk_alloc ?_ _)); exact BK183.out⟩, ⟨by repeat (first | (with_reducible first | exact HB.out | apply below_alloc | apply pw_below_drewN | apply below_drew1 | refine below_set ?_ GE178.out | refine below_set ?_ GE183.out) | exact HB.out)⟩⟩
    · replace c20 := Bool.eq_false_iff.mpr c20
      subst c20
      have H1 : (laws_FnExactTableAt.j0 k a0 a1 a2 t177 true t174 t179) = some r := by rw [if_neg (show ¬ (false = true) by decide)] at H; first | exact H | (simp only [if_true, eq_self] at H ⊢; exact H)
      clear H
      have H := H1
      clear H1
      have H' := Aside0.mk H
      clear H
      have hnb29 := NB183_178.out
      have hnc29 := NB178_183.out
      (try (have hnw31 := Kd.R_ne HO176.out BK183.out (by decide); change some gb183 ≠ some _ at hnw31; have how31 := fun (e_ : gb183 = _) => hnw31 (congrArg some e_); have hpw31 := fun e_ => how31 (Eq.symm e_); clear hnw31; replace how31 := eq_false how31; replace hpw31 := eq_false hpw31))
      (try (have hnw32 := Kd.R_ne HO181.out BK183.out (by decide); change some gb183 ≠ some _ at hnw32; have how32 := fun (e_ : gb183 = _) => hnw32 (congrArg some e_); have hpw32 := fun e_ => how32 (Eq.symm e_); clear hnw32; replace how32 := eq_false how32; replace hpw32 := eq_false hpw32))
      have hcz30_0 : w13.cell? ⟨gb183, 0, none⟩ = some (.slice none 0 0) := (blk_cell BK183.out 0).trans rfl
      have hfz30_0 := blk_frozen BK183.out 0
      (try (have hnw34 := Kd.R_ne HO176.out BK178.out (by decide); change some gb178 ≠ some _ at hnw34; have how34 := fun (e_ : gb178 = _) => hnw34 (congrArg some e_); have hpw34 := fun e_ => how34 (Eq.symm e_); clear hnw34; replace how34 := eq_false how34; replace hpw34 := eq_false hpw34))
      (try (have hnw35 := Kd.R_ne HO181.out BK178.out (by decide); change some gb178 ≠ some _ at hnw35; have how35 := fun (e_ : gb178 = _) => hnw35 (congrArg some e_); have hpw35 := fun e_ => how35 (Eq.symm e_); clear hnw35; replace how35 := eq_false how35; replace hpw35 := eq_false hpw35))
      have hcz33_0 : w13.cell? ⟨gb178, 0, none⟩ = some (.slice Ao9 t174.length co9) := (blk_cell BK178.out 0).trans rfl
      have hfz33_0 := blk_frozen BK178.out 0
      go_wp2_with (first | ((with_reducible refine gate_callee (f := 9) rfl ?_); refine goesL_ (some 31) rfl rfl Try.func9 (by kernel_rfl) rfl #[.agg #[.slice Ao14 t179.length co14], .agg #[.slice Ao9 t174.length co9]] rfl (by (try simp only [List.map_toArray, List.map_cons, List.map_nil]); first | done | rfl | (simp only [List.length_drop, List.length_take]; rfl)) ?_; (with_reducible refine (laws_eqTable.calls k _ _ t179 _ _ t174 false _ ?side1 ?side2 ?side3 ?side4 A19.out).mono ?_); (case side1 => refine (Kd.R_reads' (e := 9) (base := w.heap.size) (ok := fun k_ => (True ∧ some k_ ≠ (.slice Ao9 t174.length co9 : Value).ownBlock)) (n := t179.length) (c := co14) ?_).2.2; exact (by (with_reducible repeat (first | apply Kd.R_alloc | apply Kd.R_drewN | apply Kd.R_drew)); exact (Kd.R_mono (Kd.R_far (p := ⟨gb183, 0, none⟩) (Kd.R_types HO181.out BK183.out (by decide)) (fun _ hk => hk.2) (.slice Ao14 t179.length co14)) (fun _ h_ => h_.1)))); (case side2 => exact (Kd.R_reads' HO181.out).2.1); (case side3 => refine (Kd.R_reads' (e := 9) (base := w.heap.size) (ok := fun k_ => (True ∧ some k_ ≠ (.slice Ao14 t179.length co14 : Value).ownBlock)) (n := t174.length) (c := co9) ?_).2.2; exact (by (with_reducible repeat (first | apply Kd.R_alloc | apply Kd.R_drewN | apply Kd.R_drew)); exact (Kd.R_mono (Kd.R_far (p := ⟨gb183, 0, none⟩) (Kd.R_types HO176.out BK183.out (by decide)) (fun _ hk => hk.2) (.slice Ao14 t179.length co14)) (fun _ h_ => h_.1)))); (case side4 => exact (Kd.R_reads' HO176.out).2.1); rintro e w36 ⟨rfl, hb⟩; refine ⟨_, rfl, ?_⟩; have n0_ := Aside0.mk (Kd.R_below (by (with_reducible repeat (first | apply Kd.R_alloc | apply Kd.R_drewN | apply Kd.R_drew)); exact (Kd.R_mono (Kd.R_far (p := ⟨gb183, 0, none⟩) (Kd.R_types HO176.out BK183.out (by decide)) (fun _ hk => hk.2) (.slice Ao14 t179.length co14)) (fun _ h_ => h_.1))) hb); have n1_ := Aside0.mk (Kd.R_below (by (with_reducible repeat (first | apply Kd.R_alloc | apply Kd.R_drewN | apply Kd.R_drew)); exact (Kd.R_mono (Kd.R_far (p := ⟨gb183, 0, none⟩) (Kd.R_types HO181.out BK183.out (by decide)) (fun _ hk => hk.2) (.slice Ao14 t179.length co14)) (fun _ h_ => h_.1))) hb); have n2_ := Aside0.mk (blk_below (g := gb178) (o := .cells #[.slice Ao9 t174.length co9] 24 (0, 0)) (by (with_reducible repeat (first | refine blk_drewN ?_ _ | refine blk_drew ?_ | refine blk_alloc ?_ _)); refine blk_far ?_ NB178_183.out _; (with_reducible repeat (first | refine blk_drewN ?_ _ | refine blk_drew ?_ | refine blk_alloc ?_ _)); exact BK178.out) hb); have n3_ := Aside0.mk (blk_below (g := gb183) (o := .cells #[.slice Ao14 t179.length co14] 24 (0, 0)) (by (with_reducible repeat (first | refine blk_drewN ?_ _ | refine blk_drew ?_ | refine blk_alloc ?_ _)); refine blk_put (cs := #[.slice none 0 0]) ?_ 0 _ rfl; (with_reducible repeat (first | refine blk_drewN ?_ _ | refine blk_drew ?_ | refine blk_alloc ?_ _)); exact BK183.out) hb); have n4_ := Aside0.mk (below_step (by repeat (first | (with_reducible first | exact HB.out | apply below_alloc | apply pw_below_drewN | apply below_drew1 | refine below_set ?_ GE178.out | refine below_set ?_ GE183.out) | exact HB.out)) hb); clear HO176; clear HO181; clear BK178; clear BK183; clear HB; have HO176 := n0_; have HO181 := n1_; have BK178 := n2_; have BK183 := n3_; have HB := n4_; clear n0_ n1_ n2_ n3_ n4_; (try clear hb); (try clear hb2); (try clear hk); (try clear hi)))
      go_meet
      case rel => exact ⟨_, (true), (by first | rfl | (simp; done) | (simp [*]; done)), H', ⟨by first | omega | exact Nat.le_refl _⟩, ⟨by (with_reducible repeat (first | apply Kd.R_alloc | apply Kd.R_drewN | apply Kd.R_drew)); exact Kd.R_mono HO176.out (fun _ hk => hk.2)⟩, ⟨by (with_reducible repeat (first | apply Kd.R_alloc | apply Kd.R_drewN | apply Kd.R_drew)); exact Kd.R_mono HO181.out (fun _ hk => hk.2)⟩, ⟨by (with_reducible repeat (first | refine blk_drewN ?_ _ | refine blk_drew ?_ | refine blk_alloc ?_ _)); exact BK178.out⟩, ⟨by (with_reducible repeat (first | refine blk_drewN ?_ _ | refine blk_drew ?_ | refine blk_alloc ?_ _)); exact BK183.out⟩, ⟨by repeat (first | (with_reducible first | exact HB.out | apply below_alloc | apply pw_below_drewN | apply below_drew1 | refine below_set ?_ GE178.out | refine below_set ?_ GE183.out) | exact HB.out)⟩⟩
  case rest =>
    clear HC6
    try clear c1
    try clear c2
    try clear p2
    try clear c3
    try clear c7
    try clear c8
    try clear c9
    try clear c15
    try clear c20
    try clear c21
    try clear c29
    try clear hcz10_0
    try clear hcz16_0
    try clear hcz22_0
    try clear hcz25_0
    try clear hcz30_0
    try clear hcz33_0
    try clear hfz10_0
    try clear hfz16_0
    try clear hfz22_0
    try clear hfz25_0
    try clear hfz30_0
    try clear hfz33_0
    obtain ⟨kq, x37_5, rfl, HA, HJ5, HO_179000, HO_184000, BK178, BK183, HB⟩ := hcut
    cases kq with
    | zero => exact absurd HA.out (by simp [laws_FnExactTableAt.j0])
    | succ kj5 =>
      have H := HA.out
      clear HA
      simp only [laws_FnExactTableAt.j0] at H
      by_cases c37 : x37_5 = true
      · subst c37
        have H1 : (some false) = some r := by rw [if_pos rfl] at H; first | exact H | (simp only [if_true, eq_self] at H ⊢; exact H)
        clear H
        have H := H1
        clear H1
        obtain rfl := Option.some.inj H
        go_wp2
        go_ret
        exact ⟨by first | rfl | (simp [errW_none, errW_some] <;> rfl) | (simp [*, errW_none, errW_some] <;> rfl), by repeat (first | (with_reducible first | exact HB.out | apply below_alloc | apply pw_below_drewN | apply below_drew1 | refine below_set ?_ GE178.out | refine below_set ?_ GE183.out) | exact HB.out)⟩
      · replace c37 := Bool.eq_false_iff.mpr c37
        subst c37
        have H1 : ((laws_markTable.f kj5 t179 1).bind fun bt185 => ((laws_heldTable.f kj5 bt185.2 1).bind fun t187 => (if t187 < 0 then (some false) else (if t187 = bt185.1 then ((impl_TableAt.f kj5 a0 a1 a2).bind fun bt188 => ((laws_eqTable.f kj5 bt188.1 t174).bind fun t193 => (if t193 = true then (laws_FnExactTableAt.j1 kj5 bt185.1 (bt188.2 != t177) bt185.2) else (laws_FnExactTableAt.j1 kj5 bt185.1 true bt185.2)))) else (some false))))) = some r := by rw [if_neg (show ¬ (false = true) by decide)] at H; first | exact H | (simp only [if_true, eq_self] at H ⊢; exact H)
        clear H
        have H := H1
        clear H1
        replace H := Option.bind_eq_some_iff.mp H
        obtain ⟨⟨t185, t186⟩, A380, H⟩ := H
        replace H : ((laws_heldTable.f kj5 t186 1).bind fun t187 => (if t187 < 0 then (some false) else (if t187 = t185 then ((impl_TableAt.f kj5 a0 a1 a2).bind fun bt188 => ((laws_eqTable.f kj5 bt188.1 t174).bind fun t193 => (if t193 = true then (laws_FnExactTableAt.j1 kj5 t185 (bt188.2 != t177) t186) else (laws_FnExactTableAt.j1 kj5 t185 true t186)))) else (some false)))) = some r := H
        have A38 := Aside0.mk A380
        clear A380
        replace H := Option.bind_eq_some_iff.mp H
        obtain ⟨t187, A390, H⟩ := H
        replace H : (if t187 < 0 then (some false) else (if t187 = t185 then ((impl_TableAt.f kj5 a0 a1 a2).bind fun bt188 => ((laws_eqTable.f kj5 bt188.1 t174).bind fun t193 => (if t193 = true then (laws_FnExactTableAt.j1 kj5 t185 (bt188.2 != t177) t186) else (laws_FnExactTableAt.j1 kj5 t185 true t186)))) else (some false))) = some r := H
        have A39 := Aside0.mk A390
        clear A390
        by_cases c40 : t187 < 0
        · rw [if_pos c40] at H
          have c40b0 : decide (t187 < 0) = true := decide_eq_true c40
          clear c40
          obtain rfl := Option.some.inj H
          have hnb41 := NB183_178.out
          have hnc41 := NB178_183.out
          (try (have hnw43 := Kd.R_ne HO_179000.out BK183.out (by decide); change some gb183 ≠ some _ at hnw43; have how43 := fun (e_ : gb183 = _) => hnw43 (congrArg some e_); have hpw43 := fun e_ => how43 (Eq.symm e_); clear hnw43; replace how43 := eq_false how43; replace hpw43 := eq_false hpw43))
          (try (have hnw44 := Kd.R_ne HO_184000.out BK183.out (by decide); change some gb183 ≠ some _ at hnw44; have how44 := fun (e_ : gb183 = _) => hnw44 (congrArg some e_); have hpw44 := fun e_ => how44 (Eq.symm e_); clear hnw44; replace how44 := eq_false how44; replace hpw44 := eq_false hpw44))
          have hcz42_0 : wc.cell? ⟨gb183, 0, none⟩ = some (.slice Ao14 t179.length co14) := (blk_cell BK183.out 0).trans rfl
          have hfz42_0 := blk_frozen BK183.out 0
          go_wp2_with (first | ((with_reducible refine gate_callee (f := 10) rfl ?_); refine goesL_ (some 40) rfl rfl Try.func10 (by kernel_rfl) rfl #[.agg #[.slice Ao14 t179.length co14], .int .i64 1] rfl (by (try simp only [List.map_toArray, List.map_cons, List.map_nil]); first | done | rfl | (simp only [List.length_drop, List.length_take]; rfl)) ?_; (with_reducible refine (laws_markTable.calls kj5 (fun k_ => some k_ = (.slice Ao14 t179.length co14 : Value).ownBlock) (.slice Ao14 t179.length co14) t179 1 t185 t186 w _ ?side1 ?side2 A38.out).mono ?_); (case side1 => repeat (first | (with_reducible first | exact HB.out | apply below_alloc | apply pw_below_drewN | apply below_drew1 | refine below_set ?_ GE178.out | refine below_set ?_ GE183.out) | exact HB.out)); (case side2 => exact Kd.R_tight rfl HO_184000.out); rintro e w45 ⟨rfl, hy0, hb, hkp⟩; refine ⟨_, rfl, ?_⟩; have n0_ := Aside0.mk (Kd.R_mono (ok' := fun k_ => some k_ ≠ (.slice Ao14 t179.length co14 : Value).ownBlock) (Kd.R_keptB (HO_179000.out) hkp (fun k_ hk_ hs_ => (hk_) hs_)) (fun k_ hk_ => hk_.1)); have n1_ := Aside0.mk (Kd.R_reok rfl hy0 (fun k_ e_ => HO_184000.out.1 k_ e_)); have n2_ := Aside0.mk (blk_kept (by (with_reducible repeat (first | refine blk_drewN ?_ _ | refine blk_drew ?_ | refine blk_alloc ?_ _)); exact BK178.out) hkp (fun hs_ => (fun e_ => (Kd.R_ne HO_184000.out BK178.out (by decide)) e_) hs_)); have n3_ := Aside0.mk (blk_kept (by (with_reducible repeat (first | refine blk_drewN ?_ _ | refine blk_drew ?_ | refine blk_alloc ?_ _)); exact BK183.out) hkp (fun hs_ => (fun e_ => (Kd.R_ne HO_184000.out BK183.out (by decide)) e_) hs_)); have n4_ := Aside0.mk (hb); clear HO_179000; clear HO_184000; clear BK178; clear BK183; clear HB; have HO_179000 := n0_; have HO_184000 := n1_; have BK178 := n2_; have BK183 := n3_; have HB := n4_; clear n0_ n1_ n2_ n3_ n4_; (try clear hb); (try clear hkp); (try clear hy0); (try (have hnw47 := Kd.R_ne HO_179000.out BK183.out (by decide); change some gb183 ≠ some _ at hnw47; have how47 := fun (e_ : gb183 = _) => hnw47 (congrArg some e_); have hpw47 := fun e_ => how47 (Eq.symm e_); clear hnw47; replace how47 := eq_false how47; replace hpw47 := eq_false hpw47)); (try (have hnw48 := Kd.R_ne HO_184000.out BK183.out (by decide); change some gb183 ≠ some _ at hnw48; have how48 := fun (e_ : gb183 = _) => hnw48 (congrArg some e_); have hpw48 := fun e_ => how48 (Eq.symm e_); clear hnw48; replace how48 := eq_false how48; replace hpw48 := eq_false hpw48)); have hcz46_0 : w45.cell? ⟨gb183, 0, none⟩ = some (.slice Ao14 t179.length co14) := (blk_cell BK183.out 0).trans rfl; have hfz46_0 := blk_frozen BK183.out 0) | ((with_reducible refine gate_callee (f := 11) rfl ?_); refine goesL_ (some 43) rfl rfl Try.func11 (by kernel_rfl) rfl #[.agg #[.slice Ao14 t186.length co14], .int .i64 1] rfl (by (try simp only [List.map_toArray, List.map_cons, List.map_nil]); first | done | (rw [show t186.length = t179.length from (Kd.R_reads' HO_184000.out).1.symm] <;> rfl) | rfl | (simp only [List.length_drop, List.length_take]; rfl)) ?_; (with_reducible refine (laws_heldTable.calls kj5 _ _ t186 1 t187 _ ?side1 ?side2 A39.out).mono ?_); (case side1 => repeat (first | exact (Kd.R_reads' HO_184000.out).2.2 | (with_reducible refine Kd.C_alloc ?_ _) | (with_reducible refine Kd.C_drewN ?_ _) | (with_reducible refine Kd.C_drew ?_))); (case side2 => rw [show t186.length = t179.length from (Kd.R_reads' HO_184000.out).1.symm]; exact (Kd.R_reads' HO_184000.out).2.1); rintro e w49 ⟨rfl, hb⟩; refine ⟨_, rfl, ?_⟩; have n0_ := Aside0.mk (Kd.R_below (by (with_reducible repeat (first | apply Kd.R_alloc | apply Kd.R_drewN | apply Kd.R_drew)); exact HO_179000.out) hb); have n1_ := Aside0.mk (Kd.R_below (by (with_reducible repeat (first | apply Kd.R_alloc | apply Kd.R_drewN | apply Kd.R_drew)); exact HO_184000.out) hb); have n2_ := Aside0.mk (blk_below (g := gb178) (o := .cells #[.slice Ao9 t174.length co9] 24 (0, 0)) (by (with_reducible repeat (first | refine blk_drewN ?_ _ | refine blk_drew ?_ | refine blk_alloc ?_ _)); exact BK178.out) hb); have n3_ := Aside0.mk (blk_below (g := gb183) (o := .cells #[.slice Ao14 t179.length co14] 24 (0, 0)) (by (with_reducible repeat (first | refine blk_drewN ?_ _ | refine blk_drew ?_ | refine blk_alloc ?_ _)); exact BK183.out) hb); have n4_ := Aside0.mk (below_step (by repeat (first | (with_reducible first | exact HB.out | apply below_alloc | apply pw_below_drewN | apply below_drew1 | refine below_set ?_ GE178.out | refine below_set ?_ GE183.out) | exact HB.out)) hb); clear HO_179000; clear HO_184000; clear BK178; clear BK183; clear HB; have HO_179000 := n0_; have HO_184000 := n1_; have BK178 := n2_; have BK183 := n3_; have HB := n4_; clear n0_ n1_ n2_ n3_ n4_; (try clear hb); (try clear hb2); (try clear hk); (try clear hi)))
          go_ret
          exact ⟨by first | rfl | (simp [errW_none, errW_some] <;> rfl) | (simp [*, errW_none, errW_some] <;> rfl), by repeat (first | (with_reducible first | exact HB.out | apply below_alloc | apply pw_below_drewN | apply below_drew1 | refine below_set ?_ GE178.out | refine below_set ?_ GE183.out) | exact HB.out)⟩
        · rw [if_neg c40] at H
          have c40b0 : decide (t187 < 0) = false := decide_eq_false c40
          clear c40
          by_cases c50 : t187 = t185
          · rw [if_pos c50] at H
            have c50b0 : (t187 == t185) = true := beq_iff_eq.mpr c50
            have c50b1 : (t187 != t185) = false := bne_eq_false_iff_eq.mpr c50
            clear c50
            replace H := Option.bind_eq_some_iff.mp H
            obtain ⟨⟨t188, t191⟩, A510, H⟩ := H
            replace H : ((laws_eqTable.f kj5 t188 t174).bind fun t193 => (if t193 = true then (laws_FnExactTableAt.j1 kj5 t185 (t191 != t177) t186) else (laws_FnExactTableAt.j1 kj5 t185 true t186))) = some r := H
            have A51 := Aside0.mk A510
            clear A510
            have HC52 := Aside0.mk H
            clear H
            have hnb53 := NB183_178.out
            have hnc53 := NB178_183.out
            (try (have hnw55 := Kd.R_ne HO_179000.out BK183.out (by decide); change some gb183 ≠ some _ at hnw55; have how55 := fun (e_ : gb183 = _) => hnw55 (congrArg some e_); have hpw55 := fun e_ => how55 (Eq.symm e_); clear hnw55; replace how55 := eq_false how55; replace hpw55 := eq_false hpw55))
            (try (have hnw56 := Kd.R_ne HO_184000.out BK183.out (by decide); change some gb183 ≠ some _ at hnw56; have how56 := fun (e_ : gb183 = _) => hnw56 (congrArg some e_); have hpw56 := fun e_ => how56 (Eq.symm e_); clear hnw56; replace how56 := eq_false how56; replace hpw56 := eq_false hpw56))
            have hcz54_0 : wc.cell? ⟨gb183, 0, none⟩ = some (.slice Ao14 t179.length co14) := (blk_cell BK183.out 0).trans rfl
            have hfz54_0 := blk_frozen BK183.out 0
            go_upto_region 14 with (first | ((with_reducible refine gate_callee (f := 10) rfl ?_); refine goesL_ (some 40) rfl rfl Try.func10 (by kernel_rfl) rfl #[.agg #[.slice Ao14 t179.length co14], .int .i64 1] rfl (by (try simp only [List.map_toArray, List.map_cons, List.map_nil]); first | done | rfl | (simp only [List.length_drop, List.length_take]; rfl)) ?_; (with_reducible refine (laws_markTable.calls kj5 (fun k_ => some k_ = (.slice Ao14 t179.length co14 : Value).ownBlock) (.slice Ao14 t179.length co14) t179 1 t185 t186 w _ ?side1 ?side2 A38.out).mono ?_); (case side1 => repeat (first | (with_reducible first | exact HB.out | apply below_alloc | apply pw_below_drewN | apply below_drew1 | refine below_set ?_ GE178.out | refine below_set ?_ GE183.out) | exact HB.out)); (case side2 => exact Kd.R_tight rfl HO_184000.out); rintro e w57 ⟨rfl, hy0, hb, hkp⟩; refine ⟨_, rfl, ?_⟩; have n0_ := Aside0.mk (Kd.R_mono (ok' := fun k_ => some k_ ≠ (.slice Ao14 t179.length co14 : Value).ownBlock) (Kd.R_keptB (HO_179000.out) hkp (fun k_ hk_ hs_ => (hk_) hs_)) (fun k_ hk_ => hk_.1)); have n1_ := Aside0.mk (Kd.R_reok rfl hy0 (fun k_ e_ => HO_184000.out.1 k_ e_)); have n2_ := Aside0.mk (blk_kept (by (with_reducible repeat (first | refine blk_drewN ?_ _ | refine blk_drew ?_ | refine blk_alloc ?_ _)); exact BK178.out) hkp (fun hs_ => (fun e_ => (Kd.R_ne HO_184000.out BK178.out (by decide)) e_) hs_)); have n3_ := Aside0.mk (blk_kept (by (with_reducible repeat (first | refine blk_drewN ?_ _ | refine blk_drew ?_ | refine blk_alloc ?_ _)); exact BK183.out) hkp (fun hs_ => (fun e_ => (Kd.R_ne HO_184000.out BK183.out (by decide)) e_) hs_)); have n4_ := Aside0.mk (hb); clear HO_179000; clear HO_184000; clear BK178; clear BK183; clear HB; have HO_179000 := n0_; have HO_184000 := n1_; have BK178 := n2_; have BK183 := n3_; have HB := n4_; clear n0_ n1_ n2_ n3_ n4_; (try clear hb); (try clear hkp); (try clear hy0); (try (have hnw59 := Kd.R_ne HO_179000.out BK183.out (by decide); change some gb183 ≠ some _ at hnw59; have how59 := fun (e_ : gb183 = _) => hnw59 (congrArg some e_); have hpw59 := fun e_ => how59 (Eq.symm e_); clear hnw59; replace how59 := eq_false how59; replace hpw59 := eq_false hpw59)); (try (have hnw60 := Kd.R_ne HO_184000.out BK183.out (by decide); change some gb183 ≠ some _ at hnw60; have how60 := fun (e_ : gb183 = _) => hnw60 (congrArg some e_); have hpw60 := fun e_ => how60 (Eq.symm e_); clear hnw60; replace how60 := eq_false how60; replace hpw60 := eq_false hpw60)); have hcz58_0 : w57.cell? ⟨gb183, 0, none⟩ = some (.slice Ao14 t179.length co14) := (blk_cell BK183.out 0).trans rfl; have hfz58_0 := blk_frozen BK183.out 0) | ((with_reducible refine gate_callee (f := 11) rfl ?_); refine goesL_ (some 43) rfl rfl Try.func11 (by kernel_rfl) rfl #[.agg #[.slice Ao14 t186.length co14], .int .i64 1] rfl (by (try simp only [List.map_toArray, List.map_cons, List.map_nil]); first | done | (rw [show t186.length = t179.length from (Kd.R_reads' HO_184000.out).1.symm] <;> rfl) | rfl | (simp only [List.length_drop, List.length_take]; rfl)) ?_; (with_reducible refine (laws_heldTable.calls kj5 _ _ t186 1 t187 _ ?side1 ?side2 A39.out).mono ?_); (case side1 => repeat (first | exact (Kd.R_reads' HO_184000.out).2.2 | (with_reducible refine Kd.C_alloc ?_ _) | (with_reducible refine Kd.C_drewN ?_ _) | (with_reducible refine Kd.C_drew ?_))); (case side2 => rw [show t186.length = t179.length from (Kd.R_reads' HO_184000.out).1.symm]; exact (Kd.R_reads' HO_184000.out).2.1); rintro e w61 ⟨rfl, hb⟩; refine ⟨_, rfl, ?_⟩; have n0_ := Aside0.mk (Kd.R_below (by (with_reducible repeat (first | apply Kd.R_alloc | apply Kd.R_drewN | apply Kd.R_drew)); exact HO_179000.out) hb); have n1_ := Aside0.mk (Kd.R_below (by (with_reducible repeat (first | apply Kd.R_alloc | apply Kd.R_drewN | apply Kd.R_drew)); exact HO_184000.out) hb); have n2_ := Aside0.mk (blk_below (g := gb178) (o := .cells #[.slice Ao9 t174.length co9] 24 (0, 0)) (by (with_reducible repeat (first | refine blk_drewN ?_ _ | refine blk_drew ?_ | refine blk_alloc ?_ _)); exact BK178.out) hb); have n3_ := Aside0.mk (blk_below (g := gb183) (o := .cells #[.slice Ao14 t179.length co14] 24 (0, 0)) (by (with_reducible repeat (first | refine blk_drewN ?_ _ | refine blk_drew ?_ | refine blk_alloc ?_ _)); exact BK183.out) hb); have n4_ := Aside0.mk (below_step (by repeat (first | (with_reducible first | exact HB.out | apply below_alloc | apply pw_below_drewN | apply below_drew1 | refine below_set ?_ GE178.out | refine below_set ?_ GE183.out) | exact HB.out)) hb); clear HO_179000; clear HO_184000; clear BK178; clear BK183; clear HB; have HO_179000 := n0_; have HO_184000 := n1_; have BK178 := n2_; have BK183 := n3_; have HB := n4_; clear n0_ n1_ n2_ n3_ n4_; (try clear hb); (try clear hb2); (try clear hk); (try clear hi)) | ((with_reducible refine gate_callee (f := 8) rfl ?_); refine goesL_ (some 53) rfl rfl Try.func8 (by kernel_rfl) rfl #[.int .i64 a0, .int .i64 a1, .int .i64 a2] rfl (by (try simp only [List.map_toArray, List.map_cons, List.map_nil]); first | done | rfl | (simp only [List.length_drop, List.length_take]; rfl)) ?_; (with_reducible refine (impl_TableAt.calls kj5 a0 a1 a2 t188 t191 _ A51.out).mono ?_); rintro e w62 ⟨v189, rfl, ho0, hb⟩; refine ⟨_, rfl, ?_⟩; have n0_ := Aside0.mk (Kd.R_elder' (by (with_reducible repeat (first | apply Kd.R_alloc | apply Kd.R_drewN | apply Kd.R_drew)); exact HO_179000.out) (Kd.R_base ho0) hb); have n1_ := Aside0.mk (Kd.R_elder' (by (with_reducible repeat (first | apply Kd.R_alloc | apply Kd.R_drewN | apply Kd.R_drew)); exact HO_184000.out) (Kd.R_base ho0) hb); have n2_ := Aside0.mk (Kd.R_lower (Kd.R_new' (Kd.R_new' ho0 (Kd.R_lt (by (with_reducible repeat (first | apply Kd.R_alloc | apply Kd.R_drewN | apply Kd.R_drew)); exact HO_179000.out))) (Kd.R_lt (by (with_reducible repeat (first | apply Kd.R_alloc | apply Kd.R_drewN | apply Kd.R_drew)); exact HO_184000.out))) (below_size (by repeat (first | (with_reducible first | exact HB.out | apply below_alloc | apply pw_below_drewN | apply below_drew1 | refine below_set ?_ GE178.out | refine below_set ?_ GE183.out) | exact HB.out)))); have n3_ := Aside0.mk (blk_below (g := gb178) (o := .cells #[.slice Ao9 t174.length co9] 24 (0, 0)) (by (with_reducible repeat (first | refine blk_drewN ?_ _ | refine blk_drew ?_ | refine blk_alloc ?_ _)); exact BK178.out) hb); have n4_ := Aside0.mk (blk_below (g := gb183) (o := .cells #[.slice Ao14 t179.length co14] 24 (0, 0)) (by (with_reducible repeat (first | refine blk_drewN ?_ _ | refine blk_drew ?_ | refine blk_alloc ?_ _)); exact BK183.out) hb); have n5_ := Aside0.mk (below_step (by repeat (first | (with_reducible first | exact HB.out | apply below_alloc | apply pw_below_drewN | apply below_drew1 | refine below_set ?_ GE178.out | refine below_set ?_ GE183.out) | exact HB.out)) hb); clear HO_179000; clear HO_184000; clear BK178; clear BK183; clear HB; have HO_179000 := n0_; have HO_184000 := n1_; have HO190 := n2_; have BK178 := n3_; have BK183 := n4_; have HB := n5_; clear n0_ n1_ n2_ n3_ n4_ n5_; (try clear hb); (try clear hb2); (try clear hk); (try clear hi); (try clear ho0)) | ((with_reducible refine gate_dst (N := 13) rfl ?_); refine box_event ?hg (N := 13) ?hd (cs := #[.slice none 0 0]) (t := 24) ?hr ?_; (case hd => rfl); (case hg => rfl); (case hr => first | (go_simp; done) | (go_simp; rfl)); intro gb192 hg w63 hbox hb; have n0_ := Aside0.mk (Kd.R_below (by (with_reducible repeat (first | apply Kd.R_alloc | apply Kd.R_drewN | apply Kd.R_drew)); exact HO_179000.out) hb); have n1_ := Aside0.mk (Kd.R_below (by (with_reducible repeat (first | apply Kd.R_alloc | apply Kd.R_drewN | apply Kd.R_drew)); exact HO_184000.out) hb); have n2_ := Aside0.mk (Kd.R_below (by (with_reducible repeat (first | apply Kd.R_alloc | apply Kd.R_drewN | apply Kd.R_drew)); exact HO190.out) hb); have n3_ := Aside0.mk (blk_below (g := gb178) (o := .cells #[.slice Ao9 t174.length co9] 24 (0, 0)) (by (with_reducible repeat (first | refine blk_drewN ?_ _ | refine blk_drew ?_ | refine blk_alloc ?_ _)); exact BK178.out) hb); have n4_ := Aside0.mk (blk_below (g := gb183) (o := .cells #[.slice Ao14 t179.length co14] 24 (0, 0)) (by (with_reducible repeat (first | refine blk_drewN ?_ _ | refine blk_drew ?_ | refine blk_alloc ?_ _)); exact BK183.out) hb); have n5_ := Aside0.mk (below_step (by repeat (first | (with_reducible first | exact HB.out | apply below_alloc | apply pw_below_drewN | apply below_drew1 | refine below_set ?_ GE178.out | refine below_set ?_ GE183.out) | exact HB.out)) hb); have n6_ := Aside0.mk (hbox); have n7_ := Aside0.mk ((by rw [hg]; exact (below_size (by repeat (first | (with_reducible first | exact HB.out | apply below_alloc | apply pw_below_drewN | apply below_drew1 | refine below_set ?_ GE178.out | refine below_set ?_ GE183.out) | exact HB.out))) : w.heap.size ≤ gb192)); have n8_ := Aside0.mk ((by rw [hg]; exact (below_size (by repeat (first | (with_reducible first | exact HB.out | apply below_alloc | apply pw_below_drewN | apply below_drew1 | refine below_set ?_ GE178.out | refine below_set ?_ GE183.out) | exact HB.out))) : w.heap.size ≤ gb192)); have n9_ := Aside0.mk ((by rw [hg]; exact Nat.ne_of_lt (blk_lt (g := gb178) (o := .cells #[.slice Ao9 t174.length co9] 24 (0, 0)) (by (with_reducible repeat (first | refine blk_drewN ?_ _ | refine blk_drew ?_ | refine blk_alloc ?_ _)); exact BK178.out)) : gb178 ≠ gb192)); have n10_ := Aside0.mk ((by rw [hg]; exact Nat.ne_of_gt (blk_lt (g := gb178) (o := .cells #[.slice Ao9 t174.length co9] 24 (0, 0)) (by (with_reducible repeat (first | refine blk_drewN ?_ _ | refine blk_drew ?_ | refine blk_alloc ?_ _)); exact BK178.out)) : gb192 ≠ gb178)); have n11_ := Aside0.mk ((by rw [hg]; exact Nat.ne_of_lt (blk_lt (g := gb183) (o := .cells #[.slice Ao14 t179.length co14] 24 (0, 0)) (by (with_reducible repeat (first | refine blk_drewN ?_ _ | refine blk_drew ?_ | refine blk_alloc ?_ _)); exact BK183.out)) : gb183 ≠ gb192)); have n12_ := Aside0.mk ((by rw [hg]; exact Nat.ne_of_gt (blk_lt (g := gb183) (o := .cells #[.slice Ao14 t179.length co14] 24 (0, 0)) (by (with_reducible repeat (first | refine blk_drewN ?_ _ | refine blk_drew ?_ | refine blk_alloc ?_ _)); exact BK183.out)) : gb192 ≠ gb183)); clear HO_179000; clear HO_184000; clear HO190; clear BK178; clear BK183; clear HB; have HO_179000 := n0_; have HO_184000 := n1_; have HO190 := n2_; have BK178 := n3_; have BK183 := n4_; have HB := n5_; have BK192 := n6_; have GW192 := n7_; have GE192 := n8_; have NB178_192 := n9_; have NB192_178 := n10_; have NB183_192 := n11_; have NB192_183 := n12_; clear n0_ n1_ n2_ n3_ n4_ n5_ n6_ n7_ n8_ n9_ n10_ n11_ n12_; clear hb hbox hg; obtain ⟨Ao64, co64, eo64⟩ := Kd.R_slice HO190.out; subst eo64; have hnb65 := NB192_178.out; have hnc65 := NB178_192.out; have hnb66 := NB192_183.out; have hnc66 := NB183_192.out; (try (have hnw68 := Kd.R_ne HO_179000.out BK192.out (by decide); change some gb192 ≠ some _ at hnw68; have how68 := fun (e_ : gb192 = _) => hnw68 (congrArg some e_); have hpw68 := fun e_ => how68 (Eq.symm e_); clear hnw68; replace how68 := eq_false how68; replace hpw68 := eq_false hpw68)); (try (have hnw69 := Kd.R_ne HO_184000.out BK192.out (by decide); change some gb192 ≠ some _ at hnw69; have how69 := fun (e_ : gb192 = _) => hnw69 (congrArg some e_); have hpw69 := fun e_ => how69 (Eq.symm e_); clear hnw69; replace how69 := eq_false how69; replace hpw69 := eq_false hpw69)); (try (have hnw70 := Kd.R_ne HO190.out BK192.out (by decide); change some gb192 ≠ some _ at hnw70; have how70 := fun (e_ : gb192 = _) => hnw70 (congrArg some e_); have hpw70 := fun e_ => how70 (Eq.symm e_); clear hnw70; replace how70 := eq_false how70; replace hpw70 := eq_false hpw70)); have hcz67_0 : w63.cell? ⟨gb192, 0, none⟩ = some (.slice none 0 0) := (blk_cell BK192.out 0).trans rfl; have hfz67_0 := blk_frozen BK192.out 0))
            (try simp only [Act.put, List.setIfInBounds_toArray, List.set_cons_zero, List.set_cons_succ])
            go_cut [64] (fun v64 wc => ∃ (kq : Nat) (x64_51 : Bool), v64 = .bool x64_51 ∧ Aside0 (laws_FnExactTableAt.j1 kq t185 x64_51 t186 = some r) ∧ Aside0 (kq ≤ kj5) ∧ Aside0 (Kd.R Kd.string 9 wc w.heap.size (fun k_ => some k_ ≠ ((.slice Ao14 t179.length co14) : Value).ownBlock ∧ some k_ ≠ ((.slice Ao64 t188.length co64) : Value).ownBlock) (.slice Ao9 t174.length co9) t174) ∧ Aside0 (Kd.R Kd.string 9 wc w.heap.size (fun k_ => some k_ ≠ ((.slice Ao9 t174.length co9) : Value).ownBlock ∧ some k_ ≠ ((.slice Ao64 t188.length co64) : Value).ownBlock) (.slice Ao14 t179.length co14) t186) ∧ Aside0 (Kd.R Kd.string 9 wc w.heap.size (fun k_ => some k_ ≠ ((.slice Ao9 t174.length co9) : Value).ownBlock ∧ some k_ ≠ ((.slice Ao14 t179.length co14) : Value).ownBlock) (.slice Ao64 t188.length co64) t188) ∧ Aside0 (wc.heap[gb178]? = some (.cells #[(.slice Ao9 t174.length co9)] 24 (0, 0))) ∧ Aside0 (wc.heap[gb183]? = some (.cells #[(.slice Ao14 t179.length co14)] 24 (0, 0))) ∧ Aside0 (wc.heap[gb192]? = some (.cells #[(.slice Ao64 t188.length co64)] 24 (0, 0))) ∧ Aside0 (Below w.heap.size w wc))
            case first =>
              have H := HC52.out
              clear HC52
              replace H := Option.bind_eq_some_iff.mp H
              obtain ⟨t193, A710, H⟩ := H
              replace H : (if t193 = true then (laws_FnExactTableAt.j1 kj5 t185 (t191 != t177) t186) else (laws_FnExactTableAt.j1 kj5 t185 true t186)) = some r := H
              have A71 := Aside0.mk A710
              clear A710
              by_cases c72 : t193 = true
              · subst c72
                have H1 : (laws_FnExactTableAt.j1 kj5 t185 (t191 != t177) t186) = some r := by rw [if_pos rfl] at H; first | exact H | (simp only [if_true, eq_self] at H ⊢; exact H)
                clear H
                have H := H1
                clear H1
                have H' := Aside0.mk H
                clear H
                have hnb73 := NB192_178.out
                have hnc73 := NB178_192.out
                have hnb74 := NB192_183.out
                have hnc74 := NB183_192.out
                (try (have hnw76 := Kd.R_ne HO_179000.out BK192.out (by decide); change some gb192 ≠ some _ at hnw76; have how76 := fun (e_ : gb192 = _) => hnw76 (congrArg some e_); have hpw76 := fun e_ => how76 (Eq.symm e_); clear hnw76; replace how76 := eq_false how76; replace hpw76 := eq_false hpw76))
                (try (have hnw77 := Kd.R_ne HO_184000.out BK192.out (by decide); change some gb192 ≠ some _ at hnw77; have how77 := fun (e_ : gb192 = _) => hnw77 (congrArg some e_); have hpw77 := fun e_ => how77 (Eq.symm e_); clear hnw77; replace how77 := eq_false how77; replace hpw77 := eq_false hpw77))
                (try (have hnw78 := Kd.R_ne HO190.out BK192.out (by decide); change some gb192 ≠ some _ at hnw78; have how78 := fun (e_ : gb192 = _) => hnw78 (congrArg some e_); have hpw78 := fun e_ => how78 (Eq.symm e_); clear hnw78; replace how78 := eq_false how78; replace hpw78 := eq_false hpw78))
                have hcz75_0 : w63.cell? ⟨gb192, 0, none⟩ = some (.slice none 0 0) := (blk_cell BK192.out 0).trans rfl
                have hfz75_0 := blk_frozen BK192.out 0
                have hnb79 := NB178_183.out
                have hnc79 := NB183_178.out
                (try (have hnw81 := Kd.R_ne HO_179000.out BK178.out (by decide); change some gb178 ≠ some _ at hnw81; have how81 := fun (e_ : gb178 = _) => hnw81 (congrArg some e_); have hpw81 := fun e_ => how81 (Eq.symm e_); clear hnw81; replace how81 := eq_false how81; replace hpw81 := eq_false hpw81))
                (try (have hnw82 := Kd.R_ne HO_184000.out BK178.out (by decide); change some gb178 ≠ some _ at hnw82; have how82 := fun (e_ : gb178 = _) => hnw82 (congrArg some e_); have hpw82 := fun e_ => how82 (Eq.symm e_); clear hnw82; replace how82 := eq_false how82; replace hpw82 := eq_false hpw82))
                (try (have hnw83 := Kd.R_ne HO190.out BK178.out (by decide); change some gb178 ≠ some _ at hnw83; have how83 := fun (e_ : gb178 = _) => hnw83 (congrArg some e_); have hpw83 := fun e_ => how83 (Eq.symm e_); clear hnw83; replace how83 := eq_false how83; replace hpw83 := eq_false hpw83))
                have hcz80_0 : w63.cell? ⟨gb178, 0, none⟩ = some (.slice Ao9 t174.length co9) := (blk_cell BK178.out 0).trans rfl
                have hfz80_0 := blk_frozen BK178.out 0
                go_wp2_with (first | ((with_reducible refine gate_callee (f := 9) rfl ?_); refine goesL_ (some 58) rfl rfl Try.func9 (by kernel_rfl) rfl #[.agg #[.slice Ao64 t188.length co64], .agg #[.slice Ao9 t174.length co9]] rfl (by (try simp only [List.map_toArray, List.map_cons, List.map_nil]); first | done | rfl | (simp only [List.length_drop, List.length_take]; rfl)) ?_; (with_reducible refine (laws_eqTable.calls kj5 _ _ t188 _ _ t174 true _ ?side1 ?side2 ?side3 ?side4 A71.out).mono ?_); (case side1 => refine (Kd.R_reads' (e := 9) (base := w.heap.size) (ok := fun k_ => ((True ∧ some k_ ≠ (.slice Ao9 t174.length co9 : Value).ownBlock) ∧ some k_ ≠ (.slice Ao14 t179.length co14 : Value).ownBlock)) (n := t188.length) (c := co64) ?_).2.2; exact (by (with_reducible repeat (first | apply Kd.R_alloc | apply Kd.R_drewN | apply Kd.R_drew)); exact (Kd.R_mono (Kd.R_far (p := ⟨gb192, 0, none⟩) (Kd.R_types HO190.out BK192.out (by decide)) (fun _ hk => hk.2) (.slice Ao64 t188.length co64)) (fun _ h_ => h_.1)))); (case side2 => exact (Kd.R_reads' HO190.out).2.1); (case side3 => refine (Kd.R_reads' (e := 9) (base := w.heap.size) (ok := fun k_ => (some k_ ≠ (.slice Ao14 t179.length co14 : Value).ownBlock ∧ some k_ ≠ (.slice Ao64 t188.length co64 : Value).ownBlock)) (n := t174.length) (c := co9) ?_).2.2; exact (by (with_reducible repeat (first | apply Kd.R_alloc | apply Kd.R_drewN | apply Kd.R_drew)); exact (Kd.R_mono (Kd.R_far (p := ⟨gb192, 0, none⟩) (Kd.R_types HO_179000.out BK192.out (by decide)) (fun _ hk => hk.2) (.slice Ao64 t188.length co64)) (fun _ h_ => h_.1)))); (case side4 => exact (Kd.R_reads' HO_179000.out).2.1); rintro e w84 ⟨rfl, hb⟩; refine ⟨_, rfl, ?_⟩; have n0_ := Aside0.mk (Kd.R_below (by (with_reducible repeat (first | apply Kd.R_alloc | apply Kd.R_drewN | apply Kd.R_drew)); exact (Kd.R_mono (Kd.R_far (p := ⟨gb192, 0, none⟩) (Kd.R_types HO_179000.out BK192.out (by decide)) (fun _ hk => hk.2) (.slice Ao64 t188.length co64)) (fun _ h_ => h_.1))) hb); have n1_ := Aside0.mk (Kd.R_below (by (with_reducible repeat (first | apply Kd.R_alloc | apply Kd.R_drewN | apply Kd.R_drew)); exact (Kd.R_mono (Kd.R_far (p := ⟨gb192, 0, none⟩) (Kd.R_types HO_184000.out BK192.out (by decide)) (fun _ hk => hk.2) (.slice Ao64 t188.length co64)) (fun _ h_ => h_.1))) hb); have n2_ := Aside0.mk (Kd.R_below (by (with_reducible repeat (first | apply Kd.R_alloc | apply Kd.R_drewN | apply Kd.R_drew)); exact (Kd.R_mono (Kd.R_far (p := ⟨gb192, 0, none⟩) (Kd.R_types HO190.out BK192.out (by decide)) (fun _ hk => hk.2) (.slice Ao64 t188.length co64)) (fun _ h_ => h_.1))) hb); have n3_ := Aside0.mk (blk_below (g := gb178) (o := .cells #[.slice Ao9 t174.length co9] 24 (0, 0)) (by (with_reducible repeat (first | refine blk_drewN ?_ _ | refine blk_drew ?_ | refine blk_alloc ?_ _)); refine blk_far ?_ NB178_192.out _; (with_reducible repeat (first | refine blk_drewN ?_ _ | refine blk_drew ?_ | refine blk_alloc ?_ _)); exact BK178.out) hb); have n4_ := Aside0.mk (blk_below (g := gb183) (o := .cells #[.slice Ao14 t179.length co14] 24 (0, 0)) (by (with_reducible repeat (first | refine blk_drewN ?_ _ | refine blk_drew ?_ | refine blk_alloc ?_ _)); refine blk_far ?_ NB183_192.out _; (with_reducible repeat (first | refine blk_drewN ?_ _ | refine blk_drew ?_ | refine blk_alloc ?_ _)); exact BK183.out) hb); have n5_ := Aside0.mk (blk_below (g := gb192) (o := .cells #[.slice Ao64 t188.length co64] 24 (0, 0)) (by (with_reducible repeat (first | refine blk_drewN ?_ _ | refine blk_drew ?_ | refine blk_alloc ?_ _)); refine blk_put (cs := #[.slice none 0 0]) ?_ 0 _ rfl; (with_reducible repeat (first | refine blk_drewN ?_ _ | refine blk_drew ?_ | refine blk_alloc ?_ _)); exact BK192.out) hb); have n6_ := Aside0.mk (below_step (by repeat (first | (with_reducible first | exact HB.out | apply below_alloc | apply pw_below_drewN | apply below_drew1 | refine below_set ?_ GE178.out | refine below_set ?_ GE183.out | refine below_set ?_ GE192.out) | exact HB.out)) hb); clear HO_179000; clear HO_184000; clear HO190; clear BK178; clear BK183; clear BK192; clear HB; have HO_179000 := n0_; have HO_184000 := n1_; have HO190 := n2_; have BK178 := n3_; have BK183 := n4_; have BK192 := n5_; have HB := n6_; clear n0_ n1_ n2_ n3_ n4_ n5_ n6_; (try clear hb); (try clear hb2); (try clear hk); (try clear hi)))
                go_meet
                case rel => exact ⟨_, ((t191 != t177)), (by first | rfl | (simp; done) | (simp [*]; done)), H', ⟨by have := HJ5.out; first | omega | exact Nat.le_refl _⟩, ⟨by (with_reducible repeat (first | apply Kd.R_alloc | apply Kd.R_drewN | apply Kd.R_drew)); exact HO_179000.out⟩, ⟨by (with_reducible repeat (first | apply Kd.R_alloc | apply Kd.R_drewN | apply Kd.R_drew)); exact HO_184000.out⟩, ⟨by (with_reducible repeat (first | apply Kd.R_alloc | apply Kd.R_drewN | apply Kd.R_drew)); exact Kd.R_mono HO190.out (fun _ hk => ⟨hk.1.2, hk.2⟩)⟩, ⟨by (with_reducible repeat (first | refine blk_drewN ?_ _ | refine blk_drew ?_ | refine blk_alloc ?_ _)); exact BK178.out⟩, ⟨by (with_reducible repeat (first | refine blk_drewN ?_ _ | refine blk_drew ?_ | refine blk_alloc ?_ _)); exact BK183.out⟩, ⟨by (with_reducible repeat (first | refine blk_drewN ?_ _ | refine blk_drew ?_ | refine blk_alloc ?_ _)); exact BK192.out⟩, ⟨by repeat (first | (with_reducible first | exact HB.out | apply below_alloc | apply pw_below_drewN | apply below_drew1 | refine below_set ?_ GE178.out | refine below_set ?_ GE183.out | refine below_set ?_ GE192.out) | exact HB.out)⟩⟩
              · replace c72 := Bool.eq_false_iff.mpr c72
                subst c72
                have H1 : (laws_FnExactTableAt.j1 kj5 t185 true t186) = some r := by rw [if_neg (show ¬ (false = true) by decide)] at H; first | exact H | (simp only [if_true, eq_self] at H ⊢; exact H)
                clear H
                have H := H1
                clear H1
                have H' := Aside0.mk H
                clear H
                have hnb85 := NB192_178.out
                have hnc85 := NB178_192.out
                have hnb86 := NB192_183.out
                have hnc86 := NB183_192.out
                (try (have hnw88 := Kd.R_ne HO_179000.out BK192.out (by decide); change some gb192 ≠ some _ at hnw88; have how88 := fun (e_ : gb192 = _) => hnw88 (congrArg some e_); have hpw88 := fun e_ => how88 (Eq.symm e_); clear hnw88; replace how88 := eq_false how88; replace hpw88 := eq_false hpw88))
                (try (have hnw89 := Kd.R_ne HO_184000.out BK192.out (by decide); change some gb192 ≠ some _ at hnw89; have how89 := fun (e_ : gb192 = _) => hnw89 (congrArg some e_); have hpw89 := fun e_ => how89 (Eq.symm e_); clear hnw89; replace how89 := eq_false how89; replace hpw89 := eq_false hpw89))
                (try (have hnw90 := Kd.R_ne HO190.out BK192.out (by decide); change some gb192 ≠ some _ at hnw90; have how90 := fun (e_ : gb192 = _) => hnw90 (congrArg some e_); have hpw90 := fun e_ => how90 (Eq.symm e_); clear hnw90; replace how90 := eq_false how90; replace hpw90 := eq_false hpw90))
                have hcz87_0 : w63.cell? ⟨gb192, 0, none⟩ = some (.slice none 0 0) := (blk_cell BK192.out 0).trans rfl
                have hfz87_0 := blk_frozen BK192.out 0
                have hnb91 := NB178_183.out
                have hnc91 := NB183_178.out
                (try (have hnw93 := Kd.R_ne HO_179000.out BK178.out (by decide); change some gb178 ≠ some _ at hnw93; have how93 := fun (e_ : gb178 = _) => hnw93 (congrArg some e_); have hpw93 := fun e_ => how93 (Eq.symm e_); clear hnw93; replace how93 := eq_false how93; replace hpw93 := eq_false hpw93))
                (try (have hnw94 := Kd.R_ne HO_184000.out BK178.out (by decide); change some gb178 ≠ some _ at hnw94; have how94 := fun (e_ : gb178 = _) => hnw94 (congrArg some e_); have hpw94 := fun e_ => how94 (Eq.symm e_); clear hnw94; replace how94 := eq_false how94; replace hpw94 := eq_false hpw94))
                (try (have hnw95 := Kd.R_ne HO190.out BK178.out (by decide); change some gb178 ≠ some _ at hnw95; have how95 := fun (e_ : gb178 = _) => hnw95 (congrArg some e_); have hpw95 := fun e_ => how95 (Eq.symm e_); clear hnw95; replace how95 := eq_false how95; replace hpw95 := eq_false hpw95))
                have hcz92_0 : w63.cell? ⟨gb178, 0, none⟩ = some (.slice Ao9 t174.length co9) := (blk_cell BK178.out 0).trans rfl
                have hfz92_0 := blk_frozen BK178.out 0
                go_wp2_with (first | ((with_reducible refine gate_callee (f := 9) rfl ?_); refine goesL_ (some 58) rfl rfl Try.func9 (by kernel_rfl) rfl #[.agg #[.slice Ao64 t188.length co64], .agg #[.slice Ao9 t174.length co9]] rfl (by (try simp only [List.map_toArray, List.map_cons, List.map_nil]); first | done | rfl | (simp only [List.length_drop, List.length_take]; rfl)) ?_; (with_reducible refine (laws_eqTable.calls kj5 _ _ t188 _ _ t174 false _ ?side1 ?side2 ?side3 ?side4 A71.out).mono ?_); (case side1 => refine (Kd.R_reads' (e := 9) (base := w.heap.size) (ok := fun k_ => ((True ∧ some k_ ≠ (.slice Ao9 t174.length co9 : Value).ownBlock) ∧ some k_ ≠ (.slice Ao14 t179.length co14 : Value).ownBlock)) (n := t188.length) (c := co64) ?_).2.2; exact (by (with_reducible repeat (first | apply Kd.R_alloc | apply Kd.R_drewN | apply Kd.R_drew)); exact (Kd.R_mono (Kd.R_far (p := ⟨gb192, 0, none⟩) (Kd.R_types HO190.out BK192.out (by decide)) (fun _ hk => hk.2) (.slice Ao64 t188.length co64)) (fun _ h_ => h_.1)))); (case side2 => exact (Kd.R_reads' HO190.out).2.1); (case side3 => refine (Kd.R_reads' (e := 9) (base := w.heap.size) (ok := fun k_ => (some k_ ≠ (.slice Ao14 t179.length co14 : Value).ownBlock ∧ some k_ ≠ (.slice Ao64 t188.length co64 : Value).ownBlock)) (n := t174.length) (c := co9) ?_).2.2; exact (by (with_reducible repeat (first | apply Kd.R_alloc | apply Kd.R_drewN | apply Kd.R_drew)); exact (Kd.R_mono (Kd.R_far (p := ⟨gb192, 0, none⟩) (Kd.R_types HO_179000.out BK192.out (by decide)) (fun _ hk => hk.2) (.slice Ao64 t188.length co64)) (fun _ h_ => h_.1)))); (case side4 => exact (Kd.R_reads' HO_179000.out).2.1); rintro e w96 ⟨rfl, hb⟩; refine ⟨_, rfl, ?_⟩; have n0_ := Aside0.mk (Kd.R_below (by (with_reducible repeat (first | apply Kd.R_alloc | apply Kd.R_drewN | apply Kd.R_drew)); exact (Kd.R_mono (Kd.R_far (p := ⟨gb192, 0, none⟩) (Kd.R_types HO_179000.out BK192.out (by decide)) (fun _ hk => hk.2) (.slice Ao64 t188.length co64)) (fun _ h_ => h_.1))) hb); have n1_ := Aside0.mk (Kd.R_below (by (with_reducible repeat (first | apply Kd.R_alloc | apply Kd.R_drewN | apply Kd.R_drew)); exact (Kd.R_mono (Kd.R_far (p := ⟨gb192, 0, none⟩) (Kd.R_types HO_184000.out BK192.out (by decide)) (fun _ hk => hk.2) (.slice Ao64 t188.length co64)) (fun _ h_ => h_.1))) hb); have n2_ := Aside0.mk (Kd.R_below (by (with_reducible repeat (first | apply Kd.R_alloc | apply Kd.R_drewN | apply Kd.R_drew)); exact (Kd.R_mono (Kd.R_far (p := ⟨gb192, 0, none⟩) (Kd.R_types HO190.out BK192.out (by decide)) (fun _ hk => hk.2) (.slice Ao64 t188.length co64)) (fun _ h_ => h_.1))) hb); have n3_ := Aside0.mk (blk_below (g := gb178) (o := .cells #[.slice Ao9 t174.length co9] 24 (0, 0)) (by (with_reducible repeat (first | refine blk_drewN ?_ _ | refine blk_drew ?_ | refine blk_alloc ?_ _)); refine blk_far ?_ NB178_192.out _; (with_reducible repeat (first | refine blk_drewN ?_ _ | refine blk_drew ?_ | refine blk_alloc ?_ _)); exact BK178.out) hb); have n4_ := Aside0.mk (blk_below (g := gb183) (o := .cells #[.slice Ao14 t179.length co14] 24 (0, 0)) (by (with_reducible repeat (first | refine blk_drewN ?_ _ | refine blk_drew ?_ | refine blk_alloc ?_ _)); refine blk_far ?_ NB183_192.out _; (with_reducible repeat (first | refine blk_drewN ?_ _ | refine blk_drew ?_ | refine blk_alloc ?_ _)); exact BK183.out) hb); have n5_ := Aside0.mk (blk_below (g := gb192) (o := .cells #[.slice Ao64 t188.length co64] 24 (0, 0)) (by (with_reducible repeat (first | refine blk_drewN ?_ _ | refine blk_drew ?_ | refine blk_alloc ?_ _)); refine blk_put (cs := #[.slice none 0 0]) ?_ 0 _ rfl; (with_reducible repeat (first | refine blk_drewN ?_ _ | refine blk_drew ?_ | refine blk_alloc ?_ _)); exact BK192.out) hb); have n6_ := Aside0.mk (below_step (by repeat (first | (with_reducible first | exact HB.out | apply below_alloc | apply pw_below_drewN | apply below_drew1 | refine below_set ?_ GE178.out | refine below_set ?_ GE183.out | refine below_set ?_ GE192.out) | exact HB.out)) hb); clear HO_179000; clear HO_184000; clear HO190; clear BK178; clear BK183; clear BK192; clear HB; have HO_179000 := n0_; have HO_184000 := n1_; have HO190 := n2_; have BK178 := n3_; have BK183 := n4_; have BK192 := n5_; have HB := n6_; clear n0_ n1_ n2_ n3_ n4_ n5_ n6_; (try clear hb); (try clear hb2); (try clear hk); (try clear hi)))
                go_meet
                case rel => exact ⟨_, (true), (by first | rfl | (simp; done) | (simp [*]; done)), H', ⟨by have := HJ5.out; first | omega | exact Nat.le_refl _⟩, ⟨by (with_reducible repeat (first | apply Kd.R_alloc | apply Kd.R_drewN | apply Kd.R_drew)); exact HO_179000.out⟩, ⟨by (with_reducible repeat (first | apply Kd.R_alloc | apply Kd.R_drewN | apply Kd.R_drew)); exact HO_184000.out⟩, ⟨by (with_reducible repeat (first | apply Kd.R_alloc | apply Kd.R_drewN | apply Kd.R_drew)); exact Kd.R_mono HO190.out (fun _ hk => ⟨hk.1.2, hk.2⟩)⟩, ⟨by (with_reducible repeat (first | refine blk_drewN ?_ _ | refine blk_drew ?_ | refine blk_alloc ?_ _)); exact BK178.out⟩, ⟨by (with_reducible repeat (first | refine blk_drewN ?_ _ | refine blk_drew ?_ | refine blk_alloc ?_ _)); exact BK183.out⟩, ⟨by (with_reducible repeat (first | refine blk_drewN ?_ _ | refine blk_drew ?_ | refine blk_alloc ?_ _)); exact BK192.out⟩, ⟨by repeat (first | (with_reducible first | exact HB.out | apply below_alloc | apply pw_below_drewN | apply below_drew1 | refine below_set ?_ GE178.out | refine below_set ?_ GE183.out | refine below_set ?_ GE192.out) | exact HB.out)⟩⟩
            case rest =>
              clear HC52
              try clear c1
              try clear c2
              try clear p2
              try clear c3
              try clear c4
              try clear c5
              try clear c6
              try clear c7
              try clear c8
              try clear c9
              try clear c10
              try clear c11
              try clear c15
              try clear c20
              try clear c21
              try clear c29
              try clear c37
              try clear c40
              try clear c40b0
              try clear c41
              try clear c50
              try clear c50b0
              try clear c50b1
              try clear c53
              try clear c65
              try clear c66
              try clear c72
              try clear c73
              try clear c74
              try clear c79
              try clear c85
              try clear c86
              try clear c91
              try clear hcz10_0
              try clear hcz16_0
              try clear hcz22_0
              try clear hcz25_0
              try clear hcz30_0
              try clear hcz33_0
              try clear hcz42_0
              try clear hcz46_0
              try clear hcz54_0
              try clear hcz58_0
              try clear hcz67_0
              try clear hcz75_0
              try clear hcz80_0
              try clear hcz87_0
              try clear hcz92_0
              try clear hfz10_0
              try clear hfz16_0
              try clear hfz22_0
              try clear hfz25_0
              try clear hfz30_0
              try clear hfz33_0
              try clear hfz42_0
              try clear hfz46_0
              try clear hfz54_0
              try clear hfz58_0
              try clear hfz67_0
              try clear hfz75_0
              try clear hfz80_0
              try clear hfz87_0
              try clear hfz92_0
              try clear p2
              obtain ⟨kq, x64_51, rfl, HA, HJ51, HO_179000, HO_184000, HO_193000, BK178, BK183, BK192, HB⟩ := hcut
              have hl184000_51 := (Kd.R_reads' HO_184000.out).1
              rw [hl184000_51] at HO_184000
              (try simp only [hl184000_51])
              (try simp only [hl184000_51] at BK178)
              (try simp only [hl184000_51] at BK183)
              (try simp only [hl184000_51] at BK192)
              (try simp only [hl184000_51] at HO_179000)
              (try simp only [hl184000_51] at HO_193000)
              cases kq with
              | zero => exact absurd HA.out (by simp [laws_FnExactTableAt.j1])
              | succ kj51 =>
                have H := HA.out
                clear HA
                simp only [laws_FnExactTableAt.j1] at H
                by_cases c97 : x64_51 = true
                · subst c97
                  have H1 : (some false) = some r := by rw [if_pos rfl] at H; first | exact H | (simp only [if_true, eq_self] at H ⊢; exact H)
                  clear H
                  have H := H1
                  clear H1
                  obtain rfl := Option.some.inj H
                  go_wp2
                  go_ret
                  exact ⟨by first | rfl | (simp [errW_none, errW_some] <;> rfl) | (simp [*, errW_none, errW_some] <;> rfl), by repeat (first | (with_reducible first | exact HB.out | apply below_alloc | apply pw_below_drewN | apply below_drew1 | refine below_set ?_ GE178.out | refine below_set ?_ GE183.out | refine below_set ?_ GE192.out) | exact HB.out)⟩
                · replace c97 := Bool.eq_false_iff.mpr c97
                  subst c97
                  have H1 : ((laws_heldTable.f kj51 t186 1).bind fun t194 => (if t194 < 0 then (some false) else (if t194 = t185 then (some true) else (some false)))) = some r := by rw [if_neg (show ¬ (false = true) by decide)] at H; first | exact H | (simp only [if_true, eq_self] at H ⊢; exact H)
                  clear H
                  have H := H1
                  clear H1
                  replace H := Option.bind_eq_some_iff.mp H
                  obtain ⟨t194, A980, H⟩ := H
                  replace H : (if t194 < 0 then (some false) else (if t194 = t185 then (some true) else (some false))) = some r := H
                  have A98 := Aside0.mk A980
                  clear A980
                  by_cases c99 : t194 < 0
                  · rw [if_pos c99] at H
                    have c99b0 : decide (t194 < 0) = true := decide_eq_true c99
                    clear c99
                    obtain rfl := Option.some.inj H
                    have hnb100 := NB183_178.out
                    have hnc100 := NB178_183.out
                    have hnb101 := NB183_192.out
                    have hnc101 := NB192_183.out
                    (try (have hnw103 := Kd.R_ne HO_179000.out BK183.out (by decide); change some gb183 ≠ some _ at hnw103; have how103 := fun (e_ : gb183 = _) => hnw103 (congrArg some e_); have hpw103 := fun e_ => how103 (Eq.symm e_); clear hnw103; replace how103 := eq_false how103; replace hpw103 := eq_false hpw103))
                    (try (have hnw104 := Kd.R_ne HO_184000.out BK183.out (by decide); change some gb183 ≠ some _ at hnw104; have how104 := fun (e_ : gb183 = _) => hnw104 (congrArg some e_); have hpw104 := fun e_ => how104 (Eq.symm e_); clear hnw104; replace how104 := eq_false how104; replace hpw104 := eq_false hpw104))
                    (try (have hnw105 := Kd.R_ne HO_193000.out BK183.out (by decide); change some gb183 ≠ some _ at hnw105; have how105 := fun (e_ : gb183 = _) => hnw105 (congrArg some e_); have hpw105 := fun e_ => how105 (Eq.symm e_); clear hnw105; replace how105 := eq_false how105; replace hpw105 := eq_false hpw105))
                    have hcz102_0 : wc.cell? ⟨gb183, 0, none⟩ = some (.slice Ao14 t186.length co14) := (blk_cell BK183.out 0).trans rfl
                    have hfz102_0 := blk_frozen BK183.out 0
                    go_wp2_with (first | ((with_reducible refine gate_callee (f := 11) rfl ?_); refine goesL_ (some 67) rfl rfl Try.func11 (by kernel_rfl) rfl #[.agg #[.slice Ao14 t186.length co14], .int .i64 1] rfl (by (try simp only [List.map_toArray, List.map_cons, List.map_nil]); first | done | rfl | (simp only [List.length_drop, List.length_take]; rfl)) ?_; (with_reducible refine (laws_heldTable.calls kj51 _ _ t186 1 t194 _ ?side1 ?side2 A98.out).mono ?_); (case side1 => repeat (first | exact (Kd.R_reads' HO_184000.out).2.2 | (with_reducible refine Kd.C_alloc ?_ _) | (with_reducible refine Kd.C_drewN ?_ _) | (with_reducible refine Kd.C_drew ?_))); (case side2 => exact (Kd.R_reads' HO_184000.out).2.1); rintro e w106 ⟨rfl, hb⟩; refine ⟨_, rfl, ?_⟩; have n0_ := Aside0.mk (Kd.R_below (by (with_reducible repeat (first | apply Kd.R_alloc | apply Kd.R_drewN | apply Kd.R_drew)); exact HO_179000.out) hb); have n1_ := Aside0.mk (Kd.R_below (by (with_reducible repeat (first | apply Kd.R_alloc | apply Kd.R_drewN | apply Kd.R_drew)); exact HO_184000.out) hb); have n2_ := Aside0.mk (Kd.R_below (by (with_reducible repeat (first | apply Kd.R_alloc | apply Kd.R_drewN | apply Kd.R_drew)); exact HO_193000.out) hb); have n3_ := Aside0.mk (blk_below (g := gb178) (o := .cells #[.slice Ao9 t174.length co9] 24 (0, 0)) (by (with_reducible repeat (first | refine blk_drewN ?_ _ | refine blk_drew ?_ | refine blk_alloc ?_ _)); exact BK178.out) hb); have n4_ := Aside0.mk (blk_below (g := gb183) (o := .cells #[.slice Ao14 t186.length co14] 24 (0, 0)) (by (with_reducible repeat (first | refine blk_drewN ?_ _ | refine blk_drew ?_ | refine blk_alloc ?_ _)); exact BK183.out) hb); have n5_ := Aside0.mk (blk_below (g := gb192) (o := .cells #[.slice Ao64 t188.length co64] 24 (0, 0)) (by (with_reducible repeat (first | refine blk_drewN ?_ _ | refine blk_drew ?_ | refine blk_alloc ?_ _)); exact BK192.out) hb); have n6_ := Aside0.mk (below_step (by repeat (first | (with_reducible first | exact HB.out | apply below_alloc | apply pw_below_drewN | apply below_drew1 | refine below_set ?_ GE178.out | refine below_set ?_ GE183.out | refine below_set ?_ GE192.out) | exact HB.out)) hb); clear HO_179000; clear HO_184000; clear HO_193000; clear BK178; clear BK183; clear BK192; clear HB; have HO_179000 := n0_; have HO_184000 := n1_; have HO_193000 := n2_; have BK178 := n3_; have BK183 := n4_; have BK192 := n5_; have HB := n6_; clear n0_ n1_ n2_ n3_ n4_ n5_ n6_; (try clear hb); (try clear hb2); (try clear hk); (try clear hi)))
                    go_ret
                    exact ⟨by first | rfl | (simp [errW_none, errW_some] <;> rfl) | (simp [*, errW_none, errW_some] <;> rfl), by repeat (first | (with_reducible first | exact HB.out | apply below_alloc | apply pw_below_drewN | apply below_drew1 | refine below_set ?_ GE178.out | refine below_set ?_ GE183.out | refine below_set ?_ GE192.out) | exact HB.out)⟩
                  · rw [if_neg c99] at H
                    have c99b0 : decide (t194 < 0) = false := decide_eq_false c99
                    clear c99
                    by_cases c107 : t194 = t185
                    · rw [if_pos c107] at H
                      have c107b0 : (t194 == t185) = true := beq_iff_eq.mpr c107
                      have c107b1 : (t194 != t185) = false := bne_eq_false_iff_eq.mpr c107
                      clear c107
                      obtain rfl := Option.some.inj H
                      have hnb108 := NB183_178.out
                      have hnc108 := NB178_183.out
                      have hnb109 := NB183_192.out
                      have hnc109 := NB192_183.out
                      (try (have hnw111 := Kd.R_ne HO_179000.out BK183.out (by decide); change some gb183 ≠ some _ at hnw111; have how111 := fun (e_ : gb183 = _) => hnw111 (congrArg some e_); have hpw111 := fun e_ => how111 (Eq.symm e_); clear hnw111; replace how111 := eq_false how111; replace hpw111 := eq_false hpw111))
                      (try (have hnw112 := Kd.R_ne HO_184000.out BK183.out (by decide); change some gb183 ≠ some _ at hnw112; have how112 := fun (e_ : gb183 = _) => hnw112 (congrArg some e_); have hpw112 := fun e_ => how112 (Eq.symm e_); clear hnw112; replace how112 := eq_false how112; replace hpw112 := eq_false hpw112))
                      (try (have hnw113 := Kd.R_ne HO_193000.out BK183.out (by decide); change some gb183 ≠ some _ at hnw113; have how113 := fun (e_ : gb183 = _) => hnw113 (congrArg some e_); have hpw113 := fun e_ => how113 (Eq.symm e_); clear hnw113; replace how113 := eq_false how113; replace hpw113 := eq_false hpw113))
                      have hcz110_0 : wc.cell? ⟨gb183, 0, none⟩ = some (.slice Ao14 t186.length co14) := (blk_cell BK183.out 0).trans rfl
                      have hfz110_0 := blk_frozen BK183.out 0
                      go_wp2_with (first | ((with_reducible refine gate_callee (f := 11) rfl ?_); refine goesL_ (some 67) rfl rfl Try.func11 (by kernel_rfl) rfl #[.agg #[.slice Ao14 t186.length co14], .int .i64 1] rfl (by (try simp only [List.map_toArray, List.map_cons, List.map_nil]); first | done | rfl | (simp only [List.length_drop, List.length_take]; rfl)) ?_; (with_reducible refine (laws_heldTable.calls kj51 _ _ t186 1 t194 _ ?side1 ?side2 A98.out).mono ?_); (case side1 => repeat (first | exact (Kd.R_reads' HO_184000.out).2.2 | (with_reducible refine Kd.C_alloc ?_ _) | (with_reducible refine Kd.C_drewN ?_ _) | (with_reducible refine Kd.C_drew ?_))); (case side2 => exact (Kd.R_reads' HO_184000.out).2.1); rintro e w114 ⟨rfl, hb⟩; refine ⟨_, rfl, ?_⟩; have n0_ := Aside0.mk (Kd.R_below (by (with_reducible repeat (first | apply Kd.R_alloc | apply Kd.R_drewN | apply Kd.R_drew)); exact HO_179000.out) hb); have n1_ := Aside0.mk (Kd.R_below (by (with_reducible repeat (first | apply Kd.R_alloc | apply Kd.R_drewN | apply Kd.R_drew)); exact HO_184000.out) hb); have n2_ := Aside0.mk (Kd.R_below (by (with_reducible repeat (first | apply Kd.R_alloc | apply Kd.R_drewN | apply Kd.R_drew)); exact HO_193000.out) hb); have n3_ := Aside0.mk (blk_below (g := gb178) (o := .cells #[.slice Ao9 t174.length co9] 24 (0, 0)) (by (with_reducible repeat (first | refine blk_drewN ?_ _ | refine blk_drew ?_ | refine blk_alloc ?_ _)); exact BK178.out) hb); have n4_ := Aside0.mk (blk_below (g := gb183) (o := .cells #[.slice Ao14 t186.length co14] 24 (0, 0)) (by (with_reducible repeat (first | refine blk_drewN ?_ _ | refine blk_drew ?_ | refine blk_alloc ?_ _)); exact BK183.out) hb); have n5_ := Aside0.mk (blk_below (g := gb192) (o := .cells #[.slice Ao64 t188.length co64] 24 (0, 0)) (by (with_reducible repeat (first | refine blk_drewN ?_ _ | refine blk_drew ?_ | refine blk_alloc ?_ _)); exact BK192.out) hb); have n6_ := Aside0.mk (below_step (by repeat (first | (with_reducible first | exact HB.out | apply below_alloc | apply pw_below_drewN | apply below_drew1 | refine below_set ?_ GE178.out | refine below_set ?_ GE183.out | refine below_set ?_ GE192.out) | exact HB.out)) hb); clear HO_179000; clear HO_184000; clear HO_193000; clear BK178; clear BK183; clear BK192; clear HB; have HO_179000 := n0_; have HO_184000 := n1_; have HO_193000 := n2_; have BK178 := n3_; have BK183 := n4_; have BK192 := n5_; have HB := n6_; clear n0_ n1_ n2_ n3_ n4_ n5_ n6_; (try clear hb); (try clear hb2); (try clear hk); (try clear hi)))
                      go_ret
                      exact ⟨by first | rfl | (simp [errW_none, errW_some] <;> rfl) | (simp [*, errW_none, errW_some] <;> rfl), by repeat (first | (with_reducible first | exact HB.out | apply below_alloc | apply pw_below_drewN | apply below_drew1 | refine below_set ?_ GE178.out | refine below_set ?_ GE183.out | refine below_set ?_ GE192.out) | exact HB.out)⟩
                    · rw [if_neg c107] at H
                      have c107b0 : (t194 == t185) = false := beq_eq_false_iff_ne.mpr c107
                      have c107b1 : (t194 != t185) = true := bne_iff_ne.mpr c107
                      obtain rfl := Option.some.inj H
                      have hnb115 := NB183_178.out
                      have hnc115 := NB178_183.out
                      have hnb116 := NB183_192.out
                      have hnc116 := NB192_183.out
                      (try (have hnw118 := Kd.R_ne HO_179000.out BK183.out (by decide); change some gb183 ≠ some _ at hnw118; have how118 := fun (e_ : gb183 = _) => hnw118 (congrArg some e_); have hpw118 := fun e_ => how118 (Eq.symm e_); clear hnw118; replace how118 := eq_false how118; replace hpw118 := eq_false hpw118))
                      (try (have hnw119 := Kd.R_ne HO_184000.out BK183.out (by decide); change some gb183 ≠ some _ at hnw119; have how119 := fun (e_ : gb183 = _) => hnw119 (congrArg some e_); have hpw119 := fun e_ => how119 (Eq.symm e_); clear hnw119; replace how119 := eq_false how119; replace hpw119 := eq_false hpw119))
                      (try (have hnw120 := Kd.R_ne HO_193000.out BK183.out (by decide); change some gb183 ≠ some _ at hnw120; have how120 := fun (e_ : gb183 = _) => hnw120 (congrArg some e_); have hpw120 := fun e_ => how120 (Eq.symm e_); clear hnw120; replace how120 := eq_false how120; replace hpw120 := eq_false hpw120))
                      have hcz117_0 : wc.cell? ⟨gb183, 0, none⟩ = some (.slice Ao14 t186.length co14) := (blk_cell BK183.out 0).trans rfl
                      have hfz117_0 := blk_frozen BK183.out 0
                      go_wp2_with (first | ((with_reducible refine gate_callee (f := 11) rfl ?_); refine goesL_ (some 67) rfl rfl Try.func11 (by kernel_rfl) rfl #[.agg #[.slice Ao14 t186.length co14], .int .i64 1] rfl (by (try simp only [List.map_toArray, List.map_cons, List.map_nil]); first | done | rfl | (simp only [List.length_drop, List.length_take]; rfl)) ?_; (with_reducible refine (laws_heldTable.calls kj51 _ _ t186 1 t194 _ ?side1 ?side2 A98.out).mono ?_); (case side1 => repeat (first | exact (Kd.R_reads' HO_184000.out).2.2 | (with_reducible refine Kd.C_alloc ?_ _) | (with_reducible refine Kd.C_drewN ?_ _) | (with_reducible refine Kd.C_drew ?_))); (case side2 => exact (Kd.R_reads' HO_184000.out).2.1); rintro e w121 ⟨rfl, hb⟩; refine ⟨_, rfl, ?_⟩; have n0_ := Aside0.mk (Kd.R_below (by (with_reducible repeat (first | apply Kd.R_alloc | apply Kd.R_drewN | apply Kd.R_drew)); exact HO_179000.out) hb); have n1_ := Aside0.mk (Kd.R_below (by (with_reducible repeat (first | apply Kd.R_alloc | apply Kd.R_drewN | apply Kd.R_drew)); exact HO_184000.out) hb); have n2_ := Aside0.mk (Kd.R_below (by (with_reducible repeat (first | apply Kd.R_alloc | apply Kd.R_drewN | apply Kd.R_drew)); exact HO_193000.out) hb); have n3_ := Aside0.mk (blk_below (g := gb178) (o := .cells #[.slice Ao9 t174.length co9] 24 (0, 0)) (by (with_reducible repeat (first | refine blk_drewN ?_ _ | refine blk_drew ?_ | refine blk_alloc ?_ _)); exact BK178.out) hb); have n4_ := Aside0.mk (blk_below (g := gb183) (o := .cells #[.slice Ao14 t186.length co14] 24 (0, 0)) (by (with_reducible repeat (first | refine blk_drewN ?_ _ | refine blk_drew ?_ | refine blk_alloc ?_ _)); exact BK183.out) hb); have n5_ := Aside0.mk (blk_below (g := gb192) (o := .cells #[.slice Ao64 t188.length co64] 24 (0, 0)) (by (with_reducible repeat (first | refine blk_drewN ?_ _ | refine blk_drew ?_ | refine blk_alloc ?_ _)); exact BK192.out) hb); have n6_ := Aside0.mk (below_step (by repeat (first | (with_reducible first | exact HB.out | apply below_alloc | apply pw_below_drewN | apply below_drew1 | refine below_set ?_ GE178.out | refine below_set ?_ GE183.out | refine below_set ?_ GE192.out) | exact HB.out)) hb); clear HO_179000; clear HO_184000; clear HO_193000; clear BK178; clear BK183; clear BK192; clear HB; have HO_179000 := n0_; have HO_184000 := n1_; have HO_193000 := n2_; have BK178 := n3_; have BK183 := n4_; have BK192 := n5_; have HB := n6_; clear n0_ n1_ n2_ n3_ n4_ n5_ n6_; (try clear hb); (try clear hb2); (try clear hk); (try clear hi)))
                      go_ret
                      exact ⟨by first | rfl | (simp [errW_none, errW_some] <;> rfl) | (simp [*, errW_none, errW_some] <;> rfl), by repeat (first | (with_reducible first | exact HB.out | apply below_alloc | apply pw_below_drewN | apply below_drew1 | refine below_set ?_ GE178.out | refine below_set ?_ GE183.out | refine below_set ?_ GE192.out) | exact HB.out)⟩
          · rw [if_neg c50] at H
            have c50b0 : (t187 == t185) = false := beq_eq_false_iff_ne.mpr c50
            have c50b1 : (t187 != t185) = true := bne_iff_ne.mpr c50
            obtain rfl := Option.some.inj H
            have hnb122 := NB183_178.out
            have hnc122 := NB178_183.out
            (try (have hnw124 := Kd.R_ne HO_179000.out BK183.out (by decide); change some gb183 ≠ some _ at hnw124; have how124 := fun (e_ : gb183 = _) => hnw124 (congrArg some e_); have hpw124 := fun e_ => how124 (Eq.symm e_); clear hnw124; replace how124 := eq_false how124; replace hpw124 := eq_false hpw124))
            (try (have hnw125 := Kd.R_ne HO_184000.out BK183.out (by decide); change some gb183 ≠ some _ at hnw125; have how125 := fun (e_ : gb183 = _) => hnw125 (congrArg some e_); have hpw125 := fun e_ => how125 (Eq.symm e_); clear hnw125; replace how125 := eq_false how125; replace hpw125 := eq_false hpw125))
            have hcz123_0 : wc.cell? ⟨gb183, 0, none⟩ = some (.slice Ao14 t179.length co14) := (blk_cell BK183.out 0).trans rfl
            have hfz123_0 := blk_frozen BK183.out 0
            go_wp2_with (first | ((with_reducible refine gate_callee (f := 10) rfl ?_); refine goesL_ (some 40) rfl rfl Try.func10 (by kernel_rfl) rfl #[.agg #[.slice Ao14 t179.length co14], .int .i64 1] rfl (by (try simp only [List.map_toArray, List.map_cons, List.map_nil]); first | done | rfl | (simp only [List.length_drop, List.length_take]; rfl)) ?_; (with_reducible refine (laws_markTable.calls kj5 (fun k_ => some k_ = (.slice Ao14 t179.length co14 : Value).ownBlock) (.slice Ao14 t179.length co14) t179 1 t185 t186 w _ ?side1 ?side2 A38.out).mono ?_); (case side1 => repeat (first | (with_reducible first | exact HB.out | apply below_alloc | apply pw_below_drewN | apply below_drew1 | refine below_set ?_ GE178.out | refine below_set ?_ GE183.out) | exact HB.out)); (case side2 => exact Kd.R_tight rfl HO_184000.out); rintro e w126 ⟨rfl, hy0, hb, hkp⟩; refine ⟨_, rfl, ?_⟩; have n0_ := Aside0.mk (Kd.R_mono (ok' := fun k_ => some k_ ≠ (.slice Ao14 t179.length co14 : Value).ownBlock) (Kd.R_keptB (HO_179000.out) hkp (fun k_ hk_ hs_ => (hk_) hs_)) (fun k_ hk_ => hk_.1)); have n1_ := Aside0.mk (Kd.R_reok rfl hy0 (fun k_ e_ => HO_184000.out.1 k_ e_)); have n2_ := Aside0.mk (blk_kept (by (with_reducible repeat (first | refine blk_drewN ?_ _ | refine blk_drew ?_ | refine blk_alloc ?_ _)); exact BK178.out) hkp (fun hs_ => (fun e_ => (Kd.R_ne HO_184000.out BK178.out (by decide)) e_) hs_)); have n3_ := Aside0.mk (blk_kept (by (with_reducible repeat (first | refine blk_drewN ?_ _ | refine blk_drew ?_ | refine blk_alloc ?_ _)); exact BK183.out) hkp (fun hs_ => (fun e_ => (Kd.R_ne HO_184000.out BK183.out (by decide)) e_) hs_)); have n4_ := Aside0.mk (hb); clear HO_179000; clear HO_184000; clear BK178; clear BK183; clear HB; have HO_179000 := n0_; have HO_184000 := n1_; have BK178 := n2_; have BK183 := n3_; have HB := n4_; clear n0_ n1_ n2_ n3_ n4_; (try clear hb); (try clear hkp); (try clear hy0); (try (have hnw128 := Kd.R_ne HO_179000.out BK183.out (by decide); change some gb183 ≠ some _ at hnw128; have how128 := fun (e_ : gb183 = _) => hnw128 (congrArg some e_); have hpw128 := fun e_ => how128 (Eq.symm e_); clear hnw128; replace how128 := eq_false how128; replace hpw128 := eq_false hpw128)); (try (have hnw129 := Kd.R_ne HO_184000.out BK183.out (by decide); change some gb183 ≠ some _ at hnw129; have how129 := fun (e_ : gb183 = _) => hnw129 (congrArg some e_); have hpw129 := fun e_ => how129 (Eq.symm e_); clear hnw129; replace how129 := eq_false how129; replace hpw129 := eq_false hpw129)); have hcz127_0 : w126.cell? ⟨gb183, 0, none⟩ = some (.slice Ao14 t179.length co14) := (blk_cell BK183.out 0).trans rfl; have hfz127_0 := blk_frozen BK183.out 0) | ((with_reducible refine gate_callee (f := 11) rfl ?_); refine goesL_ (some 43) rfl rfl Try.func11 (by kernel_rfl) rfl #[.agg #[.slice Ao14 t186.length co14], .int .i64 1] rfl (by (try simp only [List.map_toArray, List.map_cons, List.map_nil]); first | done | (rw [show t186.length = t179.length from (Kd.R_reads' HO_184000.out).1.symm] <;> rfl) | rfl | (simp only [List.length_drop, List.length_take]; rfl)) ?_; (with_reducible refine (laws_heldTable.calls kj5 _ _ t186 1 t187 _ ?side1 ?side2 A39.out).mono ?_); (case side1 => repeat (first | exact (Kd.R_reads' HO_184000.out).2.2 | (with_reducible refine Kd.C_alloc ?_ _) | (with_reducible refine Kd.C_drewN ?_ _) | (with_reducible refine Kd.C_drew ?_))); (case side2 => rw [show t186.length = t179.length from (Kd.R_reads' HO_184000.out).1.symm]; exact (Kd.R_reads' HO_184000.out).2.1); rintro e w130 ⟨rfl, hb⟩; refine ⟨_, rfl, ?_⟩; have n0_ := Aside0.mk (Kd.R_below (by (with_reducible repeat (first | apply Kd.R_alloc | apply Kd.R_drewN | apply Kd.R_drew)); exact HO_179000.out) hb); have n1_ := Aside0.mk (Kd.R_below (by (with_reducible repeat (first | apply Kd.R_alloc | apply Kd.R_drewN | apply Kd.R_drew)); exact HO_184000.out) hb); have n2_ := Aside0.mk (blk_below (g := gb178) (o := .cells #[.slice Ao9 t174.length co9] 24 (0, 0)) (by (with_reducible repeat (first | refine blk_drewN ?_ _ | refine blk_drew ?_ | refine blk_alloc ?_ _)); exact BK178.out) hb); have n3_ := Aside0.mk (blk_below (g := gb183) (o := .cells #[.slice Ao14 t179.length co14] 24 (0, 0)) (by (with_reducible repeat (first | refine blk_drewN ?_ _ | refine blk_drew ?_ | refine blk_alloc ?_ _)); exact BK183.out) hb); have n4_ := Aside0.mk (below_step (by repeat (first | (with_reducible first | exact HB.out | apply below_alloc | apply pw_below_drewN | apply below_drew1 | refine below_set ?_ GE178.out | refine below_set ?_ GE183.out) | exact HB.out)) hb); clear HO_179000; clear HO_184000; clear BK178; clear BK183; clear HB; have HO_179000 := n0_; have HO_184000 := n1_; have BK178 := n2_; have BK183 := n3_; have HB := n4_; clear n0_ n1_ n2_ n3_ n4_; (try clear hb); (try clear hb2); (try clear hk); (try clear hi)))
            go_ret
            exact ⟨by first | rfl | (simp [errW_none, errW_some] <;> rfl) | (simp [*, errW_none, errW_some] <;> rfl), by repeat (first | (with_reducible first | exact HB.out | apply below_alloc | apply pw_below_drewN | apply below_drew1 | refine below_set ?_ GE178.out | refine below_set ?_ GE183.out) | exact HB.out)⟩

/-- THE ONE PURE STATEMENT of laws_FnExactTableAt: yours. -/
def laws_FnExactTableAt.Pure : Prop := ∀ (a0 : Int) (a1 : Int) (a2 : Int), ((Lit.int .i64 a0).wf = true) → ((Lit.int .i64 a1).wf = true) → ((Lit.int .i64 a2).wf = true) → ∃ k, laws_FnExactTableAt.f k a0 a1 a2 = some true

end Go.Proofs.Ytlgmccliclmbaaa.PFnExactTableAt
