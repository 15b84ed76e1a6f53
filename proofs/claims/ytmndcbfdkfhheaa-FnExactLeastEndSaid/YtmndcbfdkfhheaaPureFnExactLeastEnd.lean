/- The program's LeastEnd returns what the reference's LeastEnd returns, for every number of stations and all jobs. No condition. -/
import Derived.Test.YtmndcbfdkfhheaaPFnExactLeastEndx5
namespace Go.Proofs.Ytmndcbfdkfhheaa.Pure
open Go.RowKit Go.Proofs.Ytmndcbfdkfhheaa.PFnExactLeastEnd Go.Proofs.YtmndcbfdkfhheaaW.PrintWords Go.Proofs.YtmndcbfdkfhheaaW.PrintLast Go.Proofs.YtmndcbfdkfhheaaW.PrintMore
set_option linter.unusedVariables false
set_option linter.unusedSimpArgs false

/-! ### in -/
theorem in_eq (a b c : Int) : impl_in.f a b c = some (decide (b ≤ a ∧ a ≤ c)) := by
  unfold impl_in.f
  by_cases h : a ≥ b
  · rw [if_pos h]
    simp [show b ≤ a from h]
  · rw [if_neg h]
    simp [show ¬ b ≤ a from h]
theorem l1In_eq (a b c : Int) : spec_l1In.f a b c = some (decide (b ≤ a ∧ a ≤ c)) := by
  unfold spec_l1In.f
  by_cases h : a ≥ b
  · rw [if_pos h]
    simp [show b ≤ a from h]
  · rw [if_neg h]
    simp [show ¬ b ≤ a from h]

/-! ### ev -/
/-- With enough rounds, and ever after, g answers r. -/
def Evt {α : Type} (g : Nat → Option α) (r : α) : Prop := ∃ K, ∀ k, K ≤ k → g k = some r
theorem Evt.const {α : Type} (r : α) : Evt (fun _ => some r) r := ⟨0, fun _ _ => rfl⟩
theorem Evt.of_eq {α : Type} {g h : Nat → Option α} {r : α} (e : ∀ k, g k = h k) (H : Evt h r) : Evt g r := by
  obtain ⟨K, hK⟩ := H
  exact ⟨K, fun k hk => (e k).trans (hK k hk)⟩
theorem Evt.bind {α β : Type} {g : Nat → Option β} {h : Nat → β → Option α} {a : β} {r : α} (H1 : Evt g a) (H2 : Evt (fun k => h k a) r) : Evt (fun k => (g k).bind (h k)) r := by
  obtain ⟨K1, h1⟩ := H1
  obtain ⟨K2, h2⟩ := H2
  refine ⟨max K1 K2, fun k hk => ?_⟩
  show (g k).bind (h k) = some r
  rw [h1 k (by omega)]
  exact h2 k (by omega)
theorem Evt.succ {α : Type} {g h : Nat → Option α} {r : α} (e : ∀ k, g (k + 1) = h k) (H : Evt h r) : Evt g r := by
  obtain ⟨K, hK⟩ := H
  refine ⟨K + 1, fun k hk => ?_⟩
  obtain ⟨k, rfl⟩ : ∃ m, k = m + 1 := ⟨k - 1, by omega⟩
  rw [e]
  exact hK k (by omega)
theorem Evt.get {α : Type} {g : Nat → Option α} {r : α} (H : Evt g r) : ∃ k, g k = some r := by
  obtain ⟨K, hK⟩ := H
  exact ⟨K, hK K (Nat.le_refl _)⟩
theorem Evt.get2 {α β : Type} {g : Nat → Option α} {h : Nat → Option β} {r : α} {s : β} (H : Evt g r) (H' : Evt h s) : ∃ k, g k = some r ∧ h k = some s := by
  obtain ⟨K, hK⟩ := H
  obtain ⟨K', hK'⟩ := H'
  exact ⟨max K K', hK _ (by omega), hK' _ (by omega)⟩
theorem Evt.ite_pos {α : Type} {c : Prop} [Decidable c] {g h : Nat → Option α} {r : α} (hc : c) (H : Evt g r) : Evt (fun k => if c then g k else h k) r :=
  H.of_eq (fun k => by rw [if_pos hc])
theorem Evt.ite_neg {α : Type} {c : Prop} [Decidable c] {g h : Nat → Option α} {r : α} (hc : ¬ c) (H : Evt h r) : Evt (fun k => if c then g k else h k) r :=
  H.of_eq (fun k => by rw [if_neg hc])
theorem Evt.pred {α : Type} {g h : Nat → Option α} {r : α} (e : ∀ k, g (k + 1) = h k) (H : Evt g r) : Evt h r := by
  obtain ⟨K, hK⟩ := H
  exact ⟨K, fun k hk => (e k).symm.trans (hK (k + 1) (by omega))⟩

/-! ### lists -/
theorem rdOf_get {α : Type} (d : α) (l : List α) (i : Nat) (h : i < l.length) : rdOf d l (i : Int) = l[i] := by
  unfold rdOf
  rw [Int.toNat_natCast, List.getD_eq_getElem?_getD, List.getElem?_eq_getElem h]
  rfl
theorem rd_get (l : List Int) (i : Nat) (h : i < l.length) : rd l (i : Int) = l[i] := by
  unfold rd
  rw [Int.toNat_natCast, List.getD_eq_getElem?_getD, List.getElem?_eq_getElem h]
  rfl
theorem drop_get {α : Type} (l : List α) (i : Nat) (h : i < l.length) : l.drop i = l[i] :: l.drop (i + 1) := by simp
theorem wrap_succ (i : Nat) (h : i < 9223372036854775807) : wrap64 ((i : Int) + 1) = ((i + 1 : Nat) : Int) := by unfold wrap64; omega

/-! ### jobs -/
/-- Jobs: the law's own looks, and the program's look at them. -/
theorem rdJ_nat (l : List S37) (i : Nat) (h : i < l.length) : rd_T37 l (i : Int) = l[i] := by
  unfold rd_T37
  rw [Int.toNat_natCast, List.getD_eq_getElem?_getD, List.getElem?_eq_getElem h]
  rfl
theorem rdL_nat (l : List S34) (i : Nat) (h : i < l.length) : rd_T34 l (i : Int) = l[i] := by
  unfold rd_T34
  rw [Int.toNat_natCast, List.getD_eq_getElem?_getD, List.getElem?_eq_getElem h]
  rfl
def conv (x : S34) : S37 := ⟨x.f0, x.f1, x.f2, x.f3⟩
theorem toJobS_l0 (l : List S34) (hl : l.length ≤ 1048576) (d : Nat) : ∀ (i : Nat) (x : List S37), i ≤ l.length → l.length - i = d → x.length = l.length → x.take i = (l.map conv).take i → Evt (fun k => laws_toJobS.l0 k l x i) (l.map conv) := by
  have hm : (l.map conv).length = l.length := List.length_map _
  induction d with
  | zero =>
    intro i x hi hd hx ht
    have e : x = l.map conv := by
      have h1 : i = l.length := by omega
      rw [h1, List.take_of_length_le (by omega), List.take_of_length_le (by omega)] at ht
      exact ht
    rw [← e]
    exact Evt.succ (fun k => by rw [laws_toJobS.l0, if_neg (by omega)]) (Evt.const _)
  | succ d ih =>
    intro i x hi hd hx ht
    have hlt : i < l.length := by omega
    refine Evt.succ (fun k => ?_) (ih (i + 1) (x.set i (conv l[i])) (by omega) (by omega) (by rw [List.length_set]; exact hx) ?_)
    · rw [laws_toJobS.l0, if_pos (by omega), if_pos (by omega), rdL_nat _ _ hlt]
      unfold laws_toJob.f
      rw [Option.bind_some, if_pos (by omega), wrap_succ i (by omega), Int.toNat_natCast]
      rfl
    · rw [List.take_succ_eq_append_getElem (by rw [List.length_set]; omega), List.take_succ_eq_append_getElem (by omega), List.take_set_of_le (by omega), ht, List.getElem_set_self, List.getElem_map]
theorem toJobS_evt (l : List S34) (hl : l.length ≤ 1048576) : Evt (fun k => laws_toJobS.f k l) (l.map conv) := by
  refine (toJobS_l0 l hl l.length 0 (List.replicate l.length z37) (by omega) (by omega) (by simp) rfl).of_eq (fun k => ?_)
  unfold laws_toJobS.f
  rw [if_pos (by omega), Int.toNat_natCast, if_pos (by omega)]
  rfl
theorem szJobS_eq (l : List S34) (h : l.length ≤ 9223372036854775807) : ∃ t, (laws_szJobS.f l 1048576 = some t) ∧ (t < 0 ∨ l.length ≤ 1048576) := by
  have hw : wrap64 (1048576 - (l.length : Int)) = 1048576 - (l.length : Int) := by unfold wrap64; omega
  unfold laws_szJobS.f
  rw [hw]
  by_cases hn : 1048576 - (l.length : Int) < 0
  · exact ⟨-1, by rw [if_pos hn], .inl (by omega)⟩
  · exact ⟨1048576 - (l.length : Int), by rw [if_neg hn], .inr (by omega)⟩
theorem eqJobS_l0 (l : List S37) (hl : l.length ≤ 1048576) (d : Nat) : ∀ (i : Nat), i ≤ l.length → l.length - i = d → Evt (fun k => laws_eqJobS.l0 k l l i) true := by
  induction d with
  | zero =>
    intro i hi hd
    exact Evt.succ (fun k => by rw [laws_eqJobS.l0, if_neg (by omega)]) (Evt.const _)
  | succ d ih =>
    intro i hi hd
    refine Evt.succ (fun k => ?_) (ih (i + 1) (by omega) (by omega))
    rw [laws_eqJobS.l0, if_pos (by omega), if_pos (by omega), if_pos (by omega), wrap_succ i (by omega)]
    unfold laws_eqJob.f
    simp only [if_true, Option.bind_some]
theorem eqJobS_evt (l : List S37) (hl : l.length ≤ 1048576) : Evt (fun k => laws_eqJobS.f k l l) true := by
  refine (eqJobS_l0 l hl l.length 0 (by omega) (by omega)).of_eq (fun k => ?_)
  unfold laws_eqJobS.f
  rw [if_pos rfl]
  rfl
def okJobs (n : Int) (l : List S37) : Bool := decide (2 ≤ n ∧ n ≤ 6) && decide (l.length ≤ 5) && !l.any (fun x => !impl_areJobs_.ok n x)
theorem implJobs_eq (n : Int) (l : List S37) (hl : l.length ≤ 1048576) : impl_areJobs.f n l = some (okJobs n l) := by
  unfold impl_areJobs.f okJobs
  rw [if_pos (by omega)]
  by_cases h : 2 ≤ n ∧ n ≤ 6
  · rw [if_pos h, decide_eq_true h, Bool.true_and]
  · rw [if_neg h, decide_eq_false h, Bool.false_and, Bool.false_and]
theorem specJob_ok (n : Int) (h2 : 2 ≤ n) (h6 : n ≤ 6) (x : S37) : spec_l10Job.f n x.f0 x.f1 x.f2 x.f3 = some (impl_areJobs_.ok n x) := by
  unfold spec_l10Job.f impl_areJobs_.ok
  rw [show wrap64 (n - 1) = n - 1 by unfold wrap64; omega]
  simp only [l1In_eq, Option.bind_some]
  cases decide (0 ≤ x.f0 ∧ x.f0 ≤ n - 1) with
  | false => rfl
  | true =>
    cases decide (0 ≤ x.f1 ∧ x.f1 ≤ n - 1) with
    | false => rfl
    | true =>
      by_cases e : x.f0 = x.f1
      · simp [e]
      · cases decide (1 ≤ x.f2 ∧ x.f2 ≤ 60) with
        | false => simp [e]
        | true => simp [e]
theorem specGood_l0 (n : Int) (h2 : 2 ≤ n) (h6 : n ≤ 6) (l : List S37) (hl : l.length ≤ 1048576) (d : Nat) : ∀ i, i ≤ l.length → l.length - i = d → Evt (fun k => spec_l10Good.l0 k n l i) (!(l.drop i).any (fun x => !impl_areJobs_.ok n x)) := by
  induction d with
  | zero =>
    intro i hi hd
    rw [List.drop_eq_nil_of_le (by omega), List.any_nil, Bool.not_false]
    exact Evt.succ (fun k => by rw [spec_l10Good.l0, if_neg (by omega)]) (Evt.const _)
  | succ d ih =>
    intro i hi hd
    have li : i < l.length := by omega
    have hd' : l.drop i = l[i] :: l.drop (i + 1) := by simp
    rw [hd', List.any_cons]
    refine Evt.succ (h := fun k => if impl_areJobs_.ok n l[i] = true then spec_l10Good.l0 k n l ((i + 1 : Nat) : Int) else some false) (fun k => ?_) ?_
    · rw [spec_l10Good.l0, if_pos (by omega), if_pos (by omega), rdJ_nat _ _ li, specJob_ok n h2 h6, Option.bind_some, wrap_succ i (by omega)]
    · cases hc : impl_areJobs_.ok n l[i] with
      | true => exact Evt.ite_pos rfl (ih (i + 1) (by omega) (by omega))
      | false => exact Evt.ite_neg (by simp) (Evt.const _)
theorem specGood_evt (n : Int) (l : List S37) (hl : l.length ≤ 1048576) : Evt (fun k => spec_l10Good.f k n l) (okJobs n l) := by
  have sno : Evt (fun k => spec_l10Good.j0 k n l true) false := Evt.succ (h := fun _ => some false) (fun k => by simp only [spec_l10Good.j0, if_true]) (Evt.const _)
  have s1 : Evt (fun k => spec_l10Row.f n) (decide (2 ≤ n ∧ n ≤ 6)) := (Evt.const _).of_eq (fun k => by unfold spec_l10Row.f; rw [l1In_eq]; rfl)
  unfold okJobs
  refine Evt.bind s1 ?_
  by_cases h : 2 ≤ n ∧ n ≤ 6
  · rw [decide_eq_true h, Bool.true_and]
    refine Evt.ite_pos rfl ?_
    by_cases h5 : l.length ≤ 5
    · rw [decide_eq_false (show ¬ (l.length : Int) > 5 by omega), decide_eq_true h5, Bool.true_and]
      exact Evt.succ (fun k => by rw [spec_l10Good.j0, if_neg (by simp)]; rfl) (specGood_l0 n h.1 h.2 l hl l.length 0 (by omega) (by omega))
    · rw [decide_eq_true (show (l.length : Int) > 5 by omega), decide_eq_false h5, Bool.false_and]
      exact sno
  · rw [decide_eq_false h, Bool.false_and, Bool.false_and]
    exact Evt.ite_neg (by simp) sno
theorem of_okJobs (n : Int) (l : List S37) (h : okJobs n l = true) : 2 ≤ n ∧ n ≤ 6 ∧ l.length ≤ 5 ∧ ∀ x ∈ l, 0 ≤ x.f0 ∧ x.f0 ≤ n - 1 ∧ 0 ≤ x.f1 ∧ x.f1 ≤ n - 1 ∧ x.f0 ≠ x.f1 ∧ 1 ≤ x.f2 ∧ x.f2 ≤ 60 ∧ 0 ≤ x.f3 ∧ x.f3 ≤ 999 := by
  unfold okJobs at h
  simp only [Bool.and_eq_true, decide_eq_true_eq, Bool.not_eq_true', List.any_eq_false] at h
  refine ⟨h.1.1.1, h.1.1.2, h.1.2, fun x hx => ?_⟩
  have := Bool.of_not_eq_false (h.2 x hx)
  unfold impl_areJobs_.ok at this
  simp only [Bool.and_eq_true, decide_eq_true_eq, Bool.not_eq_true', decide_eq_false_iff_not] at this
  omega

/-! ### loads -/
/-- The loads of the stretches: both count the same. -/
theorem rd_mem (x : List Int) (a : Int) (P : Int → Prop) (h0 : P 0) (h : ∀ v ∈ x, P v) : P (rd x a) := by
  unfold rd
  rw [List.getD_eq_getElem?_getD]
  cases e : x[a.toNat]? with
  | none => exact h0
  | some v => exact h v (List.mem_of_getElem? e)
theorem one_set (x : List Int) (a s b : Int) (hs : 1 ≤ s ∧ s ≤ 60) (hb : 0 ≤ b ∧ b ≤ 1000000) (h : ∀ v ∈ x, 0 ≤ v ∧ v ≤ b) : ∀ v ∈ x.set a.toNat (wrap64 (rd x a + s)), 0 ≤ v ∧ v ≤ b + 60 := by
  intro v hv
  have hr := rd_mem x a (fun v => 0 ≤ v ∧ v ≤ b) ⟨Int.le_refl _, hb.1⟩ h
  rcases List.mem_or_eq_of_mem_set hv with hv | rfl
  · have := h v hv
    omega
  · generalize rd x a = q at hr
    unfold wrap64
    omega
theorem two_sets (x : List Int) (a c s b : Int) (hs : 1 ≤ s ∧ s ≤ 60) (hb : 0 ≤ b ∧ b ≤ 900000) (h : ∀ v ∈ x, 0 ≤ v ∧ v ≤ b) : ∀ v ∈ (x.set a.toNat (wrap64 (rd x a + s))).set c.toNat (wrap64 (rd (x.set a.toNat (wrap64 (rd x a + s))) c + s)), 0 ≤ v ∧ v ≤ b + 120 := by
  have h1 := one_set x a s b hs (by omega) h
  have h2 := one_set _ c s (b + 60) hs (by omega) h1
  intro v hv
  have := h2 v hv
  omega
theorem loadsUp (q : List S37) (hq : q.length ≤ 5) (j : Nat) (hj : j < q.length) (n : Nat) (hn : n ≤ 6) (y : S37) (hy : rd_T37 q (j : Int) = y) (h0 : 0 ≤ y.f0 ∧ y.f0 < (n : Int)) (h1 : 0 ≤ y.f1 ∧ y.f1 < (n : Int)) (hg : y.f1 > y.f0) (R : List Int → Prop)
    (hsp : 1 ≤ y.f2 ∧ y.f2 ≤ 60) (next : ∀ x : List Int, x.length = n → (∀ v ∈ x, 0 ≤ v ∧ v ≤ 600 * ((j + 1 : Nat) : Int)) → ∃ r, Evt (fun k => spec_l10Loads.l0 k q x ((j + 1 : Nat) : Int)) r ∧ Evt (fun k => impl_loads.l0 k x q (q.length : Int) ((j + 1 : Nat) : Int)) r ∧ R r) (d : Nat) :
    ∀ (i : Nat) (x : List Int), x.length = n → (i : Int) ≤ y.f1 - y.f0 → y.f1 - y.f0 - (i : Int) = d → (∀ v ∈ x, 0 ≤ v ∧ v ≤ 600 * (j : Int) + 120 * (i : Int)) → ∃ r, Evt (fun k => spec_l10Loads.l1 k q x j (y.f1 - y.f0) 1 i) r ∧ Evt (fun k => impl_loads.l1 k x (y.f0 + (i : Int)) q (q.length : Int) j y.f0 y.f1 y.f2 y.f3) r ∧ R r := by
  induction d with
  | zero =>
    intro i x hx hi hd hb
    obtain ⟨r, r1, r2, hR⟩ := next x hx (fun v hv => by have := hb v hv; omega)
    refine ⟨r, Evt.succ (fun k => ?_) r1, Evt.succ (fun k => ?_) r2, hR⟩
    · rw [spec_l10Loads.l1, if_neg (by omega), wrap_succ j (by omega)]
    · rw [impl_loads.l1, if_pos (by omega), wrap_succ j (by omega)]
  | succ d ih =>
    intro i x hx hi hd hb
    have e1 : wrap64 (y.f0 + wrap64 (1 * (i : Int))) = (y.f0 + (i : Int)) := by unfold wrap64; omega
    have e2 : wrap64 ((y.f0 + (i : Int)) + 1) = (y.f0 + ((i + 1 : Nat) : Int)) := by unfold wrap64; omega
    have e3 : impl_Job_next.f y.f0 y.f1 y.f2 y.f3 (y.f0 + (i : Int)) = some (y.f0 + ((i + 1 : Nat) : Int)) := by
      unfold impl_Job_next.f
      rw [if_pos hg]
      exact congrArg some (by unfold wrap64; omega)
    have b1 : 0 ≤ (y.f0 + (i : Int)) ∧ (y.f0 + (i : Int)) < (n : Int) := by omega
    have b2 : 0 ≤ (y.f0 + ((i + 1 : Nat) : Int)) ∧ (y.f0 + ((i + 1 : Nat) : Int)) < (n : Int) := by omega
    have ne : ¬ (y.f0 + (i : Int)) = y.f1 := by omega
    have lt : (i : Int) < y.f1 - y.f0 := by omega
    have a3 : (((i + 1 : Nat) : Int)) ≤ y.f1 - y.f0 := by omega
    have a4 : y.f1 - y.f0 - ((i + 1 : Nat) : Int) = (d : Int) := by omega
    obtain ⟨r, r1, r2, hR⟩ := ih (i + 1) ((x.set ((y.f0 + (i : Int))).toNat (wrap64 (rd x (y.f0 + (i : Int)) + y.f2))).set ((y.f0 + ((i + 1 : Nat) : Int))).toNat (wrap64 (rd (x.set ((y.f0 + (i : Int))).toNat (wrap64 (rd x (y.f0 + (i : Int)) + y.f2))) (y.f0 + ((i + 1 : Nat) : Int)) + y.f2))) (by rw [List.length_set, List.length_set]; exact hx) a3 a4 (by have := two_sets x (y.f0 + (i : Int)) (y.f0 + ((i + 1 : Nat) : Int)) y.f2 (600 * (j : Int) + 120 * (i : Int)) hsp (by omega) hb; intro v hv; have := this v hv; omega)
    have w := wrap_succ i (by omega)
    refine ⟨r, Evt.succ (fun k => ?_) r1, Evt.succ (fun k => ?_) r2, hR⟩
    · rw [spec_l10Loads.l1, if_pos lt, if_pos (by omega), if_pos (by omega), hy, e1, if_pos b1.1, if_pos (by rw [hx]; exact b1.2), Option.bind_some, e2, if_pos b2.1, if_pos (by rw [hx]; exact b2.2), w]
    · rw [impl_loads.l1, if_neg ne, if_pos b1.1, if_pos (by rw [hx]; exact b1.2), Option.bind_some, e3, Option.bind_some, if_pos b2.1, if_pos (by rw [hx]; exact b2.2), Option.bind_some]
theorem loadsDown (q : List S37) (hq : q.length ≤ 5) (j : Nat) (hj : j < q.length) (n : Nat) (hn : n ≤ 6) (y : S37) (hy : rd_T37 q (j : Int) = y) (h0 : 0 ≤ y.f0 ∧ y.f0 < (n : Int)) (h1 : 0 ≤ y.f1 ∧ y.f1 < (n : Int)) (hg : ¬ y.f1 > y.f0) (R : List Int → Prop)
    (hsp : 1 ≤ y.f2 ∧ y.f2 ≤ 60) (next : ∀ x : List Int, x.length = n → (∀ v ∈ x, 0 ≤ v ∧ v ≤ 600 * ((j + 1 : Nat) : Int)) → ∃ r, Evt (fun k => spec_l10Loads.l0 k q x ((j + 1 : Nat) : Int)) r ∧ Evt (fun k => impl_loads.l0 k x q (q.length : Int) ((j + 1 : Nat) : Int)) r ∧ R r) (d : Nat) :
    ∀ (i : Nat) (x : List Int), x.length = n → (i : Int) ≤ y.f0 - y.f1 → y.f0 - y.f1 - (i : Int) = d → (∀ v ∈ x, 0 ≤ v ∧ v ≤ 600 * (j : Int) + 120 * (i : Int)) → ∃ r, Evt (fun k => spec_l10Loads.l1 k q x j (y.f0 - y.f1) (-1) i) r ∧ Evt (fun k => impl_loads.l1 k x (y.f0 - (i : Int)) q (q.length : Int) j y.f0 y.f1 y.f2 y.f3) r ∧ R r := by
  induction d with
  | zero =>
    intro i x hx hi hd hb
    obtain ⟨r, r1, r2, hR⟩ := next x hx (fun v hv => by have := hb v hv; omega)
    refine ⟨r, Evt.succ (fun k => ?_) r1, Evt.succ (fun k => ?_) r2, hR⟩
    · rw [spec_l10Loads.l1, if_neg (by omega), wrap_succ j (by omega)]
    · rw [impl_loads.l1, if_pos (by omega), wrap_succ j (by omega)]
  | succ d ih =>
    intro i x hx hi hd hb
    have e1 : wrap64 (y.f0 + wrap64 ((-1) * (i : Int))) = (y.f0 - (i : Int)) := by unfold wrap64; omega
    have e2 : wrap64 ((y.f0 - (i : Int)) + (-1)) = (y.f0 - ((i + 1 : Nat) : Int)) := by unfold wrap64; omega
    have e3 : impl_Job_next.f y.f0 y.f1 y.f2 y.f3 (y.f0 - (i : Int)) = some (y.f0 - ((i + 1 : Nat) : Int)) := by
      unfold impl_Job_next.f
      rw [if_neg hg]
      exact congrArg some (by unfold wrap64; omega)
    have b1 : 0 ≤ (y.f0 - (i : Int)) ∧ (y.f0 - (i : Int)) < (n : Int) := by omega
    have b2 : 0 ≤ (y.f0 - ((i + 1 : Nat) : Int)) ∧ (y.f0 - ((i + 1 : Nat) : Int)) < (n : Int) := by omega
    have ne : ¬ (y.f0 - (i : Int)) = y.f1 := by omega
    have lt : (i : Int) < y.f0 - y.f1 := by omega
    have a3 : (((i + 1 : Nat) : Int)) ≤ y.f0 - y.f1 := by omega
    have a4 : y.f0 - y.f1 - ((i + 1 : Nat) : Int) = (d : Int) := by omega
    obtain ⟨r, r1, r2, hR⟩ := ih (i + 1) ((x.set ((y.f0 - (i : Int))).toNat (wrap64 (rd x (y.f0 - (i : Int)) + y.f2))).set ((y.f0 - ((i + 1 : Nat) : Int))).toNat (wrap64 (rd (x.set ((y.f0 - (i : Int))).toNat (wrap64 (rd x (y.f0 - (i : Int)) + y.f2))) (y.f0 - ((i + 1 : Nat) : Int)) + y.f2))) (by rw [List.length_set, List.length_set]; exact hx) a3 a4 (by have := two_sets x (y.f0 - (i : Int)) (y.f0 - ((i + 1 : Nat) : Int)) y.f2 (600 * (j : Int) + 120 * (i : Int)) hsp (by omega) hb; intro v hv; have := this v hv; omega)
    have w := wrap_succ i (by omega)
    refine ⟨r, Evt.succ (fun k => ?_) r1, Evt.succ (fun k => ?_) r2, hR⟩
    · rw [spec_l10Loads.l1, if_pos lt, if_pos (by omega), if_pos (by omega), hy, e1, if_pos b1.1, if_pos (by rw [hx]; exact b1.2), Option.bind_some, e2, if_pos b2.1, if_pos (by rw [hx]; exact b2.2), w]
    · rw [impl_loads.l1, if_neg ne, if_pos b1.1, if_pos (by rw [hx]; exact b1.2), Option.bind_some, e3, Option.bind_some, if_pos b2.1, if_pos (by rw [hx]; exact b2.2), Option.bind_some]
theorem loads_l0 (q : List S37) (n : Int) (ok : okJobs n q = true) (d : Nat) : ∀ (j : Nat) (x : List Int), x.length = n.toNat → j ≤ q.length → q.length - j = d → (∀ v ∈ x, 0 ≤ v ∧ v ≤ 600 * (j : Int)) → ∃ r, Evt (fun k => spec_l10Loads.l0 k q x j) r ∧ Evt (fun k => impl_loads.l0 k x q (q.length : Int) j) r ∧ (r.length = n.toNat ∧ ∀ v ∈ r, 0 ≤ v) := by
  obtain ⟨h2, h6, h5, hall⟩ := of_okJobs n q ok
  induction d with
  | zero =>
    intro j x hx hj hd hb
    exact ⟨x, Evt.succ (fun k => by rw [spec_l10Loads.l0, if_neg (by omega)]) (Evt.const _), Evt.succ (fun k => by rw [impl_loads.l0, if_neg (by omega)]) (Evt.const _), hx, fun v hv => (hb v hv).1⟩
  | succ d ih =>
    intro j x hx hj hd hb
    have lj : j < q.length := by omega
    have hy := hall q[j] (List.getElem_mem lj)
    have ey := rdJ_nat q j lj
    generalize q[j] = y at hy ey
    have next := fun x hx hb => ih (j + 1) x hx (by omega) (by omega) hb
    by_cases hg : y.f1 > y.f0
    · obtain ⟨r, r1, r2, hR⟩ := loadsUp q h5 j lj n.toNat (by omega) y ey (by omega) (by omega) hg _ (by omega) next (y.f1 - y.f0).toNat 0 x hx (by omega) (by omega) (fun v hv => by have := hb v hv; omega)
      rw [show (y.f0 + ((0 : Nat) : Int)) = y.f0 by omega] at r2
      have e : spec_l10Steps.f y.f0 y.f1 y.f2 y.f3 = some (y.f1 - y.f0, 1) := by
        unfold spec_l10Steps.f
        rw [if_pos hg, show wrap64 (y.f1 - y.f0) = y.f1 - y.f0 by unfold wrap64; omega]
      refine ⟨r, Evt.succ (fun k => ?_) r1, Evt.succ (fun k => ?_) r2, hR⟩
      · rw [spec_l10Loads.l0, if_pos (by omega), if_pos (by omega), ey, e, Option.bind_some]
        rfl
      · rw [impl_loads.l0, if_pos (by omega), if_pos (by omega), if_pos (by omega), ey]
    · obtain ⟨r, r1, r2, hR⟩ := loadsDown q h5 j lj n.toNat (by omega) y ey (by omega) (by omega) hg _ (by omega) next (y.f0 - y.f1).toNat 0 x hx (by omega) (by omega) (fun v hv => by have := hb v hv; omega)
      rw [show (y.f0 - ((0 : Nat) : Int)) = y.f0 by omega] at r2
      have e : spec_l10Steps.f y.f0 y.f1 y.f2 y.f3 = some (y.f0 - y.f1, -1) := by
        unfold spec_l10Steps.f
        rw [if_neg hg, show wrap64 (y.f0 - y.f1) = y.f0 - y.f1 by unfold wrap64; omega]
      refine ⟨r, Evt.succ (fun k => ?_) r1, Evt.succ (fun k => ?_) r2, hR⟩
      · rw [spec_l10Loads.l0, if_pos (by omega), if_pos (by omega), ey, e, Option.bind_some]
        rfl
      · rw [impl_loads.l0, if_pos (by omega), if_pos (by omega), if_pos (by omega), ey]
theorem loads_evt (q : List S37) (n : Int) (ok : okJobs n q = true) : ∃ r, Evt (fun k => spec_l10Loads.f k n q) r ∧ Evt (fun k => impl_loads.f k n q) r ∧ r.length = n.toNat ∧ ∀ v ∈ r, 0 ≤ v := by
  obtain ⟨h2, h6, h5, hall⟩ := of_okJobs n q ok
  obtain ⟨r, r1, r2, hr⟩ := loads_l0 q n ok q.length 0 (List.replicate n.toNat 0) (by simp) (by omega) (by omega) (fun v hv => by have := List.eq_of_mem_replicate hv; omega)
  exact ⟨r, Evt.ite_pos (by omega) (Evt.ite_pos (by omega) r1), Evt.ite_pos (by omega) (Evt.ite_pos (by omega) r2), hr⟩

theorem most_eq (a b : Int) : spec_l1Most.f a b = some (mx a b) := by
  unfold spec_l1Most.f mx
  by_cases h : a > b
  · rw [if_pos h, if_neg (by omega)]
  · rw [if_neg h]
    by_cases h2 : a < b
    · rw [if_pos h2]
    · rw [if_neg h2]
      congr 1
      omega
theorem end_l1 (q : List S37) (n : Int) (ok : okJobs n q = true) (d : Nat) : ∀ (j : Nat) (x : Int), j ≤ q.length → q.length - j = d → ∃ r, Evt (fun k => spec_LeastEnd.l1 k q x j) r ∧ Evt (fun k => impl_LeastEnd.l0 k x q (q.length : Int) j) r := by
  obtain ⟨h2, h6, h5, hall⟩ := of_okJobs n q ok
  induction d with
  | zero =>
    intro j x hj hd
    exact ⟨(x, true), Evt.succ (fun k => by rw [spec_LeastEnd.l1, if_neg (by omega)]) (Evt.const _), Evt.succ (fun k => by rw [impl_LeastEnd.l0, if_neg (by omega)]) (Evt.const _)⟩
  | succ d ih =>
    intro j x hj hd
    have lj : j < q.length := by omega
    have hy := hall q[j] (List.getElem_mem lj)
    have ey := rdJ_nat q j lj
    generalize q[j] = y at hy ey
    obtain ⟨m, dr, e1, e2⟩ : ∃ m dr : Int, spec_l10Steps.f y.f0 y.f1 y.f2 y.f3 = some (m, dr) ∧ impl_Job_steps.f y.f0 y.f1 y.f2 y.f3 = some m := by
      unfold spec_l10Steps.f impl_Job_steps.f
      have w1 : wrap64 (y.f1 - y.f0) = y.f1 - y.f0 := by unfold wrap64; omega
      have w2 : wrap64 (y.f0 - y.f1) = y.f0 - y.f1 := by unfold wrap64; omega
      rw [w1, w2]
      by_cases hg : y.f1 > y.f0
      · refine ⟨y.f1 - y.f0, 1, by rw [if_pos hg], ?_⟩
        unfold mx
        rw [if_neg (by omega)]
      · refine ⟨y.f0 - y.f1, -1, by rw [if_neg hg], ?_⟩
        unfold mx
        rw [if_pos (by omega)]
    obtain ⟨r, r1, r2⟩ := ih (j + 1) (mx x (wrap64 (y.f3 + wrap64 (m * y.f2)))) (by omega) (by omega)
    refine ⟨r, Evt.succ (fun k => ?_) r1, Evt.succ (fun k => ?_) r2⟩
    · rw [spec_LeastEnd.l1, if_pos (by omega), if_pos (by omega), ey, e1, Option.bind_some, most_eq, Option.bind_some, wrap_succ j (by omega)]
    · rw [impl_LeastEnd.l0, if_pos (by omega), if_pos (by omega), if_pos (by omega), ey, e2, Option.bind_some, wrap_succ j (by omega)]
theorem end_l0 (q : List S37) (n : Int) (ok : okJobs n q = true) (x : List Int) (hx : x.length = n.toNat) (z : Int × Bool) (next : Evt (fun k => spec_LeastEnd.l1 k q (x.foldl mx 0) 0) z) (d : Nat) : ∀ (j : Nat), j ≤ x.length → x.length - j = d → Evt (fun k => spec_LeastEnd.l0 k n q ((x.take j).foldl mx 0) x j) z := by
  obtain ⟨h2, h6, h5, hall⟩ := of_okJobs n q ok
  induction d with
  | zero =>
    intro j hj hd
    rw [List.take_of_length_le (by omega)]
    exact Evt.succ (fun k => by rw [spec_LeastEnd.l0, if_neg (by omega)]) next
  | succ d ih =>
    intro j hj hd
    have lj : j < x.length := by omega
    have go := ih (j + 1) (by omega) (by omega)
    rw [List.take_succ_eq_append_getElem lj, List.foldl_append] at go
    exact Evt.succ (fun k => by rw [spec_LeastEnd.l0, if_pos (by omega), if_pos (by omega), if_pos (by omega), most_eq, Option.bind_some, rd_get _ _ lj, wrap_succ j (by omega)]; rfl) go
theorem max_same (x : List Int) (h0 : 0 < x.length) (h : ∀ v ∈ x, 0 ≤ v) : slices_Max_int_int.maxL x = x.foldl mx 0 := by
  cases x with
  | nil => cases h0
  | cons a x =>
    have ha := h a List.mem_cons_self
    have e1 : mx 0 a = a := by
      unfold mx
      by_cases q : 0 < a
      · rw [if_pos q]
      · rw [if_neg q]; omega
    have e2 : mx a a = a := by unfold mx; rw [if_neg (by omega)]
    show List.foldl mx (mx a a) x = List.foldl mx (mx 0 a) x
    rw [e1, e2]
theorem same_evt (n : Int) (q : List S37) (hq : q.length ≤ 1048576) : ∃ r, Evt (fun k => spec_LeastEnd.f k n q) r ∧ Evt (fun k => impl_LeastEnd.f k n q) r := by
  have s1 := specGood_evt n q hq
  have i1 : Evt (fun k => impl_areJobs.f n q) (okJobs n q) := (Evt.const _).of_eq (fun k => implJobs_eq n q hq)
  cases h : okJobs n q with
  | false =>
    rw [h] at s1 i1
    exact ⟨(0, false), Evt.bind s1 (Evt.ite_neg (by simp) (Evt.const _)), Evt.bind i1 (Evt.ite_neg (by simp) (Evt.const _))⟩
  | true =>
    rw [h] at s1 i1
    have hof := of_okJobs n q h
    obtain ⟨r, r1, r2, hr, hn⟩ := loads_evt q n h
    obtain ⟨z, z1, z2⟩ := end_l1 q n h q.length 0 (r.foldl mx 0) (by omega) (by omega)
    have hm : slices_Max_int_int.f r = some (r.foldl mx 0) := by
      unfold slices_Max_int_int.f
      rw [if_pos (by omega), max_same r (by omega) hn]
    refine ⟨z, Evt.bind s1 (Evt.ite_pos rfl (Evt.bind r1 ?_)), Evt.bind i1 (Evt.ite_pos rfl (Evt.bind r2 ?_))⟩
    · exact end_l0 q n h r hr z z1 r.length 0 (by omega) (by omega)
    · exact Evt.bind ((Evt.const _).of_eq (fun k => hm)) z2
theorem FnExactLeastEnd : laws_FnExactLeastEnd.Pure := by
  intro n l _ hl _
  obtain ⟨t, ht, hor⟩ := szJobS_eq l hl
  refine Evt.get (r := true) ?_
  refine Evt.bind ((Evt.const t).of_eq (fun k => ht)) ?_
  by_cases hn : t < 0
  · exact Evt.ite_pos hn (Evt.const _)
  · refine Evt.ite_neg hn ?_
    have hl : l.length ≤ 1048576 := by omega
    have hm : (l.map conv).length ≤ 1048576 := by rw [List.length_map]; exact hl
    obtain ⟨r, h1, h2⟩ := same_evt n (l.map conv) hm
    refine Evt.bind (toJobS_evt l hl) (Evt.bind h1 (Evt.bind (toJobS_evt l hl) (Evt.bind h2 (Evt.ite_pos rfl ?_))))
    rw [show (r.2 != r.2) = false by simp]
    refine Evt.succ (h := fun k => _) (fun k => by simp only [laws_FnExactLeastEnd.j0]; rfl) ?_
    refine Evt.ite_neg (by simp) ?_
    exact Evt.bind (toJobS_evt l hl) (Evt.bind (eqJobS_evt _ hm) (Evt.ite_pos rfl (Evt.const _)))
end Go.Proofs.Ytmndcbfdkfhheaa.Pure
