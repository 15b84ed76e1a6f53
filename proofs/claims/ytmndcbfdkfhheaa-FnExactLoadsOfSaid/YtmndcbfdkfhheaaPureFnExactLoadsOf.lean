/- The program's LoadsOf returns what the reference's LoadsOf returns, for every number of stations and all jobs. No condition. -/
import Derived.Test.YtmndcbfdkfhheaaPFnExactLoadsOfx5
namespace Go.Proofs.Ytmndcbfdkfhheaa.Pure
open Go.RowKit Go.Proofs.Ytmndcbfdkfhheaa.PFnExactLoadsOf Go.Proofs.YtmndcbfdkfhheaaW.PrintWords Go.Proofs.YtmndcbfdkfhheaaW.PrintLast Go.Proofs.YtmndcbfdkfhheaaW.PrintMore
set_option linter.unusedVariables false
set_option linter.unusedSimpArgs false

/-! ### in -/
theorem in_eq (a b c : Int) : impl_in.f a b c = some (decide (b ≤ a ∧ a ≤ c)) := by
  unfold impl_in.f
  by_cases h : a ≥ b
  · rw [if_pos h]
    simp [show b ≤ a from h]
  · rw [if_neg h]
    simp [show ¬ b ≤ a from h]
theorem l1In_eq (a b c : Int) : spec_l1In.f a b c = some (decide (b ≤ a ∧ a ≤ c)) := by
  unfold spec_l1In.f
  by_cases h : a ≥ b
  · rw [if_pos h]
    simp [show b ≤ a from h]
  · rw [if_neg h]
    simp [show ¬ b ≤ a from h]

/-! ### ev -/
/-- With enough rounds, and ever after, g answers r. -/
def Evt {α : Type} (g : Nat → Option α) (r : α) : Prop := ∃ K, ∀ k, K ≤ k → g k = some r
theorem Evt.const {α : Type} (r : α) : Evt (fun _ => some r) r := ⟨0, fun _ _ => rfl⟩
theorem Evt.of_eq {α : Type} {g h : Nat → Option α} {r : α} (e : ∀ k, g k = h k) (H : Evt h r) : Evt g r := by
  obtain ⟨K, hK⟩ := H
  exact ⟨K, fun k hk => (e k).trans (hK k hk)⟩
theorem Evt.bind {α β : Type} {g : Nat → Option β} {h : Nat → β → Option α} {a : β} {r : α} (H1 : Evt g a) (H2 : Evt (fun k => h k a) r) : Evt (fun k => (g k).bind (h k)) r := by
  obtain ⟨K1, h1⟩ := H1
  obtain ⟨K2, h2⟩ := H2
  refine ⟨max K1 K2, fun k hk => ?_⟩
  show (g k).bind (h k) = some r
  rw [h1 k (by omega)]
  exact h2 k (by omega)
theorem Evt.succ {α : Type} {g h : Nat → Option α} {r : α} (e : ∀ k, g (k + 1) = h k) (H : Evt h r) : Evt g r := by
  obtain ⟨K, hK⟩ := H
  refine ⟨K + 1, fun k hk => ?_⟩
  obtain ⟨k, rfl⟩ : ∃ m, k = m + 1 := ⟨k - 1, by omega⟩
  rw [e]
  exact hK k (by omega)
theorem Evt.get {α : Type} {g : Nat → Option α} {r : α} (H : Evt g r) : ∃ k, g k = some r := by
  obtain ⟨K, hK⟩ := H
  exact ⟨K, hK K (Nat.le_refl _)⟩
theorem Evt.get2 {α β : Type} {g : Nat → Option α} {h : Nat → Option β} {r : α} {s : β} (H : Evt g r) (H' : Evt h s) : ∃ k, g k = some r ∧ h k = some s := by
  obtain ⟨K, hK⟩ := H
  obtain ⟨K', hK'⟩ := H'
  exact ⟨max K K', hK _ (by omega), hK' _ (by omega)⟩
theorem Evt.ite_pos {α : Type} {c : Prop} [Decidable c] {g h : Nat → Option α} {r : α} (hc : c) (H : Evt g r) : Evt (fun k => if c then g k else h k) r :=
  H.of_eq (fun k => by rw [if_pos hc])
theorem Evt.ite_neg {α : Type} {c : Prop} [Decidable c] {g h : Nat → Option α} {r : α} (hc : ¬ c) (H : Evt h r) : Evt (fun k => if c then g k else h k) r :=
  H.of_eq (fun k => by rw [if_neg hc])
theorem Evt.pred {α : Type} {g h : Nat → Option α} {r : α} (e : ∀ k, g (k + 1) = h k) (H : Evt g r) : Evt h r := by
  obtain ⟨K, hK⟩ := H
  exact ⟨K, fun k hk => (e k).symm.trans (hK (k + 1) (by omega))⟩

/-! ### lists -/
theorem rdOf_get {α : Type} (d : α) (l : List α) (i : Nat) (h : i < l.length) : rdOf d l (i : Int) = l[i] := by
  unfold rdOf
  rw [Int.toNat_natCast, List.getD_eq_getElem?_getD, List.getElem?_eq_getElem h]
  rfl
theorem rd_get (l : List Int) (i : Nat) (h : i < l.length) : rd l (i : Int) = l[i] := by
  unfold rd
  rw [Int.toNat_natCast, List.getD_eq_getElem?_getD, List.getElem?_eq_getElem h]
  rfl
theorem drop_get {α : Type} (l : List α) (i : Nat) (h : i < l.length) : l.drop i = l[i] :: l.drop (i + 1) := by simp
theorem wrap_succ (i : Nat) (h : i < 9223372036854775807) : wrap64 ((i : Int) + 1) = ((i + 1 : Nat) : Int) := by unfold wrap64; omega

/-! ### jobs -/
/-- Jobs: the law's own looks, and the program's look at them. -/
theorem rdJ_nat (l : List S37) (i : Nat) (h : i < l.length) : rd_T37 l (i : Int) = l[i] := by
  unfold rd_T37
  rw [Int.toNat_natCast, List.getD_eq_getElem?_getD, List.getElem?_eq_getElem h]
  rfl
theorem rdL_nat (l : List S34) (i : Nat) (h : i < l.length) : rd_T34 l (i : Int) = l[i] := by
  unfold rd_T34
  rw [Int.toNat_natCast, List.getD_eq_getElem?_getD, List.getElem?_eq_getElem h]
  rfl
def conv (x : S34) : S37 := ⟨x.f0, x.f1, x.f2, x.f3⟩
theorem toJobS_l0 (l : List S34) (hl : l.length ≤ 1048576) (d : Nat) : ∀ (i : Nat) (x : List S37), i ≤ l.length → l.length - i = d → x.length = l.length → x.take i = (l.map conv).take i → Evt (fun k => laws_toJobS.l0 k l x i) (l.map conv) := by
  have hm : (l.map conv).length = l.length := List.length_map _
  induction d with
  | zero =>
    intro i x hi hd hx ht
    have e : x = l.map conv := by
      have h1 : i = l.length := by omega
      rw [h1, List.take_of_length_le (by omega), List.take_of_length_le (by omega)] at ht
      exact ht
    rw [← e]
    exact Evt.succ (fun k => by rw [laws_toJobS.l0, if_neg (by omega)]) (Evt.const _)
  | succ d ih =>
    intro i x hi hd hx ht
    have hlt : i < l.length := by omega
    refine Evt.succ (fun k => ?_) (ih (i + 1) (x.set i (conv l[i])) (by omega) (by omega) (by rw [List.length_set]; exact hx) ?_)
    · rw [laws_toJobS.l0, if_pos (by omega), if_pos (by omega), rdL_nat _ _ hlt]
      unfold laws_toJob.f
      rw [Option.bind_some, if_pos (by omega), wrap_succ i (by omega), Int.toNat_natCast]
      rfl
    · rw [List.take_succ_eq_append_getElem (by rw [List.length_set]; omega), List.take_succ_eq_append_getElem (by omega), List.take_set_of_le (by omega), ht, List.getElem_set_self, List.getElem_map]
theorem toJobS_evt (l : List S34) (hl : l.length ≤ 1048576) : Evt (fun k => laws_toJobS.f k l) (l.map conv) := by
  refine (toJobS_l0 l hl l.length 0 (List.replicate l.length z37) (by omega) (by omega) (by simp) rfl).of_eq (fun k => ?_)
  unfold laws_toJobS.f
  rw [if_pos (by omega), Int.toNat_natCast, if_pos (by omega)]
  rfl
theorem szJobS_eq (l : List S34) (h : l.length ≤ 9223372036854775807) : ∃ t, (laws_szJobS.f l 1048576 = some t) ∧ (t < 0 ∨ l.length ≤ 1048576) := by
  have hw : wrap64 (1048576 - (l.length : Int)) = 1048576 - (l.length : Int) := by unfold wrap64; omega
  unfold laws_szJobS.f
  rw [hw]
  by_cases hn : 1048576 - (l.length : Int) < 0
  · exact ⟨-1, by rw [if_pos hn], .inl (by omega)⟩
  · exact ⟨1048576 - (l.length : Int), by rw [if_neg hn], .inr (by omega)⟩
theorem eqJobS_l0 (l : List S37) (hl : l.length ≤ 1048576) (d : Nat) : ∀ (i : Nat), i ≤ l.length → l.length - i = d → Evt (fun k => laws_eqJobS.l0 k l l i) true := by
  induction d with
  | zero =>
    intro i hi hd
    exact Evt.succ (fun k => by rw [laws_eqJobS.l0, if_neg (by omega)]) (Evt.const _)
  | succ d ih =>
    intro i hi hd
    refine Evt.succ (fun k => ?_) (ih (i + 1) (by omega) (by omega))
    rw [laws_eqJobS.l0, if_pos (by omega), if_pos (by omega), if_pos (by omega), wrap_succ i (by omega)]
    unfold laws_eqJob.f
    simp only [if_true, Option.bind_some]
theorem eqJobS_evt (l : List S37) (hl : l.length ≤ 1048576) : Evt (fun k => laws_eqJobS.f k l l) true := by
  refine (eqJobS_l0 l hl l.length 0 (by omega) (by omega)).of_eq (fun k => ?_)
  unfold laws_eqJobS.f
  rw [if_pos rfl]
  rfl
theorem markJobS_l0 (n : Nat) (hn : n ≤ 1048576) (d : Nat) : ∀ (i : Nat) (x : List S37), i ≤ n → n - i = d → x.length = n → ∃ y, Evt (fun k => laws_markJobS.l0 k x ((1 + 4 * i : Nat) : Int) i) (((1 + 4 * n : Nat) : Int), y) := by
  induction d with
  | zero =>
    intro i x hi hd hx
    obtain rfl : i = n := by omega
    exact ⟨x, Evt.succ (fun k => by rw [laws_markJobS.l0, if_neg (by omega)]) (Evt.const _)⟩
  | succ d ih =>
    intro i x hi hd hx
    have w : wrap64 (wrap64 (wrap64 (wrap64 (((1 + 4 * i : Nat) : Int) + 1) + 1) + 1) + 1) = ((1 + 4 * (i + 1) : Nat) : Int) := by
      rw [wrap_succ _ (by omega), wrap_succ _ (by omega), wrap_succ _ (by omega), wrap_succ _ (by omega)]
      rfl
    have go := fun x' (h : x'.length = n) => ih (i + 1) x' (by omega) (by omega) h
    obtain ⟨y, hy⟩ := go ((((x.set (i : Int).toNat ⟨((1 + 4 * i : Nat) : Int), (rd_T37 x i).f1, (rd_T37 x i).f2, (rd_T37 x i).f3⟩).set (i : Int).toNat _).set (i : Int).toNat _).set (i : Int).toNat _) (by simp only [List.length_set]; exact hx)
    refine ⟨y, Evt.succ (fun k => ?_) hy⟩
    rw [laws_markJobS.l0, if_pos (by omega), if_pos (by omega)]
    simp only [Option.bind_some]
    rw [w, wrap_succ i (by omega)]
theorem markJobS_evt (l : List S37) (hl : l.length ≤ 1048576) : ∃ y, Evt (fun k => laws_markJobS.f k l 1) (((1 + 4 * l.length : Nat) : Int), y) :=
  markJobS_l0 l.length hl l.length 0 l (by omega) (by omega) rfl
def okJobs (n : Int) (l : List S37) : Bool := decide (2 ≤ n ∧ n ≤ 6) && decide (l.length ≤ 5) && !l.any (fun x => !impl_areJobs_.ok n x)
theorem implJobs_eq (n : Int) (l : List S37) (hl : l.length ≤ 1048576) : impl_areJobs.f n l = some (okJobs n l) := by
  unfold impl_areJobs.f okJobs
  rw [if_pos (by omega)]
  by_cases h : 2 ≤ n ∧ n ≤ 6
  · rw [if_pos h, decide_eq_true h, Bool.true_and]
  · rw [if_neg h, decide_eq_false h, Bool.false_and, Bool.false_and]
theorem specJob_ok (n : Int) (h2 : 2 ≤ n) (h6 : n ≤ 6) (x : S37) : spec_l10Job.f n x.f0 x.f1 x.f2 x.f3 = some (impl_areJobs_.ok n x) := by
  unfold spec_l10Job.f impl_areJobs_.ok
  rw [show wrap64 (n - 1) = n - 1 by unfold wrap64; omega]
  simp only [l1In_eq, Option.bind_some]
  cases decide (0 ≤ x.f0 ∧ x.f0 ≤ n - 1) with
  | false => rfl
  | true =>
    cases decide (0 ≤ x.f1 ∧ x.f1 ≤ n - 1) with
    | false => rfl
    | true =>
      by_cases e : x.f0 = x.f1
      · simp [e]
      · cases decide (1 ≤ x.f2 ∧ x.f2 ≤ 60) with
        | false => simp [e]
        | true => simp [e]
theorem specGood_l0 (n : Int) (h2 : 2 ≤ n) (h6 : n ≤ 6) (l : List S37) (hl : l.length ≤ 1048576) (d : Nat) : ∀ i, i ≤ l.length → l.length - i = d → Evt (fun k => spec_l10Good.l0 k n l i) (!(l.drop i).any (fun x => !impl_areJobs_.ok n x)) := by
  induction d with
  | zero =>
    intro i hi hd
    rw [List.drop_eq_nil_of_le (by omega), List.any_nil, Bool.not_false]
    exact Evt.succ (fun k => by rw [spec_l10Good.l0, if_neg (by omega)]) (Evt.const _)
  | succ d ih =>
    intro i hi hd
    have li : i < l.length := by omega
    have hd' : l.drop i = l[i] :: l.drop (i + 1) := by simp
    rw [hd', List.any_cons]
    refine Evt.succ (h := fun k => if impl_areJobs_.ok n l[i] = true then spec_l10Good.l0 k n l ((i + 1 : Nat) : Int) else some false) (fun k => ?_) ?_
    · rw [spec_l10Good.l0, if_pos (by omega), if_pos (by omega), rdJ_nat _ _ li, specJob_ok n h2 h6, Option.bind_some, wrap_succ i (by omega)]
    · cases hc : impl_areJobs_.ok n l[i] with
      | true => exact Evt.ite_pos rfl (ih (i + 1) (by omega) (by omega))
      | false => exact Evt.ite_neg (by simp) (Evt.const _)
theorem specGood_evt (n : Int) (l : List S37) (hl : l.length ≤ 1048576) : Evt (fun k => spec_l10Good.f k n l) (okJobs n l) := by
  have sno : Evt (fun k => spec_l10Good.j0 k n l true) false := Evt.succ (h := fun _ => some false) (fun k => by simp only [spec_l10Good.j0, if_true]) (Evt.const _)
  have s1 : Evt (fun k => spec_l10Row.f n) (decide (2 ≤ n ∧ n ≤ 6)) := (Evt.const _).of_eq (fun k => by unfold spec_l10Row.f; rw [l1In_eq]; rfl)
  unfold okJobs
  refine Evt.bind s1 ?_
  by_cases h : 2 ≤ n ∧ n ≤ 6
  · rw [decide_eq_true h, Bool.true_and]
    refine Evt.ite_pos rfl ?_
    by_cases h5 : l.length ≤ 5
    · rw [decide_eq_false (show ¬ (l.length : Int) > 5 by omega), decide_eq_true h5, Bool.true_and]
      exact Evt.succ (fun k => by rw [spec_l10Good.j0, if_neg (by simp)]; rfl) (specGood_l0 n h.1 h.2 l hl l.length 0 (by omega) (by omega))
    · rw [decide_eq_true (show (l.length : Int) > 5 by omega), decide_eq_false h5, Bool.false_and]
      exact sno
  · rw [decide_eq_false h, Bool.false_and, Bool.false_and]
    exact Evt.ite_neg (by simp) sno
theorem of_okJobs (n : Int) (l : List S37) (h : okJobs n l = true) : 2 ≤ n ∧ n ≤ 6 ∧ l.length ≤ 5 ∧ ∀ x ∈ l, 0 ≤ x.f0 ∧ x.f0 ≤ n - 1 ∧ 0 ≤ x.f1 ∧ x.f1 ≤ n - 1 ∧ x.f0 ≠ x.f1 ∧ 1 ≤ x.f2 ∧ x.f2 ≤ 60 ∧ 0 ≤ x.f3 ∧ x.f3 ≤ 999 := by
  unfold okJobs at h
  simp only [Bool.and_eq_true, decide_eq_true_eq, Bool.not_eq_true', List.any_eq_false] at h
  refine ⟨h.1.1.1, h.1.1.2, h.1.2, fun x hx => ?_⟩
  have := Bool.of_not_eq_false (h.2 x hx)
  unfold impl_areJobs_.ok at this
  simp only [Bool.and_eq_true, decide_eq_true_eq, Bool.not_eq_true', decide_eq_false_iff_not] at this
  omega

/-! ### loads -/
/-- The loads of the stretches: both count the same. -/
theorem loadsUp (q : List S37) (hq : q.length ≤ 5) (j : Nat) (hj : j < q.length) (n : Nat) (hn : n ≤ 6) (y : S37) (hy : rd_T37 q (j : Int) = y) (h0 : 0 ≤ y.f0 ∧ y.f0 < (n : Int)) (h1 : 0 ≤ y.f1 ∧ y.f1 < (n : Int)) (hg : y.f1 > y.f0) (R : List Int → Prop)
    (next : ∀ x : List Int, x.length = n → ∃ r, Evt (fun k => spec_l10Loads.l0 k q x ((j + 1 : Nat) : Int)) r ∧ Evt (fun k => impl_loads.l0 k x q (q.length : Int) ((j + 1 : Nat) : Int)) r ∧ R r) (d : Nat) :
    ∀ (i : Nat) (x : List Int), x.length = n → (i : Int) ≤ y.f1 - y.f0 → y.f1 - y.f0 - (i : Int) = d → ∃ r, Evt (fun k => spec_l10Loads.l1 k q x j (y.f1 - y.f0) 1 i) r ∧ Evt (fun k => impl_loads.l1 k x (y.f0 + (i : Int)) q (q.length : Int) j y.f0 y.f1 y.f2 y.f3) r ∧ R r := by
  induction d with
  | zero =>
    intro i x hx hi hd
    obtain ⟨r, r1, r2, hR⟩ := next x hx
    refine ⟨r, Evt.succ (fun k => ?_) r1, Evt.succ (fun k => ?_) r2, hR⟩
    · rw [spec_l10Loads.l1, if_neg (by omega), wrap_succ j (by omega)]
    · rw [impl_loads.l1, if_pos (by omega), wrap_succ j (by omega)]
  | succ d ih =>
    intro i x hx hi hd
    have e1 : wrap64 (y.f0 + wrap64 (1 * (i : Int))) = (y.f0 + (i : Int)) := by unfold wrap64; omega
    have e2 : wrap64 ((y.f0 + (i : Int)) + 1) = (y.f0 + ((i + 1 : Nat) : Int)) := by unfold wrap64; omega
    have e3 : impl_Job_next.f y.f0 y.f1 y.f2 y.f3 (y.f0 + (i : Int)) = some (y.f0 + ((i + 1 : Nat) : Int)) := by
      unfold impl_Job_next.f
      rw [if_pos hg]
      exact congrArg some (by unfold wrap64; omega)
    have b1 : 0 ≤ (y.f0 + (i : Int)) ∧ (y.f0 + (i : Int)) < (n : Int) := by omega
    have b2 : 0 ≤ (y.f0 + ((i + 1 : Nat) : Int)) ∧ (y.f0 + ((i + 1 : Nat) : Int)) < (n : Int) := by omega
    have ne : ¬ (y.f0 + (i : Int)) = y.f1 := by omega
    have lt : (i : Int) < y.f1 - y.f0 := by omega
    have a3 : (((i + 1 : Nat) : Int)) ≤ y.f1 - y.f0 := by omega
    have a4 : y.f1 - y.f0 - ((i + 1 : Nat) : Int) = (d : Int) := by omega
    obtain ⟨r, r1, r2, hR⟩ := ih (i + 1) ((x.set ((y.f0 + (i : Int))).toNat (wrap64 (rd x (y.f0 + (i : Int)) + y.f2))).set ((y.f0 + ((i + 1 : Nat) : Int))).toNat (wrap64 (rd (x.set ((y.f0 + (i : Int))).toNat (wrap64 (rd x (y.f0 + (i : Int)) + y.f2))) (y.f0 + ((i + 1 : Nat) : Int)) + y.f2))) (by rw [List.length_set, List.length_set]; exact hx) a3 a4
    have w := wrap_succ i (by omega)
    refine ⟨r, Evt.succ (fun k => ?_) r1, Evt.succ (fun k => ?_) r2, hR⟩
    · rw [spec_l10Loads.l1, if_pos lt, if_pos (by omega), if_pos (by omega), hy, e1, if_pos b1.1, if_pos (by rw [hx]; exact b1.2), Option.bind_some, e2, if_pos b2.1, if_pos (by rw [hx]; exact b2.2), w]
    · rw [impl_loads.l1, if_neg ne, if_pos b1.1, if_pos (by rw [hx]; exact b1.2), Option.bind_some, e3, Option.bind_some, if_pos b2.1, if_pos (by rw [hx]; exact b2.2), Option.bind_some]
theorem loadsDown (q : List S37) (hq : q.length ≤ 5) (j : Nat) (hj : j < q.length) (n : Nat) (hn : n ≤ 6) (y : S37) (hy : rd_T37 q (j : Int) = y) (h0 : 0 ≤ y.f0 ∧ y.f0 < (n : Int)) (h1 : 0 ≤ y.f1 ∧ y.f1 < (n : Int)) (hg : ¬ y.f1 > y.f0) (R : List Int → Prop)
    (next : ∀ x : List Int, x.length = n → ∃ r, Evt (fun k => spec_l10Loads.l0 k q x ((j + 1 : Nat) : Int)) r ∧ Evt (fun k => impl_loads.l0 k x q (q.length : Int) ((j + 1 : Nat) : Int)) r ∧ R r) (d : Nat) :
    ∀ (i : Nat) (x : List Int), x.length = n → (i : Int) ≤ y.f0 - y.f1 → y.f0 - y.f1 - (i : Int) = d → ∃ r, Evt (fun k => spec_l10Loads.l1 k q x j (y.f0 - y.f1) (-1) i) r ∧ Evt (fun k => impl_loads.l1 k x (y.f0 - (i : Int)) q (q.length : Int) j y.f0 y.f1 y.f2 y.f3) r ∧ R r := by
  induction d with
  | zero =>
    intro i x hx hi hd
    obtain ⟨r, r1, r2, hR⟩ := next x hx
    refine ⟨r, Evt.succ (fun k => ?_) r1, Evt.succ (fun k => ?_) r2, hR⟩
    · rw [spec_l10Loads.l1, if_neg (by omega), wrap_succ j (by omega)]
    · rw [impl_loads.l1, if_pos (by omega), wrap_succ j (by omega)]
  | succ d ih =>
    intro i x hx hi hd
    have e1 : wrap64 (y.f0 + wrap64 ((-1) * (i : Int))) = (y.f0 - (i : Int)) := by unfold wrap64; omega
    have e2 : wrap64 ((y.f0 - (i : Int)) + (-1)) = (y.f0 - ((i + 1 : Nat) : Int)) := by unfold wrap64; omega
    have e3 : impl_Job_next.f y.f0 y.f1 y.f2 y.f3 (y.f0 - (i : Int)) = some (y.f0 - ((i + 1 : Nat) : Int)) := by
      unfold impl_Job_next.f
      rw [if_neg hg]
      exact congrArg some (by unfold wrap64; omega)
    have b1 : 0 ≤ (y.f0 - (i : Int)) ∧ (y.f0 - (i : Int)) < (n : Int) := by omega
    have b2 : 0 ≤ (y.f0 - ((i + 1 : Nat) : Int)) ∧ (y.f0 - ((i + 1 : Nat) : Int)) < (n : Int) := by omega
    have ne : ¬ (y.f0 - (i : Int)) = y.f1 := by omega
    have lt : (i : Int) < y.f0 - y.f1 := by omega
    have a3 : (((i + 1 : Nat) : Int)) ≤ y.f0 - y.f1 := by omega
    have a4 : y.f0 - y.f1 - ((i + 1 : Nat) : Int) = (d : Int) := by omega
    obtain ⟨r, r1, r2, hR⟩ := ih (i + 1) ((x.set ((y.f0 - (i : Int))).toNat (wrap64 (rd x (y.f0 - (i : Int)) + y.f2))).set ((y.f0 - ((i + 1 : Nat) : Int))).toNat (wrap64 (rd (x.set ((y.f0 - (i : Int))).toNat (wrap64 (rd x (y.f0 - (i : Int)) + y.f2))) (y.f0 - ((i + 1 : Nat) : Int)) + y.f2))) (by rw [List.length_set, List.length_set]; exact hx) a3 a4
    have w := wrap_succ i (by omega)
    refine ⟨r, Evt.succ (fun k => ?_) r1, Evt.succ (fun k => ?_) r2, hR⟩
    · rw [spec_l10Loads.l1, if_pos lt, if_pos (by omega), if_pos (by omega), hy, e1, if_pos b1.1, if_pos (by rw [hx]; exact b1.2), Option.bind_some, e2, if_pos b2.1, if_pos (by rw [hx]; exact b2.2), w]
    · rw [impl_loads.l1, if_neg ne, if_pos b1.1, if_pos (by rw [hx]; exact b1.2), Option.bind_some, e3, Option.bind_some, if_pos b2.1, if_pos (by rw [hx]; exact b2.2), Option.bind_some]
theorem loads_l0 (q : List S37) (n : Int) (ok : okJobs n q = true) (d : Nat) : ∀ (j : Nat) (x : List Int), x.length = n.toNat → j ≤ q.length → q.length - j = d → ∃ r, Evt (fun k => spec_l10Loads.l0 k q x j) r ∧ Evt (fun k => impl_loads.l0 k x q (q.length : Int) j) r ∧ r.length = n.toNat := by
  obtain ⟨h2, h6, h5, hall⟩ := of_okJobs n q ok
  induction d with
  | zero =>
    intro j x hx hj hd
    exact ⟨x, Evt.succ (fun k => by rw [spec_l10Loads.l0, if_neg (by omega)]) (Evt.const _), Evt.succ (fun k => by rw [impl_loads.l0, if_neg (by omega)]) (Evt.const _), hx⟩
  | succ d ih =>
    intro j x hx hj hd
    have lj : j < q.length := by omega
    have hy := hall q[j] (List.getElem_mem lj)
    have ey := rdJ_nat q j lj
    generalize q[j] = y at hy ey
    have next := fun x hx => ih (j + 1) x hx (by omega) (by omega)
    by_cases hg : y.f1 > y.f0
    · obtain ⟨r, r1, r2, hR⟩ := loadsUp q h5 j lj n.toNat (by omega) y ey (by omega) (by omega) hg _ next (y.f1 - y.f0).toNat 0 x hx (by omega) (by omega)
      rw [show (y.f0 + ((0 : Nat) : Int)) = y.f0 by omega] at r2
      have e : spec_l10Steps.f y.f0 y.f1 y.f2 y.f3 = some (y.f1 - y.f0, 1) := by
        unfold spec_l10Steps.f
        rw [if_pos hg, show wrap64 (y.f1 - y.f0) = y.f1 - y.f0 by unfold wrap64; omega]
      refine ⟨r, Evt.succ (fun k => ?_) r1, Evt.succ (fun k => ?_) r2, hR⟩
      · rw [spec_l10Loads.l0, if_pos (by omega), if_pos (by omega), ey, e, Option.bind_some]
        rfl
      · rw [impl_loads.l0, if_pos (by omega), if_pos (by omega), if_pos (by omega), ey]
    · obtain ⟨r, r1, r2, hR⟩ := loadsDown q h5 j lj n.toNat (by omega) y ey (by omega) (by omega) hg _ next (y.f0 - y.f1).toNat 0 x hx (by omega) (by omega)
      rw [show (y.f0 - ((0 : Nat) : Int)) = y.f0 by omega] at r2
      have e : spec_l10Steps.f y.f0 y.f1 y.f2 y.f3 = some (y.f0 - y.f1, -1) := by
        unfold spec_l10Steps.f
        rw [if_neg hg, show wrap64 (y.f0 - y.f1) = y.f0 - y.f1 by unfold wrap64; omega]
      refine ⟨r, Evt.succ (fun k => ?_) r1, Evt.succ (fun k => ?_) r2, hR⟩
      · rw [spec_l10Loads.l0, if_pos (by omega), if_pos (by omega), ey, e, Option.bind_some]
        rfl
      · rw [impl_loads.l0, if_pos (by omega), if_pos (by omega), if_pos (by omega), ey]
theorem loads_evt (q : List S37) (n : Int) (ok : okJobs n q = true) : ∃ r, Evt (fun k => spec_l10Loads.f k n q) r ∧ Evt (fun k => impl_loads.f k n q) r ∧ r.length = n.toNat := by
  obtain ⟨h2, h6, h5, hall⟩ := of_okJobs n q ok
  obtain ⟨r, r1, r2, hr⟩ := loads_l0 q n ok q.length 0 (List.replicate n.toNat 0) (by simp) (by omega) (by omega)
  exact ⟨r, Evt.ite_pos (by omega) (Evt.ite_pos (by omega) r1), Evt.ite_pos (by omega) (Evt.ite_pos (by omega) r2), hr⟩

/-! ### marksIntS -/
/-- The law's own looks at a row of whole numbers. -/
theorem rd_nat (l : List Int) (i : Nat) (h : i < l.length) : rd l (i : Int) = l[i] := by
  unfold rd
  rw [Int.toNat_natCast, List.getD_eq_getElem?_getD, List.getElem?_eq_getElem h]
  rfl
theorem eqIntS_l0 (l : List Int) (hl : l.length ≤ 1099511627776) (d : Nat) : ∀ (i : Nat), i ≤ l.length → l.length - i = d → Evt (fun k => laws_eqIntS.l0 k l l i) true := by
  induction d with
  | zero =>
    intro i hi hd
    refine Evt.succ (h := fun _ => some true) (fun k => ?_) (Evt.const _)
    simp only [laws_eqIntS.l0]
    rw [if_neg (by omega)]
  | succ d ih =>
    intro i hi hd
    refine Evt.succ (fun k => ?_) (ih (i + 1) (by omega) (by omega))
    simp only [laws_eqIntS.l0]
    rw [if_pos (by omega), if_pos (by omega), if_pos (by omega), if_pos trivial, wrap_succ i (by omega)]
theorem eqIntS_evt (l : List Int) (hl : l.length ≤ 1099511627776) : Evt (fun k => laws_eqIntS.f k l l) true := by
  refine (eqIntS_l0 l hl l.length 0 (by omega) (by omega)).of_eq (fun k => ?_)
  unfold laws_eqIntS.f
  rw [if_pos rfl]
  rfl
def markInts (n : Nat) : List Int := (List.range n).map fun i => ((1 + i : Nat) : Int)
theorem markInts_len (n : Nat) : (markInts n).length = n := by unfold markInts; rw [List.length_map, List.length_range]
theorem markInts_get (n i : Nat) (h : i < (markInts n).length) : (markInts n)[i] = ((1 + i : Nat) : Int) := by
  simp only [markInts, List.getElem_map, List.getElem_range]
theorem markIntS_l0 (n : Nat) (hl : n ≤ 1099511627776) (d : Nat) : ∀ (i : Nat) (x : List Int), i ≤ n → n - i = d → x.length = n → x.take i = (markInts n).take i → Evt (fun k => laws_markIntS.l0 k x ((1 + i : Nat) : Int) i) (((1 + n : Nat) : Int), markInts n) := by
  induction d with
  | zero =>
    intro i x hi hd hx ht
    have e : x = markInts n := by
      have h1 : i = n := by omega
      have h2 := markInts_len n
      rw [h1, List.take_of_length_le (by omega), List.take_of_length_le (by omega)] at ht
      exact ht
    subst e
    refine Evt.succ (h := fun _ => some (((1 + n : Nat) : Int), markInts n)) (fun k => ?_) (Evt.const _)
    obtain rfl : i = n := by omega
    simp only [laws_markIntS.l0]
    rw [if_neg (by omega)]
  | succ d ih =>
    intro i x hi hd hx ht
    have h2 := markInts_len n
    refine Evt.succ (fun k => ?_) (ih (i + 1) (x.set i ((1 + i : Nat) : Int)) (by omega) (by omega) (by rw [List.length_set]; exact hx) ?_)
    · simp only [laws_markIntS.l0]
      rw [if_pos (by omega), if_pos (by omega), wrap_succ i (by omega), wrap_succ (1 + i) (by omega), Int.toNat_natCast]
      rfl
    · rw [List.take_succ_eq_append_getElem (by rw [List.length_set]; omega), List.take_succ_eq_append_getElem (by omega), List.take_set_of_le (by omega), ht, List.getElem_set_self, markInts_get]
theorem markIntS_evt (l : List Int) (hl : l.length ≤ 1099511627776) : Evt (fun k => laws_markIntS.f k l 1) (((1 + l.length : Nat) : Int), markInts l.length) :=
  markIntS_l0 l.length hl l.length 0 l (by omega) (by omega) rfl rfl

/-! ### heldIntS -/
theorem heldIntS_l0 (n : Nat) (hl : n ≤ 1099511627776) (d : Nat) : ∀ (i : Nat), i ≤ n → n - i = d → Evt (fun k => laws_heldIntS.l0 k (markInts n) ((1 + i : Nat) : Int) i) ((1 + n : Nat) : Int) := by
  have h2 := markInts_len n
  induction d with
  | zero =>
    intro i hi hd
    obtain rfl : i = n := by omega
    refine Evt.succ (h := fun _ => some ((1 + i : Nat) : Int)) (fun k => ?_) (Evt.const _)
    simp only [laws_heldIntS.l0]
    rw [if_neg (by omega)]
  | succ d ih =>
    intro i hi hd
    refine Evt.succ (fun k => ?_) (ih (i + 1) (by omega) (by omega))
    simp only [laws_heldIntS.l0]
    rw [if_pos (by omega), if_pos (by omega), rd_nat _ _ (by omega), markInts_get, if_pos rfl, wrap_succ i (by omega), wrap_succ (1 + i) (by omega)]
    rfl
theorem heldIntS_evt (n : Nat) (hl : n ≤ 1099511627776) : Evt (fun k => laws_heldIntS.f k (markInts n) 1) ((1 + n : Nat) : Int) :=
  heldIntS_l0 n hl n 0 (by omega) (by omega)

theorem same_evt (n : Int) (q : List S37) (hq : q.length ≤ 1048576) : ∃ r, Evt (fun k => spec_LoadsOf.f k n q) r ∧ Evt (fun k => impl_LoadsOf.f k n q) r ∧ r.1.length ≤ 1099511627776 := by
  have s1 := specGood_evt n q hq
  have i1 : Evt (fun k => impl_areJobs.f n q) (okJobs n q) := (Evt.const _).of_eq (fun k => implJobs_eq n q hq)
  cases h : okJobs n q with
  | false =>
    rw [h] at s1 i1
    exact ⟨([], false), Evt.bind s1 (Evt.ite_neg (by simp) (Evt.const _)), Evt.bind i1 (Evt.ite_neg (by simp) (Evt.const _)), by simp⟩
  | true =>
    rw [h] at s1 i1
    have hof := of_okJobs n q h
    obtain ⟨r, r1, r2, hr⟩ := loads_evt q n h
    exact ⟨(r, true), Evt.bind s1 (Evt.ite_pos rfl (Evt.bind r1 (Evt.const _))), Evt.bind i1 (Evt.ite_pos rfl (Evt.bind r2 (Evt.const _))), by show r.length ≤ _; omega⟩
theorem FnExactLoadsOf : laws_FnExactLoadsOf.Pure := by
  intro n l _ hl _
  obtain ⟨t, ht, hor⟩ := szJobS_eq l hl
  refine Evt.get (r := true) ?_
  refine Evt.bind ((Evt.const t).of_eq (fun k => ht)) ?_
  by_cases hn : t < 0
  · exact Evt.ite_pos hn (Evt.const _)
  · refine Evt.ite_neg hn ?_
    have hl : l.length ≤ 1048576 := by omega
    have hm : (l.map conv).length ≤ 1048576 := by rw [List.length_map]; exact hl
    obtain ⟨r, h1, h2, hr⟩ := same_evt n (l.map conv) hm
    obtain ⟨y, hy⟩ := markJobS_evt (l.map conv) hm
    refine Evt.bind (toJobS_evt l hl) (Evt.bind h1 (Evt.bind (toJobS_evt l hl) (Evt.bind h2 (Evt.bind (eqIntS_evt r.1 hr) (Evt.ite_pos rfl ?_)))))
    rw [show (r.2 != r.2) = false by simp]
    refine Evt.succ (h := fun k => _) (fun k => by simp only [laws_FnExactLoadsOf.j0]; rfl) ?_
    refine Evt.ite_neg (by simp) ?_
    refine Evt.bind (toJobS_evt l hl) (Evt.bind (eqJobS_evt _ hm) (Evt.ite_pos rfl (Evt.bind hy (Evt.ite_neg (by first | omega | (dsimp only; omega)) (Evt.bind (eqIntS_evt r.1 hr) (Evt.ite_pos rfl ?_))))))
    rw [show (r.2 != r.2) = false by simp]
    refine Evt.succ (h := fun k => _) (fun k => by simp only [laws_FnExactLoadsOf.j1]; rfl) ?_
    refine Evt.ite_neg (by simp) ?_
    refine Evt.bind (markIntS_evt r.1 hr) (Evt.bind (heldIntS_evt r.1.length hr) (Evt.ite_neg (by first | omega | (dsimp only; omega)) (Evt.ite_pos rfl ?_)))
    refine Evt.bind (toJobS_evt l hl) (Evt.bind h2 (Evt.bind (eqIntS_evt r.1 hr) (Evt.ite_pos rfl ?_)))
    rw [show (r.2 != r.2) = false by simp]
    refine Evt.succ (h := fun k => _) (fun k => by simp only [laws_FnExactLoadsOf.j2]; rfl) ?_
    refine Evt.ite_neg (by simp) ?_
    exact Evt.bind (heldIntS_evt r.1.length hr) (Evt.ite_neg (by first | omega | (dsimp only; omega)) (Evt.ite_pos rfl (Evt.const _)))
end Go.Proofs.Ytmndcbfdkfhheaa.Pure
