/- The program's WayBetween returns what the reference's WayBetween returns, for all arguments. No condition. -/
import Derived.Test.YtlmagoppgplocaaDoorPFnExactWayBetweenx4
namespace Go.Proofs.YtlmagoppgplocaaDoor.Pure
open Go.RowKit Go.Proofs.YtlmagoppgplocaaDoor.PFnExactWayBetween Go.Proofs.YtlmagoppgplocaaDoorW.PrintWords Go.Proofs.YtlmagoppgplocaaDoorW.PrintLast Go.Proofs.YtlmagoppgplocaaDoorW.PrintMore
set_option linter.unusedVariables false
set_option linter.unusedSimpArgs false

/-! ### ev -/
/-- With enough rounds, and ever after, g answers r. -/
def Evt {α : Type} (g : Nat → Option α) (r : α) : Prop := ∃ K, ∀ k, K ≤ k → g k = some r
theorem Evt.const {α : Type} (r : α) : Evt (fun _ => some r) r := ⟨0, fun _ _ => rfl⟩
theorem Evt.of_eq {α : Type} {g h : Nat → Option α} {r : α} (e : ∀ k, g k = h k) (H : Evt h r) : Evt g r := by
  obtain ⟨K, hK⟩ := H
  exact ⟨K, fun k hk => (e k).trans (hK k hk)⟩
theorem Evt.bind {α β : Type} {g : Nat → Option β} {h : Nat → β → Option α} {a : β} {r : α} (H1 : Evt g a) (H2 : Evt (fun k => h k a) r) : Evt (fun k => (g k).bind (h k)) r := by
  obtain ⟨K1, h1⟩ := H1
  obtain ⟨K2, h2⟩ := H2
  refine ⟨max K1 K2, fun k hk => ?_⟩
  show (g k).bind (h k) = some r
  rw [h1 k (by omega)]
  exact h2 k (by omega)
theorem Evt.succ {α : Type} {g h : Nat → Option α} {r : α} (e : ∀ k, g (k + 1) = h k) (H : Evt h r) : Evt g r := by
  obtain ⟨K, hK⟩ := H
  refine ⟨K + 1, fun k hk => ?_⟩
  obtain ⟨k, rfl⟩ : ∃ m, k = m + 1 := ⟨k - 1, by omega⟩
  rw [e]
  exact hK k (by omega)
theorem Evt.get {α : Type} {g : Nat → Option α} {r : α} (H : Evt g r) : ∃ k, g k = some r := by
  obtain ⟨K, hK⟩ := H
  exact ⟨K, hK K (Nat.le_refl _)⟩
theorem Evt.get2 {α β : Type} {g : Nat → Option α} {h : Nat → Option β} {r : α} {s : β} (H : Evt g r) (H' : Evt h s) : ∃ k, g k = some r ∧ h k = some s := by
  obtain ⟨K, hK⟩ := H
  obtain ⟨K', hK'⟩ := H'
  exact ⟨max K K', hK _ (by omega), hK' _ (by omega)⟩
theorem Evt.ite_pos {α : Type} {c : Prop} [Decidable c] {g h : Nat → Option α} {r : α} (hc : c) (H : Evt g r) : Evt (fun k => if c then g k else h k) r :=
  H.of_eq (fun k => by rw [if_pos hc])
theorem Evt.ite_neg {α : Type} {c : Prop} [Decidable c] {g h : Nat → Option α} {r : α} (hc : ¬ c) (H : Evt h r) : Evt (fun k => if c then g k else h k) r :=
  H.of_eq (fun k => by rw [if_neg hc])

/-! ### lists -/
theorem rdOf_get {α : Type} (d : α) (l : List α) (i : Nat) (h : i < l.length) : rdOf d l (i : Int) = l[i] := by
  unfold rdOf
  rw [Int.toNat_natCast, List.getD_eq_getElem?_getD, List.getElem?_eq_getElem h]
  rfl
theorem rd_get (l : List Int) (i : Nat) (h : i < l.length) : rd l (i : Int) = l[i] := by
  unfold rd
  rw [Int.toNat_natCast, List.getD_eq_getElem?_getD, List.getElem?_eq_getElem h]
  rfl
theorem drop_get {α : Type} (l : List α) (i : Nat) (h : i < l.length) : l.drop i = l[i] :: l.drop (i + 1) := by simp
theorem wrap_succ (i : Nat) (h : i < 9223372036854775807) : wrap64 ((i : Int) + 1) = ((i + 1 : Nat) : Int) := by unfold wrap64; omega
theorem toList_inj (a b : ByteArray) : a.toList = b.toList ↔ a = b := by
  rw [Lib.toList_data, Lib.toList_data]
  constructor
  · intro h
    obtain ⟨⟨l⟩⟩ := a
    obtain ⟨⟨m⟩⟩ := b
    simp only at h
    rw [h]
  · rintro rfl
    rfl

/-! ### in -/
theorem in_eq (a b c : Int) : impl_in.f a b c = some (decide (b ≤ a ∧ a ≤ c)) := by
  unfold impl_in.f
  by_cases h : a ≥ b
  · rw [if_pos h]
    simp [show b ≤ a from h]
  · rw [if_neg h]
    simp [show ¬ b ≤ a from h]
theorem l1In_eq (a b c : Int) : spec_l1In.f a b c = some (decide (b ≤ a ∧ a ≤ c)) := by
  unfold spec_l1In.f
  by_cases h : a ≥ b
  · rw [if_pos h]
    simp [show b ≤ a from h]
  · rw [if_neg h]
    simp [show ¬ b ≤ a from h]

/-! ### marks -/
/-- A byte that is a mark. -/
def okc (c : UInt8) : Bool := c == 46 || c == 45
def okMarks (s : ByteArray) (lo hi : Int) : Bool := decide (lo ≤ s.size ∧ (s.size : Int) ≤ hi) && s.data.toList.all okc
theorem size_data (s : ByteArray) : s.data.toList.length = s.size := by rw [Array.length_toList]; rfl
theorem bt_get (s : ByteArray) (i : Nat) (h : i < s.size) : bt s (i : Int) = ((s.data.toList[i]'(by rw [size_data]; exact h)).toNat : Int) := by
  unfold bt
  rw [dif_pos (by simpa using h)]
  simp only [Int.toNat_natCast, Array.getElem_toList]
  rfl
theorem trim_empty (l : List UInt8) : ((Lib.trimS l [46, 45]) = []) ↔ l.all okc = true := by
  have e : ∀ c : UInt8, ([46, 45] : List UInt8).contains c = okc c := fun c => by
    simp [okc, List.contains_cons]
    rfl
  have dw : ∀ l : List UInt8, (l.dropWhile (([46, 45] : List UInt8).contains ·) = []) ↔ l.all okc = true := by
    intro l
    induction l with
    | nil => simp
    | cons c t ih =>
      rw [List.dropWhile_cons, e]
      cases h : okc c with
      | true =>
        simp only [if_true, List.all_cons, h, Bool.true_and]
        exact ih
      | false => simp [h]
  unfold Lib.trimS Lib.trimLeftS Lib.trimRightS
  rw [dw]
  have dwa : ∀ l : List UInt8, (l.dropWhile (([46, 45] : List UInt8).contains ·)).all okc = l.all okc := by
    intro l
    induction l with
    | nil => rfl
    | cons c t ih =>
      rw [List.dropWhile_cons, e]
      cases h : okc c with
      | true =>
        simp only [if_true, List.all_cons, h, Bool.true_and]
        exact ih
      | false => simp
  rw [List.all_reverse, dwa, List.all_reverse]
theorem implAreMarks_eq (s : ByteArray) (lo hi : Int) (hh : hi ≤ 9223372036854775807) : impl_areMarks.f s lo hi = some (okMarks s lo hi) := by
  unfold impl_areMarks.f okMarks
  rw [in_eq]
  simp only [Option.bind_some, decide_eq_true_eq]
  by_cases h : lo ≤ (s.size : Int) ∧ (s.size : Int) ≤ hi
  · rw [if_pos h]
    unfold strings_Trim.f
    rw [if_pos (by omega), if_pos rfl]
    simp only [Option.bind_some, h, and_self, decide_true, Bool.true_and]
    congr 1
    rw [Lib.toList_data]
    have := trim_empty s.data.toList
    cases hb : s.data.toList.all okc with
    | true => simp [this.2 hb]
    | false =>
      have : ¬ Lib.trimS s.data.toList [46, 45] = [] := fun h => by rw [this.1 h] at hb; cases hb
      simpa using this
  · rw [if_neg h]
    simp [h]
theorem drop_cons_ (l : List UInt8) (i : Nat) (h : i < l.length) : l.drop i = l[i] :: l.drop (i + 1) := by simp
/-- The reference's loop from place i on: the marks up to 'hi', then the length. -/
theorem specMarks_l0 (s : ByteArray) (lo hi : Int) (h0 : 0 ≤ hi) (hh : hi ≤ 1000000) (d : Nat) : ∀ (k i : Nat), i ≤ s.size → (i : Int) ≤ hi + 1 → (hi + 1 - i).toNat = d → 2 * d + 3 ≤ k →
    spec_l2Marks.l0 k s lo hi i = some (((s.data.toList.drop i).take d).all okc && decide (lo ≤ s.size ∧ (s.size : Int) ≤ hi)) := by
  induction d with
  | zero =>
    intro k i hi1 hi2 hd hk
    obtain ⟨k, rfl⟩ : ∃ m, k = m + 2 := ⟨k - 2, by omega⟩
    have e : (i : Int) = hi + 1 := by omega
    simp only [spec_l2Marks.l0]
    have hj : spec_l2Marks.j1 (k + 1) s lo hi i false = some (decide (lo ≤ s.size ∧ (s.size : Int) ≤ hi)) := by
      simp only [spec_l2Marks.j1]
      rw [if_neg (by simp), l1In_eq]
      rfl
    by_cases hlt : (i : Int) < (s.size : Int)
    · rw [if_pos hlt, show decide ((i : Int) ≤ hi) = false from decide_eq_false (by omega), hj]
      simp
    · rw [if_neg hlt, hj]
      simp
  | succ d ih =>
    intro k i hi1 hi2 hd hk
    obtain ⟨k, rfl⟩ : ∃ m, k = m + 2 := ⟨k - 2, by omega⟩
    simp only [spec_l2Marks.l0]
    by_cases hlt : (i : Int) < (s.size : Int)
    · rw [if_pos hlt, show decide ((i : Int) ≤ hi) = true from decide_eq_true (by omega)]
      simp only [spec_l2Marks.j1]
      rw [if_pos trivial, if_pos (by omega), if_pos hlt]
      have hl : i < s.data.toList.length := by rw [size_data]; omega
      rw [drop_cons_ _ _ hl, List.take_succ_cons, List.all_cons, bt_get s i (by omega)]
      have hw : wrap64 ((i : Int) + 1) = ((i + 1 : Nat) : Int) := by unfold wrap64; omega
      rw [hw]
      generalize s.data.toList[i] = c
      have hc : ∀ n : Nat, n < 256 → (((c.toNat : Int) = (n : Int)) ↔ c = UInt8.ofNat n) := by
        intro n hn
        constructor
        · intro h
          apply UInt8.toNat_inj.1
          simp
          omega
        · rintro rfl
          simp
          omega
      have c46 : ((c.toNat : Int) = 46) ↔ c = 46 := hc 46 (by omega)
      have c45 : ((c.toNat : Int) = 45) ↔ c = 45 := hc 45 (by omega)
      by_cases h46 : c = 46
      · subst h46
        rw [if_pos (by rfl), ih _ _ (by omega) (by omega) (by omega) (by omega)]
        rfl
      · rw [if_neg (fun h => h46 (c46.1 h))]
        by_cases h45 : c = 45
        · subst h45
          rw [if_pos (by rfl), ih _ _ (by omega) (by omega) (by omega) (by omega)]
          rfl
        · rw [if_neg (fun h => h45 (c45.1 h))]
          simp [okc, h46, h45]
    · rw [if_neg hlt]
      have hj : spec_l2Marks.j1 (k + 1) s lo hi i false = some (decide (lo ≤ s.size ∧ (s.size : Int) ≤ hi)) := by
        simp only [spec_l2Marks.j1]
        rw [if_neg (by simp), l1In_eq]
        rfl
      rw [hj, List.drop_eq_nil_of_le (by rw [size_data]; omega)]
      simp
theorem specMarks_eq (s : ByteArray) (lo hi : Int) (h0 : 0 ≤ hi) (hh : hi ≤ 1000000) (k : Nat) (hk : 2 * hi + 5 ≤ k) : spec_l2Marks.f k s lo hi = some (okMarks s lo hi) := by
  unfold spec_l2Marks.f
  have h := specMarks_l0 s lo hi h0 hh (hi + 1 - ((0 : Nat) : Int)).toNat k 0 (by omega) (by omega) rfl (by omega)
  rw [show ((0 : Nat) : Int) = 0 from rfl] at h
  rw [h]
  unfold okMarks
  congr 1
  rw [List.drop_zero, Bool.and_comm]
  by_cases hl : lo ≤ (s.size : Int) ∧ (s.size : Int) ≤ hi
  · rw [List.take_of_length_le (by rw [size_data]; omega)]
  · simp [hl]

/-! ### table -/
open Classical
/-- The first place of a text in a list, from place i on; -1 for none. -/
def plc : List ByteArray → ByteArray → Nat → Int
  | [], _, _ => -1
  | x :: l, s, i => if x = s then (i : Int) else plc l s (i + 1)
theorem plc_ge (l : List ByteArray) (s : ByteArray) : ∀ i, plc l s i = -1 ∨ (i : Int) ≤ plc l s i := by
  induction l with
  | nil => exact fun i => .inl rfl
  | cons x l ih =>
    intro i
    unfold plc
    by_cases h : x = s
    · rw [if_pos h]
      exact .inr (Int.le_refl _)
    · rw [if_neg h]
      rcases ih (i + 1) with h | h
      · exact .inl h
      · right
        omega
theorem plc_none (l : List ByteArray) (s : ByteArray) : ∀ i, plc l s i = -1 ↔ s ∉ l := by
  induction l with
  | nil => intro i; simp [plc]
  | cons x l ih =>
    intro i
    unfold plc
    by_cases h : x = s
    · subst h
      rw [if_pos rfl]
      simp
    · rw [if_neg h, ih, List.mem_cons]
      constructor
      · intro hn he
        rcases he with e | e
        · exact h e.symm
        · exact hn e
      · intro hn he
        exact hn (.inr he)
theorem plc_lt (l : List ByteArray) (s : ByteArray) : ∀ i, plc l s i < ((i + l.length : Nat) : Int) := by
  induction l with
  | nil => intro i; simp [plc]; omega
  | cons x l ih =>
    intro i
    unfold plc
    by_cases h : x = s
    · rw [if_pos h]
      simp
      omega
    · rw [if_neg h]
      have := ih (i + 1)
      simp at this ⊢
      omega
theorem specPlace_l0 (l : List ByteArray) (s : ByteArray) (hl : l.length < 9223372036854775807) (d : Nat) : ∀ i, i ≤ l.length → l.length - i = d → Evt (fun k => spec_l2Place.l0 k l s i) (plc (l.drop i) s i) := by
  induction d with
  | zero =>
    intro i hi hd
    refine Evt.succ (h := fun _ => some (-1)) (fun k => ?_) ?_
    · simp only [spec_l2Place.l0]
      rw [if_neg (by omega)]
    · rw [List.drop_eq_nil_of_le (by omega)]
      exact Evt.const _
  | succ d ih =>
    intro i hi hd
    have hlt : i < l.length := by omega
    rw [drop_get l i hlt]
    unfold plc
    by_cases h : l[i] = s
    · rw [if_pos h]
      refine Evt.succ (h := fun _ => some (i : Int)) (fun k => ?_) (Evt.const _)
      simp only [spec_l2Place.l0]
      rw [if_pos (by omega), if_pos (by omega), rdOf_get _ _ _ hlt, if_pos ((toList_inj _ _).2 h)]
    · rw [if_neg h]
      refine Evt.succ (fun k => ?_) (ih (i + 1) (by omega) (by omega))
      simp only [spec_l2Place.l0]
      rw [if_pos (by omega), if_pos (by omega), rdOf_get _ _ _ hlt, if_neg (fun e => h ((toList_inj _ _).1 e)), wrap_succ i (by omega)]
theorem specPlace_evt (l : List ByteArray) (s : ByteArray) (hl : l.length < 9223372036854775807) : Evt (fun k => spec_l2Place.f k l s) (plc l s 0) :=
  (specPlace_l0 l s hl l.length 0 (by omega) (by omega)).of_eq (fun k => rfl)
theorem implIndex_l0 (l : List ByteArray) (s : ByteArray) (hl : l.length < 9223372036854775807) (d : Nat) : ∀ i, i ≤ l.length → l.length - i = d → Evt (fun k => slices_Index_string_string.l0 k l s (l.length : Int) i) (plc (l.drop i) s i) := by
  induction d with
  | zero =>
    intro i hi hd
    refine Evt.succ (h := fun _ => some (-1)) (fun k => ?_) ?_
    · simp only [slices_Index_string_string.l0]
      rw [if_neg (by omega)]
    · rw [List.drop_eq_nil_of_le (by omega)]
      exact Evt.const _
  | succ d ih =>
    intro i hi hd
    have hlt : i < l.length := by omega
    rw [drop_get l i hlt]
    unfold plc
    by_cases h : l[i] = s
    · rw [if_pos h]
      refine Evt.succ (h := fun _ => some (i : Int)) (fun k => ?_) (Evt.const _)
      simp only [slices_Index_string_string.l0]
      rw [if_pos (by omega), if_pos (by omega), if_pos (by omega), rdOf_get _ _ _ hlt, if_pos ((toList_inj _ _).2 h.symm)]
    · rw [if_neg h]
      refine Evt.succ (fun k => ?_) (ih (i + 1) (by omega) (by omega))
      simp only [slices_Index_string_string.l0]
      rw [if_pos (by omega), if_pos (by omega), if_pos (by omega), rdOf_get _ _ _ hlt, if_neg (fun e => h ((toList_inj _ _).1 e).symm), wrap_succ i (by omega)]
theorem implIndex_evt (l : List ByteArray) (s : ByteArray) (hl : l.length < 9223372036854775807) : Evt (fun k => slices_Index_string_string.f k l s) (plc l s 0) :=
  (implIndex_l0 l s hl l.length 0 (by omega) (by omega)).of_eq (fun k => rfl)
theorem implContains_evt (l : List ByteArray) (s : ByteArray) (hl : l.length < 9223372036854775807) : Evt (fun k => slices_Contains_string_string.f k l s) (decide (s ∈ l)) := by
  have h : decide (plc l s 0 ≥ 0) = decide (s ∈ l) := by
    rw [decide_eq_decide]
    have h1 := plc_none l s 0
    have h2 := plc_ge l s 0
    constructor
    · intro h
      by_cases hm : s ∈ l
      · exact hm
      · rw [h1.2 hm] at h
        omega
    · intro hm
      rcases h2 with h | h
      · exact absurd hm (h1.1 h)
      · omega
  rw [← h]
  exact Evt.bind (implIndex_evt l s hl) (Evt.const _)
/-- Is a list of marks a table? -/
noncomputable def okTable (l : List ByteArray) : Bool := decide (1 ≤ l.length ∧ l.length ≤ 10 ∧ (∀ m ∈ l, okMarks m 1 5 = true) ∧ l.Nodup)
theorem plc_first (l m : List ByteArray) (s : ByteArray) : ∀ i, plc (l ++ s :: m) s i = ((i + l.length : Nat) : Int) ↔ s ∉ l := by
  induction l with
  | nil =>
    intro i
    simp [plc]
  | cons x l ih =>
    intro i
    rw [List.cons_append]
    unfold plc
    by_cases h : x = s
    · rw [if_pos h]
      simp [h]
      omega
    · rw [if_neg h, show i + (x :: l).length = (i + 1) + l.length by simp; omega, ih, List.mem_cons]
      constructor
      · intro hn he
        rcases he with e | e
        · exact h e.symm
        · exact hn e
      · intro hn he
        exact hn (.inr he)
/-- The rest of a table is good, what stands ahead of it known. -/
noncomputable def okRest (l : List ByteArray) (i : Nat) : Bool := decide (∀ j (h : j < l.length), i ≤ j → okMarks l[j] 1 5 = true ∧ l[j] ∉ l.take j)
theorem okRest_end (l : List ByteArray) (i : Nat) (h : l.length ≤ i) : okRest l i = true := by
  unfold okRest
  rw [decide_eq_true_eq]
  intro j hj hij
  omega
theorem okRest_step (l : List ByteArray) (i : Nat) (h : i < l.length) : okRest l i = (okMarks l[i] 1 5 && (!decide (l[i] ∈ l.take i)) && okRest l (i + 1)) := by
  unfold okRest
  rw [Bool.eq_iff_iff]
  simp only [Bool.and_eq_true, decide_eq_true_eq, Bool.not_eq_true', decide_eq_false_iff_not]
  constructor
  · intro H
    exact ⟨H i h (Nat.le_refl _), fun j hj hij => H j hj (by omega)⟩
  · intro H j hj hij
    by_cases e : j = i
    · subst e
      exact H.1
    · exact H.2 j hj (by omega)
theorem okTable_eq (l : List ByteArray) : okTable l = (decide (1 ≤ l.length ∧ l.length ≤ 10) && okRest l 0) := by
  unfold okTable okRest
  rw [Bool.eq_iff_iff]
  simp only [Bool.and_eq_true, decide_eq_true_eq]
  constructor
  · rintro ⟨h1, h2, h3, h4⟩
    refine ⟨⟨h1, h2⟩, fun j hj _ => ⟨h3 _ (List.getElem_mem hj), fun hm => ?_⟩⟩
    obtain ⟨q, hq, he⟩ := List.getElem_of_mem hm
    rw [List.length_take] at hq
    rw [List.getElem_take] at he
    exact absurd ((List.getElem_inj h4).1 he) (by omega)
  · rintro ⟨⟨h1, h2⟩, h3⟩
    refine ⟨h1, h2, fun m hm => ?_, ?_⟩
    · obtain ⟨j, hj, rfl⟩ := List.getElem_of_mem hm
      exact (h3 j hj (Nat.zero_le _)).1
    · rw [List.nodup_iff_pairwise_ne, List.pairwise_iff_getElem]
      intro i j hi hj hij he
      refine (h3 j hj (Nat.zero_le _)).2 ?_
      rw [← he]
      exact List.mem_of_getElem? (i := i) (by rw [List.getElem?_take, if_pos hij, List.getElem?_eq_getElem hi])
theorem implTable_l0 (l : List ByteArray) (hl : l.length < 9223372036854775807) (d : Nat) : ∀ i, i ≤ l.length → l.length - i = d → Evt (fun k => impl_isTable.l0 k l (l.length : Int) i l) (decide (1 ≤ l.length ∧ l.length ≤ 10) && okRest l i) := by
  induction d with
  | zero =>
    intro i hi hd
    refine Evt.succ (h := fun _ => some (decide (1 ≤ (l.length : Int) ∧ (l.length : Int) ≤ 10))) (fun k => ?_) ?_
    · simp only [impl_isTable.l0]
      rw [if_neg (by omega), in_eq]
      rfl
    · rw [okRest_end l i (by omega), Bool.and_true, show decide (1 ≤ (l.length : Int) ∧ (l.length : Int) ≤ 10) = decide (1 ≤ l.length ∧ l.length ≤ 10) by rw [decide_eq_decide]; omega]
      exact Evt.const _
  | succ d ih =>
    intro i hi hd
    have hlt : i < l.length := by omega
    rw [okRest_step l i hlt]
    have hc := implContains_evt (l.take i) l[i] (by rw [List.length_take]; omega)
    refine Evt.succ (h := fun k => if okMarks l[i] 1 5 = true then ((slices_Contains_string_string.f k (l.take i) l[i]).bind fun t => if t = true then some false else impl_isTable.l0 k l (l.length : Int) ((i + 1 : Nat) : Int) l) else some false) (fun k => ?_) ?_
    · simp only [impl_isTable.l0]
      rw [if_pos (by omega), if_pos (by omega), if_pos (by omega), rdOf_get _ _ _ hlt, wrap_succ i (by omega), if_pos (by omega)]
      unfold impl_isLetterMarks.f
      rw [implAreMarks_eq _ 1 5 (by omega)]
      rfl
    · by_cases hm : okMarks l[i] 1 5 = true
      · refine Evt.ite_pos hm (Evt.bind hc ?_)
        by_cases hin : l[i] ∈ l.take i
        · refine Evt.ite_pos (by simpa using hin) ?_
          simp [hin]
          exact Evt.const _
        · refine Evt.ite_neg (by simpa using hin) ?_
          simp only [hm, hin, decide_false, Bool.not_false, Bool.true_and, Bool.and_self]
          exact ih (i + 1) (by omega) (by omega)
      · refine Evt.ite_neg hm ?_
        simp [hm]
        exact Evt.const _
theorem implTable_evt (l : List ByteArray) (hl : l.length < 9223372036854775807) : Evt (fun k => impl_isTable.f k l) (okTable l) := by
  rw [okTable_eq]
  exact (implTable_l0 l hl l.length 0 (by omega) (by omega)).of_eq (fun k => rfl)
theorem specTable_l0 (l : List ByteArray) (hl : l.length < 9223372036854775807) (d : Nat) : ∀ i, i ≤ l.length → l.length - i = d → Evt (fun k => spec_l2Table.l0 k i l) (okRest l i) := by
  induction d with
  | zero =>
    intro i hi hd
    refine Evt.succ (h := fun _ => some true) (fun k => ?_) ?_
    · simp only [spec_l2Table.l0]
      rw [if_neg (by omega)]
    · rw [okRest_end l i (by omega)]
      exact Evt.const _
  | succ d ih =>
    intro i hi hd
    have hlt : i < l.length := by omega
    rw [okRest_step l i hlt]
    have hp := specPlace_evt l l[i] hl
    have hf : plc l l[i] 0 = (i : Int) ↔ l[i] ∉ l.take i := by
      have h := plc_first (l.take i) (l.drop (i + 1)) l[i] 0
      rw [← drop_get l i hlt, List.take_append_drop, List.length_take, Nat.min_eq_left (by omega), Nat.zero_add] at h
      exact h
    have hmk : Evt (fun k => spec_l2Marks.f k l[i] 1 5) (okMarks l[i] 1 5) := ⟨20, fun k hk => specMarks_eq _ 1 5 (by omega) (by omega) k (by omega)⟩
    refine Evt.succ (h := fun k => (spec_l2Marks.f k l[i] 1 5).bind fun t => if t = true then ((spec_l2Place.f k l l[i]).bind fun t => if t = (i : Int) then spec_l2Table.l0 k ((i + 1 : Nat) : Int) l else some false) else some false) (fun k => ?_) ?_
    · simp only [spec_l2Table.l0]
      rw [if_pos (by omega), if_pos (by omega), rdOf_get _ _ _ hlt, wrap_succ i (by omega)]
    · refine Evt.bind hmk ?_
      by_cases hm : okMarks l[i] 1 5 = true
      · refine Evt.ite_pos hm (Evt.bind hp ?_)
        by_cases hin : l[i] ∈ l.take i
        · refine Evt.ite_neg (fun e => (hf.1 e) hin) ?_
          simp [hin]
          exact Evt.const _
        · refine Evt.ite_pos (hf.2 hin) ?_
          simp only [hm, hin, decide_false, Bool.not_false, Bool.true_and, Bool.and_self]
          exact ih (i + 1) (by omega) (by omega)
      · refine Evt.ite_neg hm ?_
        simp [hm]
        exact Evt.const _
theorem specTable_evt (l : List ByteArray) (hl : l.length < 9223372036854775807) : Evt (fun k => spec_l2Table.f k l) (okTable l) := by
  rw [okTable_eq]
  refine Evt.of_eq (h := fun k => if decide (1 ≤ (l.length : Int) ∧ (l.length : Int) ≤ 10) = true then spec_l2Table.l0 k ((0 : Nat) : Int) l else some false) (fun k => ?_) ?_
  · unfold spec_l2Table.f
    rw [l1In_eq]
    rfl
  · by_cases h : 1 ≤ l.length ∧ l.length ≤ 10
    · refine Evt.ite_pos (by simp; omega) ?_
      simp only [h, and_self, decide_true, Bool.true_and]
      exact specTable_l0 l hl l.length 0 (by omega) (by omega)
    · refine Evt.ite_neg (by simp; omega) ?_
      simp [h]
      exact Evt.const _

/-! ### lawtable -/
/-- The law's own looks at a table: its weight, a copy, and whether it is as it was. -/
theorem szStringS_l0 (l : List ByteArray) (hl : l.length ≤ 1048576) (hs : ∀ m ∈ l, m.size ≤ 9223372036854775807) (d : Nat) : ∀ (i : Nat) (a : Int), i ≤ l.length → l.length - i = d → 0 ≤ a → a ≤ 1048576 → ∃ t, Evt (fun k => laws_szStringS.l0 k l a i) t := by
  induction d with
  | zero =>
    intro i a hi hd h0 h1
    refine ⟨a, Evt.succ (h := fun _ => some a) (fun k => ?_) (Evt.const _)⟩
    simp only [laws_szStringS.l0]
    rw [if_neg (by omega)]
  | succ d ih =>
    intro i a hi hd h0 h1
    have hlt : i < l.length := by omega
    have hsz := hs l[i] (List.getElem_mem hlt)
    have hw : wrap64 (a - (l[i].size : Int)) = a - (l[i].size : Int) := by unfold wrap64; omega
    by_cases h : a - (l[i].size : Int) < 0
    · refine ⟨-1, Evt.succ (h := fun _ => some (-1)) (fun k => ?_) (Evt.const _)⟩
      simp only [laws_szStringS.l0]
      rw [if_pos (by omega), if_pos (by omega), rdOf_get _ _ _ hlt, hw, if_pos h]
    · obtain ⟨t, ht⟩ := ih (i + 1) (a - (l[i].size : Int)) (by omega) (by omega) (by omega) (by omega)
      refine ⟨t, Evt.succ (fun k => ?_) ht⟩
      simp only [laws_szStringS.l0]
      rw [if_pos (by omega), if_pos (by omega), rdOf_get _ _ _ hlt, hw, if_neg h, wrap_succ i (by omega)]
theorem szStringS_evt (l : List ByteArray) (b : Int) (hb : 0 ≤ b) (hb2 : b ≤ 1048576) (h : l.length ≤ 9223372036854775807) (hs : ∀ m ∈ l, m.size ≤ 9223372036854775807) : ∃ t, Evt (fun k => laws_szStringS.f k l b) t ∧ (t < 0 ∨ l.length ≤ 1048576) := by
  have hw : wrap64 (b - (l.length : Int)) = b - (l.length : Int) := by unfold wrap64; omega
  by_cases hn : b - (l.length : Int) < 0
  · refine ⟨-1, (Evt.const (-1)).of_eq (fun k => ?_), .inl (by omega)⟩
    unfold laws_szStringS.f
    rw [hw, if_pos hn]
  · obtain ⟨t, ht⟩ := szStringS_l0 l (by omega) hs l.length 0 (b - (l.length : Int)) (by omega) (by omega) (by omega) (by omega)
    refine ⟨t, ht.of_eq (fun k => ?_), .inr (by omega)⟩
    unfold laws_szStringS.f
    rw [hw, if_neg hn]
    rfl
theorem szTable_evt (l : List ByteArray) (b : Int) (hb : 0 ≤ b) (hb2 : b ≤ 1048576) (h : l.length ≤ 9223372036854775807) (hs : ∀ m ∈ l, m.size ≤ 9223372036854775807) : ∃ t, Evt (fun k => laws_szTable.f k l b) t ∧ (t < 0 ∨ l.length ≤ 1048576) := by
  obtain ⟨t, ht, h⟩ := szStringS_evt l b hb hb2 h hs
  by_cases hn : t < 0
  · exact ⟨-1, Evt.bind ht (Evt.ite_pos hn (Evt.const _)), .inl (by omega)⟩
  · exact ⟨t, Evt.bind ht (Evt.ite_neg hn (Evt.const _)), h⟩
theorem toStringS_l0 (l : List ByteArray) (hl : l.length ≤ 1048576) (d : Nat) : ∀ (i : Nat) (x : List ByteArray), i ≤ l.length → l.length - i = d → x.length = l.length → x.take i = l.take i → Evt (fun k => laws_toStringS.l0 k l x i) l := by
  induction d with
  | zero =>
    intro i x hi hd hx ht
    have e : x = l := by
      have h1 : i = l.length := by omega
      rw [h1, List.take_length, ← hx, List.take_length] at ht
      exact ht
    subst e
    refine Evt.succ (h := fun _ => some x) (fun k => ?_) (Evt.const _)
    simp only [laws_toStringS.l0]
    rw [if_neg (by omega)]
  | succ d ih =>
    intro i x hi hd hx ht
    have hlt : i < l.length := by omega
    refine Evt.succ (fun k => ?_) (ih (i + 1) (x.set i l[i]) (by omega) (by omega) (by rw [List.length_set]; exact hx) ?_)
    · simp only [laws_toStringS.l0]
      rw [if_pos (by omega), if_pos (by omega), if_pos (by omega), rdOf_get _ _ _ hlt, wrap_succ i (by omega), Int.toNat_natCast]
    · rw [List.take_succ_eq_append_getElem (by rw [List.length_set]; omega), List.take_succ_eq_append_getElem hlt, List.take_set_of_le (by omega), ht, List.getElem_set_self]
theorem toStringS_evt (l : List ByteArray) (hl : l.length ≤ 1048576) : Evt (fun k => laws_toStringS.f k l) l := by
  refine (toStringS_l0 l hl l.length 0 (List.replicate l.length (⟨#[]⟩ : ByteArray)) (by omega) (by omega) (by simp) rfl).of_eq (fun k => ?_)
  unfold laws_toStringS.f
  rw [if_pos (by omega), Int.toNat_natCast, if_pos (by omega)]
  rfl
theorem toTable_evt (l : List ByteArray) (hl : l.length ≤ 1048576) : Evt (fun k => laws_toTable.f k l) l :=
  Evt.bind (toStringS_evt l hl) (Evt.const _)
theorem eqStringS_l0 (l : List ByteArray) (hl : l.length ≤ 1048576) (d : Nat) : ∀ (i : Nat), i ≤ l.length → l.length - i = d → Evt (fun k => laws_eqStringS.l0 k l l i) true := by
  induction d with
  | zero =>
    intro i hi hd
    refine Evt.succ (h := fun _ => some true) (fun k => ?_) (Evt.const _)
    simp only [laws_eqStringS.l0]
    rw [if_neg (by omega)]
  | succ d ih =>
    intro i hi hd
    refine Evt.succ (fun k => ?_) (ih (i + 1) (by omega) (by omega))
    simp only [laws_eqStringS.l0]
    rw [if_pos (by omega), if_pos (by omega), if_pos (by omega), if_pos trivial, wrap_succ i (by omega)]
theorem eqStringS_evt (l : List ByteArray) (hl : l.length ≤ 1048576) : Evt (fun k => laws_eqStringS.f k l l) true := by
  refine (eqStringS_l0 l hl l.length 0 (by omega) (by omega)).of_eq (fun k => ?_)
  unfold laws_eqStringS.f
  rw [if_pos rfl]
  rfl
theorem eqTable_evt (l : List ByteArray) (hl : l.length ≤ 1048576) : Evt (fun k => laws_eqTable.f k l l) true :=
  Evt.bind (eqStringS_evt l hl) (Evt.ite_pos rfl (Evt.const _))
theorem of_table (l : List ByteArray) (h : okTable l = true) : 1 ≤ l.length ∧ l.length ≤ 10 ∧ (∀ m ∈ l, okMarks m 1 5 = true) ∧ l.Nodup := by
  unfold okTable at h
  rw [decide_eq_true_eq] at h
  exact h
theorem len_wrap (l : List ByteArray) (h : l.length ≤ 1048576) : wrap64 ((l.length : Int) - 1) = (l.length : Int) - 1 := by
  unfold wrap64
  omega
theorem isLetter_len (l : List ByteArray) (h : okTable l = true) : wrap64 ((l.length : Int) - 1) = (l.length : Int) - 1 := by
  have := of_table l h
  unfold wrap64
  omega

/-! ### enum -/
/-- All texts of n marks. -/
def gen : Nat → List (List UInt8)
  | 0 => [[]]
  | n + 1 => (gen n).flatMap fun l => [46 :: l, 45 :: l]
theorem mem_gen (l : List UInt8) (h : l.all okc = true) : l ∈ gen l.length := by
  induction l with
  | nil => exact List.mem_singleton.2 rfl
  | cons c t ih =>
    rw [List.all_cons, Bool.and_eq_true] at h
    have h1 := ih h.2
    have h2 := h.1
    simp only [okc, Bool.or_eq_true, beq_iff_eq] at h2
    simp only [List.length_cons, gen, List.mem_flatMap]
    refine ⟨t, h1, ?_⟩
    rcases h2 with rfl | rfl <;> simp
/-- All texts of at most five marks. -/
def gens : List (List UInt8) := gen 0 ++ gen 1 ++ gen 2 ++ gen 3 ++ gen 4 ++ gen 5
theorem mem_gens (l : List UInt8) (h : l.all okc = true) (hl : l.length ≤ 5) : l ∈ gens := by
  have h1 := mem_gen l h
  unfold gens
  have : l.length = 0 ∨ l.length = 1 ∨ l.length = 2 ∨ l.length = 3 ∨ l.length = 4 ∨ l.length = 5 := by omega
  rcases this with e | e | e | e | e | e <;> rw [e] at h1 <;> simp [h1]
theorem str_eta (s : ByteArray) : s = ⟨s.data.toList.toArray⟩ := by
  obtain ⟨⟨l⟩⟩ := s
  rfl
theorem mem_okMarks (s : ByteArray) (lo : Int) (h : okMarks s lo 5 = true) : ∃ l ∈ gens, s = ⟨l.toArray⟩ := by
  simp only [okMarks, Bool.and_eq_true, decide_eq_true_eq] at h
  exact ⟨s.data.toList, mem_gens _ h.2 (by rw [size_data]; omega), str_eta s⟩

/-! ### mono -/
/-- What is told once is told ever after. -/
theorem Evt.of_mono {α : Type} {g : Nat → Option α} {r : α} (m : ∀ k, LeO (g k) (g (k + 1))) {k0 : Nat} (h : g k0 = some r) : Evt g r := by
  refine ⟨k0, fun k hk => ?_⟩
  obtain ⟨d, rfl⟩ : ∃ d, k = k0 + d := ⟨k - k0, by omega⟩
  clear hk
  induction d with
  | zero => exact h
  | succ d ih => exact m (k0 + d) r ih

/-! ### node -/
/-- The node of a text of marks. -/
def nd (l : List UInt8) : Nat := l.foldl (fun n c => 2 * n + if c == 45 then 1 else 0) 1
theorem node_l0 : ∀ (k : Nat) (s : ByteArray) (a i : Int), spec_l9Node.l0 k s a i = impl_nodeOf.l0 k s a (s.size : Int) i := by
  intro k
  induction k with
  | zero => intro s a i; rfl
  | succ k ih =>
    intro s a i
    simp only [spec_l9Node.l0, impl_nodeOf.l0, ih, Int.mul_comm a 2]
    by_cases h1 : i < (s.size : Int)
    · simp only [if_pos h1]
    · simp only [if_neg h1]
theorem node_f (k : Nat) (s : ByteArray) : spec_l9Node.f k s = impl_nodeOf.f k s := by
  unfold spec_l9Node.f impl_nodeOf.f
  exact node_l0 k s 1 0
theorem node_inside : (gens.all fun l => impl_nodeOf.f 60 ⟨l.toArray⟩ == some (nd l : Int) && decide (1 ≤ nd l ∧ nd l ≤ 63)) = true := by decide +kernel
theorem node_evt (s : ByteArray) (lo : Int) (h : okMarks s lo 5 = true) : Evt (fun k => impl_nodeOf.f k s) (nd s.data.toList : Int) ∧ 1 ≤ nd s.data.toList ∧ nd s.data.toList ≤ 63 := by
  obtain ⟨l, hl, rfl⟩ := mem_okMarks s lo h
  have h := List.all_eq_true.1 node_inside l hl
  simp only [Bool.and_eq_true, beq_iff_eq, decide_eq_true_eq] at h
  exact ⟨Evt.of_mono (fun k => impl_nodeOf.mono _ k) h.1, h.2.1, h.2.2⟩
theorem node_evt' (s : ByteArray) (lo : Int) (h : okMarks s lo 5 = true) : Evt (fun k => spec_l9Node.f k s) (nd s.data.toList : Int) := (node_evt s lo h).1.of_eq (fun k => node_f k s)

/-! ### join -/
/-- The program's way up of two nodes ends. -/
theorem join_l0 (d : Nat) : ∀ (a b : Nat) (w : Nat), 1 ≤ a → 1 ≤ b → a + b ≤ d → d + w ≤ 100000 → ∃ r : Int × Int, Evt (fun k => impl_join.l0 k a b w) r := by
  induction d with
  | zero => intro a b w ha hb hd; omega
  | succ d ih =>
    intro a b w ha hb hd hw
    by_cases e : a = b
    · refine ⟨((a : Int), (w : Int)), Evt.succ (h := fun _ => some ((a : Int), (w : Int))) (fun k => ?_) (Evt.const _)⟩
      simp only [impl_join.l0]
      rw [if_pos (by omega)]
    · by_cases h : a > b
      · obtain ⟨r, hr⟩ := ih (a / 2) b (w + 1) (by omega) (by omega) (by omega) (by omega)
        refine ⟨r, Evt.succ (fun k => ?_) hr⟩
        simp only [impl_join.l0]
        rw [if_neg (by omega), if_pos (by omega), wrap_succ w (by omega)]
        congr 1
        rw [Int.tdiv_eq_ediv_of_nonneg (by omega)]
        unfold wrap64
        omega
      · obtain ⟨r, hr⟩ := ih a (b / 2) (w + 1) (by omega) (by omega) (by omega) (by omega)
        refine ⟨r, Evt.succ (fun k => ?_) hr⟩
        simp only [impl_join.l0]
        rw [if_neg (by omega), if_neg (by omega), wrap_succ w (by omega)]
        congr 1
        rw [Int.tdiv_eq_ediv_of_nonneg (by omega)]
        unfold wrap64
        omega

/-! ### joined -/
noncomputable def two (l : List ByteArray) (i j : Int) : Bool := okTable l && decide (0 ≤ i ∧ i ≤ (l.length : Int) - 1) && decide (0 ≤ j ∧ j ≤ (l.length : Int) - 1)
theorem specLetters_evt (l : List ByteArray) (hl : l.length ≤ 1048576) (i j : Int) : Evt (fun k => spec_l9Letters.f k l i j) (two l i j) := by
  unfold spec_l9Letters.f two
  refine Evt.bind (specTable_evt l (by omega)) ?_
  rw [len_wrap l hl]
  simp only [l1In_eq, Option.bind_some]
  cases okTable l with
  | false => exact Evt.const _
  | true =>
    by_cases h1 : 0 ≤ i ∧ i ≤ (l.length : Int) - 1
    · simp [h1]
      exact Evt.const _
    · simp [h1]
      exact Evt.const _
theorem implJoined_no (l : List ByteArray) (hl : l.length ≤ 1048576) (i j : Int) (h : two l i j = false) : Evt (fun k => impl_joined.f k l i j) (0, 0, false) := by
  unfold impl_joined.f
  refine Evt.bind (implTable_evt l (by omega)) ?_
  have hj : Evt (fun k => impl_joined.j0 k i j true l) (0, 0, false) := by
    refine Evt.succ (h := fun k => _) (fun k => by simp only [impl_joined.j0]; rfl) ?_
    exact Evt.ite_pos trivial (Evt.const _)
  unfold two at h
  cases ht : okTable l with
  | false => exact hj
  | true =>
    rw [ht] at h
    simp only [impl_isLetter.f, len_wrap l hl, in_eq, Option.bind_some, if_true]
    by_cases h1 : 0 ≤ i ∧ i ≤ (l.length : Int) - 1
    · simp only [h1, and_self, decide_true, Bool.true_and] at h
      simp only [h1, and_self, decide_true, if_true, h, Bool.not_false]
      exact hj
    · simp only [h1, decide_false, Bool.false_eq_true, if_false]
      exact hj
/-- Two letters: their nodes. -/
theorem joined_yes (l : List ByteArray) (hl : l.length ≤ 1048576) (i j : Int) (h : two l i j = true) : ∃ (a b : Nat) (r w : Int), 1 ≤ a ∧ a ≤ 63 ∧ 1 ≤ b ∧ b ≤ 63 ∧ Evt (fun k => impl_join.l0 k a b 0) (r, w) ∧ Evt (fun k => impl_joined.f k l i j) (r, w, true) ∧
    0 ≤ i ∧ i < (l.length : Int) ∧ 0 ≤ j ∧ j < (l.length : Int) ∧ Evt (fun k => spec_l9Node.f k (rdOf ByteArray.empty l i)) (a : Int) ∧ Evt (fun k => spec_l9Node.f k (rdOf ByteArray.empty l j)) (b : Int) := by
  unfold two at h
  simp only [Bool.and_eq_true, decide_eq_true_eq] at h
  obtain ⟨⟨ht, h1⟩, h2⟩ := h
  have hof := of_table l ht
  have hi := implTable_evt l (by omega)
  rw [ht] at hi
  obtain ⟨i, rfl⟩ := Int.eq_ofNat_of_zero_le h1.1
  obtain ⟨j, rfl⟩ := Int.eq_ofNat_of_zero_le h2.1
  have li : i < l.length := by omega
  have lj : j < l.length := by omega
  have oki := hof.2.2.1 l[i] (List.getElem_mem li)
  have okj := hof.2.2.1 l[j] (List.getElem_mem lj)
  obtain ⟨ni, ni1, ni2⟩ := node_evt l[i] 1 oki
  obtain ⟨nj, nj1, nj2⟩ := node_evt l[j] 1 okj
  obtain ⟨⟨r, w⟩, hr⟩ := join_l0 200 (nd l[i].data.toList) (nd l[j].data.toList) 0 ni1 nj1 (by omega) (by omega)
  refine ⟨nd l[i].data.toList, nd l[j].data.toList, r, w, ni1, ni2, nj1, nj2, hr, ?_, by omega, by omega, by omega, by omega, ?_, ?_⟩
  · refine Evt.bind hi ?_
    simp only [if_true, impl_isLetter.f, in_eq, Option.bind_some, len_wrap l hl, h1, h2, decide_true, and_self, Bool.not_true]
    refine Evt.succ (h := fun k => _) (fun k => by simp only [impl_joined.j0]; rfl) ?_
    simp only [Bool.false_eq_true, if_false, if_pos h1.1, if_pos h2.1, show (i : Int) < (l.length : Int) by omega, show (j : Int) < (l.length : Int) by omega, rdOf_get _ _ _ li, rdOf_get _ _ _ lj, if_true]
    exact Evt.bind ni (Evt.bind nj (Evt.bind hr (Evt.const _)))
  · rw [rdOf_get _ _ _ li]
    exact node_evt' l[i] 1 oki
  · rw [rdOf_get _ _ _ lj]
    exact node_evt' l[j] 1 okj

theorem specWay_l0 : ∀ (k : Nat) (a b w : Int), spec_l9Way.l0 k a b w = (impl_join.l0 k a b w).map (·.2) := by
  intro k
  induction k with
  | zero => intro a b w; rfl
  | succ k ih =>
    intro a b w
    simp only [spec_l9Way.l0, impl_join.l0]
    by_cases h : a = b
    · rw [if_pos h, if_pos h]
      rfl
    · rw [if_neg h, if_neg h]
      by_cases h2 : a > b
      · rw [if_pos h2, if_pos h2]
        exact ih _ _ _
      · rw [if_neg h2, if_neg h2]
        exact ih _ _ _
theorem same_evt (l : List ByteArray) (hl : l.length ≤ 1048576) (i j : Int) : ∃ r, Evt (fun k => spec_WayBetween.f k l i j) r ∧ Evt (fun k => impl_WayBetween.f k l i j) r := by
  have hs := specLetters_evt l hl i j
  cases h : two l i j with
  | true =>
    rw [h] at hs
    obtain ⟨a, b, r, w, _, _, _, _, hr, hj, i1, i2, j1, j2, na, nb⟩ := joined_yes l hl i j h
    have hs' : Evt (fun k => spec_l9Way.f k a b) w := by
      obtain ⟨K, hK⟩ := hr
      refine ⟨K, fun k hk => ?_⟩
      show spec_l9Way.l0 k a b 0 = some w
      rw [specWay_l0 k _ _ 0]
      have := hK k hk
      simp only at this
      rw [this]
      rfl
    refine ⟨(w, true), ?_, Evt.bind hj (Evt.const _)⟩
    refine Evt.bind hs ?_
    simp only [if_true, if_pos i1, if_pos i2, if_pos j1, if_pos j2]
    exact Evt.bind na (Evt.bind nb (Evt.bind hs' (Evt.const _)))
  | false =>
    rw [h] at hs
    exact ⟨(0, false), Evt.bind hs (Evt.const _), Evt.bind (implJoined_no l hl i j h) (Evt.const _)⟩
theorem FnExactWayBetween : laws_FnExactWayBetween.Pure := by
  intro l i j hl hs _ _
  obtain ⟨t, ht, hor⟩ := szTable_evt l 1048576 (by omega) (by omega) hl hs
  refine Evt.get (r := true) ?_
  refine Evt.bind ht ?_
  by_cases hn : t < 0
  · exact Evt.ite_pos hn (Evt.const _)
  · refine Evt.ite_neg hn ?_
    have hl : l.length ≤ 1048576 := by omega
    obtain ⟨r, h1, h2⟩ := same_evt l hl i j
    refine Evt.bind (toTable_evt l hl) (Evt.bind h1 (Evt.bind (toTable_evt l hl) (Evt.bind h2 ?_)))
    refine Evt.ite_pos rfl ?_
    rw [show (r.2 != r.2) = false by simp]
    refine Evt.succ (h := fun k => _) (fun k => by simp only [laws_FnExactWayBetween.j0]; rfl) ?_
    refine Evt.ite_neg (by simp) ?_
    exact Evt.bind (toTable_evt l hl) (Evt.bind (eqTable_evt l hl) (Evt.ite_pos rfl (Evt.const _)))
end Go.Proofs.YtlmagoppgplocaaDoor.Pure
