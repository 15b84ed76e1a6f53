/- The program's WayOfMessage returns what the reference's WayOfMessage returns, for every Table and every text. No condition. -/
import Derived.Test.YtolbhpgphinjcaaDoorPFnExactWayOfMessagex5
namespace Go.Proofs.YtolbhpgphinjcaaDoor.Pure
open Go.RowKit Go.Proofs.YtolbhpgphinjcaaDoor.PFnExactWayOfMessage Go.Proofs.YtolbhpgphinjcaaDoorW.PrintWords Go.Proofs.YtolbhpgphinjcaaDoorW.PrintLast Go.Proofs.YtolbhpgphinjcaaDoorW.PrintMore
set_option linter.unusedVariables false
set_option linter.unusedSimpArgs false

/-! ### ev -/
/-- With enough rounds, and ever after, g answers r. -/
def Evt {α : Type} (g : Nat → Option α) (r : α) : Prop := ∃ K, ∀ k, K ≤ k → g k = some r
theorem Evt.const {α : Type} (r : α) : Evt (fun _ => some r) r := ⟨0, fun _ _ => rfl⟩
theorem Evt.of_eq {α : Type} {g h : Nat → Option α} {r : α} (e : ∀ k, g k = h k) (H : Evt h r) : Evt g r := by
  obtain ⟨K, hK⟩ := H
  exact ⟨K, fun k hk => (e k).trans (hK k hk)⟩
theorem Evt.bind {α β : Type} {g : Nat → Option β} {h : Nat → β → Option α} {a : β} {r : α} (H1 : Evt g a) (H2 : Evt (fun k => h k a) r) : Evt (fun k => (g k).bind (h k)) r := by
  obtain ⟨K1, h1⟩ := H1
  obtain ⟨K2, h2⟩ := H2
  refine ⟨max K1 K2, fun k hk => ?_⟩
  show (g k).bind (h k) = some r
  rw [h1 k (by omega)]
  exact h2 k (by omega)
theorem Evt.succ {α : Type} {g h : Nat → Option α} {r : α} (e : ∀ k, g (k + 1) = h k) (H : Evt h r) : Evt g r := by
  obtain ⟨K, hK⟩ := H
  refine ⟨K + 1, fun k hk => ?_⟩
  obtain ⟨k, rfl⟩ : ∃ m, k = m + 1 := ⟨k - 1, by omega⟩
  rw [e]
  exact hK k (by omega)
theorem Evt.get {α : Type} {g : Nat → Option α} {r : α} (H : Evt g r) : ∃ k, g k = some r := by
  obtain ⟨K, hK⟩ := H
  exact ⟨K, hK K (Nat.le_refl _)⟩
theorem Evt.get2 {α β : Type} {g : Nat → Option α} {h : Nat → Option β} {r : α} {s : β} (H : Evt g r) (H' : Evt h s) : ∃ k, g k = some r ∧ h k = some s := by
  obtain ⟨K, hK⟩ := H
  obtain ⟨K', hK'⟩ := H'
  exact ⟨max K K', hK _ (by omega), hK' _ (by omega)⟩
theorem Evt.ite_pos {α : Type} {c : Prop} [Decidable c] {g h : Nat → Option α} {r : α} (hc : c) (H : Evt g r) : Evt (fun k => if c then g k else h k) r :=
  H.of_eq (fun k => by rw [if_pos hc])
theorem Evt.ite_neg {α : Type} {c : Prop} [Decidable c] {g h : Nat → Option α} {r : α} (hc : ¬ c) (H : Evt h r) : Evt (fun k => if c then g k else h k) r :=
  H.of_eq (fun k => by rw [if_neg hc])
theorem Evt.pred {α : Type} {g h : Nat → Option α} {r : α} (e : ∀ k, g (k + 1) = h k) (H : Evt g r) : Evt h r := by
  obtain ⟨K, hK⟩ := H
  exact ⟨K, fun k hk => (e k).symm.trans (hK (k + 1) (by omega))⟩

/-! ### lists -/
theorem rdOf_get {α : Type} (d : α) (l : List α) (i : Nat) (h : i < l.length) : rdOf d l (i : Int) = l[i] := by
  unfold rdOf
  rw [Int.toNat_natCast, List.getD_eq_getElem?_getD, List.getElem?_eq_getElem h]
  rfl
theorem rd_get (l : List Int) (i : Nat) (h : i < l.length) : rd l (i : Int) = l[i] := by
  unfold rd
  rw [Int.toNat_natCast, List.getD_eq_getElem?_getD, List.getElem?_eq_getElem h]
  rfl
theorem drop_get {α : Type} (l : List α) (i : Nat) (h : i < l.length) : l.drop i = l[i] :: l.drop (i + 1) := by simp
theorem wrap_succ (i : Nat) (h : i < 9223372036854775807) : wrap64 ((i : Int) + 1) = ((i + 1 : Nat) : Int) := by unfold wrap64; omega

/-! ### in -/
theorem in_eq (a b c : Int) : impl_in.f a b c = some (decide (b ≤ a ∧ a ≤ c)) := by
  unfold impl_in.f
  by_cases h : a ≥ b
  · rw [if_pos h]
    simp [show b ≤ a from h]
  · rw [if_neg h]
    simp [show ¬ b ≤ a from h]
theorem l1In_eq (a b c : Int) : spec_l1In.f a b c = some (decide (b ≤ a ∧ a ≤ c)) := by
  unfold spec_l1In.f
  by_cases h : a ≥ b
  · rw [if_pos h]
    simp [show b ≤ a from h]
  · rw [if_neg h]
    simp [show ¬ b ≤ a from h]

/-! ### marks -/
/-- A byte that is a mark. -/
def okc (c : UInt8) : Bool := c == 46 || c == 45
def okMarks (s : ByteArray) (lo hi : Int) : Bool := decide (lo ≤ s.size ∧ (s.size : Int) ≤ hi) && s.data.toList.all okc
theorem size_data (s : ByteArray) : s.data.toList.length = s.size := by rw [Array.length_toList]; rfl
theorem bt_get (s : ByteArray) (i : Nat) (h : i < s.size) : bt s (i : Int) = ((s.data.toList[i]'(by rw [size_data]; exact h)).toNat : Int) := by
  unfold bt
  rw [dif_pos (by simpa using h)]
  simp only [Int.toNat_natCast, Array.getElem_toList]
  rfl
theorem trim_empty (l : List UInt8) : ((Lib.trimS l [46, 45]) = []) ↔ l.all okc = true := by
  have e : ∀ c : UInt8, ([46, 45] : List UInt8).contains c = okc c := fun c => by
    simp [okc, List.contains_cons]
    rfl
  have dw : ∀ l : List UInt8, (l.dropWhile (([46, 45] : List UInt8).contains ·) = []) ↔ l.all okc = true := by
    intro l
    induction l with
    | nil => simp
    | cons c t ih =>
      rw [List.dropWhile_cons, e]
      cases h : okc c with
      | true =>
        simp only [if_true, List.all_cons, h, Bool.true_and]
        exact ih
      | false => simp [h]
  unfold Lib.trimS Lib.trimLeftS Lib.trimRightS
  rw [dw]
  have dwa : ∀ l : List UInt8, (l.dropWhile (([46, 45] : List UInt8).contains ·)).all okc = l.all okc := by
    intro l
    induction l with
    | nil => rfl
    | cons c t ih =>
      rw [List.dropWhile_cons, e]
      cases h : okc c with
      | true =>
        simp only [if_true, List.all_cons, h, Bool.true_and]
        exact ih
      | false => simp
  rw [List.all_reverse, dwa, List.all_reverse]
theorem implAreMarks_eq (s : ByteArray) (lo hi : Int) (hh : hi ≤ 9223372036854775807) : impl_areMarks.f s lo hi = some (okMarks s lo hi) := by
  unfold impl_areMarks.f okMarks
  rw [in_eq]
  simp only [Option.bind_some, decide_eq_true_eq]
  by_cases h : lo ≤ (s.size : Int) ∧ (s.size : Int) ≤ hi
  · rw [if_pos h]
    unfold strings_Trim.f
    rw [if_pos (by omega), if_pos rfl]
    simp only [Option.bind_some, h, and_self, decide_true, Bool.true_and]
    congr 1
    rw [Lib.toList_data]
    have := trim_empty s.data.toList
    cases hb : s.data.toList.all okc with
    | true => simp [this.2 hb]
    | false =>
      have : ¬ Lib.trimS s.data.toList [46, 45] = [] := fun h => by rw [this.1 h] at hb; cases hb
      simpa using this
  · rw [if_neg h]
    simp [h]
theorem drop_cons_ (l : List UInt8) (i : Nat) (h : i < l.length) : l.drop i = l[i] :: l.drop (i + 1) := by simp
/-- The reference's loop from place i on: the marks up to 'hi', then the length. -/
theorem specMarks_l0 (s : ByteArray) (lo hi : Int) (h0 : 0 ≤ hi) (hh : hi ≤ 1000000) (d : Nat) : ∀ (k i : Nat), i ≤ s.size → (i : Int) ≤ hi + 1 → (hi + 1 - i).toNat = d → 2 * d + 3 ≤ k →
    spec_l2Marks.l0 k s lo hi i = some (((s.data.toList.drop i).take d).all okc && decide (lo ≤ s.size ∧ (s.size : Int) ≤ hi)) := by
  induction d with
  | zero =>
    intro k i hi1 hi2 hd hk
    obtain ⟨k, rfl⟩ : ∃ m, k = m + 2 := ⟨k - 2, by omega⟩
    have e : (i : Int) = hi + 1 := by omega
    simp only [spec_l2Marks.l0]
    have hj : spec_l2Marks.j1 (k + 1) s lo hi i false = some (decide (lo ≤ s.size ∧ (s.size : Int) ≤ hi)) := by
      simp only [spec_l2Marks.j1]
      rw [if_neg (by simp), l1In_eq]
      rfl
    by_cases hlt : (i : Int) < (s.size : Int)
    · rw [if_pos hlt, show decide ((i : Int) ≤ hi) = false from decide_eq_false (by omega), hj]
      simp
    · rw [if_neg hlt, hj]
      simp
  | succ d ih =>
    intro k i hi1 hi2 hd hk
    obtain ⟨k, rfl⟩ : ∃ m, k = m + 2 := ⟨k - 2, by omega⟩
    simp only [spec_l2Marks.l0]
    by_cases hlt : (i : Int) < (s.size : Int)
    · rw [if_pos hlt, show decide ((i : Int) ≤ hi) = true from decide_eq_true (by omega)]
      simp only [spec_l2Marks.j1]
      rw [if_pos trivial, if_pos (by omega), if_pos hlt]
      have hl : i < s.data.toList.length := by rw [size_data]; omega
      rw [drop_cons_ _ _ hl, List.take_succ_cons, List.all_cons, bt_get s i (by omega)]
      have hw : wrap64 ((i : Int) + 1) = ((i + 1 : Nat) : Int) := by unfold wrap64; omega
      rw [hw]
      generalize s.data.toList[i] = c
      have hc : ∀ n : Nat, n < 256 → (((c.toNat : Int) = (n : Int)) ↔ c = UInt8.ofNat n) := by
        intro n hn
        constructor
        · intro h
          apply UInt8.toNat_inj.1
          simp
          omega
        · rintro rfl
          simp
          omega
      have c46 : ((c.toNat : Int) = 46) ↔ c = 46 := hc 46 (by omega)
      have c45 : ((c.toNat : Int) = 45) ↔ c = 45 := hc 45 (by omega)
      by_cases h46 : c = 46
      · subst h46
        rw [if_pos (by rfl), ih _ _ (by omega) (by omega) (by omega) (by omega)]
        rfl
      · rw [if_neg (fun h => h46 (c46.1 h))]
        by_cases h45 : c = 45
        · subst h45
          rw [if_pos (by rfl), ih _ _ (by omega) (by omega) (by omega) (by omega)]
          rfl
        · rw [if_neg (fun h => h45 (c45.1 h))]
          simp [okc, h46, h45]
    · rw [if_neg hlt]
      have hj : spec_l2Marks.j1 (k + 1) s lo hi i false = some (decide (lo ≤ s.size ∧ (s.size : Int) ≤ hi)) := by
        simp only [spec_l2Marks.j1]
        rw [if_neg (by simp), l1In_eq]
        rfl
      rw [hj, List.drop_eq_nil_of_le (by rw [size_data]; omega)]
      simp
theorem specMarks_eq (s : ByteArray) (lo hi : Int) (h0 : 0 ≤ hi) (hh : hi ≤ 1000000) (k : Nat) (hk : 2 * hi + 5 ≤ k) : spec_l2Marks.f k s lo hi = some (okMarks s lo hi) := by
  unfold spec_l2Marks.f
  have h := specMarks_l0 s lo hi h0 hh (hi + 1 - ((0 : Nat) : Int)).toNat k 0 (by omega) (by omega) rfl (by omega)
  rw [show ((0 : Nat) : Int) = 0 from rfl] at h
  rw [h]
  unfold okMarks
  congr 1
  rw [List.drop_zero, Bool.and_comm]
  by_cases hl : lo ≤ (s.size : Int) ∧ (s.size : Int) ≤ hi
  · rw [List.take_of_length_le (by rw [size_data]; omega)]
  · simp [hl]

/-! ### tolist -/
theorem toList_inj (a b : ByteArray) : a.toList = b.toList ↔ a = b := by
  rw [Lib.toList_data, Lib.toList_data]
  constructor
  · intro h
    obtain ⟨⟨l⟩⟩ := a
    obtain ⟨⟨m⟩⟩ := b
    simp only at h
    rw [h]
  · rintro rfl
    rfl

/-! ### table -/
open Classical
/-- The first place of a text in a list, from place i on; -1 for none. -/
def plc : List ByteArray → ByteArray → Nat → Int
  | [], _, _ => -1
  | x :: l, s, i => if x = s then (i : Int) else plc l s (i + 1)
theorem plc_ge (l : List ByteArray) (s : ByteArray) : ∀ i, plc l s i = -1 ∨ (i : Int) ≤ plc l s i := by
  induction l with
  | nil => exact fun i => .inl rfl
  | cons x l ih =>
    intro i
    unfold plc
    by_cases h : x = s
    · rw [if_pos h]
      exact .inr (Int.le_refl _)
    · rw [if_neg h]
      rcases ih (i + 1) with h | h
      · exact .inl h
      · right
        omega
theorem plc_none (l : List ByteArray) (s : ByteArray) : ∀ i, plc l s i = -1 ↔ s ∉ l := by
  induction l with
  | nil => intro i; simp [plc]
  | cons x l ih =>
    intro i
    unfold plc
    by_cases h : x = s
    · subst h
      rw [if_pos rfl]
      simp
    · rw [if_neg h, ih, List.mem_cons]
      constructor
      · intro hn he
        rcases he with e | e
        · exact h e.symm
        · exact hn e
      · intro hn he
        exact hn (.inr he)
theorem plc_lt (l : List ByteArray) (s : ByteArray) : ∀ i, plc l s i < ((i + l.length : Nat) : Int) := by
  induction l with
  | nil => intro i; simp [plc]; omega
  | cons x l ih =>
    intro i
    unfold plc
    by_cases h : x = s
    · rw [if_pos h]
      simp
      omega
    · rw [if_neg h]
      have := ih (i + 1)
      simp at this ⊢
      omega
theorem specPlace_l0 (l : List ByteArray) (s : ByteArray) (hl : l.length < 9223372036854775807) (d : Nat) : ∀ i, i ≤ l.length → l.length - i = d → Evt (fun k => spec_l2Place.l0 k l s i) (plc (l.drop i) s i) := by
  induction d with
  | zero =>
    intro i hi hd
    refine Evt.succ (h := fun _ => some (-1)) (fun k => ?_) ?_
    · simp only [spec_l2Place.l0]
      rw [if_neg (by omega)]
    · rw [List.drop_eq_nil_of_le (by omega)]
      exact Evt.const _
  | succ d ih =>
    intro i hi hd
    have hlt : i < l.length := by omega
    rw [drop_get l i hlt]
    unfold plc
    by_cases h : l[i] = s
    · rw [if_pos h]
      refine Evt.succ (h := fun _ => some (i : Int)) (fun k => ?_) (Evt.const _)
      simp only [spec_l2Place.l0]
      rw [if_pos (by omega), if_pos (by omega), rdOf_get _ _ _ hlt, if_pos ((toList_inj _ _).2 h)]
    · rw [if_neg h]
      refine Evt.succ (fun k => ?_) (ih (i + 1) (by omega) (by omega))
      simp only [spec_l2Place.l0]
      rw [if_pos (by omega), if_pos (by omega), rdOf_get _ _ _ hlt, if_neg (fun e => h ((toList_inj _ _).1 e)), wrap_succ i (by omega)]
theorem specPlace_evt (l : List ByteArray) (s : ByteArray) (hl : l.length < 9223372036854775807) : Evt (fun k => spec_l2Place.f k l s) (plc l s 0) :=
  (specPlace_l0 l s hl l.length 0 (by omega) (by omega)).of_eq (fun k => rfl)
theorem implIndex_l0 (l : List ByteArray) (s : ByteArray) (hl : l.length < 9223372036854775807) (d : Nat) : ∀ i, i ≤ l.length → l.length - i = d → Evt (fun k => slices_Index_string_string.l0 k l s (l.length : Int) i) (plc (l.drop i) s i) := by
  induction d with
  | zero =>
    intro i hi hd
    refine Evt.succ (h := fun _ => some (-1)) (fun k => ?_) ?_
    · simp only [slices_Index_string_string.l0]
      rw [if_neg (by omega)]
    · rw [List.drop_eq_nil_of_le (by omega)]
      exact Evt.const _
  | succ d ih =>
    intro i hi hd
    have hlt : i < l.length := by omega
    rw [drop_get l i hlt]
    unfold plc
    by_cases h : l[i] = s
    · rw [if_pos h]
      refine Evt.succ (h := fun _ => some (i : Int)) (fun k => ?_) (Evt.const _)
      simp only [slices_Index_string_string.l0]
      rw [if_pos (by omega), if_pos (by omega), if_pos (by omega), rdOf_get _ _ _ hlt, if_pos ((toList_inj _ _).2 h.symm)]
    · rw [if_neg h]
      refine Evt.succ (fun k => ?_) (ih (i + 1) (by omega) (by omega))
      simp only [slices_Index_string_string.l0]
      rw [if_pos (by omega), if_pos (by omega), if_pos (by omega), rdOf_get _ _ _ hlt, if_neg (fun e => h ((toList_inj _ _).1 e).symm), wrap_succ i (by omega)]
theorem implIndex_evt (l : List ByteArray) (s : ByteArray) (hl : l.length < 9223372036854775807) : Evt (fun k => slices_Index_string_string.f k l s) (plc l s 0) :=
  (implIndex_l0 l s hl l.length 0 (by omega) (by omega)).of_eq (fun k => rfl)
theorem implContains_evt (l : List ByteArray) (s : ByteArray) (hl : l.length < 9223372036854775807) : Evt (fun k => slices_Contains_string_string.f k l s) (decide (s ∈ l)) := by
  have h : decide (plc l s 0 ≥ 0) = decide (s ∈ l) := by
    rw [decide_eq_decide]
    have h1 := plc_none l s 0
    have h2 := plc_ge l s 0
    constructor
    · intro h
      by_cases hm : s ∈ l
      · exact hm
      · rw [h1.2 hm] at h
        omega
    · intro hm
      rcases h2 with h | h
      · exact absurd hm (h1.1 h)
      · omega
  rw [← h]
  exact Evt.bind (implIndex_evt l s hl) (Evt.const _)
/-- Is a list of marks a table? -/
noncomputable def okTable (l : List ByteArray) : Bool := decide (1 ≤ l.length ∧ l.length ≤ 10 ∧ (∀ m ∈ l, okMarks m 1 5 = true) ∧ l.Nodup)
theorem plc_first (l m : List ByteArray) (s : ByteArray) : ∀ i, plc (l ++ s :: m) s i = ((i + l.length : Nat) : Int) ↔ s ∉ l := by
  induction l with
  | nil =>
    intro i
    simp [plc]
  | cons x l ih =>
    intro i
    rw [List.cons_append]
    unfold plc
    by_cases h : x = s
    · rw [if_pos h]
      simp [h]
      omega
    · rw [if_neg h, show i + (x :: l).length = (i + 1) + l.length by simp; omega, ih, List.mem_cons]
      constructor
      · intro hn he
        rcases he with e | e
        · exact h e.symm
        · exact hn e
      · intro hn he
        exact hn (.inr he)
/-- The rest of a table is good, what stands ahead of it known. -/
noncomputable def okRest (l : List ByteArray) (i : Nat) : Bool := decide (∀ j (h : j < l.length), i ≤ j → okMarks l[j] 1 5 = true ∧ l[j] ∉ l.take j)
theorem okRest_end (l : List ByteArray) (i : Nat) (h : l.length ≤ i) : okRest l i = true := by
  unfold okRest
  rw [decide_eq_true_eq]
  intro j hj hij
  omega
theorem okRest_step (l : List ByteArray) (i : Nat) (h : i < l.length) : okRest l i = (okMarks l[i] 1 5 && (!decide (l[i] ∈ l.take i)) && okRest l (i + 1)) := by
  unfold okRest
  rw [Bool.eq_iff_iff]
  simp only [Bool.and_eq_true, decide_eq_true_eq, Bool.not_eq_true', decide_eq_false_iff_not]
  constructor
  · intro H
    exact ⟨H i h (Nat.le_refl _), fun j hj hij => H j hj (by omega)⟩
  · intro H j hj hij
    by_cases e : j = i
    · subst e
      exact H.1
    · exact H.2 j hj (by omega)
theorem okTable_eq (l : List ByteArray) : okTable l = (decide (1 ≤ l.length ∧ l.length ≤ 10) && okRest l 0) := by
  unfold okTable okRest
  rw [Bool.eq_iff_iff]
  simp only [Bool.and_eq_true, decide_eq_true_eq]
  constructor
  · rintro ⟨h1, h2, h3, h4⟩
    refine ⟨⟨h1, h2⟩, fun j hj _ => ⟨h3 _ (List.getElem_mem hj), fun hm => ?_⟩⟩
    obtain ⟨q, hq, he⟩ := List.getElem_of_mem hm
    rw [List.length_take] at hq
    rw [List.getElem_take] at he
    exact absurd ((List.getElem_inj h4).1 he) (by omega)
  · rintro ⟨⟨h1, h2⟩, h3⟩
    refine ⟨h1, h2, fun m hm => ?_, ?_⟩
    · obtain ⟨j, hj, rfl⟩ := List.getElem_of_mem hm
      exact (h3 j hj (Nat.zero_le _)).1
    · rw [List.nodup_iff_pairwise_ne, List.pairwise_iff_getElem]
      intro i j hi hj hij he
      refine (h3 j hj (Nat.zero_le _)).2 ?_
      rw [← he]
      exact List.mem_of_getElem? (i := i) (by rw [List.getElem?_take, if_pos hij, List.getElem?_eq_getElem hi])
theorem implTable_l0 (l : List ByteArray) (hl : l.length < 9223372036854775807) (d : Nat) : ∀ i, i ≤ l.length → l.length - i = d → Evt (fun k => impl_isTable.l0 k l (l.length : Int) i l) (decide (1 ≤ l.length ∧ l.length ≤ 10) && okRest l i) := by
  induction d with
  | zero =>
    intro i hi hd
    refine Evt.succ (h := fun _ => some (decide (1 ≤ (l.length : Int) ∧ (l.length : Int) ≤ 10))) (fun k => ?_) ?_
    · simp only [impl_isTable.l0]
      rw [if_neg (by omega), in_eq]
      rfl
    · rw [okRest_end l i (by omega), Bool.and_true, show decide (1 ≤ (l.length : Int) ∧ (l.length : Int) ≤ 10) = decide (1 ≤ l.length ∧ l.length ≤ 10) by rw [decide_eq_decide]; omega]
      exact Evt.const _
  | succ d ih =>
    intro i hi hd
    have hlt : i < l.length := by omega
    rw [okRest_step l i hlt]
    have hc := implContains_evt (l.take i) l[i] (by rw [List.length_take]; omega)
    refine Evt.succ (h := fun k => if okMarks l[i] 1 5 = true then ((slices_Contains_string_string.f k (l.take i) l[i]).bind fun t => if t = true then some false else impl_isTable.l0 k l (l.length : Int) ((i + 1 : Nat) : Int) l) else some false) (fun k => ?_) ?_
    · simp only [impl_isTable.l0]
      rw [if_pos (by omega), if_pos (by omega), if_pos (by omega), rdOf_get _ _ _ hlt, wrap_succ i (by omega), if_pos (by omega)]
      unfold impl_isLetterMarks.f
      rw [implAreMarks_eq _ 1 5 (by omega)]
      rfl
    · by_cases hm : okMarks l[i] 1 5 = true
      · refine Evt.ite_pos hm (Evt.bind hc ?_)
        by_cases hin : l[i] ∈ l.take i
        · refine Evt.ite_pos (by simpa using hin) ?_
          simp [hin]
          exact Evt.const _
        · refine Evt.ite_neg (by simpa using hin) ?_
          simp only [hm, hin, decide_false, Bool.not_false, Bool.true_and, Bool.and_self]
          exact ih (i + 1) (by omega) (by omega)
      · refine Evt.ite_neg hm ?_
        simp [hm]
        exact Evt.const _
theorem implTable_evt (l : List ByteArray) (hl : l.length < 9223372036854775807) : Evt (fun k => impl_isTable.f k l) (okTable l) := by
  rw [okTable_eq]
  exact (implTable_l0 l hl l.length 0 (by omega) (by omega)).of_eq (fun k => rfl)
theorem specTable_l0 (l : List ByteArray) (hl : l.length < 9223372036854775807) (d : Nat) : ∀ i, i ≤ l.length → l.length - i = d → Evt (fun k => spec_l2Table.l0 k i l) (okRest l i) := by
  induction d with
  | zero =>
    intro i hi hd
    refine Evt.succ (h := fun _ => some true) (fun k => ?_) ?_
    · simp only [spec_l2Table.l0]
      rw [if_neg (by omega)]
    · rw [okRest_end l i (by omega)]
      exact Evt.const _
  | succ d ih =>
    intro i hi hd
    have hlt : i < l.length := by omega
    rw [okRest_step l i hlt]
    have hp := specPlace_evt l l[i] hl
    have hf : plc l l[i] 0 = (i : Int) ↔ l[i] ∉ l.take i := by
      have h := plc_first (l.take i) (l.drop (i + 1)) l[i] 0
      rw [← drop_get l i hlt, List.take_append_drop, List.length_take, Nat.min_eq_left (by omega), Nat.zero_add] at h
      exact h
    have hmk : Evt (fun k => spec_l2Marks.f k l[i] 1 5) (okMarks l[i] 1 5) := ⟨20, fun k hk => specMarks_eq _ 1 5 (by omega) (by omega) k (by omega)⟩
    refine Evt.succ (h := fun k => (spec_l2Marks.f k l[i] 1 5).bind fun t => if t = true then ((spec_l2Place.f k l l[i]).bind fun t => if t = (i : Int) then spec_l2Table.l0 k ((i + 1 : Nat) : Int) l else some false) else some false) (fun k => ?_) ?_
    · simp only [spec_l2Table.l0]
      rw [if_pos (by omega), if_pos (by omega), rdOf_get _ _ _ hlt, wrap_succ i (by omega)]
    · refine Evt.bind hmk ?_
      by_cases hm : okMarks l[i] 1 5 = true
      · refine Evt.ite_pos hm (Evt.bind hp ?_)
        by_cases hin : l[i] ∈ l.take i
        · refine Evt.ite_neg (fun e => (hf.1 e) hin) ?_
          simp [hin]
          exact Evt.const _
        · refine Evt.ite_pos (hf.2 hin) ?_
          simp only [hm, hin, decide_false, Bool.not_false, Bool.true_and, Bool.and_self]
          exact ih (i + 1) (by omega) (by omega)
      · refine Evt.ite_neg hm ?_
        simp [hm]
        exact Evt.const _
theorem specTable_evt (l : List ByteArray) (hl : l.length < 9223372036854775807) : Evt (fun k => spec_l2Table.f k l) (okTable l) := by
  rw [okTable_eq]
  refine Evt.of_eq (h := fun k => if decide (1 ≤ (l.length : Int) ∧ (l.length : Int) ≤ 10) = true then spec_l2Table.l0 k ((0 : Nat) : Int) l else some false) (fun k => ?_) ?_
  · unfold spec_l2Table.f
    rw [l1In_eq]
    rfl
  · by_cases h : 1 ≤ l.length ∧ l.length ≤ 10
    · refine Evt.ite_pos (by simp; omega) ?_
      simp only [h, and_self, decide_true, Bool.true_and]
      exact specTable_l0 l hl l.length 0 (by omega) (by omega)
    · refine Evt.ite_neg (by simp; omega) ?_
      simp [h]
      exact Evt.const _

/-! ### lawtable -/
/-- The law's own looks at a table: its weight, a copy, and whether it is as it was. -/
theorem szStringS_l0 (l : List ByteArray) (hl : l.length ≤ 1048576) (hs : ∀ m ∈ l, m.size ≤ 9223372036854775807) (d : Nat) : ∀ (i : Nat) (a : Int), i ≤ l.length → l.length - i = d → 0 ≤ a → a ≤ 1048576 → ∃ t, Evt (fun k => laws_szStringS.l0 k l a i) t := by
  induction d with
  | zero =>
    intro i a hi hd h0 h1
    refine ⟨a, Evt.succ (h := fun _ => some a) (fun k => ?_) (Evt.const _)⟩
    simp only [laws_szStringS.l0]
    rw [if_neg (by omega)]
  | succ d ih =>
    intro i a hi hd h0 h1
    have hlt : i < l.length := by omega
    have hsz := hs l[i] (List.getElem_mem hlt)
    have hw : wrap64 (a - (l[i].size : Int)) = a - (l[i].size : Int) := by unfold wrap64; omega
    by_cases h : a - (l[i].size : Int) < 0
    · refine ⟨-1, Evt.succ (h := fun _ => some (-1)) (fun k => ?_) (Evt.const _)⟩
      simp only [laws_szStringS.l0]
      rw [if_pos (by omega), if_pos (by omega), rdOf_get _ _ _ hlt, hw, if_pos h]
    · obtain ⟨t, ht⟩ := ih (i + 1) (a - (l[i].size : Int)) (by omega) (by omega) (by omega) (by omega)
      refine ⟨t, Evt.succ (fun k => ?_) ht⟩
      simp only [laws_szStringS.l0]
      rw [if_pos (by omega), if_pos (by omega), rdOf_get _ _ _ hlt, hw, if_neg h, wrap_succ i (by omega)]
theorem szStringS_evt (l : List ByteArray) (b : Int) (hb : 0 ≤ b) (hb2 : b ≤ 1048576) (h : l.length ≤ 9223372036854775807) (hs : ∀ m ∈ l, m.size ≤ 9223372036854775807) : ∃ t, Evt (fun k => laws_szStringS.f k l b) t ∧ (t < 0 ∨ l.length ≤ 1048576) := by
  have hw : wrap64 (b - (l.length : Int)) = b - (l.length : Int) := by unfold wrap64; omega
  by_cases hn : b - (l.length : Int) < 0
  · refine ⟨-1, (Evt.const (-1)).of_eq (fun k => ?_), .inl (by omega)⟩
    unfold laws_szStringS.f
    rw [hw, if_pos hn]
  · obtain ⟨t, ht⟩ := szStringS_l0 l (by omega) hs l.length 0 (b - (l.length : Int)) (by omega) (by omega) (by omega) (by omega)
    refine ⟨t, ht.of_eq (fun k => ?_), .inr (by omega)⟩
    unfold laws_szStringS.f
    rw [hw, if_neg hn]
    rfl
theorem szTable_evt (l : List ByteArray) (b : Int) (hb : 0 ≤ b) (hb2 : b ≤ 1048576) (h : l.length ≤ 9223372036854775807) (hs : ∀ m ∈ l, m.size ≤ 9223372036854775807) : ∃ t, Evt (fun k => laws_szTable.f k l b) t ∧ (t < 0 ∨ l.length ≤ 1048576) := by
  obtain ⟨t, ht, h⟩ := szStringS_evt l b hb hb2 h hs
  by_cases hn : t < 0
  · exact ⟨-1, Evt.bind ht (Evt.ite_pos hn (Evt.const _)), .inl (by omega)⟩
  · exact ⟨t, Evt.bind ht (Evt.ite_neg hn (Evt.const _)), h⟩
theorem toStringS_l0 (l : List ByteArray) (hl : l.length ≤ 1048576) (d : Nat) : ∀ (i : Nat) (x : List ByteArray), i ≤ l.length → l.length - i = d → x.length = l.length → x.take i = l.take i → Evt (fun k => laws_toStringS.l0 k l x i) l := by
  induction d with
  | zero =>
    intro i x hi hd hx ht
    have e : x = l := by
      have h1 : i = l.length := by omega
      rw [h1, List.take_length, ← hx, List.take_length] at ht
      exact ht
    subst e
    refine Evt.succ (h := fun _ => some x) (fun k => ?_) (Evt.const _)
    simp only [laws_toStringS.l0]
    rw [if_neg (by omega)]
  | succ d ih =>
    intro i x hi hd hx ht
    have hlt : i < l.length := by omega
    refine Evt.succ (fun k => ?_) (ih (i + 1) (x.set i l[i]) (by omega) (by omega) (by rw [List.length_set]; exact hx) ?_)
    · simp only [laws_toStringS.l0]
      rw [if_pos (by omega), if_pos (by omega), if_pos (by omega), rdOf_get _ _ _ hlt, wrap_succ i (by omega), Int.toNat_natCast]
    · rw [List.take_succ_eq_append_getElem (by rw [List.length_set]; omega), List.take_succ_eq_append_getElem hlt, List.take_set_of_le (by omega), ht, List.getElem_set_self]
theorem toStringS_evt (l : List ByteArray) (hl : l.length ≤ 1048576) : Evt (fun k => laws_toStringS.f k l) l := by
  refine (toStringS_l0 l hl l.length 0 (List.replicate l.length (⟨#[]⟩ : ByteArray)) (by omega) (by omega) (by simp) rfl).of_eq (fun k => ?_)
  unfold laws_toStringS.f
  rw [if_pos (by omega), Int.toNat_natCast, if_pos (by omega)]
  rfl
theorem toTable_evt (l : List ByteArray) (hl : l.length ≤ 1048576) : Evt (fun k => laws_toTable.f k l) l :=
  Evt.bind (toStringS_evt l hl) (Evt.const _)
theorem eqStringS_l0 (l : List ByteArray) (hl : l.length ≤ 1048576) (d : Nat) : ∀ (i : Nat), i ≤ l.length → l.length - i = d → Evt (fun k => laws_eqStringS.l0 k l l i) true := by
  induction d with
  | zero =>
    intro i hi hd
    refine Evt.succ (h := fun _ => some true) (fun k => ?_) (Evt.const _)
    simp only [laws_eqStringS.l0]
    rw [if_neg (by omega)]
  | succ d ih =>
    intro i hi hd
    refine Evt.succ (fun k => ?_) (ih (i + 1) (by omega) (by omega))
    simp only [laws_eqStringS.l0]
    rw [if_pos (by omega), if_pos (by omega), if_pos (by omega), if_pos trivial, wrap_succ i (by omega)]
theorem eqStringS_evt (l : List ByteArray) (hl : l.length ≤ 1048576) : Evt (fun k => laws_eqStringS.f k l l) true := by
  refine (eqStringS_l0 l hl l.length 0 (by omega) (by omega)).of_eq (fun k => ?_)
  unfold laws_eqStringS.f
  rw [if_pos rfl]
  rfl
theorem eqTable_evt (l : List ByteArray) (hl : l.length ≤ 1048576) : Evt (fun k => laws_eqTable.f k l l) true :=
  Evt.bind (eqStringS_evt l hl) (Evt.ite_pos rfl (Evt.const _))
theorem of_table (l : List ByteArray) (h : okTable l = true) : 1 ≤ l.length ∧ l.length ≤ 10 ∧ (∀ m ∈ l, okMarks m 1 5 = true) ∧ l.Nodup := by
  unfold okTable at h
  rw [decide_eq_true_eq] at h
  exact h
theorem len_wrap (l : List ByteArray) (h : l.length ≤ 1048576) : wrap64 ((l.length : Int) - 1) = (l.length : Int) - 1 := by
  unfold wrap64
  omega
theorem isLetter_len (l : List ByteArray) (h : okTable l = true) : wrap64 ((l.length : Int) - 1) = (l.length : Int) - 1 := by
  have := of_table l h
  unfold wrap64
  omega

/-! ### message -/
/-- Messages: the program's look and the reference's look are the same. -/
theorem bt_range (s : ByteArray) (i : Nat) (h : i < s.size) : 0 ≤ bt s (i : Int) ∧ bt s (i : Int) ≤ 255 := by
  rw [bt_get s i h]
  have := (s.data.toList[i]'(by rw [size_data]; exact h)).toNat_lt
  omega
theorem wrap_bt (x : Int) (h : 0 ≤ x) (h' : x ≤ 255) : wrap64 (wrap64 x - 97) = x - 97 := by
  unfold wrap64
  omega
theorem wrap_pred (i : Nat) (h : 1 ≤ i) (h' : i ≤ 1048576) : wrap64 ((i : Int) - 1) = ((i - 1 : Nat) : Int) := by
  unfold wrap64
  omega
def msgAt (l : List ByteArray) (m : ByteArray) (i : Nat) : Prop := bt m (i : Int) = 32 ∨ (97 ≤ bt m (i : Int) ∧ bt m (i : Int) - 97 < (l.length : Int))
theorem message_l0 (l : List ByteArray) (hl : l.length ≤ 1048576) (m : ByteArray) (hm : m.size ≤ 1048576) (d : Nat) : ∀ i, i ≤ m.size → m.size - i = d → ∃ b : Bool, Evt (fun k => spec_l2Message.l0 k m i l) b ∧ Evt (fun k => impl_isMessage.l0 k m (m.size : Int) i l) (b && decide ((m.size : Int) ≤ 12)) ∧ (b = true → ∀ j, i ≤ j → j < m.size → msgAt l m j) := by
  induction d with
  | zero =>
    intro i hi hd
    refine ⟨true, Evt.succ (fun k => by rw [spec_l2Message.l0, if_neg (by omega)]) (Evt.const _), Evt.succ (fun k => by rw [impl_isMessage.l0, if_neg (by omega)]) ?_, fun _ j h1 h2 => by omega⟩
    rw [Bool.true_and]
    exact Evt.const _
  | succ d ih =>
    intro i hi hd
    have li : i < m.size := by omega
    have hr := bt_range m i li
    have no : ∀ g h : Nat → Option Bool, (∀ k, g (k + 1) = some false) → (∀ k, h (k + 1) = some false) → ∃ b : Bool, Evt g b ∧ Evt h (b && decide ((m.size : Int) ≤ 12)) ∧ (b = true → ∀ j, i ≤ j → j < m.size → msgAt l m j) := by
      intro g h hg hh
      exact ⟨false, Evt.succ hg (Evt.const _), Evt.succ hh (Evt.const _), fun h => by cases h⟩
    obtain ⟨b, h1, h2, h3⟩ := ih (i + 1) (by omega) (by omega)
    by_cases hs : bt m (i : Int) = 32
    · by_cases h0 : i = 0
      · exact no _ _ (fun k => by rw [spec_l2Message.l0, if_pos (by omega), if_pos (by omega), if_pos hs, if_pos (by omega)]) (fun k => by rw [impl_isMessage.l0, if_pos (by omega), if_pos (by omega), if_pos (by omega), if_pos hs, if_pos (by omega)])
      · by_cases he : i = m.size - 1
        · exact no _ _ (fun k => by rw [spec_l2Message.l0, if_pos (by omega), if_pos (by omega), if_pos hs, if_neg (by omega), wrap_pred m.size (by omega) hm, if_pos (by omega)]) (fun k => by rw [impl_isMessage.l0, if_pos (by omega), if_pos (by omega), if_pos (by omega), if_pos hs, if_neg (by omega), wrap_pred m.size (by omega) hm, if_pos (by omega)])
        · by_cases hp : bt m ((i - 1 : Nat) : Int) = 32
          · exact no _ _ (fun k => by rw [spec_l2Message.l0, if_pos (by omega), if_pos (by omega), if_pos hs, if_neg (by omega), wrap_pred m.size (by omega) hm, if_neg (by omega), wrap_pred i (by omega) (by omega), if_pos (by omega), if_pos (by omega), if_pos hp]) (fun k => by rw [impl_isMessage.l0, if_pos (by omega), if_pos (by omega), if_pos (by omega), if_pos hs, if_neg (by omega), wrap_pred m.size (by omega) hm, if_neg (by omega), wrap_pred i (by omega) (by omega), if_pos (by omega), if_pos (by omega), if_pos hp])
          · refine ⟨b, Evt.succ (fun k => ?_) h1, Evt.succ (fun k => ?_) h2, fun hb j hj hj' => ?_⟩
            · rw [spec_l2Message.l0, if_pos (by omega), if_pos (by omega), if_pos hs, if_neg (by omega), wrap_pred m.size (by omega) hm, if_neg (by omega), wrap_pred i (by omega) (by omega), if_pos (by omega), if_pos (by omega), if_neg hp, wrap_succ i (by omega)]
            · rw [impl_isMessage.l0, if_pos (by omega), if_pos (by omega), if_pos (by omega), if_pos hs, if_neg (by omega), wrap_pred m.size (by omega) hm, if_neg (by omega), wrap_pred i (by omega) (by omega), if_pos (by omega), if_pos (by omega), if_neg hp, wrap_succ i (by omega)]
            · by_cases q : j = i
              · rw [q]
                exact .inl hs
              · exact h3 hb j (by omega) hj'
    · have e1 : ∀ k, spec_l2Message.l0 (k + 1) m i l = if decide (0 ≤ bt m (i : Int) - 97 ∧ bt m (i : Int) - 97 ≤ (l.length : Int) - 1) = true then spec_l2Message.l0 k m ((i + 1 : Nat) : Int) l else some false := by
        intro k
        rw [spec_l2Message.l0, if_pos (by omega), if_pos (by omega), if_neg hs, wrap_bt _ hr.1 hr.2, len_wrap l hl, l1In_eq, Option.bind_some, wrap_succ i (by omega)]
      have e2 : ∀ k, impl_isMessage.l0 (k + 1) m (m.size : Int) i l = if decide (0 ≤ bt m (i : Int) - 97 ∧ bt m (i : Int) - 97 ≤ (l.length : Int) - 1) = true then impl_isMessage.l0 k m (m.size : Int) ((i + 1 : Nat) : Int) l else some false := by
        intro k
        rw [impl_isMessage.l0, if_pos (by omega), if_pos (by omega), if_pos (by omega), if_neg hs, wrap_bt _ hr.1 hr.2, len_wrap l hl, in_eq, Option.bind_some, wrap_succ i (by omega)]
      by_cases hc : 0 ≤ bt m (i : Int) - 97 ∧ bt m (i : Int) - 97 ≤ (l.length : Int) - 1
      · refine ⟨b, Evt.succ (fun k => ?_) h1, Evt.succ (fun k => ?_) h2, fun hb j hj hj' => ?_⟩
        · rw [e1, decide_eq_true hc, if_pos rfl]
        · rw [e2, decide_eq_true hc, if_pos rfl]
        · by_cases q : j = i
          · rw [q]
            exact .inr ⟨by omega, by omega⟩
          · exact h3 hb j (by omega) hj'
      · refine no _ _ (fun k => ?_) (fun k => ?_)
        · rw [e1, decide_eq_false hc, if_neg (by simp)]
        · rw [e2, decide_eq_false hc, if_neg (by simp)]
theorem message_evt (l : List ByteArray) (hl : l.length ≤ 1048576) (m : ByteArray) (hm : m.size ≤ 1048576) : ∃ b : Bool, Evt (fun k => spec_l2Message.f k l m) b ∧ Evt (fun k => impl_isMessage.f k l m) b ∧ (b = true → m.size ≤ 12 ∧ ∀ j, j < m.size → msgAt l m j) := by
  obtain ⟨b, h1, h2, h3⟩ := message_l0 l hl m hm m.size 0 (by omega) (by omega)
  by_cases hs : (m.size : Int) > 12
  · rw [decide_eq_false (show ¬ (m.size : Int) ≤ 12 by omega), Bool.and_false] at h2
    exact ⟨false, Evt.ite_pos hs (Evt.const _), h2, fun h => by cases h⟩
  · rw [decide_eq_true (show (m.size : Int) ≤ 12 by omega), Bool.and_true] at h2
    exact ⟨b, Evt.ite_neg hs h1, h2, fun hb => ⟨by omega, fun j hj => h3 hb j (by omega) hj⟩⟩

/-! ### enum -/
/-- All texts of n marks. -/
def gen : Nat → List (List UInt8)
  | 0 => [[]]
  | n + 1 => (gen n).flatMap fun l => [46 :: l, 45 :: l]
theorem mem_gen (l : List UInt8) (h : l.all okc = true) : l ∈ gen l.length := by
  induction l with
  | nil => exact List.mem_singleton.2 rfl
  | cons c t ih =>
    rw [List.all_cons, Bool.and_eq_true] at h
    have h1 := ih h.2
    have h2 := h.1
    simp only [okc, Bool.or_eq_true, beq_iff_eq] at h2
    simp only [List.length_cons, gen, List.mem_flatMap]
    refine ⟨t, h1, ?_⟩
    rcases h2 with rfl | rfl <;> simp
/-- All texts of at most five marks. -/
def gens : List (List UInt8) := gen 0 ++ gen 1 ++ gen 2 ++ gen 3 ++ gen 4 ++ gen 5
theorem mem_gens (l : List UInt8) (h : l.all okc = true) (hl : l.length ≤ 5) : l ∈ gens := by
  have h1 := mem_gen l h
  unfold gens
  have : l.length = 0 ∨ l.length = 1 ∨ l.length = 2 ∨ l.length = 3 ∨ l.length = 4 ∨ l.length = 5 := by omega
  rcases this with e | e | e | e | e | e <;> rw [e] at h1 <;> simp [h1]
theorem str_eta (s : ByteArray) : s = ⟨s.data.toList.toArray⟩ := by
  obtain ⟨⟨l⟩⟩ := s
  rfl
theorem mem_okMarks (s : ByteArray) (lo : Int) (h : okMarks s lo 5 = true) : ∃ l ∈ gens, s = ⟨l.toArray⟩ := by
  simp only [okMarks, Bool.and_eq_true, decide_eq_true_eq] at h
  exact ⟨s.data.toList, mem_gens _ h.2 (by rw [size_data]; omega), str_eta s⟩

/-! ### mono -/
/-- What is told once is told ever after. -/
theorem Evt.of_mono {α : Type} {g : Nat → Option α} {r : α} (m : ∀ k, LeO (g k) (g (k + 1))) {k0 : Nat} (h : g k0 = some r) : Evt g r := by
  refine ⟨k0, fun k hk => ?_⟩
  obtain ⟨d, rfl⟩ : ∃ d, k = k0 + d := ⟨k - k0, by omega⟩
  clear hk
  induction d with
  | zero => exact h
  | succ d ih => exact m (k0 + d) r ih

/-! ### node -/
/-- The node of a text of marks. -/
def nd (l : List UInt8) : Nat := l.foldl (fun n c => 2 * n + if c == 45 then 1 else 0) 1
theorem node_l0 : ∀ (k : Nat) (s : ByteArray) (a i : Int), spec_l9Node.l0 k s a i = impl_nodeOf.l0 k s a (s.size : Int) i := by
  intro k
  induction k with
  | zero => intro s a i; rfl
  | succ k ih =>
    intro s a i
    simp only [spec_l9Node.l0, impl_nodeOf.l0, ih, Int.mul_comm a 2]
    by_cases h1 : i < (s.size : Int)
    · simp only [if_pos h1]
    · simp only [if_neg h1]
theorem node_f (k : Nat) (s : ByteArray) : spec_l9Node.f k s = impl_nodeOf.f k s := by
  unfold spec_l9Node.f impl_nodeOf.f
  exact node_l0 k s 1 0
theorem node_inside : (gens.all fun l => impl_nodeOf.f 60 ⟨l.toArray⟩ == some (nd l : Int) && decide (1 ≤ nd l ∧ nd l ≤ 63)) = true := by decide +kernel
theorem node_evt (s : ByteArray) (lo : Int) (h : okMarks s lo 5 = true) : Evt (fun k => impl_nodeOf.f k s) (nd s.data.toList : Int) ∧ 1 ≤ nd s.data.toList ∧ nd s.data.toList ≤ 63 := by
  obtain ⟨l, hl, rfl⟩ := mem_okMarks s lo h
  have h := List.all_eq_true.1 node_inside l hl
  simp only [Bool.and_eq_true, beq_iff_eq, decide_eq_true_eq] at h
  exact ⟨Evt.of_mono (fun k => impl_nodeOf.mono _ k) h.1, h.2.1, h.2.2⟩
theorem node_evt' (s : ByteArray) (lo : Int) (h : okMarks s lo 5 = true) : Evt (fun k => spec_l9Node.f k s) (nd s.data.toList : Int) := (node_evt s lo h).1.of_eq (fun k => node_f k s)

/-! ### join -/
/-- The program's way up of two nodes ends. -/
theorem join_l0 (d : Nat) : ∀ (a b : Nat) (w : Nat), 1 ≤ a → 1 ≤ b → a + b ≤ d → d + w ≤ 100000 → ∃ r : Int × Int, Evt (fun k => impl_join.l0 k a b w) r := by
  induction d with
  | zero => intro a b w ha hb hd; omega
  | succ d ih =>
    intro a b w ha hb hd hw
    by_cases e : a = b
    · refine ⟨((a : Int), (w : Int)), Evt.succ (h := fun _ => some ((a : Int), (w : Int))) (fun k => ?_) (Evt.const _)⟩
      simp only [impl_join.l0]
      rw [if_pos (by omega)]
    · by_cases h : a > b
      · obtain ⟨r, hr⟩ := ih (a / 2) b (w + 1) (by omega) (by omega) (by omega) (by omega)
        refine ⟨r, Evt.succ (fun k => ?_) hr⟩
        simp only [impl_join.l0]
        rw [if_neg (by omega), if_pos (by omega), wrap_succ w (by omega)]
        congr 1
        rw [Int.tdiv_eq_ediv_of_nonneg (by omega)]
        unfold wrap64
        omega
      · obtain ⟨r, hr⟩ := ih a (b / 2) (w + 1) (by omega) (by omega) (by omega) (by omega)
        refine ⟨r, Evt.succ (fun k => ?_) hr⟩
        simp only [impl_join.l0]
        rw [if_neg (by omega), if_neg (by omega), wrap_succ w (by omega)]
        congr 1
        rw [Int.tdiv_eq_ediv_of_nonneg (by omega)]
        unfold wrap64
        omega

theorem specWay_l0 : ∀ (k : Nat) (a b w : Int), spec_l9Way.l0 k a b w = (impl_join.l0 k a b w).map (·.2) := by
  intro k
  induction k with
  | zero => intro a b w; rfl
  | succ k ih =>
    intro a b w
    simp only [spec_l9Way.l0, impl_join.l0]
    by_cases h : a = b
    · rw [if_pos h, if_pos h]
      rfl
    · rw [if_neg h, if_neg h]
      by_cases h2 : a > b
      · rw [if_pos h2, if_pos h2]
        exact ih _ _ _
      · rw [if_neg h2, if_neg h2]
        exact ih _ _ _
/-- The way of two nodes. -/
noncomputable def wy (a b : Nat) : Int × Int := if h : ∃ r, Evt (fun k => impl_join.f k (a : Int) (b : Int)) r then Classical.choose h else (0, 0)
theorem wy_evt (a b : Nat) (ha : 1 ≤ a ∧ a ≤ 63) (hb : 1 ≤ b ∧ b ≤ 63) : Evt (fun k => impl_join.f k (a : Int) (b : Int)) (wy a b) ∧ Evt (fun k => spec_l9Way.f k (a : Int) (b : Int)) (wy a b).2 := by
  have h : ∃ r, Evt (fun k => impl_join.f k (a : Int) (b : Int)) r := join_l0 (a + b) a b 0 ha.1 hb.1 (Nat.le_refl _) (by omega)
  have e : Evt (fun k => impl_join.f k (a : Int) (b : Int)) (wy a b) := by
    unfold wy
    rw [dif_pos h]
    exact Classical.choose_spec h
  refine ⟨e, ?_⟩
  obtain ⟨K, hK⟩ := e
  refine ⟨K, fun k hk => ?_⟩
  show spec_l9Way.l0 k a b 0 = _
  rw [specWay_l0 k _ _ 0]
  have := hK k hk
  simp only [impl_join.f] at this
  rw [this]
  rfl
/-- The node of a letter. -/
def nb (l : List ByteArray) (c : UInt8) : Nat := nd (l.getD (c.toNat - 97) ByteArray.empty).data.toList
/-- The sum of the ways. -/
noncomputable def T (l : List ByteArray) (s : Int) (last : Nat) : List UInt8 → Int
  | [] => s
  | c :: r => T l (if 0 < last then wrap64 (s + (wy last (nb l c)).2) else s) (nb l c) r
def okL (l : List ByteArray) (c : UInt8) : Prop := 97 ≤ c.toNat ∧ c.toNat - 97 < l.length
theorem nb_evt (l : List ByteArray) (hl : ∀ m ∈ l, okMarks m 1 5 = true) (c : UInt8) (h : okL l c) : ∃ i : Nat, c.toNat = i + 97 ∧ i < l.length ∧ Evt (fun k => impl_nodeOf.f k (rdOf ByteArray.empty l (i : Int))) (nb l c : Int) ∧ Evt (fun k => spec_l9Node.f k (rdOf ByteArray.empty l (i : Int))) (nb l c : Int) ∧ 1 ≤ nb l c ∧ nb l c ≤ 63 := by
  obtain ⟨h1, h2⟩ := h
  have hm := hl _ (List.getElem_mem h2)
  obtain ⟨n1, n2, n3⟩ := node_evt _ 1 hm
  have e : nb l c = nd (l[c.toNat - 97]).data.toList := by
    unfold nb
    rw [List.getD_eq_getElem?_getD, List.getElem?_eq_getElem h2]
    rfl
  refine ⟨c.toNat - 97, by omega, h2, ?_, ?_, by rw [e]; exact n2, by rw [e]; exact n3⟩
  · rw [rdOf_get _ _ _ h2, e]
    exact n1
  · rw [rdOf_get _ _ _ h2, e]
    exact node_evt' _ 1 hm
theorem wrap_letter (c : UInt8) (i : Nat) (h : c.toNat = i + 97) : wrap64 (wrap64 (c.toNat : Int) - 97) = (i : Int) := by
  have := c.toNat_lt
  rw [wrap_bt _ (by omega) (by omega)]
  omega
theorem mod_letter (c : UInt8) (i : Nat) (h : c.toNat = i + 97) : ((c.toNat : Int) - 97) % 256 = (i : Int) := by
  have := c.toNat_lt
  omega
theorem byte32 (c : UInt8) : ((c.toNat : Int) = 32) ↔ c = 32 := by
  constructor
  · intro h
    exact UInt8.toNat_inj.1 (by show c.toNat = 32; omega)
  · rintro rfl
    rfl
theorem specT (l : List ByteArray) (hL : l.length ≤ 10) (hl : ∀ m ∈ l, okMarks m 1 5 = true) (m : ByteArray) (hm : m.size ≤ 12) (ha : ∀ j, j < m.size → msgAt l m j) (d : Nat) : ∀ (j : Nat) (s : Int) (last : Nat), j ≤ m.size → m.size - j = d → last ≤ 63 → Evt (fun k => spec_WayOfMessage.l0 k m s last j l) (T l s last ((m.data.toList.drop j).filter (· != 32)), true) := by
  have hsz := size_data m
  induction d with
  | zero =>
    intro j s last hj hd _
    have c1 : ¬ (j : Int) < (m.size : Int) := by omega
    rw [List.drop_eq_nil_of_le (by omega)]
    exact Evt.succ (fun k => by rw [spec_WayOfMessage.l0, if_neg c1]; rfl) (Evt.const _)
  | succ d ih =>
    intro j s last hj hd hla
    have lj : j < m.size := by omega
    have lj' : j < m.data.toList.length := by omega
    have c1 : (j : Int) < (m.size : Int) := by omega
    have c2 : (0 : Int) ≤ (j : Int) := by omega
    have b1 : j + 1 ≤ m.size := by omega
    have b2 : m.size - (j + 1) = d := by omega
    have wi : wrap64 ((j : Int) + 1) = ((j + 1 : Nat) : Int) := wrap_succ j (by omega)
    have hb := bt_get m j lj
    have haj := ha j lj
    unfold msgAt at haj
    rw [drop_cons_ _ _ lj']
    rw [hb] at haj
    generalize m.data.toList[j] = c at hb haj ⊢
    by_cases h : c = 32
    · subst h
      rw [List.filter_cons_of_neg (by simp)]
      exact Evt.succ (fun k => by rw [spec_WayOfMessage.l0, if_pos c1, if_pos c2, if_pos (by rw [hb]; rfl), wi]) (ih (j + 1) s last b1 b2 hla)
    · have h' : ¬ ((c.toNat : Int) = 32) := fun e => h ((byte32 c).1 e)
      have hok : okL l c := by
        rcases haj with q | q
        · exact absurd q h'
        · clear wi
          exact ⟨by omega, by omega⟩
      obtain ⟨i, i1, i2, i3, i4, i5, i6⟩ := nb_evt l hl c hok
      rw [List.filter_cons_of_pos (by simpa using h)]
      have c3 : (0 : Int) ≤ (i : Int) := Int.natCast_nonneg i
      have c4 : (i : Int) < (l.length : Int) := Int.ofNat_lt.2 i2
      have e1 := wrap_letter c i i1
      have u : ∀ k, spec_WayOfMessage.l0 (k + 1) m s last j l = (spec_l9Node.f k (rdOf ByteArray.empty l (i : Int))).bind fun t134 => if (last : Int) > 0 then (spec_l9Way.f k last t134).bind fun t135 => spec_WayOfMessage.l0 k m (wrap64 (s + t135)) t134 ((j + 1 : Nat) : Int) l else spec_WayOfMessage.l0 k m s t134 ((j + 1 : Nat) : Int) l := by
        intro k
        rw [spec_WayOfMessage.l0, if_pos c1, if_pos c2, hb, if_neg h', e1, if_pos c3, if_pos c4, wi]
      refine Evt.succ u (Evt.bind i4 ?_)
      show Evt _ (T l (if 0 < last then wrap64 (s + (wy last (nb l c)).2) else s) (nb l c) _, true)
      by_cases hp : 0 < last
      · rw [if_pos hp]
        have c5 : (last : Int) > 0 := Int.ofNat_lt.2 hp
        exact Evt.ite_pos c5 (Evt.bind (wy_evt last (nb l c) ⟨hp, hla⟩ ⟨i5, i6⟩).2 (ih (j + 1) _ (nb l c) b1 b2 i6))
      · rw [if_neg hp]
        have c5 : ¬ (last : Int) > 0 := fun h => hp (Int.ofNat_lt.1 h)
        exact Evt.ite_neg c5 (ih (j + 1) _ (nb l c) b1 b2 i6)
theorem implT (l : List ByteArray) (hL : l.length ≤ 10) (hl : ∀ m ∈ l, okMarks m 1 5 = true) (x : ByteArray) (hx : x.size ≤ 12) (ha : ∀ c ∈ x.data.toList, okL l c) (d : Nat) : ∀ (j : Nat) (s : Int) (p : UInt8), 1 ≤ j → j ≤ x.size → x.size - j = d → x.data.toList[j - 1]? = some p → Evt (fun k => impl_WayOfMessage.l0 k x s j l) (T l s (nb l p) (x.data.toList.drop j), true) := by
  have hsz := size_data x
  induction d with
  | zero =>
    intro j s p h1 hj hd hp
    have c1 : ¬ (j : Int) < (x.size : Int) := by omega
    rw [List.drop_eq_nil_of_le (by omega)]
    exact Evt.succ (fun k => by rw [impl_WayOfMessage.l0, if_neg c1]; rfl) (Evt.const _)
  | succ d ih =>
    intro j s p h1 hj hd hp
    have lj : j < x.size := by omega
    have lj' : j < x.data.toList.length := by omega
    have lp' : j - 1 < x.data.toList.length := by omega
    have c1 : (j : Int) < (x.size : Int) := by omega
    have c2 : (0 : Int) ≤ (j : Int) := by omega
    have c3 : (0 : Int) ≤ ((j - 1 : Nat) : Int) := by omega
    have c4 : ((j - 1 : Nat) : Int) < (x.size : Int) := by omega
    have lp : j - 1 < x.size := by omega
    have b3 : j ≤ 1048576 := by omega
    have hb := bt_get x j lj
    have hbp := bt_get x (j - 1) lp
    have hc := ha _ (List.getElem_mem lj')
    have go := fun s => ih (j + 1) s x.data.toList[j] (by omega) (by omega) (by omega) (by rw [Nat.add_sub_cancel, List.getElem?_eq_getElem lj'])
    rw [List.getElem?_eq_getElem lp'] at hp
    have hp := Option.some.inj hp
    have hpo : okL l p := by rw [← hp]; exact ha _ (List.getElem_mem lp')
    rw [hp] at hbp
    rw [drop_cons_ _ _ lj']
    generalize x.data.toList[j] = c at hb hc go ⊢
    obtain ⟨i, i1, i2, i3, _, i5, i6⟩ := nb_evt l hl c hc
    obtain ⟨q, q1, q2, q3, _, q5, q6⟩ := nb_evt l hl p hpo
    have e1 := mod_letter c i i1
    have e2 := mod_letter p q q1
    have c5 : (0 : Int) ≤ (i : Int) := Int.natCast_nonneg i
    have c6 : (i : Int) < (l.length : Int) := Int.ofNat_lt.2 i2
    have c7 : (0 : Int) ≤ (q : Int) := Int.natCast_nonneg q
    have c8 : (q : Int) < (l.length : Int) := Int.ofNat_lt.2 q2
    have wi : wrap64 ((j : Int) + 1) = ((j + 1 : Nat) : Int) := wrap_succ j (by omega)
    have wm := wrap_pred j h1 b3
    have u : ∀ k, impl_WayOfMessage.l0 (k + 1) x s j l = (impl_nodeOf.f k (rdOf ByteArray.empty l (q : Int))).bind fun t => (impl_nodeOf.f k (rdOf ByteArray.empty l (i : Int))).bind fun t' => (impl_join.f k t t').bind fun b => impl_WayOfMessage.l0 k x (wrap64 (s + b.2)) ((j + 1 : Nat) : Int) l := by
      intro k
      rw [impl_WayOfMessage.l0, if_pos c1, wm, if_pos c3, if_pos c4, hbp, hb, e1, e2, if_pos c7, if_pos c8]
      simp only [if_pos c2, if_pos c5, if_pos c6, wi]
    refine Evt.succ u (Evt.bind q3 (Evt.bind i3 (Evt.bind (wy_evt _ _ ⟨q5, q6⟩ ⟨i5, i6⟩).1 ?_)))
    have := go (wrap64 (s + (wy (nb l p) (nb l c)).2))
    show Evt _ (T l (if 0 < nb l p then wrap64 (s + (wy (nb l p) (nb l c)).2) else s) (nb l c) _, true)
    have pp : 0 < nb l p := q5
    rw [if_pos pp]
    exact this
theorem same_evt (l : List ByteArray) (hl : l.length ≤ 1048576) (m : ByteArray) (hm : m.size ≤ 1048576) : ∃ r, Evt (fun k => spec_WayOfMessage.f k l m) r ∧ Evt (fun k => impl_WayOfMessage.f k l m) r := by
  have s1 := specTable_evt l (by omega)
  have i1 := implTable_evt l (by omega)
  obtain ⟨b, s2, i2, hb⟩ := message_evt l hl m hm
  have sno : Evt (fun k => spec_WayOfMessage.j0 k m true l) (0, false) := Evt.succ (h := fun _ => some (0, false)) (fun k => by simp only [spec_WayOfMessage.j0, if_true]) (Evt.const _)
  cases ht : okTable l with
  | false =>
    rw [ht] at s1 i1
    exact ⟨(0, false), Evt.bind s1 (Evt.ite_neg (by simp) sno), Evt.bind (Evt.bind i1 (Evt.ite_neg (by simp) (Evt.const false))) (Evt.ite_neg (by simp) (Evt.const _))⟩
  | true =>
    rw [ht] at s1 i1
    have hof := of_table l ht
    cases b with
    | false => exact ⟨(0, false), Evt.bind s1 (Evt.ite_pos rfl (Evt.bind s2 sno)), Evt.bind (Evt.bind i1 (Evt.ite_pos rfl (Evt.bind i2 (Evt.const false)))) (Evt.ite_neg (by simp) (Evt.const _))⟩
    | true =>
      obtain ⟨hm', ha⟩ := hb rfl
      have hsz := size_data m
      have sp := specT l hof.2.1 hof.2.2.1 m hm' ha m.size 0 0 0 (by omega) (by omega) (by omega)
      rw [List.drop_zero] at sp
      obtain ⟨x, hx⟩ : ∃ x : ByteArray, x.data.toList = m.data.toList.filter (· != 32) := ⟨⟨(m.data.toList.filter (· != 32)).toArray⟩, rfl⟩
      have hxs : x.size ≤ 12 := by
        have h1 := size_data x
        have h2 : (m.data.toList.filter (· != 32)).length ≤ m.data.toList.length := List.length_filter_le _ _
        rw [hx] at h1
        omega
      have hra : strings_ReplaceAll.f m ⟨#[32]⟩ ⟨#[]⟩ = some x := by
        unfold strings_ReplaceAll.f
        have c1 : m.size < 4294967281 := by omega
        rw [if_pos c1, if_pos ⟨rfl, rfl⟩]
        congr 1
        obtain ⟨⟨xl⟩⟩ := x
        have hx : xl = m.data.toList.filter (· != 32) := hx
        subst hx
        rfl
      have hxa : ∀ c ∈ x.data.toList, okL l c := by
        intro c hc
        rw [hx, List.mem_filter] at hc
        obtain ⟨hc1, hc2⟩ := hc
        obtain ⟨j, hj, rfl⟩ := List.getElem_of_mem hc1
        have h := ha j (by omega)
        unfold msgAt at h
        rw [bt_get m j (by omega)] at h
        rcases h with h | h
        · exfalso
          have : m.data.toList[j] = 32 := UInt8.toNat_inj.1 (by show (m.data.toList[j]).toNat = 32; omega)
          rw [this] at hc2
          simp at hc2
        · exact ⟨by omega, by omega⟩
      rw [← hx] at sp
      refine ⟨_, Evt.bind s1 (Evt.ite_pos rfl (Evt.bind s2 (Evt.succ (fun k => by rw [spec_WayOfMessage.j0, if_neg (by simp)]; rfl) sp))), Evt.bind (Evt.bind i1 (Evt.ite_pos rfl (Evt.bind i2 (Evt.const true)))) (Evt.ite_pos rfl (Evt.bind (Evt.of_eq (fun _ => hra) (Evt.const x)) ?_))⟩
      have hxz := size_data x
      by_cases h0 : x.size = 0
      · have e0 : x.data.toList = [] := List.eq_nil_of_length_eq_zero (by omega)
        rw [e0]
        have c1 : ¬ (1 : Int) < (x.size : Int) := by omega
        exact Evt.succ (fun k => by rw [impl_WayOfMessage.l0, if_neg c1]; rfl) (Evt.const _)
      · have l0 : 0 < x.data.toList.length := by omega
        have im := implT l hof.2.1 hof.2.2.1 x hxs hxa (x.size - 1) 1 0 x.data.toList[0] (by omega) (by omega) (by omega) (by rw [Nat.sub_self, List.getElem?_eq_getElem l0])
        have e0 : x.data.toList = x.data.toList[0] :: x.data.toList.drop 1 := by
          have := drop_cons_ _ 0 l0
          rw [List.drop_zero] at this
          exact this
        have e1 : T l 0 0 x.data.toList = T l 0 (nb l x.data.toList[0]) (x.data.toList.drop 1) := by
          conv => lhs; rw [e0]
          rfl
        rw [e1]
        exact im
theorem FnExactWayOfMessage : laws_FnExactWayOfMessage.Pure := by
  intro l m hl hs wf_m
  obtain ⟨t, ht, hor⟩ := szTable_evt l 1048576 (by omega) (by omega) hl hs
  refine Evt.get (r := true) ?_
  by_cases big : (m.size : Int) > 1048576
  · exact Evt.ite_pos big (Evt.const _)
  refine Evt.ite_neg big ?_
  refine Evt.bind ht ?_
  by_cases hn : t < 0
  · exact Evt.ite_pos hn (Evt.const _)
  · refine Evt.ite_neg hn ?_
    have hl : l.length ≤ 1048576 := by omega
    obtain ⟨r, h1, h2⟩ := same_evt l hl m (by omega)
    refine Evt.bind (toTable_evt l hl) (Evt.bind h1 (Evt.bind (toTable_evt l hl) (Evt.bind h2 ?_)))
    refine Evt.ite_pos rfl ?_
    rw [show (r.2 != r.2) = false by simp]
    refine Evt.succ (h := fun k => _) (fun k => by simp only [laws_FnExactWayOfMessage.j0]; rfl) ?_
    refine Evt.ite_neg (by simp) ?_
    exact Evt.bind (toTable_evt l hl) (Evt.bind (eqTable_evt l hl) (Evt.ite_pos rfl (Evt.const _)))
end Go.Proofs.YtolbhpgphinjcaaDoor.Pure
