/- The program's SwapsToBest returns what the reference's SwapsToBest returns, for every Table and all weights. No condition. -/
import Derived.Test.YtolbhpgphinjcaaDoorPFnExactSwapsToBestx6
namespace Go.Proofs.YtolbhpgphinjcaaDoor.Pure
open Go.RowKit Go.Proofs.YtolbhpgphinjcaaDoor.PFnExactSwapsToBest Go.Proofs.YtolbhpgphinjcaaDoorW.PrintWords Go.Proofs.YtolbhpgphinjcaaDoorW.PrintLast Go.Proofs.YtolbhpgphinjcaaDoorW.PrintMore
set_option linter.unusedVariables false
set_option linter.unusedSimpArgs false

/-! ### ev -/
/-- With enough rounds, and ever after, g answers r. -/
def Evt {α : Type} (g : Nat → Option α) (r : α) : Prop := ∃ K, ∀ k, K ≤ k → g k = some r
theorem Evt.const {α : Type} (r : α) : Evt (fun _ => some r) r := ⟨0, fun _ _ => rfl⟩
theorem Evt.of_eq {α : Type} {g h : Nat → Option α} {r : α} (e : ∀ k, g k = h k) (H : Evt h r) : Evt g r := by
  obtain ⟨K, hK⟩ := H
  exact ⟨K, fun k hk => (e k).trans (hK k hk)⟩
theorem Evt.bind {α β : Type} {g : Nat → Option β} {h : Nat → β → Option α} {a : β} {r : α} (H1 : Evt g a) (H2 : Evt (fun k => h k a) r) : Evt (fun k => (g k).bind (h k)) r := by
  obtain ⟨K1, h1⟩ := H1
  obtain ⟨K2, h2⟩ := H2
  refine ⟨max K1 K2, fun k hk => ?_⟩
  show (g k).bind (h k) = some r
  rw [h1 k (by omega)]
  exact h2 k (by omega)
theorem Evt.succ {α : Type} {g h : Nat → Option α} {r : α} (e : ∀ k, g (k + 1) = h k) (H : Evt h r) : Evt g r := by
  obtain ⟨K, hK⟩ := H
  refine ⟨K + 1, fun k hk => ?_⟩
  obtain ⟨k, rfl⟩ : ∃ m, k = m + 1 := ⟨k - 1, by omega⟩
  rw [e]
  exact hK k (by omega)
theorem Evt.get {α : Type} {g : Nat → Option α} {r : α} (H : Evt g r) : ∃ k, g k = some r := by
  obtain ⟨K, hK⟩ := H
  exact ⟨K, hK K (Nat.le_refl _)⟩
theorem Evt.get2 {α β : Type} {g : Nat → Option α} {h : Nat → Option β} {r : α} {s : β} (H : Evt g r) (H' : Evt h s) : ∃ k, g k = some r ∧ h k = some s := by
  obtain ⟨K, hK⟩ := H
  obtain ⟨K', hK'⟩ := H'
  exact ⟨max K K', hK _ (by omega), hK' _ (by omega)⟩
theorem Evt.ite_pos {α : Type} {c : Prop} [Decidable c] {g h : Nat → Option α} {r : α} (hc : c) (H : Evt g r) : Evt (fun k => if c then g k else h k) r :=
  H.of_eq (fun k => by rw [if_pos hc])
theorem Evt.ite_neg {α : Type} {c : Prop} [Decidable c] {g h : Nat → Option α} {r : α} (hc : ¬ c) (H : Evt h r) : Evt (fun k => if c then g k else h k) r :=
  H.of_eq (fun k => by rw [if_neg hc])
theorem Evt.pred {α : Type} {g h : Nat → Option α} {r : α} (e : ∀ k, g (k + 1) = h k) (H : Evt g r) : Evt h r := by
  obtain ⟨K, hK⟩ := H
  exact ⟨K, fun k hk => (e k).symm.trans (hK (k + 1) (by omega))⟩

/-! ### lists -/
theorem rdOf_get {α : Type} (d : α) (l : List α) (i : Nat) (h : i < l.length) : rdOf d l (i : Int) = l[i] := by
  unfold rdOf
  rw [Int.toNat_natCast, List.getD_eq_getElem?_getD, List.getElem?_eq_getElem h]
  rfl
theorem rd_get (l : List Int) (i : Nat) (h : i < l.length) : rd l (i : Int) = l[i] := by
  unfold rd
  rw [Int.toNat_natCast, List.getD_eq_getElem?_getD, List.getElem?_eq_getElem h]
  rfl
theorem drop_get {α : Type} (l : List α) (i : Nat) (h : i < l.length) : l.drop i = l[i] :: l.drop (i + 1) := by simp
theorem wrap_succ (i : Nat) (h : i < 9223372036854775807) : wrap64 ((i : Int) + 1) = ((i + 1 : Nat) : Int) := by unfold wrap64; omega

/-! ### in -/
theorem in_eq (a b c : Int) : impl_in.f a b c = some (decide (b ≤ a ∧ a ≤ c)) := by
  unfold impl_in.f
  by_cases h : a ≥ b
  · rw [if_pos h]
    simp [show b ≤ a from h]
  · rw [if_neg h]
    simp [show ¬ b ≤ a from h]
theorem l1In_eq (a b c : Int) : spec_l1In.f a b c = some (decide (b ≤ a ∧ a ≤ c)) := by
  unfold spec_l1In.f
  by_cases h : a ≥ b
  · rw [if_pos h]
    simp [show b ≤ a from h]
  · rw [if_neg h]
    simp [show ¬ b ≤ a from h]

/-! ### marks -/
/-- A byte that is a mark. -/
def okc (c : UInt8) : Bool := c == 46 || c == 45
def okMarks (s : ByteArray) (lo hi : Int) : Bool := decide (lo ≤ s.size ∧ (s.size : Int) ≤ hi) && s.data.toList.all okc
theorem size_data (s : ByteArray) : s.data.toList.length = s.size := by rw [Array.length_toList]; rfl
theorem bt_get (s : ByteArray) (i : Nat) (h : i < s.size) : bt s (i : Int) = ((s.data.toList[i]'(by rw [size_data]; exact h)).toNat : Int) := by
  unfold bt
  rw [dif_pos (by simpa using h)]
  simp only [Int.toNat_natCast, Array.getElem_toList]
  rfl
theorem trim_empty (l : List UInt8) : ((Lib.trimS l [46, 45]) = []) ↔ l.all okc = true := by
  have e : ∀ c : UInt8, ([46, 45] : List UInt8).contains c = okc c := fun c => by
    simp [okc, List.contains_cons]
    rfl
  have dw : ∀ l : List UInt8, (l.dropWhile (([46, 45] : List UInt8).contains ·) = []) ↔ l.all okc = true := by
    intro l
    induction l with
    | nil => simp
    | cons c t ih =>
      rw [List.dropWhile_cons, e]
      cases h : okc c with
      | true =>
        simp only [if_true, List.all_cons, h, Bool.true_and]
        exact ih
      | false => simp [h]
  unfold Lib.trimS Lib.trimLeftS Lib.trimRightS
  rw [dw]
  have dwa : ∀ l : List UInt8, (l.dropWhile (([46, 45] : List UInt8).contains ·)).all okc = l.all okc := by
    intro l
    induction l with
    | nil => rfl
    | cons c t ih =>
      rw [List.dropWhile_cons, e]
      cases h : okc c with
      | true =>
        simp only [if_true, List.all_cons, h, Bool.true_and]
        exact ih
      | false => simp
  rw [List.all_reverse, dwa, List.all_reverse]
theorem implAreMarks_eq (s : ByteArray) (lo hi : Int) (hh : hi ≤ 9223372036854775807) : impl_areMarks.f s lo hi = some (okMarks s lo hi) := by
  unfold impl_areMarks.f okMarks
  rw [in_eq]
  simp only [Option.bind_some, decide_eq_true_eq]
  by_cases h : lo ≤ (s.size : Int) ∧ (s.size : Int) ≤ hi
  · rw [if_pos h]
    unfold strings_Trim.f
    rw [if_pos (by omega), if_pos rfl]
    simp only [Option.bind_some, h, and_self, decide_true, Bool.true_and]
    congr 1
    rw [Lib.toList_data]
    have := trim_empty s.data.toList
    cases hb : s.data.toList.all okc with
    | true => simp [this.2 hb]
    | false =>
      have : ¬ Lib.trimS s.data.toList [46, 45] = [] := fun h => by rw [this.1 h] at hb; cases hb
      simpa using this
  · rw [if_neg h]
    simp [h]
theorem drop_cons_ (l : List UInt8) (i : Nat) (h : i < l.length) : l.drop i = l[i] :: l.drop (i + 1) := by simp
/-- The reference's loop from place i on: the marks up to 'hi', then the length. -/
theorem specMarks_l0 (s : ByteArray) (lo hi : Int) (h0 : 0 ≤ hi) (hh : hi ≤ 1000000) (d : Nat) : ∀ (k i : Nat), i ≤ s.size → (i : Int) ≤ hi + 1 → (hi + 1 - i).toNat = d → 2 * d + 3 ≤ k →
    spec_l2Marks.l0 k s lo hi i = some (((s.data.toList.drop i).take d).all okc && decide (lo ≤ s.size ∧ (s.size : Int) ≤ hi)) := by
  induction d with
  | zero =>
    intro k i hi1 hi2 hd hk
    obtain ⟨k, rfl⟩ : ∃ m, k = m + 2 := ⟨k - 2, by omega⟩
    have e : (i : Int) = hi + 1 := by omega
    simp only [spec_l2Marks.l0]
    have hj : spec_l2Marks.j1 (k + 1) s lo hi i false = some (decide (lo ≤ s.size ∧ (s.size : Int) ≤ hi)) := by
      simp only [spec_l2Marks.j1]
      rw [if_neg (by simp), l1In_eq]
      rfl
    by_cases hlt : (i : Int) < (s.size : Int)
    · rw [if_pos hlt, show decide ((i : Int) ≤ hi) = false from decide_eq_false (by omega), hj]
      simp
    · rw [if_neg hlt, hj]
      simp
  | succ d ih =>
    intro k i hi1 hi2 hd hk
    obtain ⟨k, rfl⟩ : ∃ m, k = m + 2 := ⟨k - 2, by omega⟩
    simp only [spec_l2Marks.l0]
    by_cases hlt : (i : Int) < (s.size : Int)
    · rw [if_pos hlt, show decide ((i : Int) ≤ hi) = true from decide_eq_true (by omega)]
      simp only [spec_l2Marks.j1]
      rw [if_pos trivial, if_pos (by omega), if_pos hlt]
      have hl : i < s.data.toList.length := by rw [size_data]; omega
      rw [drop_cons_ _ _ hl, List.take_succ_cons, List.all_cons, bt_get s i (by omega)]
      have hw : wrap64 ((i : Int) + 1) = ((i + 1 : Nat) : Int) := by unfold wrap64; omega
      rw [hw]
      generalize s.data.toList[i] = c
      have hc : ∀ n : Nat, n < 256 → (((c.toNat : Int) = (n : Int)) ↔ c = UInt8.ofNat n) := by
        intro n hn
        constructor
        · intro h
          apply UInt8.toNat_inj.1
          simp
          omega
        · rintro rfl
          simp
          omega
      have c46 : ((c.toNat : Int) = 46) ↔ c = 46 := hc 46 (by omega)
      have c45 : ((c.toNat : Int) = 45) ↔ c = 45 := hc 45 (by omega)
      by_cases h46 : c = 46
      · subst h46
        rw [if_pos (by rfl), ih _ _ (by omega) (by omega) (by omega) (by omega)]
        rfl
      · rw [if_neg (fun h => h46 (c46.1 h))]
        by_cases h45 : c = 45
        · subst h45
          rw [if_pos (by rfl), ih _ _ (by omega) (by omega) (by omega) (by omega)]
          rfl
        · rw [if_neg (fun h => h45 (c45.1 h))]
          simp [okc, h46, h45]
    · rw [if_neg hlt]
      have hj : spec_l2Marks.j1 (k + 1) s lo hi i false = some (decide (lo ≤ s.size ∧ (s.size : Int) ≤ hi)) := by
        simp only [spec_l2Marks.j1]
        rw [if_neg (by simp), l1In_eq]
        rfl
      rw [hj, List.drop_eq_nil_of_le (by rw [size_data]; omega)]
      simp
theorem specMarks_eq (s : ByteArray) (lo hi : Int) (h0 : 0 ≤ hi) (hh : hi ≤ 1000000) (k : Nat) (hk : 2 * hi + 5 ≤ k) : spec_l2Marks.f k s lo hi = some (okMarks s lo hi) := by
  unfold spec_l2Marks.f
  have h := specMarks_l0 s lo hi h0 hh (hi + 1 - ((0 : Nat) : Int)).toNat k 0 (by omega) (by omega) rfl (by omega)
  rw [show ((0 : Nat) : Int) = 0 from rfl] at h
  rw [h]
  unfold okMarks
  congr 1
  rw [List.drop_zero, Bool.and_comm]
  by_cases hl : lo ≤ (s.size : Int) ∧ (s.size : Int) ≤ hi
  · rw [List.take_of_length_le (by rw [size_data]; omega)]
  · simp [hl]

/-! ### tolist -/
theorem toList_inj (a b : ByteArray) : a.toList = b.toList ↔ a = b := by
  rw [Lib.toList_data, Lib.toList_data]
  constructor
  · intro h
    obtain ⟨⟨l⟩⟩ := a
    obtain ⟨⟨m⟩⟩ := b
    simp only at h
    rw [h]
  · rintro rfl
    rfl

/-! ### table -/
open Classical
/-- The first place of a text in a list, from place i on; -1 for none. -/
def plc : List ByteArray → ByteArray → Nat → Int
  | [], _, _ => -1
  | x :: l, s, i => if x = s then (i : Int) else plc l s (i + 1)
theorem plc_ge (l : List ByteArray) (s : ByteArray) : ∀ i, plc l s i = -1 ∨ (i : Int) ≤ plc l s i := by
  induction l with
  | nil => exact fun i => .inl rfl
  | cons x l ih =>
    intro i
    unfold plc
    by_cases h : x = s
    · rw [if_pos h]
      exact .inr (Int.le_refl _)
    · rw [if_neg h]
      rcases ih (i + 1) with h | h
      · exact .inl h
      · right
        omega
theorem plc_none (l : List ByteArray) (s : ByteArray) : ∀ i, plc l s i = -1 ↔ s ∉ l := by
  induction l with
  | nil => intro i; simp [plc]
  | cons x l ih =>
    intro i
    unfold plc
    by_cases h : x = s
    · subst h
      rw [if_pos rfl]
      simp
    · rw [if_neg h, ih, List.mem_cons]
      constructor
      · intro hn he
        rcases he with e | e
        · exact h e.symm
        · exact hn e
      · intro hn he
        exact hn (.inr he)
theorem plc_lt (l : List ByteArray) (s : ByteArray) : ∀ i, plc l s i < ((i + l.length : Nat) : Int) := by
  induction l with
  | nil => intro i; simp [plc]; omega
  | cons x l ih =>
    intro i
    unfold plc
    by_cases h : x = s
    · rw [if_pos h]
      simp
      omega
    · rw [if_neg h]
      have := ih (i + 1)
      simp at this ⊢
      omega
theorem specPlace_l0 (l : List ByteArray) (s : ByteArray) (hl : l.length < 9223372036854775807) (d : Nat) : ∀ i, i ≤ l.length → l.length - i = d → Evt (fun k => spec_l2Place.l0 k l s i) (plc (l.drop i) s i) := by
  induction d with
  | zero =>
    intro i hi hd
    refine Evt.succ (h := fun _ => some (-1)) (fun k => ?_) ?_
    · simp only [spec_l2Place.l0]
      rw [if_neg (by omega)]
    · rw [List.drop_eq_nil_of_le (by omega)]
      exact Evt.const _
  | succ d ih =>
    intro i hi hd
    have hlt : i < l.length := by omega
    rw [drop_get l i hlt]
    unfold plc
    by_cases h : l[i] = s
    · rw [if_pos h]
      refine Evt.succ (h := fun _ => some (i : Int)) (fun k => ?_) (Evt.const _)
      simp only [spec_l2Place.l0]
      rw [if_pos (by omega), if_pos (by omega), rdOf_get _ _ _ hlt, if_pos ((toList_inj _ _).2 h)]
    · rw [if_neg h]
      refine Evt.succ (fun k => ?_) (ih (i + 1) (by omega) (by omega))
      simp only [spec_l2Place.l0]
      rw [if_pos (by omega), if_pos (by omega), rdOf_get _ _ _ hlt, if_neg (fun e => h ((toList_inj _ _).1 e)), wrap_succ i (by omega)]
theorem specPlace_evt (l : List ByteArray) (s : ByteArray) (hl : l.length < 9223372036854775807) : Evt (fun k => spec_l2Place.f k l s) (plc l s 0) :=
  (specPlace_l0 l s hl l.length 0 (by omega) (by omega)).of_eq (fun k => rfl)
theorem implIndex_l0 (l : List ByteArray) (s : ByteArray) (hl : l.length < 9223372036854775807) (d : Nat) : ∀ i, i ≤ l.length → l.length - i = d → Evt (fun k => slices_Index_string_string.l0 k l s (l.length : Int) i) (plc (l.drop i) s i) := by
  induction d with
  | zero =>
    intro i hi hd
    refine Evt.succ (h := fun _ => some (-1)) (fun k => ?_) ?_
    · simp only [slices_Index_string_string.l0]
      rw [if_neg (by omega)]
    · rw [List.drop_eq_nil_of_le (by omega)]
      exact Evt.const _
  | succ d ih =>
    intro i hi hd
    have hlt : i < l.length := by omega
    rw [drop_get l i hlt]
    unfold plc
    by_cases h : l[i] = s
    · rw [if_pos h]
      refine Evt.succ (h := fun _ => some (i : Int)) (fun k => ?_) (Evt.const _)
      simp only [slices_Index_string_string.l0]
      rw [if_pos (by omega), if_pos (by omega), if_pos (by omega), rdOf_get _ _ _ hlt, if_pos ((toList_inj _ _).2 h.symm)]
    · rw [if_neg h]
      refine Evt.succ (fun k => ?_) (ih (i + 1) (by omega) (by omega))
      simp only [slices_Index_string_string.l0]
      rw [if_pos (by omega), if_pos (by omega), if_pos (by omega), rdOf_get _ _ _ hlt, if_neg (fun e => h ((toList_inj _ _).1 e).symm), wrap_succ i (by omega)]
theorem implIndex_evt (l : List ByteArray) (s : ByteArray) (hl : l.length < 9223372036854775807) : Evt (fun k => slices_Index_string_string.f k l s) (plc l s 0) :=
  (implIndex_l0 l s hl l.length 0 (by omega) (by omega)).of_eq (fun k => rfl)
theorem implContains_evt (l : List ByteArray) (s : ByteArray) (hl : l.length < 9223372036854775807) : Evt (fun k => slices_Contains_string_string.f k l s) (decide (s ∈ l)) := by
  have h : decide (plc l s 0 ≥ 0) = decide (s ∈ l) := by
    rw [decide_eq_decide]
    have h1 := plc_none l s 0
    have h2 := plc_ge l s 0
    constructor
    · intro h
      by_cases hm : s ∈ l
      · exact hm
      · rw [h1.2 hm] at h
        omega
    · intro hm
      rcases h2 with h | h
      · exact absurd hm (h1.1 h)
      · omega
  rw [← h]
  exact Evt.bind (implIndex_evt l s hl) (Evt.const _)
/-- Is a list of marks a table? -/
noncomputable def okTable (l : List ByteArray) : Bool := decide (1 ≤ l.length ∧ l.length ≤ 10 ∧ (∀ m ∈ l, okMarks m 1 5 = true) ∧ l.Nodup)
theorem plc_first (l m : List ByteArray) (s : ByteArray) : ∀ i, plc (l ++ s :: m) s i = ((i + l.length : Nat) : Int) ↔ s ∉ l := by
  induction l with
  | nil =>
    intro i
    simp [plc]
  | cons x l ih =>
    intro i
    rw [List.cons_append]
    unfold plc
    by_cases h : x = s
    · rw [if_pos h]
      simp [h]
      omega
    · rw [if_neg h, show i + (x :: l).length = (i + 1) + l.length by simp; omega, ih, List.mem_cons]
      constructor
      · intro hn he
        rcases he with e | e
        · exact h e.symm
        · exact hn e
      · intro hn he
        exact hn (.inr he)
/-- The rest of a table is good, what stands ahead of it known. -/
noncomputable def okRest (l : List ByteArray) (i : Nat) : Bool := decide (∀ j (h : j < l.length), i ≤ j → okMarks l[j] 1 5 = true ∧ l[j] ∉ l.take j)
theorem okRest_end (l : List ByteArray) (i : Nat) (h : l.length ≤ i) : okRest l i = true := by
  unfold okRest
  rw [decide_eq_true_eq]
  intro j hj hij
  omega
theorem okRest_step (l : List ByteArray) (i : Nat) (h : i < l.length) : okRest l i = (okMarks l[i] 1 5 && (!decide (l[i] ∈ l.take i)) && okRest l (i + 1)) := by
  unfold okRest
  rw [Bool.eq_iff_iff]
  simp only [Bool.and_eq_true, decide_eq_true_eq, Bool.not_eq_true', decide_eq_false_iff_not]
  constructor
  · intro H
    exact ⟨H i h (Nat.le_refl _), fun j hj hij => H j hj (by omega)⟩
  · intro H j hj hij
    by_cases e : j = i
    · subst e
      exact H.1
    · exact H.2 j hj (by omega)
theorem okTable_eq (l : List ByteArray) : okTable l = (decide (1 ≤ l.length ∧ l.length ≤ 10) && okRest l 0) := by
  unfold okTable okRest
  rw [Bool.eq_iff_iff]
  simp only [Bool.and_eq_true, decide_eq_true_eq]
  constructor
  · rintro ⟨h1, h2, h3, h4⟩
    refine ⟨⟨h1, h2⟩, fun j hj _ => ⟨h3 _ (List.getElem_mem hj), fun hm => ?_⟩⟩
    obtain ⟨q, hq, he⟩ := List.getElem_of_mem hm
    rw [List.length_take] at hq
    rw [List.getElem_take] at he
    exact absurd ((List.getElem_inj h4).1 he) (by omega)
  · rintro ⟨⟨h1, h2⟩, h3⟩
    refine ⟨h1, h2, fun m hm => ?_, ?_⟩
    · obtain ⟨j, hj, rfl⟩ := List.getElem_of_mem hm
      exact (h3 j hj (Nat.zero_le _)).1
    · rw [List.nodup_iff_pairwise_ne, List.pairwise_iff_getElem]
      intro i j hi hj hij he
      refine (h3 j hj (Nat.zero_le _)).2 ?_
      rw [← he]
      exact List.mem_of_getElem? (i := i) (by rw [List.getElem?_take, if_pos hij, List.getElem?_eq_getElem hi])
theorem implTable_l0 (l : List ByteArray) (hl : l.length < 9223372036854775807) (d : Nat) : ∀ i, i ≤ l.length → l.length - i = d → Evt (fun k => impl_isTable.l0 k l (l.length : Int) i l) (decide (1 ≤ l.length ∧ l.length ≤ 10) && okRest l i) := by
  induction d with
  | zero =>
    intro i hi hd
    refine Evt.succ (h := fun _ => some (decide (1 ≤ (l.length : Int) ∧ (l.length : Int) ≤ 10))) (fun k => ?_) ?_
    · simp only [impl_isTable.l0]
      rw [if_neg (by omega), in_eq]
      rfl
    · rw [okRest_end l i (by omega), Bool.and_true, show decide (1 ≤ (l.length : Int) ∧ (l.length : Int) ≤ 10) = decide (1 ≤ l.length ∧ l.length ≤ 10) by rw [decide_eq_decide]; omega]
      exact Evt.const _
  | succ d ih =>
    intro i hi hd
    have hlt : i < l.length := by omega
    rw [okRest_step l i hlt]
    have hc := implContains_evt (l.take i) l[i] (by rw [List.length_take]; omega)
    refine Evt.succ (h := fun k => if okMarks l[i] 1 5 = true then ((slices_Contains_string_string.f k (l.take i) l[i]).bind fun t => if t = true then some false else impl_isTable.l0 k l (l.length : Int) ((i + 1 : Nat) : Int) l) else some false) (fun k => ?_) ?_
    · simp only [impl_isTable.l0]
      rw [if_pos (by omega), if_pos (by omega), if_pos (by omega), rdOf_get _ _ _ hlt, wrap_succ i (by omega), if_pos (by omega)]
      unfold impl_isLetterMarks.f
      rw [implAreMarks_eq _ 1 5 (by omega)]
      rfl
    · by_cases hm : okMarks l[i] 1 5 = true
      · refine Evt.ite_pos hm (Evt.bind hc ?_)
        by_cases hin : l[i] ∈ l.take i
        · refine Evt.ite_pos (by simpa using hin) ?_
          simp [hin]
          exact Evt.const _
        · refine Evt.ite_neg (by simpa using hin) ?_
          simp only [hm, hin, decide_false, Bool.not_false, Bool.true_and, Bool.and_self]
          exact ih (i + 1) (by omega) (by omega)
      · refine Evt.ite_neg hm ?_
        simp [hm]
        exact Evt.const _
theorem implTable_evt (l : List ByteArray) (hl : l.length < 9223372036854775807) : Evt (fun k => impl_isTable.f k l) (okTable l) := by
  rw [okTable_eq]
  exact (implTable_l0 l hl l.length 0 (by omega) (by omega)).of_eq (fun k => rfl)
theorem specTable_l0 (l : List ByteArray) (hl : l.length < 9223372036854775807) (d : Nat) : ∀ i, i ≤ l.length → l.length - i = d → Evt (fun k => spec_l2Table.l0 k i l) (okRest l i) := by
  induction d with
  | zero =>
    intro i hi hd
    refine Evt.succ (h := fun _ => some true) (fun k => ?_) ?_
    · simp only [spec_l2Table.l0]
      rw [if_neg (by omega)]
    · rw [okRest_end l i (by omega)]
      exact Evt.const _
  | succ d ih =>
    intro i hi hd
    have hlt : i < l.length := by omega
    rw [okRest_step l i hlt]
    have hp := specPlace_evt l l[i] hl
    have hf : plc l l[i] 0 = (i : Int) ↔ l[i] ∉ l.take i := by
      have h := plc_first (l.take i) (l.drop (i + 1)) l[i] 0
      rw [← drop_get l i hlt, List.take_append_drop, List.length_take, Nat.min_eq_left (by omega), Nat.zero_add] at h
      exact h
    have hmk : Evt (fun k => spec_l2Marks.f k l[i] 1 5) (okMarks l[i] 1 5) := ⟨20, fun k hk => specMarks_eq _ 1 5 (by omega) (by omega) k (by omega)⟩
    refine Evt.succ (h := fun k => (spec_l2Marks.f k l[i] 1 5).bind fun t => if t = true then ((spec_l2Place.f k l l[i]).bind fun t => if t = (i : Int) then spec_l2Table.l0 k ((i + 1 : Nat) : Int) l else some false) else some false) (fun k => ?_) ?_
    · simp only [spec_l2Table.l0]
      rw [if_pos (by omega), if_pos (by omega), rdOf_get _ _ _ hlt, wrap_succ i (by omega)]
    · refine Evt.bind hmk ?_
      by_cases hm : okMarks l[i] 1 5 = true
      · refine Evt.ite_pos hm (Evt.bind hp ?_)
        by_cases hin : l[i] ∈ l.take i
        · refine Evt.ite_neg (fun e => (hf.1 e) hin) ?_
          simp [hin]
          exact Evt.const _
        · refine Evt.ite_pos (hf.2 hin) ?_
          simp only [hm, hin, decide_false, Bool.not_false, Bool.true_and, Bool.and_self]
          exact ih (i + 1) (by omega) (by omega)
      · refine Evt.ite_neg hm ?_
        simp [hm]
        exact Evt.const _
theorem specTable_evt (l : List ByteArray) (hl : l.length < 9223372036854775807) : Evt (fun k => spec_l2Table.f k l) (okTable l) := by
  rw [okTable_eq]
  refine Evt.of_eq (h := fun k => if decide (1 ≤ (l.length : Int) ∧ (l.length : Int) ≤ 10) = true then spec_l2Table.l0 k ((0 : Nat) : Int) l else some false) (fun k => ?_) ?_
  · unfold spec_l2Table.f
    rw [l1In_eq]
    rfl
  · by_cases h : 1 ≤ l.length ∧ l.length ≤ 10
    · refine Evt.ite_pos (by simp; omega) ?_
      simp only [h, and_self, decide_true, Bool.true_and]
      exact specTable_l0 l hl l.length 0 (by omega) (by omega)
    · refine Evt.ite_neg (by simp; omega) ?_
      simp [h]
      exact Evt.const _

/-! ### lawtable -/
/-- The law's own looks at a table: its weight, a copy, and whether it is as it was. -/
theorem szStringS_l0 (l : List ByteArray) (hl : l.length ≤ 1048576) (hs : ∀ m ∈ l, m.size ≤ 9223372036854775807) (d : Nat) : ∀ (i : Nat) (a : Int), i ≤ l.length → l.length - i = d → 0 ≤ a → a ≤ 1048576 → ∃ t, Evt (fun k => laws_szStringS.l0 k l a i) t := by
  induction d with
  | zero =>
    intro i a hi hd h0 h1
    refine ⟨a, Evt.succ (h := fun _ => some a) (fun k => ?_) (Evt.const _)⟩
    simp only [laws_szStringS.l0]
    rw [if_neg (by omega)]
  | succ d ih =>
    intro i a hi hd h0 h1
    have hlt : i < l.length := by omega
    have hsz := hs l[i] (List.getElem_mem hlt)
    have hw : wrap64 (a - (l[i].size : Int)) = a - (l[i].size : Int) := by unfold wrap64; omega
    by_cases h : a - (l[i].size : Int) < 0
    · refine ⟨-1, Evt.succ (h := fun _ => some (-1)) (fun k => ?_) (Evt.const _)⟩
      simp only [laws_szStringS.l0]
      rw [if_pos (by omega), if_pos (by omega), rdOf_get _ _ _ hlt, hw, if_pos h]
    · obtain ⟨t, ht⟩ := ih (i + 1) (a - (l[i].size : Int)) (by omega) (by omega) (by omega) (by omega)
      refine ⟨t, Evt.succ (fun k => ?_) ht⟩
      simp only [laws_szStringS.l0]
      rw [if_pos (by omega), if_pos (by omega), rdOf_get _ _ _ hlt, hw, if_neg h, wrap_succ i (by omega)]
theorem szStringS_evt (l : List ByteArray) (b : Int) (hb : 0 ≤ b) (hb2 : b ≤ 1048576) (h : l.length ≤ 9223372036854775807) (hs : ∀ m ∈ l, m.size ≤ 9223372036854775807) : ∃ t, Evt (fun k => laws_szStringS.f k l b) t ∧ (t < 0 ∨ l.length ≤ 1048576) := by
  have hw : wrap64 (b - (l.length : Int)) = b - (l.length : Int) := by unfold wrap64; omega
  by_cases hn : b - (l.length : Int) < 0
  · refine ⟨-1, (Evt.const (-1)).of_eq (fun k => ?_), .inl (by omega)⟩
    unfold laws_szStringS.f
    rw [hw, if_pos hn]
  · obtain ⟨t, ht⟩ := szStringS_l0 l (by omega) hs l.length 0 (b - (l.length : Int)) (by omega) (by omega) (by omega) (by omega)
    refine ⟨t, ht.of_eq (fun k => ?_), .inr (by omega)⟩
    unfold laws_szStringS.f
    rw [hw, if_neg hn]
    rfl
theorem szTable_evt (l : List ByteArray) (b : Int) (hb : 0 ≤ b) (hb2 : b ≤ 1048576) (h : l.length ≤ 9223372036854775807) (hs : ∀ m ∈ l, m.size ≤ 9223372036854775807) : ∃ t, Evt (fun k => laws_szTable.f k l b) t ∧ (t < 0 ∨ l.length ≤ 1048576) := by
  obtain ⟨t, ht, h⟩ := szStringS_evt l b hb hb2 h hs
  by_cases hn : t < 0
  · exact ⟨-1, Evt.bind ht (Evt.ite_pos hn (Evt.const _)), .inl (by omega)⟩
  · exact ⟨t, Evt.bind ht (Evt.ite_neg hn (Evt.const _)), h⟩
theorem toStringS_l0 (l : List ByteArray) (hl : l.length ≤ 1048576) (d : Nat) : ∀ (i : Nat) (x : List ByteArray), i ≤ l.length → l.length - i = d → x.length = l.length → x.take i = l.take i → Evt (fun k => laws_toStringS.l0 k l x i) l := by
  induction d with
  | zero =>
    intro i x hi hd hx ht
    have e : x = l := by
      have h1 : i = l.length := by omega
      rw [h1, List.take_length, ← hx, List.take_length] at ht
      exact ht
    subst e
    refine Evt.succ (h := fun _ => some x) (fun k => ?_) (Evt.const _)
    simp only [laws_toStringS.l0]
    rw [if_neg (by omega)]
  | succ d ih =>
    intro i x hi hd hx ht
    have hlt : i < l.length := by omega
    refine Evt.succ (fun k => ?_) (ih (i + 1) (x.set i l[i]) (by omega) (by omega) (by rw [List.length_set]; exact hx) ?_)
    · simp only [laws_toStringS.l0]
      rw [if_pos (by omega), if_pos (by omega), if_pos (by omega), rdOf_get _ _ _ hlt, wrap_succ i (by omega), Int.toNat_natCast]
    · rw [List.take_succ_eq_append_getElem (by rw [List.length_set]; omega), List.take_succ_eq_append_getElem hlt, List.take_set_of_le (by omega), ht, List.getElem_set_self]
theorem toStringS_evt (l : List ByteArray) (hl : l.length ≤ 1048576) : Evt (fun k => laws_toStringS.f k l) l := by
  refine (toStringS_l0 l hl l.length 0 (List.replicate l.length (⟨#[]⟩ : ByteArray)) (by omega) (by omega) (by simp) rfl).of_eq (fun k => ?_)
  unfold laws_toStringS.f
  rw [if_pos (by omega), Int.toNat_natCast, if_pos (by omega)]
  rfl
theorem toTable_evt (l : List ByteArray) (hl : l.length ≤ 1048576) : Evt (fun k => laws_toTable.f k l) l :=
  Evt.bind (toStringS_evt l hl) (Evt.const _)
theorem eqStringS_l0 (l : List ByteArray) (hl : l.length ≤ 1048576) (d : Nat) : ∀ (i : Nat), i ≤ l.length → l.length - i = d → Evt (fun k => laws_eqStringS.l0 k l l i) true := by
  induction d with
  | zero =>
    intro i hi hd
    refine Evt.succ (h := fun _ => some true) (fun k => ?_) (Evt.const _)
    simp only [laws_eqStringS.l0]
    rw [if_neg (by omega)]
  | succ d ih =>
    intro i hi hd
    refine Evt.succ (fun k => ?_) (ih (i + 1) (by omega) (by omega))
    simp only [laws_eqStringS.l0]
    rw [if_pos (by omega), if_pos (by omega), if_pos (by omega), if_pos trivial, wrap_succ i (by omega)]
theorem eqStringS_evt (l : List ByteArray) (hl : l.length ≤ 1048576) : Evt (fun k => laws_eqStringS.f k l l) true := by
  refine (eqStringS_l0 l hl l.length 0 (by omega) (by omega)).of_eq (fun k => ?_)
  unfold laws_eqStringS.f
  rw [if_pos rfl]
  rfl
theorem eqTable_evt (l : List ByteArray) (hl : l.length ≤ 1048576) : Evt (fun k => laws_eqTable.f k l l) true :=
  Evt.bind (eqStringS_evt l hl) (Evt.ite_pos rfl (Evt.const _))
theorem of_table (l : List ByteArray) (h : okTable l = true) : 1 ≤ l.length ∧ l.length ≤ 10 ∧ (∀ m ∈ l, okMarks m 1 5 = true) ∧ l.Nodup := by
  unfold okTable at h
  rw [decide_eq_true_eq] at h
  exact h
theorem len_wrap (l : List ByteArray) (h : l.length ≤ 1048576) : wrap64 ((l.length : Int) - 1) = (l.length : Int) - 1 := by
  unfold wrap64
  omega
theorem isLetter_len (l : List ByteArray) (h : okTable l = true) : wrap64 ((l.length : Int) - 1) = (l.length : Int) - 1 := by
  have := of_table l h
  unfold wrap64
  omega

/-! ### marksIntS -/
/-- The law's own looks at a row of whole numbers. -/
theorem rd_nat (l : List Int) (i : Nat) (h : i < l.length) : rd l (i : Int) = l[i] := by
  unfold rd
  rw [Int.toNat_natCast, List.getD_eq_getElem?_getD, List.getElem?_eq_getElem h]
  rfl
theorem eqIntS_l0 (l : List Int) (hl : l.length ≤ 1099511627776) (d : Nat) : ∀ (i : Nat), i ≤ l.length → l.length - i = d → Evt (fun k => laws_eqIntS.l0 k l l i) true := by
  induction d with
  | zero =>
    intro i hi hd
    refine Evt.succ (h := fun _ => some true) (fun k => ?_) (Evt.const _)
    simp only [laws_eqIntS.l0]
    rw [if_neg (by omega)]
  | succ d ih =>
    intro i hi hd
    refine Evt.succ (fun k => ?_) (ih (i + 1) (by omega) (by omega))
    simp only [laws_eqIntS.l0]
    rw [if_pos (by omega), if_pos (by omega), if_pos (by omega), if_pos trivial, wrap_succ i (by omega)]
theorem eqIntS_evt (l : List Int) (hl : l.length ≤ 1099511627776) : Evt (fun k => laws_eqIntS.f k l l) true := by
  refine (eqIntS_l0 l hl l.length 0 (by omega) (by omega)).of_eq (fun k => ?_)
  unfold laws_eqIntS.f
  rw [if_pos rfl]
  rfl
def markInts (n : Nat) : List Int := (List.range n).map fun i => ((1 + i : Nat) : Int)
theorem markInts_len (n : Nat) : (markInts n).length = n := by unfold markInts; rw [List.length_map, List.length_range]
theorem markInts_get (n i : Nat) (h : i < (markInts n).length) : (markInts n)[i] = ((1 + i : Nat) : Int) := by
  simp only [markInts, List.getElem_map, List.getElem_range]

/-! ### toints -/
/-- The law's copy of a row of whole numbers. -/
theorem toIntS_l0 (l : List Int) (hl : l.length ≤ 1048576) (d : Nat) : ∀ (i : Nat) (x : List Int), i ≤ l.length → l.length - i = d → x.length = l.length → x.take i = l.take i → Evt (fun k => laws_toIntS.l0 k l x i) l := by
  induction d with
  | zero =>
    intro i x hi hd hx ht
    have e : x = l := by
      have h1 : i = l.length := by omega
      rw [h1, List.take_length, ← hx, List.take_length] at ht
      exact ht
    subst e
    refine Evt.succ (h := fun _ => some x) (fun k => ?_) (Evt.const _)
    rw [laws_toIntS.l0, if_neg (by omega)]
  | succ d ih =>
    intro i x hi hd hx ht
    have hlt : i < l.length := by omega
    refine Evt.succ (fun k => ?_) (ih (i + 1) (x.set i l[i]) (by omega) (by omega) (by rw [List.length_set]; exact hx) ?_)
    · rw [laws_toIntS.l0, if_pos (by omega), if_pos (by omega), if_pos (by omega), rd_nat _ _ hlt, wrap_succ i (by omega), Int.toNat_natCast]
    · rw [List.take_succ_eq_append_getElem (by rw [List.length_set]; omega), List.take_succ_eq_append_getElem hlt, List.take_set_of_le (by omega), ht, List.getElem_set_self]
theorem toIntS_evt (l : List Int) (hl : l.length ≤ 1048576) : Evt (fun k => laws_toIntS.f k l) l := by
  refine (toIntS_l0 l hl l.length 0 (List.replicate l.length 0) (by omega) (by omega) (by simp) rfl).of_eq (fun k => ?_)
  unfold laws_toIntS.f
  rw [if_pos (by omega), Int.toNat_natCast, if_pos (by omega)]
  rfl

/-! ### weights -/
/-- Weights: the program's look and the reference's. -/
def okW (l : List Int) : Bool := decide (1 ≤ l.length ∧ l.length ≤ 10) && !l.any (fun x => !decide (0 ≤ x ∧ x ≤ 99))
theorem implWeights_eq (l : List Int) (hl : l.length ≤ 1048576) : impl_areWeights.f l = some (okW l) := by
  unfold impl_areWeights.f okW
  rw [if_pos (by omega)]
theorem okW_eq (l : List Int) (i : Nat) (hi : i < l.length) : (!(l.drop i).any (fun x => !decide (0 ≤ x ∧ x ≤ 99))) = (decide (0 ≤ l[i] ∧ l[i] ≤ 99) && !(l.drop (i + 1)).any (fun x => !decide (0 ≤ x ∧ x ≤ 99))) := by
  have : l.drop i = l[i] :: l.drop (i + 1) := by simp
  rw [this, List.any_cons, Bool.not_or, Bool.not_not]
theorem specWeights_l0 (l : List Int) (hl : l.length ≤ 1048576) (d : Nat) : ∀ i, i ≤ l.length → l.length - i = d → (i ≤ 10 ∨ 10 < l.length) → i ≤ 11 → Evt (fun k => spec_l8Weights.l0 k l i) (decide (1 ≤ l.length ∧ l.length ≤ 10) && !(l.drop i).any (fun x => !decide (0 ≤ x ∧ x ≤ 99))) := by
  have fin : ∀ i : Nat, (10 < i ∨ i = l.length) → i ≤ l.length → Evt (fun k => spec_l8Weights.j1 k l i false) (decide (1 ≤ l.length ∧ l.length ≤ 10) && !(l.drop i).any (fun x => !decide (0 ≤ x ∧ x ≤ 99))) := by
    intro i hi hi'
    refine Evt.succ (h := fun _ => some (decide (1 ≤ (l.length : Int) ∧ (l.length : Int) ≤ 10))) (fun k => by rw [spec_l8Weights.j1, if_neg (by simp), l1In_eq]; rfl) ?_
    have e : decide (1 ≤ (l.length : Int) ∧ (l.length : Int) ≤ 10) = (decide (1 ≤ l.length ∧ l.length ≤ 10) && !(l.drop i).any (fun x => !decide (0 ≤ x ∧ x ≤ 99))) := by
      by_cases h : l.length ≤ 10
      · have : l.drop i = [] := List.drop_eq_nil_of_le (by omega)
        rw [this, List.any_nil, Bool.not_false, Bool.and_true, Bool.eq_iff_iff, decide_eq_true_eq, decide_eq_true_eq]
        omega
      · rw [decide_eq_false (show ¬ (1 ≤ (l.length : Int) ∧ (l.length : Int) ≤ 10) by omega), decide_eq_false (show ¬ (1 ≤ l.length ∧ l.length ≤ 10) by omega), Bool.false_and]
    rw [e]
    exact Evt.const _
  induction d with
  | zero =>
    intro i hi hd _ _
    exact Evt.succ (fun k => by rw [spec_l8Weights.l0, if_neg (by omega)]) (fin i (.inr (by omega)) hi)
  | succ d ih =>
    intro i hi hd hor h11
    by_cases h : i ≤ 10
    · have li : i < l.length := by omega
      rw [okW_eq l i li]
      refine Evt.succ (fun k => by rw [spec_l8Weights.l0, if_pos (by omega), decide_eq_true (show (i : Int) ≤ 10 by omega)]) ?_
      refine Evt.succ (h := fun k => if decide (0 ≤ l[i] ∧ l[i] ≤ 99) = true then spec_l8Weights.l0 k l ((i + 1 : Nat) : Int) else some false) (fun k => ?_) ?_
      · rw [spec_l8Weights.j1, if_pos rfl, if_pos (by omega), if_pos (by omega), l1In_eq, rd_nat _ _ li, wrap_succ i (by omega)]
        rfl
      · cases hc : decide (0 ≤ l[i] ∧ l[i] ≤ 99) with
        | true =>
          rw [Bool.true_and]
          exact Evt.ite_pos rfl (ih (i + 1) (by omega) (by omega) (by omega) (by omega))
        | false =>
          rw [Bool.false_and, Bool.and_false]
          exact Evt.ite_neg (by simp) (Evt.const _)
    · exact Evt.succ (fun k => by rw [spec_l8Weights.l0, if_pos (by omega), decide_eq_false (show ¬ (i : Int) ≤ 10 by omega)]) (fin i (.inl (by omega)) hi)
theorem specWeights_evt (l : List Int) (hl : l.length ≤ 1048576) : Evt (fun k => spec_l8Weights.f k l) (okW l) :=
  specWeights_l0 l hl l.length 0 (by omega) (by omega) (by omega) (by omega)
noncomputable def fits (t : List ByteArray) (l : List Int) : Bool := okTable t && okW l && decide (t.length = l.length)
theorem specFits_evt (t : List ByteArray) (ht : t.length ≤ 1048576) (l : List Int) (hl : l.length ≤ 1048576) : Evt (fun k => spec_l8Fits.f k t l) (fits t l) := by
  unfold fits
  refine Evt.bind (specTable_evt t (by omega)) ?_
  cases okTable t with
  | false => exact Evt.ite_neg (by simp) (Evt.const _)
  | true =>
    refine Evt.ite_pos rfl (Evt.bind (specWeights_evt l hl) ?_)
    cases okW l with
    | false => exact Evt.ite_neg (by simp) (Evt.const _)
    | true =>
      refine Evt.ite_pos rfl ?_
      rw [show ((t.length : Int) == (l.length : Int)) = (true && true && decide (t.length = l.length)) by rw [Bool.true_and, Bool.true_and, Bool.eq_iff_iff, beq_iff_eq, decide_eq_true_eq]; omega]
      exact Evt.const _
theorem implWeighed_evt (t : List ByteArray) (ht : t.length ≤ 1048576) (l : List Int) (hl : l.length ≤ 1048576) : Evt (fun k => impl_areWeighed.f k t l) (fits t l) := by
  unfold fits
  refine Evt.bind (implTable_evt t (by omega)) ?_
  cases okTable t with
  | false => exact Evt.ite_neg (by simp) (Evt.const _)
  | true =>
    refine Evt.ite_pos rfl (Evt.bind ((Evt.const (okW l)).of_eq (fun k => implWeights_eq l hl)) ?_)
    cases okW l with
    | false => exact Evt.ite_neg (by simp) (Evt.const _)
    | true =>
      refine Evt.ite_pos rfl ?_
      rw [show ((l.length : Int) == (t.length : Int)) = (true && true && decide (t.length = l.length)) by rw [Bool.true_and, Bool.true_and, Bool.eq_iff_iff, beq_iff_eq, decide_eq_true_eq]; omega]
      exact Evt.const _
theorem of_fits (t : List ByteArray) (l : List Int) (h : fits t l = true) : okTable t = true ∧ okW l = true ∧ t.length = l.length := by
  unfold fits at h
  simp only [Bool.and_eq_true, decide_eq_true_eq] at h
  exact ⟨h.1.1, h.1.2, h.2⟩

/-! ### time -/
/-- How long a letter takes. -/
def timeN (s : ByteArray) : Int := 2 * (s.size : Int) - 1 + 2 * (s.data.toList.count 45 : Int)
theorem specTime_l0 (s : ByteArray) (hs : s.size ≤ 1000) (d : Nat) : ∀ (i v : Nat), i ≤ s.size → s.size - i = d → v ≤ 5000 + 3 * i → Evt (fun k => spec_l2Time.l0 k s v i) ((v + (s.size - i) + 2 * (s.data.toList.drop i).count 45 : Nat) : Int) := by
  have hsz := size_data s
  induction d with
  | zero =>
    intro i v hi hd hv
    rw [List.drop_eq_nil_of_le (by omega), show v + (s.size - i) + 2 * List.count (45 : UInt8) [] = v by rw [List.count_nil]; omega]
    exact Evt.succ (fun k => by rw [spec_l2Time.l0, if_neg (by omega)]) (Evt.const _)
  | succ d ih =>
    intro i v hi hd hv
    have li : i < s.data.toList.length := by omega
    rw [drop_cons_ _ i li, List.count_cons]
    have e1 := bt_get s i (by omega)
    by_cases h : bt s (i : Int) = 45
    · have hb : s.data.toList[i] = 45 := by
        rw [e1] at h
        exact UInt8.toNat_inj.1 (by rw [show (45 : UInt8).toNat = 45 from rfl]; omega)
      have w : wrap64 (wrap64 ((v : Int) + 1) + 2) = ((v + 3 : Nat) : Int) := by unfold wrap64; omega
      rw [hb, if_pos (by rfl), show v + (s.size - i) + 2 * (List.count 45 (List.drop (i + 1) s.data.toList) + 1) = (v + 3) + (s.size - (i + 1)) + 2 * List.count 45 (List.drop (i + 1) s.data.toList) by omega]
      exact Evt.succ (fun k => by rw [spec_l2Time.l0, if_pos (by omega), if_pos (by omega), if_pos h, w, wrap_succ i (by omega)]) (ih (i + 1) (v + 3) (by omega) (by omega) (by omega))
    · have hb : (s.data.toList[i] == 45) = false := by
        rw [beq_eq_false_iff_ne]
        intro q
        rw [e1, q] at h
        exact h rfl
      have w : wrap64 ((v : Int) + 1) = ((v + 1 : Nat) : Int) := wrap_succ v (by omega)
      rw [hb, if_neg (by simp), show v + (s.size - i) + 2 * (List.count 45 (List.drop (i + 1) s.data.toList) + 0) = (v + 1) + (s.size - (i + 1)) + 2 * List.count 45 (List.drop (i + 1) s.data.toList) by omega]
      exact Evt.succ (fun k => by rw [spec_l2Time.l0, if_pos (by omega), if_pos (by omega), if_neg h, w, wrap_succ i (by omega)]) (ih (i + 1) (v + 1) (by omega) (by omega) (by omega))
theorem specTime_evt (s : ByteArray) (hs : s.size ≤ 1000) (h1 : 1 ≤ s.size) : Evt (fun k => spec_l2Time.f k s) (timeN s) := by
  have e : spec_l1Most.f 0 (wrap64 ((s.size : Int) - 1)) = some ((s.size - 1 : Nat) : Int) := by
    have w : wrap64 ((s.size : Int) - 1) = ((s.size - 1 : Nat) : Int) := by unfold wrap64; omega
    rw [w]
    unfold spec_l1Most.f
    by_cases h : (0 : Int) > ((s.size - 1 : Nat) : Int)
    · omega
    · rw [if_neg h]
  have := specTime_l0 s hs s.size 0 (s.size - 1) (by omega) (by omega) (by omega)
  rw [List.drop_zero] at this
  refine (Evt.bind (a := ((s.size - 1 : Nat) : Int)) (h := fun k x => spec_l2Time.l0 k s x 0) ((Evt.const _).of_eq (fun k => e)) ?_)
  unfold timeN
  rw [show 2 * (s.size : Int) - 1 + 2 * (s.data.toList.count 45 : Int) = ((s.size - 1 + (s.size - 0) + 2 * s.data.toList.count 45 : Nat) : Int) by omega]
  exact this
theorem implTime_evt (s : ByteArray) (hs : s.size ≤ 1000) : Evt (fun k => impl_timeOf.f s) (timeN s) := by
  have hc : s.data.toList.count 45 ≤ s.size := by
    have := List.count_le_length (a := (45 : UInt8)) (l := s.data.toList)
    rw [size_data] at this
    exact this
  have e : strings_Count.f s (⟨#[45]⟩ : ByteArray) = some ((s.data.toList.count 45 : Nat) : Int) := by
    unfold strings_Count.f
    rw [if_pos (by rfl)]
    rfl
  refine (Evt.const _).of_eq (fun k => ?_)
  unfold impl_timeOf.f timeN
  rw [e, Option.bind_some]
  congr 1
  generalize s.data.toList.count 45 = c at *
  unfold wrap64
  omega
theorem okSize (t : List ByteArray) (h : okTable t = true) (i : Nat) (hi : i < t.length) : 1 ≤ (rdOf ByteArray.empty t (i : Int)).size ∧ (rdOf ByteArray.empty t (i : Int)).size ≤ 5 := by
  rw [rdOf_get _ t i hi]
  have := (of_table t h).2.2.1 _ (List.getElem_mem hi)
  simp only [okMarks, Bool.and_eq_true, decide_eq_true_eq] at this
  omega

def tmAt (t : List ByteArray) (i : Nat) : Int := timeN (rdOf ByteArray.empty t (i : Int))
def gain (t : List ByteArray) (l : List Int) (p q : Nat) : Int := (rd l (p : Int) - rd l (q : Int)) * (tmAt t p - tmAt t q)
def okSz (t : List ByteArray) : Prop := t.length ≤ 10 ∧ ∀ m ∈ t, 1 ≤ m.size ∧ m.size ≤ 5
def okWs (l : List Int) : Prop := ∀ x ∈ l, 0 ≤ x ∧ x ≤ 99
theorem okSz_at (t : List ByteArray) (h : okSz t) (i : Nat) (hi : i < t.length) : 1 ≤ (rdOf ByteArray.empty t (i : Int)).size ∧ (rdOf ByteArray.empty t (i : Int)).size ≤ 5 := by
  rw [rdOf_get _ t i hi]
  exact h.2 _ (List.getElem_mem hi)
theorem timeN_bd (s : ByteArray) (h1 : 1 ≤ s.size) (h5 : s.size ≤ 5) : 0 ≤ timeN s ∧ timeN s ≤ 19 := by
  have hc : s.data.toList.count 45 ≤ s.size := by
    have := List.count_le_length (a := (45 : UInt8)) (l := s.data.toList)
    rw [size_data] at this
    exact this
  unfold timeN
  omega
theorem tm_bd (t : List ByteArray) (h : okSz t) (i : Nat) (hi : i < t.length) : 0 ≤ tmAt t i ∧ tmAt t i ≤ 19 := by
  have := okSz_at t h i hi
  exact timeN_bd _ this.1 this.2
theorem w_bd (l : List Int) (h : okWs l) (i : Nat) (hi : i < l.length) : 0 ≤ rd l (i : Int) ∧ rd l (i : Int) ≤ 99 := by
  rw [rd_get l i hi]
  exact h _ (List.getElem_mem hi)
theorem wrap_small (x : Int) (h : -100000 ≤ x ∧ x ≤ 100000) : wrap64 x = x := by unfold wrap64; omega
theorem mul_bd (a b : Int) (ha : -99 ≤ a ∧ a ≤ 99) (hb : -19 ≤ b ∧ b ≤ 19) : -1881 ≤ a * b ∧ a * b ≤ 1881 := by
  have h1 : (99 - a) * (19 - b) ≥ 0 := Int.mul_nonneg (by omega) (by omega)
  have h2 : (99 + a) * (19 + b) ≥ 0 := Int.mul_nonneg (by omega) (by omega)
  have h3 : (99 - a) * (19 + b) ≥ 0 := Int.mul_nonneg (by omega) (by omega)
  have h4 : (99 + a) * (19 - b) ≥ 0 := Int.mul_nonneg (by omega) (by omega)
  have e1 : (99 - a) * (19 - b) = 1881 - 99 * b - 19 * a + a * b := by rw [Int.sub_mul, Int.mul_sub, Int.mul_sub]; omega
  have e2 : (99 + a) * (19 + b) = 1881 + 99 * b + 19 * a + a * b := by rw [Int.add_mul, Int.mul_add, Int.mul_add]; omega
  have e3 : (99 - a) * (19 + b) = 1881 + 99 * b - 19 * a - a * b := by rw [Int.sub_mul, Int.mul_add, Int.mul_add]; omega
  have e4 : (99 + a) * (19 - b) = 1881 - 99 * b + 19 * a - a * b := by rw [Int.add_mul, Int.mul_sub, Int.mul_sub]; omega
  omega
theorem gain_wrap (t : List ByteArray) (ht : okSz t) (l : List Int) (hw : okWs l) (hl : t.length = l.length) (p q : Nat) (hp : p < t.length) (hq : q < t.length) : wrap64 (wrap64 (rd l (p : Int) - rd l (q : Int)) * wrap64 (tmAt t p - tmAt t q)) = gain t l p q := by
  have a1 := w_bd l hw p (by omega)
  have a2 := w_bd l hw q (by omega)
  have b1 := tm_bd t ht p hp
  have b2 := tm_bd t ht q hq
  have m := mul_bd (rd l (p : Int) - rd l (q : Int)) (tmAt t p - tmAt t q) (by omega) (by omega)
  rw [wrap_small _ (show -100000 ≤ rd l (p : Int) - rd l (q : Int) ∧ rd l (p : Int) - rd l (q : Int) ≤ 100000 by omega), wrap_small _ (show -100000 ≤ tmAt t p - tmAt t q ∧ tmAt t p - tmAt t q ≤ 100000 by omega), wrap_small _ (by omega)]
  rfl
/-- What is held while the best swap is looked for. -/
def Held (t : List ByteArray) (l : List Int) (x a b : Int) : Prop := (x = 0 ∧ 0 ≤ x) ∨ ∃ p q : Nat, p < t.length ∧ q < t.length ∧ a = p ∧ b = q ∧ x = gain t l p q ∧ 0 < x
theorem swp_l1 (t : List ByteArray) (ht : okSz t) (l : List Int) (hw : okWs l) (hl : t.length = l.length) (i : Nat) (hi : i < t.length)
    (next : ∀ x a b : Int, Held t l x a b → ∃ r : Int × Int × Int, Evt (fun k => spec_l8Swap.l0 k t l x ((i + 1 : Nat) : Int) a b) r ∧ Evt (fun k => impl_bestSwap.l0 k l x t (t.length : Int) ((i + 1 : Nat) : Int) t a b) r ∧ Held t l r.2.2 r.1 r.2.1) (d : Nat) :
    ∀ (j : Nat) (x a b : Int), j ≤ t.length → t.length - j = d → Held t l x a b → ∃ r : Int × Int × Int, Evt (fun k => spec_l8Swap.l1 k t l x i j a b) r ∧ Evt (fun k => impl_bestSwap.l1 k l x i (rdOf ByteArray.empty t (i : Int)) j t (t.length : Int) i t a b) r ∧ Held t l r.2.2 r.1 r.2.1 := by
  have hlen := ht.1
  induction d with
  | zero =>
    intro j x a b hj hd hH
    obtain ⟨r, r1, r2, hR⟩ := next x a b hH
    have c1 : ¬ (j : Int) < (t.length : Int) := by omega
    have wi : wrap64 ((i : Int) + 1) = ((i + 1 : Nat) : Int) := wrap_succ i (by omega)
    exact ⟨r, Evt.succ (fun k => by rw [spec_l8Swap.l1, if_neg c1, wi]) r1, Evt.succ (fun k => by rw [impl_bestSwap.l1, if_neg c1, wi]) r2, hR⟩
  | succ d ih =>
    intro j x a b hj hd hH
    have lj : j < t.length := by omega
    have si := okSz_at t ht i hi
    have sj := okSz_at t ht j lj
    have p1 := specTime_evt (rdOf ByteArray.empty t (i : Int)) (by omega) si.1
    have p2 := implTime_evt (rdOf ByteArray.empty t (i : Int)) (by omega)
    have q1 := specTime_evt (rdOf ByteArray.empty t (j : Int)) (by omega) sj.1
    have q2 := implTime_evt (rdOf ByteArray.empty t (j : Int)) (by omega)
    have b1 : j + 1 ≤ t.length := by omega
    have b2 : t.length - (j + 1) = d := by omega
    have c1 : (j : Int) < (t.length : Int) := by omega
    have c2 : (0 : Int) ≤ (i : Int) := by omega
    have c3 : (i : Int) < (l.length : Int) := by omega
    have c4 : (0 : Int) ≤ (j : Int) := by omega
    have c5 : (j : Int) < (l.length : Int) := by omega
    have c6 : (i : Int) < (t.length : Int) := by omega
    have x0 : 0 ≤ x := by
      rcases hH with h | ⟨_, _, _, _, _, _, _, h⟩
      · exact h.2
      · omega
    have wj : wrap64 ((j : Int) + 1) = ((j + 1 : Nat) : Int) := wrap_succ j (by omega)
    have g := gain_wrap t ht l hw hl i j hi lj
    change Evt _ (tmAt t i) at p1 p2
    change Evt _ (tmAt t j) at q1 q2
    by_cases h : gain t l i j > x
    · obtain ⟨r, r1, r2, hr⟩ := ih (j + 1) (gain t l i j) (i : Int) (j : Int) b1 b2 (.inr ⟨i, j, hi, lj, rfl, rfl, rfl, by omega⟩)
      rw [← g] at h r1 r2
      refine ⟨r, Evt.succ (fun k => by rw [spec_l8Swap.l1, if_pos c1, if_pos c2, if_pos c3, if_pos c4, if_pos c5, if_pos c6, wj]) (Evt.bind p1 (Evt.bind q1 (Evt.ite_pos h r1))), Evt.succ (fun k => by rw [impl_bestSwap.l1, if_pos c1, if_pos c2, if_pos c3, if_pos c4, if_pos c5, wj]) (Evt.bind p2 (Evt.bind q2 (Evt.ite_pos h r2))), hr⟩
    · obtain ⟨s, s1, s2, hs⟩ := ih (j + 1) x a b b1 b2 hH
      rw [← g] at h
      refine ⟨s, Evt.succ (fun k => by rw [spec_l8Swap.l1, if_pos c1, if_pos c2, if_pos c3, if_pos c4, if_pos c5, if_pos c6, wj]) (Evt.bind p1 (Evt.bind q1 (Evt.ite_neg h s1))), Evt.succ (fun k => by rw [impl_bestSwap.l1, if_pos c1, if_pos c2, if_pos c3, if_pos c4, if_pos c5, wj]) (Evt.bind p2 (Evt.bind q2 (Evt.ite_neg h s2))), hs⟩
theorem swp_l0 (t : List ByteArray) (ht : okSz t) (l : List Int) (hw : okWs l) (hl : t.length = l.length) (d : Nat) : ∀ (i : Nat) (x a b : Int), i ≤ t.length → t.length - i = d → Held t l x a b → ∃ r : Int × Int × Int, Evt (fun k => spec_l8Swap.l0 k t l x i a b) r ∧ Evt (fun k => impl_bestSwap.l0 k l x t (t.length : Int) i t a b) r ∧ Held t l r.2.2 r.1 r.2.1 := by
  have hlen := ht.1
  induction d with
  | zero =>
    intro i x a b hi hd hH
    have c1 : ¬ (i : Int) < (t.length : Int) := by omega
    exact ⟨(a, b, x), Evt.succ (fun k => by rw [spec_l8Swap.l0, if_neg c1]) (Evt.const _), Evt.succ (fun k => by rw [impl_bestSwap.l0, if_neg c1]) (Evt.const _), hH⟩
  | succ d ih =>
    intro i x a b hi hd hH
    have li : i < t.length := by omega
    obtain ⟨r, r1, r2, hR⟩ := swp_l1 t ht l hw hl i li (fun x a b h => ih (i + 1) x a b (by omega) (by omega) h) (t.length - (i + 1)) (i + 1) x a b (by omega) (by omega) hH
    have c1 : (i : Int) < (t.length : Int) := by omega
    have c2 : (0 : Int) ≤ (i : Int) := by omega
    have wi : wrap64 ((i : Int) + 1) = ((i + 1 : Nat) : Int) := wrap_succ i (by omega)
    exact ⟨r, Evt.succ (fun k => by rw [spec_l8Swap.l0, if_pos c1, wi]) r1, Evt.succ (fun k => by rw [impl_bestSwap.l0, if_pos c1, if_pos c2, if_pos c1, wi]) r2, hR⟩
theorem swp_evt (t : List ByteArray) (ht : okSz t) (l : List Int) (hw : okWs l) (hl : t.length = l.length) : ∃ r : Int × Int × Int, Evt (fun k => spec_l8Swap.f k t l) r ∧ Evt (fun k => impl_bestSwap.f k t l) r ∧ Held t l r.2.2 r.1 r.2.1 :=
  swp_l0 t ht l hw hl t.length 0 0 0 0 (by omega) (by omega) (.inl ⟨rfl, Int.le_refl _⟩)
/-- The cost. -/
def cst : List Int → List Int → Int
  | w :: l, x :: t => w * x + cst l t
  | _, _ => 0
theorem cst_set : ∀ (l t : List Int) (i : Nat) (v : Int), l.length = t.length → (hi : i < t.length) → cst l (t.set i v) = cst l t + l.getD i 0 * (v - t[i])
  | [], [], i, _, _, hi => absurd hi (Nat.not_lt_zero i)
  | [], _ :: _, _, _, h, _ => by simp at h
  | _ :: _, [], _, _, h, _ => by simp at h
  | w :: l, x :: t, 0, v, _, _ => by
    show w * v + cst l t = w * x + cst l t + w * (v - x)
    rw [Int.mul_sub]
    omega
  | w :: l, x :: t, i + 1, v, h, hi => by
    have hi' : i < t.length := by simpa using hi
    have ih := cst_set l t i v (by simpa using h) hi'
    show w * x + cst l (t.set i v) = w * x + cst l t + l.getD i 0 * (v - t[i])
    rw [ih]
    omega
theorem cst_nonneg : ∀ (l t : List Int), (∀ x ∈ l, 0 ≤ x) → (∀ x ∈ t, 0 ≤ x) → 0 ≤ cst l t
  | [], _, _, _ => Int.le_refl _
  | _ :: _, [], _, _ => Int.le_refl _
  | w :: l, x :: t, hl, ht => by
    have h1 := Int.mul_nonneg (hl w List.mem_cons_self) (ht x List.mem_cons_self)
    have h2 := cst_nonneg l t (fun y hy => hl y (List.mem_cons_of_mem _ hy)) (fun y hy => ht y (List.mem_cons_of_mem _ hy))
    show 0 ≤ w * x + cst l t
    omega
def tms (t : List ByteArray) : List Int := t.map timeN
theorem tms_get (t : List ByteArray) (i : Nat) (hi : i < t.length) : (tms t)[i]'(by unfold tms; rw [List.length_map]; exact hi) = tmAt t i := by
  unfold tms tmAt
  rw [List.getElem_map, rdOf_get _ t i hi]
/-- Two letters' marks swapped. -/
def swp (t : List ByteArray) (p q : Nat) : List ByteArray := (t.set p (rdOf ByteArray.empty t (q : Int))).set q (rdOf ByteArray.empty t (p : Int))
theorem swp_cost (t : List ByteArray) (l : List Int) (hl : t.length = l.length) (p q : Nat) (hp : p < t.length) (hq : q < t.length) : cst l (tms (swp t p q)) = cst l (tms t) - gain t l p q := by
  have e : tms (swp t p q) = ((tms t).set p (tmAt t q)).set q (tmAt t p) := by
    unfold tms swp tmAt
    rw [List.map_set, List.map_set]
  have hlt : (tms t).length = t.length := by unfold tms; rw [List.length_map]
  have hq' : q < ((tms t).set p (tmAt t q)).length := by rw [List.length_set]; omega
  have e2 : ((tms t).set p (tmAt t q))[q] = tmAt t q := by
    rw [List.getElem_set]
    by_cases h : p = q
    · rw [if_pos h]
    · rw [if_neg h, tms_get t q hq]
  rw [e, cst_set l _ q _ (by rw [List.length_set]; omega) hq', e2, cst_set l _ p _ (by omega) (by omega), tms_get t p hp]
  have d1 : l.getD p 0 = rd l (p : Int) := by unfold rd; rw [Int.toNat_natCast]
  have d2 : l.getD q 0 = rd l (q : Int) := by unfold rd; rw [Int.toNat_natCast]
  rw [d1, d2]
  unfold gain
  generalize rd l (p : Int) = a
  generalize rd l (q : Int) = b
  generalize tmAt t p = x
  generalize tmAt t q = y
  rw [Int.sub_mul, Int.mul_sub, Int.mul_sub, Int.mul_sub]
  omega
theorem swp_ok (t : List ByteArray) (ht : okSz t) (p q : Nat) (hp : p < t.length) (hq : q < t.length) : okSz (swp t p q) ∧ (swp t p q).length = t.length := by
  have hl : (swp t p q).length = t.length := by unfold swp; rw [List.length_set, List.length_set]
  refine ⟨⟨by rw [hl]; exact ht.1, fun m hm => ?_⟩, hl⟩
  unfold swp at hm
  rcases List.mem_or_eq_of_mem_set hm with h | rfl
  · rcases List.mem_or_eq_of_mem_set h with h | rfl
    · exact ht.2 m h
    · exact okSz_at t ht q hq
  · exact okSz_at t ht p hp
theorem loop_l0 (l : List Int) (hw : okWs l) (c : Nat) : ∀ (t : List ByteArray) (x : Int), okSz t → t.length = l.length → cst l (tms t) < (c : Int) → ∃ r : Int × Bool, Evt (fun k => spec_SwapsToBest.l0 k l t x) r ∧ Evt (fun k => impl_SwapsToBest.l0 k l x t) r := by
  induction c with
  | zero =>
    intro t x ht hl hc
    have := cst_nonneg l (tms t) (fun y hy => (hw y hy).1) (fun y hy => by
      unfold tms at hy
      obtain ⟨m, hm, rfl⟩ := List.mem_map.1 hy
      have := ht.2 m hm
      exact (timeN_bd m this.1 this.2).1)
    omega
  | succ c ih =>
    intro t x ht hl hc
    obtain ⟨⟨a, b, y⟩, r1, r2, hH⟩ := swp_evt t ht l hw hl
    have us : ∀ k, spec_SwapsToBest.l0 (k + 1) l t x = (spec_l8Swap.f k t l).bind fun bt => if bt.2.2 = 0 then some (x, true) else if 0 ≤ bt.1 then (if bt.1 < (t.length : Int) then (if 0 ≤ bt.2.1 then (if bt.2.1 < (t.length : Int) then spec_SwapsToBest.l0 k l ((t.set (bt.1 : Int).toNat (rdOf ByteArray.empty t bt.2.1)).set (bt.2.1 : Int).toNat (rdOf ByteArray.empty t bt.1)) (wrap64 (x + 1)) else none) else none) else none) else none := fun k => rfl
    have ui : ∀ k, impl_SwapsToBest.l0 (k + 1) l x t = (impl_bestSwap.f k t l).bind fun bt => if bt.2.2 = 0 then some (x, true) else if 0 ≤ bt.2.1 then (if bt.2.1 < (t.length : Int) then (if 0 ≤ bt.1 then (if bt.1 < (t.length : Int) then impl_SwapsToBest.l0 k l (wrap64 (x + 1)) ((t.set (bt.1 : Int).toNat (rdOf ByteArray.empty t bt.2.1)).set (bt.2.1 : Int).toNat (rdOf ByteArray.empty t bt.1)) else none) else none) else none) else none := fun k => rfl
    by_cases h0 : y = 0
    · exact ⟨(x, true), Evt.succ us (Evt.bind r1 (Evt.ite_pos h0 (Evt.const _))), Evt.succ ui (Evt.bind r2 (Evt.ite_pos h0 (Evt.const _)))⟩
    · rcases hH with h | ⟨p, q, hp, hq, ea, eb, eg, hy⟩
      · exact absurd h.1 h0
      · simp only at ea eb eg hy
        subst ea
        subst eb
        have hcost := swp_cost t l hl p q hp hq
        obtain ⟨k1, k2⟩ := swp_ok t ht p q hp hq
        obtain ⟨r, s1, s2⟩ := ih (swp t p q) (wrap64 (x + 1)) k1 (by omega) (by omega)
        have c1 : (0 : Int) ≤ (p : Int) := Int.natCast_nonneg p
        have c2 : (p : Int) < (t.length : Int) := Int.ofNat_lt.2 hp
        have c3 : (0 : Int) ≤ (q : Int) := Int.natCast_nonneg q
        have c4 : (q : Int) < (t.length : Int) := Int.ofNat_lt.2 hq
        exact ⟨r, Evt.succ us (Evt.bind r1 (Evt.ite_neg h0 (Evt.ite_pos c1 (Evt.ite_pos c2 (Evt.ite_pos c3 (Evt.ite_pos c4 s1)))))), Evt.succ ui (Evt.bind r2 (Evt.ite_neg h0 (Evt.ite_pos c3 (Evt.ite_pos c4 (Evt.ite_pos c1 (Evt.ite_pos c2 s2))))))⟩
theorem same_evt (t : List ByteArray) (ht : t.length ≤ 1048576) (l : List Int) (hl : l.length ≤ 1048576) : ∃ r, Evt (fun k => spec_SwapsToBest.f k t l) r ∧ Evt (fun k => impl_SwapsToBest.f k t l) r := by
  have s1 := specFits_evt t ht l hl
  have i1 := implWeighed_evt t ht l hl
  cases h : fits t l with
  | false =>
    rw [h] at s1 i1
    exact ⟨(0, false), Evt.bind s1 (Evt.ite_neg (by simp) (Evt.const _)), Evt.bind i1 (Evt.ite_neg (by simp) (Evt.const _))⟩
  | true =>
    rw [h] at s1 i1
    obtain ⟨h1, h2, h3⟩ := of_fits t l h
    have hof := of_table t h1
    have hsz : okSz t := ⟨hof.2.1, fun m hm => by
      have := hof.2.2.1 m hm
      simp only [okMarks, Bool.and_eq_true, decide_eq_true_eq] at this
      omega⟩
    have hww : okWs l := by
      intro x hx
      unfold okW at h2
      simp only [Bool.and_eq_true, Bool.not_eq_true', List.any_eq_false, decide_eq_true_eq, Bool.not_eq_true, Bool.not_eq_false', decide_eq_false_iff_not] at h2
      have := h2.2 x hx
      simpa using this
    obtain ⟨r, r1, r2⟩ := loop_l0 l hww ((cst l (tms t)).toNat + 1) t 0 hsz h3 (by omega)
    have e1 : spec_l2Own.f t = some t := by
      unfold spec_l2Own.f
      have c : ([] : List ByteArray).length + t.length < 8796093022208 := by simp; omega
      rw [Option.bind_some, if_pos c, List.nil_append]
    have e2 : slices_Clone_string_string.f t = some t := by
      unfold slices_Clone_string_string.f
      rw [if_pos (by omega)]
    exact ⟨r, Evt.bind s1 (Evt.ite_pos rfl (Evt.bind (Evt.of_eq (fun _ => e1) (Evt.const t)) r1)), Evt.bind i1 (Evt.ite_pos rfl (Evt.bind (Evt.of_eq (fun _ => e2) (Evt.const t)) r2))⟩
theorem FnExactSwapsToBest : laws_FnExactSwapsToBest.Pure := by
  intro t l ht hs hl hw
  obtain ⟨z, hz, hor⟩ := szTable_evt t 1048576 (by omega) (by omega) ht hs
  refine Evt.get (r := true) ?_
  by_cases big : (l.length : Int) > 1048576
  · exact Evt.ite_pos big (Evt.const _)
  refine Evt.ite_neg big ?_
  refine Evt.bind hz ?_
  by_cases hn : z < 0
  · exact Evt.ite_pos hn (Evt.const _)
  · refine Evt.ite_neg hn ?_
    have ht : t.length ≤ 1048576 := by omega
    have hl : l.length ≤ 1048576 := by omega
    obtain ⟨r, h1, h2⟩ := same_evt t ht l hl
    refine Evt.bind (toTable_evt t ht) (Evt.bind (toIntS_evt l hl) (Evt.bind h1 (Evt.bind (toTable_evt t ht) (Evt.bind (toIntS_evt l hl) (Evt.bind h2 (Evt.ite_pos rfl ?_))))))
    rw [show (r.2 != r.2) = false by simp]
    refine Evt.succ (h := fun k => _) (fun k => by simp only [laws_FnExactSwapsToBest.j0]; rfl) ?_
    refine Evt.ite_neg (by simp) ?_
    exact Evt.bind (toTable_evt t ht) (Evt.bind (eqTable_evt t ht) (Evt.ite_pos rfl (Evt.bind (toIntS_evt l hl) (Evt.bind (eqIntS_evt l (by omega)) (Evt.ite_pos rfl (Evt.const _))))))
end Go.Proofs.YtolbhpgphinjcaaDoor.Pure
