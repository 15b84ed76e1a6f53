/- The program's BestFrom returns what the reference's BestFrom returns, for every list of texts and all weights. No condition. -/
import Derived.Test.YtgaadjlcmgmfaaaGreatDoorPFnExactBestFromx12
namespace Go.Proofs.YtgaadjlcmgmfaaaGreatDoor.Pure
open Go.RowKit Go.Proofs.YtgaadjlcmgmfaaaGreatDoor.PFnExactBestFrom Go.Proofs.YtgaadjlcmgmfaaaGreatDoorW.PrintWords Go.Proofs.YtgaadjlcmgmfaaaGreatDoorW.PrintLast Go.Proofs.YtgaadjlcmgmfaaaGreatDoorW.PrintMore
set_option linter.unusedVariables false
set_option linter.unusedSimpArgs false

/-! ### ev -/
/-- With enough rounds, and ever after, g answers r. -/
def Evt {α : Type} (g : Nat → Option α) (r : α) : Prop := ∃ K, ∀ k, K ≤ k → g k = some r
theorem Evt.const {α : Type} (r : α) : Evt (fun _ => some r) r := ⟨0, fun _ _ => rfl⟩
theorem Evt.of_eq {α : Type} {g h : Nat → Option α} {r : α} (e : ∀ k, g k = h k) (H : Evt h r) : Evt g r := by
  obtain ⟨K, hK⟩ := H
  exact ⟨K, fun k hk => (e k).trans (hK k hk)⟩
theorem Evt.bind {α β : Type} {g : Nat → Option β} {h : Nat → β → Option α} {a : β} {r : α} (H1 : Evt g a) (H2 : Evt (fun k => h k a) r) : Evt (fun k => (g k).bind (h k)) r := by
  obtain ⟨K1, h1⟩ := H1
  obtain ⟨K2, h2⟩ := H2
  refine ⟨max K1 K2, fun k hk => ?_⟩
  show (g k).bind (h k) = some r
  rw [h1 k (by omega)]
  exact h2 k (by omega)
theorem Evt.succ {α : Type} {g h : Nat → Option α} {r : α} (e : ∀ k, g (k + 1) = h k) (H : Evt h r) : Evt g r := by
  obtain ⟨K, hK⟩ := H
  refine ⟨K + 1, fun k hk => ?_⟩
  obtain ⟨k, rfl⟩ : ∃ m, k = m + 1 := ⟨k - 1, by omega⟩
  rw [e]
  exact hK k (by omega)
theorem Evt.get {α : Type} {g : Nat → Option α} {r : α} (H : Evt g r) : ∃ k, g k = some r := by
  obtain ⟨K, hK⟩ := H
  exact ⟨K, hK K (Nat.le_refl _)⟩
theorem Evt.get2 {α β : Type} {g : Nat → Option α} {h : Nat → Option β} {r : α} {s : β} (H : Evt g r) (H' : Evt h s) : ∃ k, g k = some r ∧ h k = some s := by
  obtain ⟨K, hK⟩ := H
  obtain ⟨K', hK'⟩ := H'
  exact ⟨max K K', hK _ (by omega), hK' _ (by omega)⟩
theorem Evt.ite_pos {α : Type} {c : Prop} [Decidable c] {g h : Nat → Option α} {r : α} (hc : c) (H : Evt g r) : Evt (fun k => if c then g k else h k) r :=
  H.of_eq (fun k => by rw [if_pos hc])
theorem Evt.ite_neg {α : Type} {c : Prop} [Decidable c] {g h : Nat → Option α} {r : α} (hc : ¬ c) (H : Evt h r) : Evt (fun k => if c then g k else h k) r :=
  H.of_eq (fun k => by rw [if_neg hc])
theorem Evt.pred {α : Type} {g h : Nat → Option α} {r : α} (e : ∀ k, g (k + 1) = h k) (H : Evt g r) : Evt h r := by
  obtain ⟨K, hK⟩ := H
  exact ⟨K, fun k hk => (e k).symm.trans (hK (k + 1) (by omega))⟩

/-! ### lists -/
theorem rdOf_get {α : Type} (d : α) (l : List α) (i : Nat) (h : i < l.length) : rdOf d l (i : Int) = l[i] := by
  unfold rdOf
  rw [Int.toNat_natCast, List.getD_eq_getElem?_getD, List.getElem?_eq_getElem h]
  rfl
theorem rd_get (l : List Int) (i : Nat) (h : i < l.length) : rd l (i : Int) = l[i] := by
  unfold rd
  rw [Int.toNat_natCast, List.getD_eq_getElem?_getD, List.getElem?_eq_getElem h]
  rfl
theorem drop_get {α : Type} (l : List α) (i : Nat) (h : i < l.length) : l.drop i = l[i] :: l.drop (i + 1) := by simp
theorem wrap_succ (i : Nat) (h : i < 9223372036854775807) : wrap64 ((i : Int) + 1) = ((i + 1 : Nat) : Int) := by unfold wrap64; omega

/-! ### in -/
theorem in_eq (a b c : Int) : impl_in.f a b c = some (decide (b ≤ a ∧ a ≤ c)) := by
  unfold impl_in.f
  by_cases h : a ≥ b
  · rw [if_pos h]
    simp [show b ≤ a from h]
  · rw [if_neg h]
    simp [show ¬ b ≤ a from h]
theorem l1In_eq (a b c : Int) : spec_l1In.f a b c = some (decide (b ≤ a ∧ a ≤ c)) := by
  unfold spec_l1In.f
  by_cases h : a ≥ b
  · rw [if_pos h]
    simp [show b ≤ a from h]
  · rw [if_neg h]
    simp [show ¬ b ≤ a from h]

/-! ### marks -/
/-- A byte that is a mark. -/
def okc (c : UInt8) : Bool := c == 46 || c == 45
def okMarks (s : ByteArray) (lo hi : Int) : Bool := decide (lo ≤ s.size ∧ (s.size : Int) ≤ hi) && s.data.toList.all okc
theorem size_data (s : ByteArray) : s.data.toList.length = s.size := by rw [Array.length_toList]; rfl
theorem bt_get (s : ByteArray) (i : Nat) (h : i < s.size) : bt s (i : Int) = ((s.data.toList[i]'(by rw [size_data]; exact h)).toNat : Int) := by
  unfold bt
  rw [dif_pos (by simpa using h)]
  simp only [Int.toNat_natCast, Array.getElem_toList]
  rfl
theorem trim_empty (l : List UInt8) : ((Lib.trimS l [46, 45]) = []) ↔ l.all okc = true := by
  have e : ∀ c : UInt8, ([46, 45] : List UInt8).contains c = okc c := fun c => by
    simp [okc, List.contains_cons]
    rfl
  have dw : ∀ l : List UInt8, (l.dropWhile (([46, 45] : List UInt8).contains ·) = []) ↔ l.all okc = true := by
    intro l
    induction l with
    | nil => simp
    | cons c t ih =>
      rw [List.dropWhile_cons, e]
      cases h : okc c with
      | true =>
        simp only [if_true, List.all_cons, h, Bool.true_and]
        exact ih
      | false => simp [h]
  unfold Lib.trimS Lib.trimLeftS Lib.trimRightS
  rw [dw]
  have dwa : ∀ l : List UInt8, (l.dropWhile (([46, 45] : List UInt8).contains ·)).all okc = l.all okc := by
    intro l
    induction l with
    | nil => rfl
    | cons c t ih =>
      rw [List.dropWhile_cons, e]
      cases h : okc c with
      | true =>
        simp only [if_true, List.all_cons, h, Bool.true_and]
        exact ih
      | false => simp
  rw [List.all_reverse, dwa, List.all_reverse]
theorem implAreMarks_eq (s : ByteArray) (lo hi : Int) (hh : hi ≤ 9223372036854775807) : impl_areMarks.f s lo hi = some (okMarks s lo hi) := by
  unfold impl_areMarks.f okMarks
  rw [in_eq]
  simp only [Option.bind_some, decide_eq_true_eq]
  by_cases h : lo ≤ (s.size : Int) ∧ (s.size : Int) ≤ hi
  · rw [if_pos h]
    unfold strings_Trim.f
    rw [if_pos (by omega), if_pos rfl]
    simp only [Option.bind_some, h, and_self, decide_true, Bool.true_and]
    congr 1
    rw [Lib.toList_data]
    have := trim_empty s.data.toList
    cases hb : s.data.toList.all okc with
    | true => simp [this.2 hb]
    | false =>
      have : ¬ Lib.trimS s.data.toList [46, 45] = [] := fun h => by rw [this.1 h] at hb; cases hb
      simpa using this
  · rw [if_neg h]
    simp [h]
theorem drop_cons_ (l : List UInt8) (i : Nat) (h : i < l.length) : l.drop i = l[i] :: l.drop (i + 1) := by simp
/-- The reference's loop from place i on: the marks up to 'hi', then the length. -/
theorem specMarks_l0 (s : ByteArray) (lo hi : Int) (h0 : 0 ≤ hi) (hh : hi ≤ 1000000) (d : Nat) : ∀ (k i : Nat), i ≤ s.size → (i : Int) ≤ hi + 1 → (hi + 1 - i).toNat = d → 2 * d + 3 ≤ k →
    spec_l2Marks.l0 k s lo hi i = some (((s.data.toList.drop i).take d).all okc && decide (lo ≤ s.size ∧ (s.size : Int) ≤ hi)) := by
  induction d with
  | zero =>
    intro k i hi1 hi2 hd hk
    obtain ⟨k, rfl⟩ : ∃ m, k = m + 2 := ⟨k - 2, by omega⟩
    have e : (i : Int) = hi + 1 := by omega
    simp only [spec_l2Marks.l0]
    have hj : spec_l2Marks.j1 (k + 1) s lo hi i false = some (decide (lo ≤ s.size ∧ (s.size : Int) ≤ hi)) := by
      simp only [spec_l2Marks.j1]
      rw [if_neg (by simp), l1In_eq]
      rfl
    by_cases hlt : (i : Int) < (s.size : Int)
    · rw [if_pos hlt, show decide ((i : Int) ≤ hi) = false from decide_eq_false (by omega), hj]
      simp
    · rw [if_neg hlt, hj]
      simp
  | succ d ih =>
    intro k i hi1 hi2 hd hk
    obtain ⟨k, rfl⟩ : ∃ m, k = m + 2 := ⟨k - 2, by omega⟩
    simp only [spec_l2Marks.l0]
    by_cases hlt : (i : Int) < (s.size : Int)
    · rw [if_pos hlt, show decide ((i : Int) ≤ hi) = true from decide_eq_true (by omega)]
      simp only [spec_l2Marks.j1]
      rw [if_pos trivial, if_pos (by omega), if_pos hlt]
      have hl : i < s.data.toList.length := by rw [size_data]; omega
      rw [drop_cons_ _ _ hl, List.take_succ_cons, List.all_cons, bt_get s i (by omega)]
      have hw : wrap64 ((i : Int) + 1) = ((i + 1 : Nat) : Int) := by unfold wrap64; omega
      rw [hw]
      generalize s.data.toList[i] = c
      have hc : ∀ n : Nat, n < 256 → (((c.toNat : Int) = (n : Int)) ↔ c = UInt8.ofNat n) := by
        intro n hn
        constructor
        · intro h
          apply UInt8.toNat_inj.1
          simp
          omega
        · rintro rfl
          simp
          omega
      have c46 : ((c.toNat : Int) = 46) ↔ c = 46 := hc 46 (by omega)
      have c45 : ((c.toNat : Int) = 45) ↔ c = 45 := hc 45 (by omega)
      by_cases h46 : c = 46
      · subst h46
        rw [if_pos (by rfl), ih _ _ (by omega) (by omega) (by omega) (by omega)]
        rfl
      · rw [if_neg (fun h => h46 (c46.1 h))]
        by_cases h45 : c = 45
        · subst h45
          rw [if_pos (by rfl), ih _ _ (by omega) (by omega) (by omega) (by omega)]
          rfl
        · rw [if_neg (fun h => h45 (c45.1 h))]
          simp [okc, h46, h45]
    · rw [if_neg hlt]
      have hj : spec_l2Marks.j1 (k + 1) s lo hi i false = some (decide (lo ≤ s.size ∧ (s.size : Int) ≤ hi)) := by
        simp only [spec_l2Marks.j1]
        rw [if_neg (by simp), l1In_eq]
        rfl
      rw [hj, List.drop_eq_nil_of_le (by rw [size_data]; omega)]
      simp
theorem specMarks_eq (s : ByteArray) (lo hi : Int) (h0 : 0 ≤ hi) (hh : hi ≤ 1000000) (k : Nat) (hk : 2 * hi + 5 ≤ k) : spec_l2Marks.f k s lo hi = some (okMarks s lo hi) := by
  unfold spec_l2Marks.f
  have h := specMarks_l0 s lo hi h0 hh (hi + 1 - ((0 : Nat) : Int)).toNat k 0 (by omega) (by omega) rfl (by omega)
  rw [show ((0 : Nat) : Int) = 0 from rfl] at h
  rw [h]
  unfold okMarks
  congr 1
  rw [List.drop_zero, Bool.and_comm]
  by_cases hl : lo ≤ (s.size : Int) ∧ (s.size : Int) ≤ hi
  · rw [List.take_of_length_le (by rw [size_data]; omega)]
  · simp [hl]

/-! ### tolist -/
theorem toList_inj (a b : ByteArray) : a.toList = b.toList ↔ a = b := by
  rw [Lib.toList_data, Lib.toList_data]
  constructor
  · intro h
    obtain ⟨⟨l⟩⟩ := a
    obtain ⟨⟨m⟩⟩ := b
    simp only at h
    rw [h]
  · rintro rfl
    rfl

/-! ### table -/
open Classical
/-- The first place of a text in a list, from place i on; -1 for none. -/
def plc : List ByteArray → ByteArray → Nat → Int
  | [], _, _ => -1
  | x :: l, s, i => if x = s then (i : Int) else plc l s (i + 1)
theorem plc_ge (l : List ByteArray) (s : ByteArray) : ∀ i, plc l s i = -1 ∨ (i : Int) ≤ plc l s i := by
  induction l with
  | nil => exact fun i => .inl rfl
  | cons x l ih =>
    intro i
    unfold plc
    by_cases h : x = s
    · rw [if_pos h]
      exact .inr (Int.le_refl _)
    · rw [if_neg h]
      rcases ih (i + 1) with h | h
      · exact .inl h
      · right
        omega
theorem plc_none (l : List ByteArray) (s : ByteArray) : ∀ i, plc l s i = -1 ↔ s ∉ l := by
  induction l with
  | nil => intro i; simp [plc]
  | cons x l ih =>
    intro i
    unfold plc
    by_cases h : x = s
    · subst h
      rw [if_pos rfl]
      simp
    · rw [if_neg h, ih, List.mem_cons]
      constructor
      · intro hn he
        rcases he with e | e
        · exact h e.symm
        · exact hn e
      · intro hn he
        exact hn (.inr he)
theorem plc_lt (l : List ByteArray) (s : ByteArray) : ∀ i, plc l s i < ((i + l.length : Nat) : Int) := by
  induction l with
  | nil => intro i; simp [plc]; omega
  | cons x l ih =>
    intro i
    unfold plc
    by_cases h : x = s
    · rw [if_pos h]
      simp
      omega
    · rw [if_neg h]
      have := ih (i + 1)
      simp at this ⊢
      omega
theorem specPlace_l0 (l : List ByteArray) (s : ByteArray) (hl : l.length < 9223372036854775807) (d : Nat) : ∀ i, i ≤ l.length → l.length - i = d → Evt (fun k => spec_l2Place.l0 k l s i) (plc (l.drop i) s i) := by
  induction d with
  | zero =>
    intro i hi hd
    refine Evt.succ (h := fun _ => some (-1)) (fun k => ?_) ?_
    · simp only [spec_l2Place.l0]
      rw [if_neg (by omega)]
    · rw [List.drop_eq_nil_of_le (by omega)]
      exact Evt.const _
  | succ d ih =>
    intro i hi hd
    have hlt : i < l.length := by omega
    rw [drop_get l i hlt]
    unfold plc
    by_cases h : l[i] = s
    · rw [if_pos h]
      refine Evt.succ (h := fun _ => some (i : Int)) (fun k => ?_) (Evt.const _)
      simp only [spec_l2Place.l0]
      rw [if_pos (by omega), if_pos (by omega), rdOf_get _ _ _ hlt, if_pos ((toList_inj _ _).2 h)]
    · rw [if_neg h]
      refine Evt.succ (fun k => ?_) (ih (i + 1) (by omega) (by omega))
      simp only [spec_l2Place.l0]
      rw [if_pos (by omega), if_pos (by omega), rdOf_get _ _ _ hlt, if_neg (fun e => h ((toList_inj _ _).1 e)), wrap_succ i (by omega)]
theorem specPlace_evt (l : List ByteArray) (s : ByteArray) (hl : l.length < 9223372036854775807) : Evt (fun k => spec_l2Place.f k l s) (plc l s 0) :=
  (specPlace_l0 l s hl l.length 0 (by omega) (by omega)).of_eq (fun k => rfl)
theorem implIndex_l0 (l : List ByteArray) (s : ByteArray) (hl : l.length < 9223372036854775807) (d : Nat) : ∀ i, i ≤ l.length → l.length - i = d → Evt (fun k => slices_Index_string_string.l0 k l s (l.length : Int) i) (plc (l.drop i) s i) := by
  induction d with
  | zero =>
    intro i hi hd
    refine Evt.succ (h := fun _ => some (-1)) (fun k => ?_) ?_
    · simp only [slices_Index_string_string.l0]
      rw [if_neg (by omega)]
    · rw [List.drop_eq_nil_of_le (by omega)]
      exact Evt.const _
  | succ d ih =>
    intro i hi hd
    have hlt : i < l.length := by omega
    rw [drop_get l i hlt]
    unfold plc
    by_cases h : l[i] = s
    · rw [if_pos h]
      refine Evt.succ (h := fun _ => some (i : Int)) (fun k => ?_) (Evt.const _)
      simp only [slices_Index_string_string.l0]
      rw [if_pos (by omega), if_pos (by omega), if_pos (by omega), rdOf_get _ _ _ hlt, if_pos ((toList_inj _ _).2 h.symm)]
    · rw [if_neg h]
      refine Evt.succ (fun k => ?_) (ih (i + 1) (by omega) (by omega))
      simp only [slices_Index_string_string.l0]
      rw [if_pos (by omega), if_pos (by omega), if_pos (by omega), rdOf_get _ _ _ hlt, if_neg (fun e => h ((toList_inj _ _).1 e).symm), wrap_succ i (by omega)]
theorem implIndex_evt (l : List ByteArray) (s : ByteArray) (hl : l.length < 9223372036854775807) : Evt (fun k => slices_Index_string_string.f k l s) (plc l s 0) :=
  (implIndex_l0 l s hl l.length 0 (by omega) (by omega)).of_eq (fun k => rfl)
theorem implContains_evt (l : List ByteArray) (s : ByteArray) (hl : l.length < 9223372036854775807) : Evt (fun k => slices_Contains_string_string.f k l s) (decide (s ∈ l)) := by
  have h : decide (plc l s 0 ≥ 0) = decide (s ∈ l) := by
    rw [decide_eq_decide]
    have h1 := plc_none l s 0
    have h2 := plc_ge l s 0
    constructor
    · intro h
      by_cases hm : s ∈ l
      · exact hm
      · rw [h1.2 hm] at h
        omega
    · intro hm
      rcases h2 with h | h
      · exact absurd hm (h1.1 h)
      · omega
  rw [← h]
  exact Evt.bind (implIndex_evt l s hl) (Evt.const _)
/-- Is a list of marks a table? -/
noncomputable def okTable (l : List ByteArray) : Bool := decide (1 ≤ l.length ∧ l.length ≤ 10 ∧ (∀ m ∈ l, okMarks m 1 5 = true) ∧ l.Nodup)
theorem plc_first (l m : List ByteArray) (s : ByteArray) : ∀ i, plc (l ++ s :: m) s i = ((i + l.length : Nat) : Int) ↔ s ∉ l := by
  induction l with
  | nil =>
    intro i
    simp [plc]
  | cons x l ih =>
    intro i
    rw [List.cons_append]
    unfold plc
    by_cases h : x = s
    · rw [if_pos h]
      simp [h]
      omega
    · rw [if_neg h, show i + (x :: l).length = (i + 1) + l.length by simp; omega, ih, List.mem_cons]
      constructor
      · intro hn he
        rcases he with e | e
        · exact h e.symm
        · exact hn e
      · intro hn he
        exact hn (.inr he)
/-- The rest of a table is good, what stands ahead of it known. -/
noncomputable def okRest (l : List ByteArray) (i : Nat) : Bool := decide (∀ j (h : j < l.length), i ≤ j → okMarks l[j] 1 5 = true ∧ l[j] ∉ l.take j)
theorem okRest_end (l : List ByteArray) (i : Nat) (h : l.length ≤ i) : okRest l i = true := by
  unfold okRest
  rw [decide_eq_true_eq]
  intro j hj hij
  omega
theorem okRest_step (l : List ByteArray) (i : Nat) (h : i < l.length) : okRest l i = (okMarks l[i] 1 5 && (!decide (l[i] ∈ l.take i)) && okRest l (i + 1)) := by
  unfold okRest
  rw [Bool.eq_iff_iff]
  simp only [Bool.and_eq_true, decide_eq_true_eq, Bool.not_eq_true', decide_eq_false_iff_not]
  constructor
  · intro H
    exact ⟨H i h (Nat.le_refl _), fun j hj hij => H j hj (by omega)⟩
  · intro H j hj hij
    by_cases e : j = i
    · subst e
      exact H.1
    · exact H.2 j hj (by omega)
theorem okTable_eq (l : List ByteArray) : okTable l = (decide (1 ≤ l.length ∧ l.length ≤ 10) && okRest l 0) := by
  unfold okTable okRest
  rw [Bool.eq_iff_iff]
  simp only [Bool.and_eq_true, decide_eq_true_eq]
  constructor
  · rintro ⟨h1, h2, h3, h4⟩
    refine ⟨⟨h1, h2⟩, fun j hj _ => ⟨h3 _ (List.getElem_mem hj), fun hm => ?_⟩⟩
    obtain ⟨q, hq, he⟩ := List.getElem_of_mem hm
    rw [List.length_take] at hq
    rw [List.getElem_take] at he
    exact absurd ((List.getElem_inj h4).1 he) (by omega)
  · rintro ⟨⟨h1, h2⟩, h3⟩
    refine ⟨h1, h2, fun m hm => ?_, ?_⟩
    · obtain ⟨j, hj, rfl⟩ := List.getElem_of_mem hm
      exact (h3 j hj (Nat.zero_le _)).1
    · rw [List.nodup_iff_pairwise_ne, List.pairwise_iff_getElem]
      intro i j hi hj hij he
      refine (h3 j hj (Nat.zero_le _)).2 ?_
      rw [← he]
      exact List.mem_of_getElem? (i := i) (by rw [List.getElem?_take, if_pos hij, List.getElem?_eq_getElem hi])
theorem implTable_l0 (l : List ByteArray) (hl : l.length < 9223372036854775807) (d : Nat) : ∀ i, i ≤ l.length → l.length - i = d → Evt (fun k => impl_isTable.l0 k l (l.length : Int) i l) (decide (1 ≤ l.length ∧ l.length ≤ 10) && okRest l i) := by
  induction d with
  | zero =>
    intro i hi hd
    refine Evt.succ (h := fun _ => some (decide (1 ≤ (l.length : Int) ∧ (l.length : Int) ≤ 10))) (fun k => ?_) ?_
    · simp only [impl_isTable.l0]
      rw [if_neg (by omega), in_eq]
      rfl
    · rw [okRest_end l i (by omega), Bool.and_true, show decide (1 ≤ (l.length : Int) ∧ (l.length : Int) ≤ 10) = decide (1 ≤ l.length ∧ l.length ≤ 10) by rw [decide_eq_decide]; omega]
      exact Evt.const _
  | succ d ih =>
    intro i hi hd
    have hlt : i < l.length := by omega
    rw [okRest_step l i hlt]
    have hc := implContains_evt (l.take i) l[i] (by rw [List.length_take]; omega)
    refine Evt.succ (h := fun k => if okMarks l[i] 1 5 = true then ((slices_Contains_string_string.f k (l.take i) l[i]).bind fun t => if t = true then some false else impl_isTable.l0 k l (l.length : Int) ((i + 1 : Nat) : Int) l) else some false) (fun k => ?_) ?_
    · simp only [impl_isTable.l0]
      rw [if_pos (by omega), if_pos (by omega), if_pos (by omega), rdOf_get _ _ _ hlt, wrap_succ i (by omega), if_pos (by omega)]
      unfold impl_isLetterMarks.f
      rw [implAreMarks_eq _ 1 5 (by omega)]
      rfl
    · by_cases hm : okMarks l[i] 1 5 = true
      · refine Evt.ite_pos hm (Evt.bind hc ?_)
        by_cases hin : l[i] ∈ l.take i
        · refine Evt.ite_pos (by simpa using hin) ?_
          simp [hin]
          exact Evt.const _
        · refine Evt.ite_neg (by simpa using hin) ?_
          simp only [hm, hin, decide_false, Bool.not_false, Bool.true_and, Bool.and_self]
          exact ih (i + 1) (by omega) (by omega)
      · refine Evt.ite_neg hm ?_
        simp [hm]
        exact Evt.const _
theorem implTable_evt (l : List ByteArray) (hl : l.length < 9223372036854775807) : Evt (fun k => impl_isTable.f k l) (okTable l) := by
  rw [okTable_eq]
  exact (implTable_l0 l hl l.length 0 (by omega) (by omega)).of_eq (fun k => rfl)
theorem specTable_l0 (l : List ByteArray) (hl : l.length < 9223372036854775807) (d : Nat) : ∀ i, i ≤ l.length → l.length - i = d → Evt (fun k => spec_l2Table.l0 k i l) (okRest l i) := by
  induction d with
  | zero =>
    intro i hi hd
    refine Evt.succ (h := fun _ => some true) (fun k => ?_) ?_
    · simp only [spec_l2Table.l0]
      rw [if_neg (by omega)]
    · rw [okRest_end l i (by omega)]
      exact Evt.const _
  | succ d ih =>
    intro i hi hd
    have hlt : i < l.length := by omega
    rw [okRest_step l i hlt]
    have hp := specPlace_evt l l[i] hl
    have hf : plc l l[i] 0 = (i : Int) ↔ l[i] ∉ l.take i := by
      have h := plc_first (l.take i) (l.drop (i + 1)) l[i] 0
      rw [← drop_get l i hlt, List.take_append_drop, List.length_take, Nat.min_eq_left (by omega), Nat.zero_add] at h
      exact h
    have hmk : Evt (fun k => spec_l2Marks.f k l[i] 1 5) (okMarks l[i] 1 5) := ⟨20, fun k hk => specMarks_eq _ 1 5 (by omega) (by omega) k (by omega)⟩
    refine Evt.succ (h := fun k => (spec_l2Marks.f k l[i] 1 5).bind fun t => if t = true then ((spec_l2Place.f k l l[i]).bind fun t => if t = (i : Int) then spec_l2Table.l0 k ((i + 1 : Nat) : Int) l else some false) else some false) (fun k => ?_) ?_
    · simp only [spec_l2Table.l0]
      rw [if_pos (by omega), if_pos (by omega), rdOf_get _ _ _ hlt, wrap_succ i (by omega)]
    · refine Evt.bind hmk ?_
      by_cases hm : okMarks l[i] 1 5 = true
      · refine Evt.ite_pos hm (Evt.bind hp ?_)
        by_cases hin : l[i] ∈ l.take i
        · refine Evt.ite_neg (fun e => (hf.1 e) hin) ?_
          simp [hin]
          exact Evt.const _
        · refine Evt.ite_pos (hf.2 hin) ?_
          simp only [hm, hin, decide_false, Bool.not_false, Bool.true_and, Bool.and_self]
          exact ih (i + 1) (by omega) (by omega)
      · refine Evt.ite_neg hm ?_
        simp [hm]
        exact Evt.const _
theorem specTable_evt (l : List ByteArray) (hl : l.length < 9223372036854775807) : Evt (fun k => spec_l2Table.f k l) (okTable l) := by
  rw [okTable_eq]
  refine Evt.of_eq (h := fun k => if decide (1 ≤ (l.length : Int) ∧ (l.length : Int) ≤ 10) = true then spec_l2Table.l0 k ((0 : Nat) : Int) l else some false) (fun k => ?_) ?_
  · unfold spec_l2Table.f
    rw [l1In_eq]
    rfl
  · by_cases h : 1 ≤ l.length ∧ l.length ≤ 10
    · refine Evt.ite_pos (by simp; omega) ?_
      simp only [h, and_self, decide_true, Bool.true_and]
      exact specTable_l0 l hl l.length 0 (by omega) (by omega)
    · refine Evt.ite_neg (by simp; omega) ?_
      simp [h]
      exact Evt.const _

/-! ### lawtable -/
/-- The law's own looks at a table: its weight, a copy, and whether it is as it was. -/
theorem szStringS_l0 (l : List ByteArray) (hl : l.length ≤ 1048576) (hs : ∀ m ∈ l, m.size ≤ 9223372036854775807) (d : Nat) : ∀ (i : Nat) (a : Int), i ≤ l.length → l.length - i = d → 0 ≤ a → a ≤ 1048576 → ∃ t, Evt (fun k => laws_szStringS.l0 k l a i) t := by
  induction d with
  | zero =>
    intro i a hi hd h0 h1
    refine ⟨a, Evt.succ (h := fun _ => some a) (fun k => ?_) (Evt.const _)⟩
    simp only [laws_szStringS.l0]
    rw [if_neg (by omega)]
  | succ d ih =>
    intro i a hi hd h0 h1
    have hlt : i < l.length := by omega
    have hsz := hs l[i] (List.getElem_mem hlt)
    have hw : wrap64 (a - (l[i].size : Int)) = a - (l[i].size : Int) := by unfold wrap64; omega
    by_cases h : a - (l[i].size : Int) < 0
    · refine ⟨-1, Evt.succ (h := fun _ => some (-1)) (fun k => ?_) (Evt.const _)⟩
      simp only [laws_szStringS.l0]
      rw [if_pos (by omega), if_pos (by omega), rdOf_get _ _ _ hlt, hw, if_pos h]
    · obtain ⟨t, ht⟩ := ih (i + 1) (a - (l[i].size : Int)) (by omega) (by omega) (by omega) (by omega)
      refine ⟨t, Evt.succ (fun k => ?_) ht⟩
      simp only [laws_szStringS.l0]
      rw [if_pos (by omega), if_pos (by omega), rdOf_get _ _ _ hlt, hw, if_neg h, wrap_succ i (by omega)]
theorem szStringS_evt (l : List ByteArray) (b : Int) (hb : 0 ≤ b) (hb2 : b ≤ 1048576) (h : l.length ≤ 9223372036854775807) (hs : ∀ m ∈ l, m.size ≤ 9223372036854775807) : ∃ t, Evt (fun k => laws_szStringS.f k l b) t ∧ (t < 0 ∨ l.length ≤ 1048576) := by
  have hw : wrap64 (b - (l.length : Int)) = b - (l.length : Int) := by unfold wrap64; omega
  by_cases hn : b - (l.length : Int) < 0
  · refine ⟨-1, (Evt.const (-1)).of_eq (fun k => ?_), .inl (by omega)⟩
    unfold laws_szStringS.f
    rw [hw, if_pos hn]
  · obtain ⟨t, ht⟩ := szStringS_l0 l (by omega) hs l.length 0 (b - (l.length : Int)) (by omega) (by omega) (by omega) (by omega)
    refine ⟨t, ht.of_eq (fun k => ?_), .inr (by omega)⟩
    unfold laws_szStringS.f
    rw [hw, if_neg hn]
    rfl
theorem toStringS_l0 (l : List ByteArray) (hl : l.length ≤ 1048576) (d : Nat) : ∀ (i : Nat) (x : List ByteArray), i ≤ l.length → l.length - i = d → x.length = l.length → x.take i = l.take i → Evt (fun k => laws_toStringS.l0 k l x i) l := by
  induction d with
  | zero =>
    intro i x hi hd hx ht
    have e : x = l := by
      have h1 : i = l.length := by omega
      rw [h1, List.take_length, ← hx, List.take_length] at ht
      exact ht
    subst e
    refine Evt.succ (h := fun _ => some x) (fun k => ?_) (Evt.const _)
    simp only [laws_toStringS.l0]
    rw [if_neg (by omega)]
  | succ d ih =>
    intro i x hi hd hx ht
    have hlt : i < l.length := by omega
    refine Evt.succ (fun k => ?_) (ih (i + 1) (x.set i l[i]) (by omega) (by omega) (by rw [List.length_set]; exact hx) ?_)
    · simp only [laws_toStringS.l0]
      rw [if_pos (by omega), if_pos (by omega), if_pos (by omega), rdOf_get _ _ _ hlt, wrap_succ i (by omega), Int.toNat_natCast]
    · rw [List.take_succ_eq_append_getElem (by rw [List.length_set]; omega), List.take_succ_eq_append_getElem hlt, List.take_set_of_le (by omega), ht, List.getElem_set_self]
theorem toStringS_evt (l : List ByteArray) (hl : l.length ≤ 1048576) : Evt (fun k => laws_toStringS.f k l) l := by
  refine (toStringS_l0 l hl l.length 0 (List.replicate l.length (⟨#[]⟩ : ByteArray)) (by omega) (by omega) (by simp) rfl).of_eq (fun k => ?_)
  unfold laws_toStringS.f
  rw [if_pos (by omega), Int.toNat_natCast, if_pos (by omega)]
  rfl
theorem eqStringS_l0 (l : List ByteArray) (hl : l.length ≤ 1048576) (d : Nat) : ∀ (i : Nat), i ≤ l.length → l.length - i = d → Evt (fun k => laws_eqStringS.l0 k l l i) true := by
  induction d with
  | zero =>
    intro i hi hd
    refine Evt.succ (h := fun _ => some true) (fun k => ?_) (Evt.const _)
    simp only [laws_eqStringS.l0]
    rw [if_neg (by omega)]
  | succ d ih =>
    intro i hi hd
    refine Evt.succ (fun k => ?_) (ih (i + 1) (by omega) (by omega))
    simp only [laws_eqStringS.l0]
    rw [if_pos (by omega), if_pos (by omega), if_pos (by omega), if_pos trivial, wrap_succ i (by omega)]
theorem eqStringS_evt (l : List ByteArray) (hl : l.length ≤ 1048576) : Evt (fun k => laws_eqStringS.f k l l) true := by
  refine (eqStringS_l0 l hl l.length 0 (by omega) (by omega)).of_eq (fun k => ?_)
  unfold laws_eqStringS.f
  rw [if_pos rfl]
  rfl
theorem eqTable_evt (l : List ByteArray) (hl : l.length ≤ 1048576) : Evt (fun k => laws_eqTable.f k l l) true :=
  Evt.bind (eqStringS_evt l hl) (Evt.ite_pos rfl (Evt.const _))
theorem of_table (l : List ByteArray) (h : okTable l = true) : 1 ≤ l.length ∧ l.length ≤ 10 ∧ (∀ m ∈ l, okMarks m 1 5 = true) ∧ l.Nodup := by
  unfold okTable at h
  rw [decide_eq_true_eq] at h
  exact h
theorem len_wrap (l : List ByteArray) (h : l.length ≤ 1048576) : wrap64 ((l.length : Int) - 1) = (l.length : Int) - 1 := by
  unfold wrap64
  omega
theorem isLetter_len (l : List ByteArray) (h : okTable l = true) : wrap64 ((l.length : Int) - 1) = (l.length : Int) - 1 := by
  have := of_table l h
  unfold wrap64
  omega

/-! ### marksIntS -/
/-- The law's own looks at a row of whole numbers. -/
theorem rd_nat (l : List Int) (i : Nat) (h : i < l.length) : rd l (i : Int) = l[i] := by
  unfold rd
  rw [Int.toNat_natCast, List.getD_eq_getElem?_getD, List.getElem?_eq_getElem h]
  rfl
theorem eqIntS_l0 (l : List Int) (hl : l.length ≤ 1099511627776) (d : Nat) : ∀ (i : Nat), i ≤ l.length → l.length - i = d → Evt (fun k => laws_eqIntS.l0 k l l i) true := by
  induction d with
  | zero =>
    intro i hi hd
    refine Evt.succ (h := fun _ => some true) (fun k => ?_) (Evt.const _)
    simp only [laws_eqIntS.l0]
    rw [if_neg (by omega)]
  | succ d ih =>
    intro i hi hd
    refine Evt.succ (fun k => ?_) (ih (i + 1) (by omega) (by omega))
    simp only [laws_eqIntS.l0]
    rw [if_pos (by omega), if_pos (by omega), if_pos (by omega), if_pos trivial, wrap_succ i (by omega)]
theorem eqIntS_evt (l : List Int) (hl : l.length ≤ 1099511627776) : Evt (fun k => laws_eqIntS.f k l l) true := by
  refine (eqIntS_l0 l hl l.length 0 (by omega) (by omega)).of_eq (fun k => ?_)
  unfold laws_eqIntS.f
  rw [if_pos rfl]
  rfl
def markInts (n : Nat) : List Int := (List.range n).map fun i => ((1 + i : Nat) : Int)
theorem markInts_len (n : Nat) : (markInts n).length = n := by unfold markInts; rw [List.length_map, List.length_range]
theorem markInts_get (n i : Nat) (h : i < (markInts n).length) : (markInts n)[i] = ((1 + i : Nat) : Int) := by
  simp only [markInts, List.getElem_map, List.getElem_range]
theorem markIntS_l0 (n : Nat) (hl : n ≤ 1099511627776) (d : Nat) : ∀ (i : Nat) (x : List Int), i ≤ n → n - i = d → x.length = n → x.take i = (markInts n).take i → Evt (fun k => laws_markIntS.l0 k x ((1 + i : Nat) : Int) i) (((1 + n : Nat) : Int), markInts n) := by
  induction d with
  | zero =>
    intro i x hi hd hx ht
    have e : x = markInts n := by
      have h1 : i = n := by omega
      have h2 := markInts_len n
      rw [h1, List.take_of_length_le (by omega), List.take_of_length_le (by omega)] at ht
      exact ht
    subst e
    refine Evt.succ (h := fun _ => some (((1 + n : Nat) : Int), markInts n)) (fun k => ?_) (Evt.const _)
    obtain rfl : i = n := by omega
    simp only [laws_markIntS.l0]
    rw [if_neg (by omega)]
  | succ d ih =>
    intro i x hi hd hx ht
    have h2 := markInts_len n
    refine Evt.succ (fun k => ?_) (ih (i + 1) (x.set i ((1 + i : Nat) : Int)) (by omega) (by omega) (by rw [List.length_set]; exact hx) ?_)
    · simp only [laws_markIntS.l0]
      rw [if_pos (by omega), if_pos (by omega), wrap_succ i (by omega), wrap_succ (1 + i) (by omega), Int.toNat_natCast]
      rfl
    · rw [List.take_succ_eq_append_getElem (by rw [List.length_set]; omega), List.take_succ_eq_append_getElem (by omega), List.take_set_of_le (by omega), ht, List.getElem_set_self, markInts_get]
theorem markIntS_evt (l : List Int) (hl : l.length ≤ 1099511627776) : Evt (fun k => laws_markIntS.f k l 1) (((1 + l.length : Nat) : Int), markInts l.length) :=
  markIntS_l0 l.length hl l.length 0 l (by omega) (by omega) rfl rfl

/-! ### toints -/
/-- The law's copy of a row of whole numbers. -/
theorem toIntS_l0 (l : List Int) (hl : l.length ≤ 1048576) (d : Nat) : ∀ (i : Nat) (x : List Int), i ≤ l.length → l.length - i = d → x.length = l.length → x.take i = l.take i → Evt (fun k => laws_toIntS.l0 k l x i) l := by
  induction d with
  | zero =>
    intro i x hi hd hx ht
    have e : x = l := by
      have h1 : i = l.length := by omega
      rw [h1, List.take_length, ← hx, List.take_length] at ht
      exact ht
    subst e
    refine Evt.succ (h := fun _ => some x) (fun k => ?_) (Evt.const _)
    rw [laws_toIntS.l0, if_neg (by omega)]
  | succ d ih =>
    intro i x hi hd hx ht
    have hlt : i < l.length := by omega
    refine Evt.succ (fun k => ?_) (ih (i + 1) (x.set i l[i]) (by omega) (by omega) (by rw [List.length_set]; exact hx) ?_)
    · rw [laws_toIntS.l0, if_pos (by omega), if_pos (by omega), if_pos (by omega), rd_nat _ _ hlt, wrap_succ i (by omega), Int.toNat_natCast]
    · rw [List.take_succ_eq_append_getElem (by rw [List.length_set]; omega), List.take_succ_eq_append_getElem hlt, List.take_set_of_le (by omega), ht, List.getElem_set_self]
theorem toIntS_evt (l : List Int) (hl : l.length ≤ 1048576) : Evt (fun k => laws_toIntS.f k l) l := by
  refine (toIntS_l0 l hl l.length 0 (List.replicate l.length 0) (by omega) (by omega) (by simp) rfl).of_eq (fun k => ?_)
  unfold laws_toIntS.f
  rw [if_pos (by omega), Int.toNat_natCast, if_pos (by omega)]
  rfl

/-! ### weights -/
/-- Weights: the program's look and the reference's. -/
def okW (l : List Int) : Bool := decide (1 ≤ l.length ∧ l.length ≤ 10) && !l.any (fun x => !decide (0 ≤ x ∧ x ≤ 99))
theorem implWeights_eq (l : List Int) (hl : l.length ≤ 1048576) : impl_areWeights.f l = some (okW l) := by
  unfold impl_areWeights.f okW
  rw [if_pos (by omega)]
theorem okW_eq (l : List Int) (i : Nat) (hi : i < l.length) : (!(l.drop i).any (fun x => !decide (0 ≤ x ∧ x ≤ 99))) = (decide (0 ≤ l[i] ∧ l[i] ≤ 99) && !(l.drop (i + 1)).any (fun x => !decide (0 ≤ x ∧ x ≤ 99))) := by
  have : l.drop i = l[i] :: l.drop (i + 1) := by simp
  rw [this, List.any_cons, Bool.not_or, Bool.not_not]
theorem specWeights_l0 (l : List Int) (hl : l.length ≤ 1048576) (d : Nat) : ∀ i, i ≤ l.length → l.length - i = d → (i ≤ 10 ∨ 10 < l.length) → i ≤ 11 → Evt (fun k => spec_l8Weights.l0 k l i) (decide (1 ≤ l.length ∧ l.length ≤ 10) && !(l.drop i).any (fun x => !decide (0 ≤ x ∧ x ≤ 99))) := by
  have fin : ∀ i : Nat, (10 < i ∨ i = l.length) → i ≤ l.length → Evt (fun k => spec_l8Weights.j1 k l i false) (decide (1 ≤ l.length ∧ l.length ≤ 10) && !(l.drop i).any (fun x => !decide (0 ≤ x ∧ x ≤ 99))) := by
    intro i hi hi'
    refine Evt.succ (h := fun _ => some (decide (1 ≤ (l.length : Int) ∧ (l.length : Int) ≤ 10))) (fun k => by rw [spec_l8Weights.j1, if_neg (by simp), l1In_eq]; rfl) ?_
    have e : decide (1 ≤ (l.length : Int) ∧ (l.length : Int) ≤ 10) = (decide (1 ≤ l.length ∧ l.length ≤ 10) && !(l.drop i).any (fun x => !decide (0 ≤ x ∧ x ≤ 99))) := by
      by_cases h : l.length ≤ 10
      · have : l.drop i = [] := List.drop_eq_nil_of_le (by omega)
        rw [this, List.any_nil, Bool.not_false, Bool.and_true, Bool.eq_iff_iff, decide_eq_true_eq, decide_eq_true_eq]
        omega
      · rw [decide_eq_false (show ¬ (1 ≤ (l.length : Int) ∧ (l.length : Int) ≤ 10) by omega), decide_eq_false (show ¬ (1 ≤ l.length ∧ l.length ≤ 10) by omega), Bool.false_and]
    rw [e]
    exact Evt.const _
  induction d with
  | zero =>
    intro i hi hd _ _
    exact Evt.succ (fun k => by rw [spec_l8Weights.l0, if_neg (by omega)]) (fin i (.inr (by omega)) hi)
  | succ d ih =>
    intro i hi hd hor h11
    by_cases h : i ≤ 10
    · have li : i < l.length := by omega
      rw [okW_eq l i li]
      refine Evt.succ (fun k => by rw [spec_l8Weights.l0, if_pos (by omega), decide_eq_true (show (i : Int) ≤ 10 by omega)]) ?_
      refine Evt.succ (h := fun k => if decide (0 ≤ l[i] ∧ l[i] ≤ 99) = true then spec_l8Weights.l0 k l ((i + 1 : Nat) : Int) else some false) (fun k => ?_) ?_
      · rw [spec_l8Weights.j1, if_pos rfl, if_pos (by omega), if_pos (by omega), l1In_eq, rd_nat _ _ li, wrap_succ i (by omega)]
        rfl
      · cases hc : decide (0 ≤ l[i] ∧ l[i] ≤ 99) with
        | true =>
          rw [Bool.true_and]
          exact Evt.ite_pos rfl (ih (i + 1) (by omega) (by omega) (by omega) (by omega))
        | false =>
          rw [Bool.false_and, Bool.and_false]
          exact Evt.ite_neg (by simp) (Evt.const _)
    · exact Evt.succ (fun k => by rw [spec_l8Weights.l0, if_pos (by omega), decide_eq_false (show ¬ (i : Int) ≤ 10 by omega)]) (fin i (.inl (by omega)) hi)
theorem specWeights_evt (l : List Int) (hl : l.length ≤ 1048576) : Evt (fun k => spec_l8Weights.f k l) (okW l) :=
  specWeights_l0 l hl l.length 0 (by omega) (by omega) (by omega) (by omega)
noncomputable def fits (t : List ByteArray) (l : List Int) : Bool := okTable t && okW l && decide (t.length = l.length)
theorem of_fits (t : List ByteArray) (l : List Int) (h : fits t l = true) : okTable t = true ∧ okW l = true ∧ t.length = l.length := by
  unfold fits at h
  simp only [Bool.and_eq_true, decide_eq_true_eq] at h
  exact ⟨h.1.1, h.1.2, h.2⟩

/-! ### time -/
/-- How long a letter takes. -/
def timeN (s : ByteArray) : Int := 2 * (s.size : Int) - 1 + 2 * (s.data.toList.count 45 : Int)
theorem specTime_l0 (s : ByteArray) (hs : s.size ≤ 1000) (d : Nat) : ∀ (i v : Nat), i ≤ s.size → s.size - i = d → v ≤ 5000 + 3 * i → Evt (fun k => spec_l2Time.l0 k s v i) ((v + (s.size - i) + 2 * (s.data.toList.drop i).count 45 : Nat) : Int) := by
  have hsz := size_data s
  induction d with
  | zero =>
    intro i v hi hd hv
    rw [List.drop_eq_nil_of_le (by omega), show v + (s.size - i) + 2 * List.count (45 : UInt8) [] = v by rw [List.count_nil]; omega]
    exact Evt.succ (fun k => by rw [spec_l2Time.l0, if_neg (by omega)]) (Evt.const _)
  | succ d ih =>
    intro i v hi hd hv
    have li : i < s.data.toList.length := by omega
    rw [drop_cons_ _ i li, List.count_cons]
    have e1 := bt_get s i (by omega)
    by_cases h : bt s (i : Int) = 45
    · have hb : s.data.toList[i] = 45 := by
        rw [e1] at h
        exact UInt8.toNat_inj.1 (by rw [show (45 : UInt8).toNat = 45 from rfl]; omega)
      have w : wrap64 (wrap64 ((v : Int) + 1) + 2) = ((v + 3 : Nat) : Int) := by unfold wrap64; omega
      rw [hb, if_pos (by rfl), show v + (s.size - i) + 2 * (List.count 45 (List.drop (i + 1) s.data.toList) + 1) = (v + 3) + (s.size - (i + 1)) + 2 * List.count 45 (List.drop (i + 1) s.data.toList) by omega]
      exact Evt.succ (fun k => by rw [spec_l2Time.l0, if_pos (by omega), if_pos (by omega), if_pos h, w, wrap_succ i (by omega)]) (ih (i + 1) (v + 3) (by omega) (by omega) (by omega))
    · have hb : (s.data.toList[i] == 45) = false := by
        rw [beq_eq_false_iff_ne]
        intro q
        rw [e1, q] at h
        exact h rfl
      have w : wrap64 ((v : Int) + 1) = ((v + 1 : Nat) : Int) := wrap_succ v (by omega)
      rw [hb, if_neg (by simp), show v + (s.size - i) + 2 * (List.count 45 (List.drop (i + 1) s.data.toList) + 0) = (v + 1) + (s.size - (i + 1)) + 2 * List.count 45 (List.drop (i + 1) s.data.toList) by omega]
      exact Evt.succ (fun k => by rw [spec_l2Time.l0, if_pos (by omega), if_pos (by omega), if_neg h, w, wrap_succ i (by omega)]) (ih (i + 1) (v + 1) (by omega) (by omega) (by omega))
theorem specTime_evt (s : ByteArray) (hs : s.size ≤ 1000) (h1 : 1 ≤ s.size) : Evt (fun k => spec_l2Time.f k s) (timeN s) := by
  have e : spec_l1Most.f 0 (wrap64 ((s.size : Int) - 1)) = some ((s.size - 1 : Nat) : Int) := by
    have w : wrap64 ((s.size : Int) - 1) = ((s.size - 1 : Nat) : Int) := by unfold wrap64; omega
    rw [w]
    unfold spec_l1Most.f
    by_cases h : (0 : Int) > ((s.size - 1 : Nat) : Int)
    · omega
    · rw [if_neg h]
  have := specTime_l0 s hs s.size 0 (s.size - 1) (by omega) (by omega) (by omega)
  rw [List.drop_zero] at this
  refine (Evt.bind (a := ((s.size - 1 : Nat) : Int)) (h := fun k x => spec_l2Time.l0 k s x 0) ((Evt.const _).of_eq (fun k => e)) ?_)
  unfold timeN
  rw [show 2 * (s.size : Int) - 1 + 2 * (s.data.toList.count 45 : Int) = ((s.size - 1 + (s.size - 0) + 2 * s.data.toList.count 45 : Nat) : Int) by omega]
  exact this
theorem implTime_evt (s : ByteArray) (hs : s.size ≤ 1000) : Evt (fun k => impl_timeOf.f s) (timeN s) := by
  have hc : s.data.toList.count 45 ≤ s.size := by
    have := List.count_le_length (a := (45 : UInt8)) (l := s.data.toList)
    rw [size_data] at this
    exact this
  have e : strings_Count.f s (⟨#[45]⟩ : ByteArray) = some ((s.data.toList.count 45 : Nat) : Int) := by
    unfold strings_Count.f
    rw [if_pos (by rfl)]
    rfl
  refine (Evt.const _).of_eq (fun k => ?_)
  unfold impl_timeOf.f timeN
  rw [e, Option.bind_some]
  congr 1
  generalize s.data.toList.count 45 = c at *
  unfold wrap64
  omega
theorem okSize (t : List ByteArray) (h : okTable t = true) (i : Nat) (hi : i < t.length) : 1 ≤ (rdOf ByteArray.empty t (i : Int)).size ∧ (rdOf ByteArray.empty t (i : Int)).size ≤ 5 := by
  rw [rdOf_get _ t i hi]
  have := (of_table t h).2.2.1 _ (List.getElem_mem hi)
  simp only [okMarks, Bool.and_eq_true, decide_eq_true_eq] at this
  omega

/-! ### cost -/

/-! ### bytime -/
theorem compare_eq (a b : Int) : cmp_Compare_int.f a b = some (if a < b then -1 else if a > b then 1 else 0) := by
  unfold cmp_Compare_int.f cmp_isNaN_int.f
  simp
  by_cases h : a < b
  · rw [if_pos h, if_pos h]
  · rw [if_neg h, if_neg h]
    by_cases h2 : b < a
    · rw [if_pos h2, if_pos h2]
    · rw [if_neg h2, if_neg h2]
theorem or_evt (p q r : Int) : Evt (fun k => cmp_Or_int.f k [p, q, r]) (if p = 0 then (if q = 0 then r else q) else p) := by
  have e : ∀ k (i : Nat), i < 3 → cmp_Or_int.l0 (k + 1) 0 [p, q, r] 3 (i : Int) = if (rd [p, q, r] (i : Int)) = 0 then cmp_Or_int.l0 k 0 [p, q, r] 3 ((i + 1 : Nat) : Int) else some (rd [p, q, r] (i : Int)) := by
    intro k i h
    have c1 : (i : Int) < 3 := by omega
    have c2 : (0 : Int) ≤ (i : Int) := by omega
    have c3 : (i : Int) < (([p, q, r] : List Int).length : Int) := c1
    have w : wrap64 ((i : Int) + 1) = ((i + 1 : Nat) : Int) := wrap_succ i (by omega)
    rw [cmp_Or_int.l0, if_pos c1, if_pos c2, if_pos c3, w]
  show Evt (fun k => cmp_Or_int.l0 k 0 [p, q, r] 3 ((0 : Nat) : Int)) _
  refine Evt.succ (fun k => e k 0 (by decide)) ?_
  by_cases h : p = 0
  · rw [if_pos h]
    refine Evt.ite_pos h (Evt.succ (fun k => e k 1 (by decide)) ?_)
    by_cases h2 : q = 0
    · rw [if_pos h2]
      refine Evt.ite_pos h2 (Evt.succ (fun k => e k 2 (by decide)) ?_)
      by_cases h3 : r = 0
      · refine Evt.ite_pos h3 (Evt.succ (h := fun k => some 0) (fun k => ?_) ?_)
        · rw [cmp_Or_int.l0, if_neg (by decide)]
        · rw [h3]
          exact Evt.const _
      · exact Evt.ite_neg h3 (Evt.const _)
    · rw [if_neg h2]
      exact Evt.ite_neg h2 (Evt.const _)
  · rw [if_neg h]
    exact Evt.ite_neg h (Evt.const _)
/-- A mark's other. -/
def sw (c : UInt8) : UInt8 := UInt8.ofNat (opp_.fin c.toNat)
/-- Of two marks' texts alike in length: does the first stand ahead. -/
def lb : List UInt8 → List UInt8 → Bool
  | x :: a, y :: b => if x = y then lb a b else x == 46
  | _, _ => false
theorem lb_cmp : ∀ (a b : List UInt8), a.length = b.length → a.all okc = true → b.all okc = true → decide (Lib.compareBytes (a.map sw) (b.map sw) < 0) = lb a b
  | [], [], _, _, _ => rfl
  | x :: a, y :: b, hl, ha, hb => by
    rw [List.all_cons, Bool.and_eq_true] at ha hb
    have ih := lb_cmp a b (by simpa using hl) ha.2 hb.2
    have hx : x = 46 ∨ x = 45 := by simpa [okc] using ha.1
    have hy : y = 46 ∨ y = 45 := by simpa [okc] using hb.1
    rw [List.map_cons, List.map_cons, Lib.compareBytes, lb]
    rcases hx with rfl | rfl <;> rcases hy with rfl | rfl
    · rw [if_neg (by decide), if_neg (by decide), if_pos rfl]
      exact ih
    · rw [if_pos (by decide), if_neg (by decide)]
      rfl
    · rw [if_neg (by decide), if_pos (by decide), if_neg (by decide)]
      rfl
    · rw [if_neg (by decide), if_neg (by decide), if_pos rfl]
      exact ih
theorem opposite_eq (s : ByteArray) (hs : s.size ≤ 1000) (h : s.data.toList.all okc = true) : impl_opposite.f s = some ⟨(s.data.toList.map sw).toArray⟩ := by
  unfold impl_opposite.f
  have h' : (s.data.toList.all fun c => c == 45 || c == 46) = true := by
    rw [← h]
    congr 1
    funext c
    rw [okc, Bool.or_comm]
  rw [if_pos ⟨by omega, h'⟩]
  rfl
/-- The order of two letters' marks: below nought, the first stands ahead. -/
def byt (a b : ByteArray) : Int := if timeN a = timeN b then (if a.size = b.size then Lib.compareBytes (a.data.toList.map sw) (b.data.toList.map sw) else if a.size < b.size then -1 else 1) else if timeN a < timeN b then -1 else 1
theorem byTime_evt (a b : ByteArray) (ha : okMarks a 1 5 = true) (hb : okMarks b 1 5 = true) : Evt (fun k => impl_byTime.f k a b) (byt a b) := by
  simp only [okMarks, Bool.and_eq_true, decide_eq_true_eq] at ha hb
  obtain ⟨⟨a1, a2⟩, a3⟩ := ha
  obtain ⟨⟨b1, b2⟩, b3⟩ := hb
  have sa : a.size ≤ 1000 := by omega
  have sb : b.size ≤ 1000 := by omega
  unfold impl_byTime.f
  refine Evt.bind (implTime_evt a sa) (Evt.bind (implTime_evt b sb) ?_)
  refine Evt.bind ((Evt.const _).of_eq fun k => compare_eq _ _) (Evt.bind ((Evt.const _).of_eq fun k => compare_eq _ _) ?_)
  refine Evt.bind ((Evt.const _).of_eq fun k => opposite_eq a sa a3) (Evt.bind ((Evt.const _).of_eq fun k => opposite_eq b sb b3) ?_)
  refine Evt.bind ((Evt.const _).of_eq fun k => rfl) (Evt.bind (or_evt _ _ _) ?_)
  refine (Evt.const _).of_eq fun k => ?_
  congr 1
  unfold byt
  by_cases h1 : timeN a = timeN b
  · rw [if_pos h1, h1, if_neg (Int.lt_irrefl _), if_neg (Int.lt_irrefl _), if_pos rfl]
    by_cases h2 : a.size = b.size
    · rw [if_pos h2, h2, if_neg (Int.lt_irrefl _), if_neg (Int.lt_irrefl _), if_pos rfl]
    · rw [if_neg h2]
      by_cases h3 : a.size < b.size
      · have h3' : (a.size : Int) < (b.size : Int) := Int.ofNat_lt.2 h3
        rw [if_pos h3, if_pos h3', if_neg (by decide)]
      · have h3' : ¬ (a.size : Int) < (b.size : Int) := fun h => h3 (Int.ofNat_lt.1 h)
        have h4 : (a.size : Int) > (b.size : Int) := by omega
        rw [if_neg h3, if_neg h3', if_pos h4, if_neg (by decide)]
  · rw [if_neg h1]
    by_cases h3 : timeN a < timeN b
    · rw [if_pos h3, if_pos h3, if_neg (by decide)]
    · have h4 : timeN a > timeN b := by omega
      rw [if_neg h3, if_neg h3, if_pos h4, if_neg (by decide)]
theorem before_l0 (a b : ByteArray) (hs : a.size ≤ 1000) (he : a.size = b.size) (d : Nat) : ∀ i : Nat, i ≤ a.size → a.size - i = d → Evt (fun k => spec_l8Before.l0 k a b i) (lb (a.data.toList.drop i) (b.data.toList.drop i)) := by
  have sa := size_data a
  have sb := size_data b
  induction d with
  | zero =>
    intro i hi hd
    have c1 : ¬ (i : Int) < (a.size : Int) := by omega
    rw [List.drop_eq_nil_of_le (by omega)]
    exact Evt.succ (h := fun _ => some false) (fun k => by rw [spec_l8Before.l0, if_neg c1]) (Evt.const _)
  | succ d ih =>
    intro i hi hd
    have c1 : (i : Int) < (a.size : Int) := by omega
    have c2 : (0 : Int) ≤ (i : Int) := by omega
    have c3 : (i : Int) < (b.size : Int) := by omega
    have l1 : i < a.data.toList.length := by omega
    have l2 : i < b.data.toList.length := by omega
    have w : wrap64 ((i : Int) + 1) = ((i + 1 : Nat) : Int) := wrap_succ i (by omega)
    have ea := bt_get a i (by omega)
    have eb := bt_get b i (by omega)
    have go := ih (i + 1) (by omega) (by omega)
    rw [drop_cons_ _ _ l1, drop_cons_ _ _ l2, lb]
    generalize a.data.toList[i] = x at ea ⊢
    generalize b.data.toList[i] = y at eb ⊢
    by_cases h : x = y
    · subst h
      rw [if_pos rfl]
      refine Evt.succ (fun k => ?_) go
      rw [spec_l8Before.l0, if_pos c1, if_pos c2, if_pos c3, if_pos (by rw [ea, eb]), w]
    · have h' : ¬ ((x.toNat : Int) = (y.toNat : Int)) := fun e => h (UInt8.toNat_inj.1 (by omega))
      rw [if_neg h]
      refine Evt.succ (h := fun k => some (x == 46)) (fun k => ?_) (Evt.const _)
      rw [spec_l8Before.l0, if_pos c1, if_pos c2, if_pos c3, ea, eb, if_neg h']
      congr 1
      rw [Bool.eq_iff_iff]
      simp only [beq_iff_eq]
      constructor
      · intro e
        exact UInt8.toNat_inj.1 (by show x.toNat = 46; omega)
      · rintro rfl
        rfl
theorem before_evt (a b : ByteArray) (ha : okMarks a 1 5 = true) (hb : okMarks b 1 5 = true) : Evt (fun k => spec_l8Before.f k a b) (decide (byt a b < 0)) := by
  simp only [okMarks, Bool.and_eq_true, decide_eq_true_eq] at ha hb
  obtain ⟨⟨a1, a2⟩, a3⟩ := ha
  obtain ⟨⟨b1, b2⟩, b3⟩ := hb
  have sa : a.size ≤ 1000 := by omega
  have sb : b.size ≤ 1000 := by omega
  unfold spec_l8Before.f
  refine Evt.bind (specTime_evt a sa (by omega)) (Evt.bind (specTime_evt b sb (by omega)) ?_)
  unfold byt
  by_cases h1 : timeN a = timeN b
  · rw [if_pos h1]
    refine Evt.ite_pos h1 ?_
    by_cases h2 : a.size = b.size
    · rw [if_pos h2, lb_cmp _ _ (by rw [size_data, size_data, h2]) a3 b3]
      refine Evt.ite_pos (by rw [h2]) ?_
      exact before_l0 a b sa h2 a.size 0 (Nat.zero_le _) rfl
    · rw [if_neg h2]
      have h2' : ¬ (a.size : Int) = (b.size : Int) := fun h => h2 (Int.ofNat_inj.1 h)
      refine Evt.ite_neg h2' ((Evt.const _).of_eq fun k => ?_)
      congr 1
      by_cases h3 : a.size < b.size
      · rw [if_pos h3, decide_eq_true (Int.ofNat_lt.2 h3)]
        rfl
      · rw [if_neg h3, decide_eq_false (fun h => h3 (Int.ofNat_lt.1 h))]
        rfl
  · rw [if_neg h1]
    refine Evt.ite_neg h1 ((Evt.const _).of_eq fun k => ?_)
    congr 1
    by_cases h3 : timeN a < timeN b
    · rw [if_pos h3, decide_eq_true h3]
      rfl
    · rw [if_neg h3, decide_eq_false h3]
      rfl

/-! ### sorttime -/
theorem cb_irrefl : ∀ a : List UInt8, ¬ Lib.compareBytes a a < 0
  | [] => by decide
  | x :: a => by
    rw [Lib.compareBytes, if_neg (UInt8.lt_irrefl x), if_neg (UInt8.lt_irrefl x)]
    exact cb_irrefl a
theorem cb_trans : ∀ a b c : List UInt8, Lib.compareBytes a b < 0 → Lib.compareBytes b c < 0 → Lib.compareBytes a c < 0
  | [], [], c, h, _ => absurd h (by decide)
  | [], _ :: _, [], _, h => absurd h (by rw [Lib.compareBytes]; decide)
  | [], _ :: _, _ :: _, _, _ => by rw [Lib.compareBytes]; decide
  | _ :: _, [], c, h, _ => absurd h (by rw [Lib.compareBytes]; decide)
  | x :: a, y :: b, [], _, h => absurd h (by rw [Lib.compareBytes]; decide)
  | x :: a, y :: b, z :: c, h1, h2 => by
    have ih := cb_trans a b c
    rw [Lib.compareBytes] at h1 h2 ⊢
    by_cases p : x < y
    · by_cases q : y < z
      · rw [if_pos (UInt8.lt_trans p q)]; decide
      · rw [if_neg q] at h2
        by_cases q2 : z < y
        · rw [if_pos q2] at h2; exact absurd h2 (by decide)
        · have e : y = z := UInt8.le_antisymm (UInt8.not_lt.1 q2) (UInt8.not_lt.1 q)
          subst e
          rw [if_pos p]; decide
    · rw [if_neg p] at h1
      by_cases p2 : y < x
      · rw [if_pos p2] at h1; exact absurd h1 (by decide)
      · rw [if_neg p2] at h1
        have e : x = y := UInt8.le_antisymm (UInt8.not_lt.1 p2) (UInt8.not_lt.1 p)
        subst e
        by_cases q : x < z
        · rw [if_pos q]; decide
        · rw [if_neg q] at h2 ⊢
          by_cases q2 : z < x
          · rw [if_pos q2] at h2; exact absurd h2 (by decide)
          · rw [if_neg q2] at h2 ⊢
            exact ih h1 h2
theorem cb_total : ∀ a b : List UInt8, ¬ Lib.compareBytes a b < 0 → ¬ Lib.compareBytes b a < 0 → a = b
  | [], [], _, _ => rfl
  | [], _ :: _, h, _ => absurd (by rw [Lib.compareBytes]; decide) h
  | _ :: _, [], _, h => absurd (by rw [Lib.compareBytes]; decide) h
  | x :: a, y :: b, h1, h2 => by
    have ih := cb_total a b
    rw [Lib.compareBytes] at h1 h2
    by_cases p : x < y
    · rw [if_pos p] at h1; exact absurd (by decide) h1
    · rw [if_neg p] at h1 h2
      by_cases p2 : y < x
      · rw [if_pos p2] at h2; exact absurd (by decide) h2
      · rw [if_neg p2] at h1 h2
        have e : x = y := UInt8.le_antisymm (UInt8.not_lt.1 p2) (UInt8.not_lt.1 p)
        rw [e, ih h1 h2]
theorem sw_sw (c : UInt8) : sw (sw c) = c := by
  have : ∀ n : Fin 256, sw (sw (UInt8.ofNat n.val)) = UInt8.ofNat n.val := by decide +kernel
  have h := this ⟨c.toNat, c.toNat_lt⟩
  rwa [show UInt8.ofNat c.toNat = c from UInt8.ofNat_toNat] at h
theorem sw_inj (a b : List UInt8) (h : a.map sw = b.map sw) : a = b := by
  have h2 := congrArg (List.map sw) h
  rw [List.map_map, List.map_map] at h2
  have e : (sw ∘ sw) = id := funext sw_sw
  rwa [e, List.map_id, List.map_id] at h2
theorem byt_neg (a b : ByteArray) : byt a b < 0 ↔ timeN a < timeN b ∨ (timeN a = timeN b ∧ (a.size < b.size ∨ (a.size = b.size ∧ Lib.compareBytes (a.data.toList.map sw) (b.data.toList.map sw) < 0))) := by
  unfold byt
  by_cases h1 : timeN a = timeN b
  · rw [if_pos h1]
    by_cases h2 : a.size = b.size
    · rw [if_pos h2]
      constructor
      · intro h; exact .inr ⟨h1, .inr ⟨h2, h⟩⟩
      · rintro (h | ⟨_, h | ⟨_, h⟩⟩)
        · omega
        · omega
        · exact h
    · rw [if_neg h2]
      by_cases h3 : a.size < b.size
      · rw [if_pos h3]
        exact ⟨fun _ => .inr ⟨h1, .inl h3⟩, fun _ => by decide⟩
      · rw [if_neg h3]
        constructor
        · intro h; exact absurd h (by decide)
        · rintro (h | ⟨_, h | ⟨h, _⟩⟩) <;> omega
  · rw [if_neg h1]
    by_cases h3 : timeN a < timeN b
    · rw [if_pos h3]
      exact ⟨fun _ => .inl h3, fun _ => by decide⟩
    · rw [if_neg h3]
      constructor
      · intro h; exact absurd h (by decide)
      · rintro (h | ⟨h, _⟩)
        · exact absurd h h3
        · exact absurd h h1
theorem byt_irrefl (a : ByteArray) : ¬ byt a a < 0 := by
  rw [byt_neg]
  rintro (h | ⟨_, h | ⟨_, h⟩⟩)
  · omega
  · omega
  · exact cb_irrefl _ h
theorem byt_trans (a b c : ByteArray) (h1 : byt a b < 0) (h2 : byt b c < 0) : byt a c < 0 := by
  rw [byt_neg] at h1 h2 ⊢
  rcases h1 with h1 | ⟨e1, h1⟩
  · rcases h2 with h2 | ⟨e2, _⟩
    · exact .inl (by omega)
    · exact .inl (by omega)
  · rcases h2 with h2 | ⟨e2, h2⟩
    · exact .inl (by omega)
    · refine .inr ⟨by omega, ?_⟩
      rcases h1 with h1 | ⟨f1, h1⟩
      · rcases h2 with h2 | ⟨f2, _⟩
        · exact .inl (by omega)
        · exact .inl (by omega)
      · rcases h2 with h2 | ⟨f2, h2⟩
        · exact .inl (by omega)
        · exact .inr ⟨by omega, cb_trans _ _ _ h1 h2⟩
theorem byt_total (a b : ByteArray) (h1 : ¬ byt a b < 0) (h2 : ¬ byt b a < 0) : a = b := by
  rw [byt_neg] at h1 h2
  have e1 : timeN a = timeN b := by
    have p1 : ¬ timeN a < timeN b := fun h => h1 (.inl h)
    have p2 : ¬ timeN b < timeN a := fun h => h2 (.inl h)
    omega
  have e2 : a.size = b.size := by
    have p1 : ¬ a.size < b.size := fun h => h1 (.inr ⟨e1, .inl h⟩)
    have p2 : ¬ b.size < a.size := fun h => h2 (.inr ⟨e1.symm, .inl h⟩)
    omega
  have e3 := sw_inj _ _ (cb_total _ _ (fun h => h1 (.inr ⟨e1, .inr ⟨e2, h⟩⟩)) (fun h => h2 (.inr ⟨e1.symm, .inr ⟨e2.symm, h⟩⟩)))
  obtain ⟨⟨a⟩⟩ := a
  obtain ⟨⟨b⟩⟩ := b
  have e3 : a = b := e3
  rw [e3]
theorem byt_ntrans (a b c : ByteArray) (h1 : ¬ byt a b < 0) (h2 : ¬ byt b c < 0) : ¬ byt a c < 0 := by
  intro h
  by_cases p : byt b a < 0
  · exact h2 (byt_trans _ _ _ p h)
  · rw [byt_total a b h1 p] at h
    exact h2 h
/-- The order of times, as 'at most'. -/
def ble (x y : ByteArray) : Bool := !decide (byt y x < 0)
theorem ble_iff (x y : ByteArray) : ble x y = true ↔ ¬ byt y x < 0 := by simp [ble]
theorem bsort_sorted (l : List ByteArray) : (l.mergeSort ble).Pairwise (fun x y => ble x y = true) :=
  List.pairwise_mergeSort (fun a b c h1 h2 => (ble_iff a c).2 (byt_ntrans _ _ _ ((ble_iff b c).1 h2) ((ble_iff a b).1 h1))) (fun a b => by
    by_cases h : byt b a < 0
    · have : ble b a = true := (ble_iff b a).2 (fun h' => byt_irrefl a (byt_trans _ _ _ h' h))
      simp [this]
    · have : ble a b = true := (ble_iff a b).2 h
      simp [this]) l
theorem sorted_eq : ∀ (a b : List ByteArray), a.Pairwise (fun x y => ble x y = true) → b.Pairwise (fun x y => ble x y = true) → a.Perm b → a = b
  | [], b, _, _, h => (List.nil_perm.1 h).symm
  | x :: a, [], _, _, h => absurd (List.perm_nil.1 h) (by simp)
  | x :: a, y :: b, ha, hb, h => by
    rw [List.pairwise_cons] at ha hb
    have e : x = y := by
      have h1 : y ∈ x :: a := h.symm.subset (List.mem_cons_self ..)
      have h2 : x ∈ y :: b := h.subset (List.mem_cons_self ..)
      rcases List.mem_cons.1 h1 with rfl | h1
      · rfl
      rcases List.mem_cons.1 h2 with rfl | h2
      · rfl
      exact byt_total _ _ ((ble_iff y x).1 (hb.1 x h2)) ((ble_iff x y).1 (ha.1 y h1))
    subst e
    rw [sorted_eq a b ha.2 hb.2 (List.perm_cons x |>.1 h)]
/-- A text put to its place. -/
def ins (l : List ByteArray) (m : ByteArray) : List ByteArray := l.takeWhile (fun x => decide (byt x m < 0)) ++ m :: l.dropWhile (fun x => decide (byt x m < 0))
theorem ins_perm (l : List ByteArray) (m : ByteArray) : (ins l m).Perm (m :: l) := by
  unfold ins
  refine List.perm_middle.trans ?_
  rw [List.takeWhile_append_dropWhile]
theorem ins_cons (x : ByteArray) (l : List ByteArray) (m : ByteArray) : ins (x :: l) m = if byt x m < 0 then x :: ins l m else m :: x :: l := by
  unfold ins
  rw [List.takeWhile_cons, List.dropWhile_cons]
  by_cases h : byt x m < 0
  · simp [h]
  · simp [h]
theorem ins_sorted (m : ByteArray) : ∀ l : List ByteArray, l.Pairwise (fun x y => ble x y = true) → (ins l m).Pairwise (fun x y => ble x y = true)
  | [], _ => by simp [ins]
  | x :: l, h => by
    rw [ins_cons]
    rw [List.pairwise_cons] at h
    by_cases c : byt x m < 0
    · rw [if_pos c, List.pairwise_cons]
      refine ⟨fun y hy => ?_, ins_sorted m l h.2⟩
      rcases List.mem_cons.1 ((ins_perm l m).subset hy) with rfl | hy
      · exact (ble_iff x y).2 (fun h' => byt_irrefl x (byt_trans _ _ _ c h'))
      · exact h.1 y hy
    · rw [if_neg c, List.pairwise_cons]
      refine ⟨fun y hy => ?_, List.pairwise_cons.2 h⟩
      have hm : ble m x = true := (ble_iff m x).2 c
      rcases List.mem_cons.1 hy with rfl | hy
      · exact hm
      · exact (ble_iff m y).2 (byt_ntrans _ _ _ ((ble_iff x y).1 (h.1 y hy)) c)
theorem foldins (X : List ByteArray) : ∀ l : List ByteArray, l.Pairwise (fun x y => ble x y = true) → (X.foldl ins l).Pairwise (fun x y => ble x y = true) ∧ (X.foldl ins l).Perm (X ++ l) := by
  induction X with
  | nil => intro l h; exact ⟨h, List.Perm.refl _⟩
  | cons m X ih =>
    intro l h
    obtain ⟨h1, h2⟩ := ih (ins l m) (ins_sorted m l h)
    refine ⟨h1, h2.trans ?_⟩
    exact ((ins_perm l m).append_left X).trans List.perm_middle
theorem foldins_sort (X Y : List ByteArray) (h : X.Perm Y) : X.foldl ins [] = Y.mergeSort ble := by
  obtain ⟨h1, h2⟩ := foldins X [] List.Pairwise.nil
  refine sorted_eq _ _ h1 (bsort_sorted Y) ?_
  rw [List.append_nil] at h2
  exact h2.trans (h.trans (List.mergeSort_perm Y _).symm)
theorem take_drop_while {p : ByteArray → Bool} : ∀ (l : List ByteArray) (i : Nat), i ≤ l.length → (∀ j (hj : j < l.length), j < i → p l[j] = true) → (∀ hi : i < l.length, p l[i] = false) → l.take i = l.takeWhile p ∧ l.drop i = l.dropWhile p
  | [], 0, _, _, _ => ⟨rfl, rfl⟩
  | x :: l, 0, _, _, h => by
    have := h (by simp)
    rw [List.takeWhile_cons, List.dropWhile_cons]
    simp only [List.getElem_cons_zero] at this
    simp [this]
  | x :: l, i + 1, hi, ha, hb => by
    have h0 := ha 0 (by simp) (by omega)
    simp only [List.getElem_cons_zero] at h0
    obtain ⟨e1, e2⟩ := take_drop_while l i (by simpa using hi) (fun j hj hji => by have := ha (j + 1) (by simpa using hj) (by omega); rwa [List.getElem_cons_succ] at this) (fun hi' => by have := hb (by simpa using hi'); rwa [List.getElem_cons_succ] at this)
    rw [List.takeWhile_cons, List.dropWhile_cons]
    simp [h0, e1, e2]
theorem own_eq_ (l : List ByteArray) (h : l.length ≤ 1000000) : spec_l2Own.f l = some l := by
  unfold spec_l2Own.f
  rw [Option.bind_some, if_pos (by simp only [List.length_nil]; omega), List.nil_append]
theorem put_tail (l : List ByteArray) (m : ByteArray) (hl : l.length ≤ 100000) (i : Nat) (hi : i ≤ l.length) (ha : ∀ j (hj : j < l.length), j < i → decide (byt l[j] m < 0) = true) (hb : ∀ hi : i < l.length, decide (byt l[i] m < 0) = false) :
    ((spec_l2Own.f (l.take ((i : Int)).toNat)).bind fun t113 => ((some (([m] : List ByteArray) : List ByteArray)).bind fun y116 => (if t113.length + y116.length < 8796093022208 then ((some (t113 ++ y116 : List ByteArray)).bind fun y119 => (if y119.length + (l.drop ((i : Int)).toNat).length < 8796093022208 then (some (y119 ++ (l.drop ((i : Int)).toNat))) else (none))) else (none)))) = some (ins l m) := by
  obtain ⟨e1, e2⟩ := take_drop_while (p := fun x => decide (byt x m < 0)) l i hi ha hb
  rw [Int.toNat_natCast, own_eq_ _ (by rw [List.length_take]; omega)]
  simp only [Option.bind_some]
  rw [if_pos (by rw [List.length_take, List.length_singleton]; omega), if_pos (by rw [List.length_append, List.length_take, List.length_singleton, List.length_drop]; omega)]
  unfold ins
  rw [← e1, ← e2, List.append_assoc, List.singleton_append]
theorem put_l0 (l : List ByteArray) (m : ByteArray) (hl : l.length ≤ 100000) (ho : ∀ x ∈ l, okMarks x 1 5 = true) (hm : okMarks m 1 5 = true) (d : Nat) : ∀ i : Nat, i ≤ l.length → l.length - i = d → (∀ j (hj : j < l.length), j < i → decide (byt l[j] m < 0) = true) → Evt (fun k => spec_l8Put.l0 k l m i) (ins l m) := by
  induction d with
  | zero =>
    intro i hi hd ha
    have c1 : ¬ (i : Int) < (l.length : Int) := by omega
    have c2 : (0 : Int) ≤ (i : Int) := by omega
    have c3 : (i : Int) ≤ (l.length : Int) := by omega
    have t := put_tail l m hl i hi ha (fun h => absurd h (by omega))
    exact Evt.succ (fun k => by rw [spec_l8Put.l0, if_neg c1, if_pos c2, if_pos c3, t]) (Evt.const _)
  | succ d ih =>
    intro i hi hd ha
    have li : i < l.length := by omega
    have c1 : (i : Int) < (l.length : Int) := by omega
    have c2 : (0 : Int) ≤ (i : Int) := by omega
    have c3 : (i : Int) ≤ (l.length : Int) := by omega
    have w : wrap64 ((i : Int) + 1) = ((i + 1 : Nat) : Int) := wrap_succ i (by omega)
    have b := before_evt l[i] m (ho _ (List.getElem_mem li)) hm
    rw [← rdOf_get ByteArray.empty l i li] at b
    by_cases h : decide (byt l[i] m < 0) = true
    · refine Evt.succ (fun k => by rw [spec_l8Put.l0, if_pos c1, if_pos c2, w]) (Evt.bind b ?_)
      rw [rdOf_get ByteArray.empty l i li]
      refine Evt.ite_pos h (ih (i + 1) li (by omega) (fun j hj hji => ?_))
      by_cases e : j = i
      · subst e; exact h
      · exact ha j hj (by omega)
    · have t := put_tail l m hl i hi ha (fun _ => by simpa using h)
      refine Evt.succ (fun k => by rw [spec_l8Put.l0, if_pos c1, if_pos c2, if_pos c3, t]) (Evt.bind b ?_)
      rw [rdOf_get ByteArray.empty l i li]
      exact Evt.ite_neg h (Evt.const _)
theorem put_evt (l : List ByteArray) (m : ByteArray) (hl : l.length ≤ 100000) (ho : ∀ x ∈ l, okMarks x 1 5 = true) (hm : okMarks m 1 5 = true) : Evt (fun k => spec_l8Put.f k l m) (ins l m) :=
  put_l0 l m hl ho hm l.length 0 (Nat.zero_le _) rfl (fun j _ h => absurd h (Nat.not_lt_zero _))
theorem Evt_all {α β : Type} (g : α → Nat → Option β) (r : α → β) : ∀ l : List α, (∀ x ∈ l, Evt (g x) (r x)) → ∃ K, ∀ k, K ≤ k → ∀ x ∈ l, g x k = some (r x)
  | [], _ => ⟨0, fun _ _ x hx => by cases hx⟩
  | x :: l, h => by
    obtain ⟨K1, h1⟩ := h x (List.mem_cons_self ..)
    obtain ⟨K2, h2⟩ := Evt_all g r l (fun y hy => h y (List.mem_cons_of_mem _ hy))
    refine ⟨max K1 K2, fun k hk y hy => ?_⟩
    rcases List.mem_cons.1 hy with rfl | hy
    · exact h1 k (by omega)
    · exact h2 k (by omega) y hy
theorem sortf_evt (l : List ByteArray) (hl : l.length ≤ 100000) (ho : ∀ x ∈ l, okMarks x 1 5 = true) : Evt (fun k => slices_SortFunc_string_string.f k l) (l.mergeSort ble) := by
  obtain ⟨K, hK⟩ := Evt_all (fun (p : ByteArray × ByteArray) k => impl_byTime.f k p.1 p.2) (fun p => byt p.1 p.2) (l.flatMap fun x => l.map fun y => (x, y)) (fun p hp => by
    obtain ⟨x, hx, hp⟩ := List.mem_flatMap.1 hp
    obtain ⟨y, hy, rfl⟩ := List.mem_map.1 hp
    exact byTime_evt x y (ho x hx) (ho y hy))
  refine ⟨K, fun k hk => ?_⟩
  have hv : ∀ x ∈ l, ∀ y ∈ l, impl_byTime.f k x y = some (byt x y) := fun x hx y hy => hK k hk (x, y) (List.mem_flatMap.2 ⟨x, hx, List.mem_map.2 ⟨y, hy, rfl⟩⟩)
  have hw : ∀ x ∈ l, ∀ y ∈ l, slices_SortFunc_string_string_.v k x y = byt x y := fun x hx y hy => by
    unfold slices_SortFunc_string_string_.v
    rw [hv x hx y hy]
    rfl
  show slices_SortFunc_string_string.f k l = _
  unfold slices_SortFunc_string_string.f
  rw [if_pos ⟨by omega, fun x hx y hy => by rw [hv x hx y hy]; rfl, fun x hx => by rw [hw x hx x hx]; exact byt_irrefl x, fun x hx y hy z hz => by rw [hw x hx y hy, hw y hy z hz, hw x hx z hz]; exact byt_trans x y z, fun x hx y hy z hz => by rw [hw x hx y hy, hw y hy z hz, hw x hx z hz]; exact byt_ntrans x y z, fun x hx y hy => by rw [hw x hx y hy, hw y hy x hx]; exact byt_total x y⟩]
  congr 1
  have e4 := List.map_mergeSort (l := l) (f := id) (r := fun x y => !decide (slices_SortFunc_string_string_.v k y x < 0)) (s := ble) (fun x hx y hy => by simp only [id, ble, hw y hy x hx])
  simpa using e4
theorem fold_ok (X l : List ByteArray) (h : ∀ x ∈ l, okMarks x 1 5 = true) (hX : ∀ x ∈ X, okMarks x 1 5 = true) : (∀ x ∈ X.foldl ins l, okMarks x 1 5 = true) ∧ (X.foldl ins l).length = l.length + X.length := by
  induction X generalizing l with
  | nil => exact ⟨h, by simp⟩
  | cons m X ih =>
    have pm := ins_perm l m
    obtain ⟨h1, h2⟩ := ih (ins l m) (fun x hx => by
      rcases List.mem_cons.1 (pm.subset hx) with rfl | hx
      · exact hX _ (List.mem_cons_self ..)
      · exact h x hx) (fun x hx => hX x (List.mem_cons_of_mem _ hx))
    refine ⟨h1, ?_⟩
    rw [List.foldl_cons, h2, pm.length_eq, List.length_cons, List.length_cons]
    omega

/-! ### least -/
/-- The cost. -/
def cst : List Int → List Int → Int
  | w :: l, x :: t => w * x + cst l t
  | _, _ => 0
theorem cst_app : ∀ (s t ts : List Int), s.length ≤ ts.length → cst (s ++ t) ts = cst s ts + cst t (ts.drop s.length)
  | [], t, ts, _ => by simp [cst]
  | w :: s, t, [], h => by simp at h
  | w :: s, t, x :: ts, h => by
    have ih := cst_app s t ts (by simpa using h)
    show w * x + cst (s ++ t) ts = w * x + cst s ts + cst t (ts.drop s.length)
    omega
theorem cst_cons_drop (w : Int) (t ts : List Int) (j : Nat) (hj : j < ts.length) : cst (w :: t) (ts.drop j) = w * ts[j] + cst t (ts.drop (j + 1)) := by
  rw [List.drop_eq_getElem_cons hj]
  rfl
theorem cst_take : ∀ (s ts : List Int) (n : Nat), s.length ≤ n → cst s (ts.take n) = cst s ts
  | [], ts, n, _ => by simp [cst]
  | w :: s, [], n, _ => by simp
  | w :: s, x :: ts, 0, h => by simp at h
  | w :: s, x :: ts, n + 1, h => by
    have ih := cst_take s ts n (by simpa using h)
    rw [List.take_succ_cons]
    show w * x + cst s (ts.take n) = w * x + cst s ts
    rw [ih]
theorem cst_set : ∀ (l t : List Int) (i : Nat) (v : Int), l.length = t.length → (hi : i < t.length) → cst l (t.set i v) = cst l t + l.getD i 0 * (v - t[i])
  | [], [], i, _, _, hi => absurd hi (Nat.not_lt_zero i)
  | [], _ :: _, _, _, h, _ => by simp at h
  | _ :: _, [], _, _, h, _ => by simp at h
  | w :: l, x :: t, 0, v, _, _ => by
    show w * v + cst l t = w * x + cst l t + w * (v - x)
    rw [Int.mul_sub]
    omega
  | w :: l, x :: t, i + 1, v, h, hi => by
    have hi' : i < t.length := by simpa using hi
    have ih := cst_set l t i v (by simpa using h) hi'
    show w * x + cst l (t.set i v) = w * x + cst l t + l.getD i 0 * (v - t[i])
    rw [ih]
    omega
/-- The weights, the greater first. -/
def desc (l : List Int) : List Int := (l.mergeSort fun x y => decide (x ≤ y)).reverse
theorem desc_perm (l : List Int) : (desc l).Perm l := (List.reverse_perm _).trans (List.mergeSort_perm _ _)
theorem desc_sorted (l : List Int) : (desc l).Pairwise (fun x y => y ≤ x) := by
  unfold desc
  rw [List.pairwise_reverse]
  have := List.pairwise_mergeSort (le := fun x y : Int => decide (x ≤ y)) (fun a b c h1 h2 => by simp only [decide_eq_true_eq] at *; omega) (fun a b => by simp only [Bool.or_eq_true, decide_eq_true_eq]; omega) l
  exact this.imp (fun h => by simpa using h)
theorem desc_eq (l d : List Int) (hs : d.Pairwise (fun x y => y ≤ x)) (hp : d.Perm l) : d = desc l :=
  (hp.trans (desc_perm l).symm).eq_of_pairwise (le := fun x y => y ≤ x) (fun a b _ _ h1 h2 => Int.le_antisymm h2 h1) hs (desc_sorted l)
theorem desc_length (l : List Int) : (desc l).length = l.length := (desc_perm l).length_eq
/-- There is a place where the first weight's text can be taken. -/
theorem desc_take (w : Int) (l ts : List Int) (h : l.length < ts.length) : ∃ j, ∃ hj : j < ts.length, cst (desc (w :: l)) ts = w * ts[j] + cst (desc l) (ts.eraseIdx j) := by
  have hm : w ∈ desc (w :: l) := (desc_perm _).symm.subset (List.mem_cons_self ..)
  obtain ⟨s, t, e⟩ := List.append_of_mem hm
  have hlen : (s ++ w :: t).length = l.length + 1 := by rw [← e, desc_length]; rfl
  rw [List.length_append, List.length_cons] at hlen
  have hsr := desc_sorted (w :: l)
  have hpr := desc_perm (w :: l)
  rw [e] at hsr hpr
  have e2 : s ++ t = desc l := by
    refine desc_eq l _ ?_ ?_
    · exact hsr.sublist ((List.Sublist.refl s).append (List.sublist_cons_self w t))
    · exact (List.perm_middle.symm.trans hpr).cons_inv
  have hj : s.length < ts.length := by omega
  refine ⟨s.length, hj, ?_⟩
  rw [e, ← e2, cst_app _ _ _ (by omega), cst_app _ _ _ (by rw [List.length_eraseIdx]; split <;> omega), cst_cons_drop _ _ _ _ hj, List.eraseIdx_eq_take_drop_succ]
  have l1 : (ts.take s.length).length = s.length := by rw [List.length_take]; omega
  have e3 : cst s (ts.take s.length ++ ts.drop (s.length + 1)) = cst s ts := by
    rw [← cst_take s (ts.take s.length ++ ts.drop (s.length + 1)) s.length (Nat.le_refl _), List.take_left' l1, cst_take s ts _ (Nat.le_refl _)]
  have e4 : (ts.take s.length ++ ts.drop (s.length + 1)).drop s.length = ts.drop (s.length + 1) := List.drop_left' l1
  rw [e3, e4]
  omega
theorem wrap_add (a b : Int) : wrap64 (wrap64 a + wrap64 b) = wrap64 (a + b) := by unfold wrap64; omega
theorem wrap_add' (a b : Int) : wrap64 (wrap64 a + b) = wrap64 (a + b) := by unfold wrap64; omega
/-- The sum that the program makes. -/
theorem sum_cst (zs : List Int) (g : Nat → Int) (ts : List Int) (hz : zs.length ≤ ts.length) (hg : ∀ k (hk : k < ts.length), k < zs.length → g k = ts[k]) : ∀ n, n ≤ zs.length →
    (List.range n).foldl (fun o k => wrap64 (o + wrap64 ((zs[zs.length - 1 - k]?.getD 0) * g k))) 0 = wrap64 (cst (zs.reverse.take n) ts) := by
  intro n
  induction n with
  | zero => intro _; simp [cst, wrap64]
  | succ n ih =>
    intro hn
    rw [List.range_succ, List.foldl_append, ih (by omega)]
    have hr : n < zs.reverse.length := by rw [List.length_reverse]; omega
    rw [List.take_succ_eq_append_getElem hr, cst_app _ _ _ (by rw [List.length_take, List.length_reverse]; omega)]
    have l1 : (zs.reverse.take n).length = n := by rw [List.length_take, List.length_reverse]; omega
    rw [l1, cst_cons_drop _ _ _ _ (show n < ts.length by omega)]
    simp only [List.foldl_cons, List.foldl_nil]
    rw [wrap_add, hg n (by omega) (by omega), List.getElem_reverse, List.getElem?_eq_getElem (show zs.length - 1 - n < zs.length by omega)]
    simp [cst]
def tms (t : List ByteArray) : List Int := t.map timeN
def Sz (t : List ByteArray) : Prop := ∀ m ∈ t, 1 ≤ m.size ∧ m.size ≤ 5
theorem tms_length (t : List ByteArray) : (tms t).length = t.length := by unfold tms; rw [List.length_map]
theorem tms_get (t : List ByteArray) (i : Nat) (hi : i < (tms t).length) (hi' : i < t.length) : (tms t)[i] = timeN t[i] := List.getElem_map (l := t) timeN
theorem wrap_pred (x : Int) (h0 : 0 ≤ x) (h : x ≤ 99) : wrap64 (x - 1) = x - 1 := by unfold wrap64; omega
theorem implTime_eq (s : ByteArray) (hs : s.size ≤ 1000) : impl_timeOf.f s = some (timeN s) := by
  obtain ⟨K, hK⟩ := implTime_evt s hs
  exact hK K (Nat.le_refl _)
/-- The program's least cost. -/
theorem least_eq (t : List ByteArray) (hs : Sz t) (l : List Int) (h : l.length ≤ t.length) (hl : l.length ≤ 1000000) : impl_leastCost.f t l = some (wrap64 (cst (desc l) (tms t))) := by
  unfold impl_leastCost.f
  rw [if_pos ⟨hl, h, fun m hm => by have := hs m hm; rw [implTime_eq m (by omega)]; rfl⟩]
  congr 1
  have hz : (l.mergeSort fun x y => decide (x ≤ y)).length = l.length := List.length_mergeSort _
  have := sum_cst (l.mergeSort fun x y => decide (x ≤ y)) (fun k => impl_leastCost_.tm (rdOf ByteArray.empty t (k : Int))) (tms t) (by rw [hz, tms_length]; exact h) (fun k hk _ => by
    have hk' : k < t.length := by rwa [tms_length] at hk
    have := hs t[k] (List.getElem_mem hk')
    unfold impl_leastCost_.tm
    rw [rdOf_get _ t k hk', implTime_eq _ (by omega), tms_get t k hk hk']
    rfl) l.length (by omega)
  rw [List.take_of_length_le (by rw [List.length_reverse, hz]; exact Nat.le_refl _)] at this
  exact this
/-- The reference's cost. -/
theorem scost_l0 (t : List ByteArray) (hs : Sz t) (l : List Int) (h : l.length ≤ t.length) (ht : t.length ≤ 1000000) (d : Nat) : ∀ i : Nat, i ≤ l.length → l.length - i = d → Evt (fun k => spec_l8Cost.l0 k t l (wrap64 (cst (l.take i) (tms t))) i) (wrap64 (cst l (tms t))) := by
  induction d with
  | zero =>
    intro i hi hd
    have c1 : ¬ (i : Int) < (l.length : Int) := by omega
    rw [List.take_of_length_le (by omega)]
    exact Evt.succ (fun k => by rw [spec_l8Cost.l0, if_neg c1]) (Evt.const _)
  | succ d ih =>
    intro i hi hd
    have li : i < l.length := by omega
    have lt : i < t.length := by omega
    have c1 : (i : Int) < (l.length : Int) := by omega
    have c2 : (0 : Int) ≤ (i : Int) := by omega
    have c3 : (i : Int) < (t.length : Int) := by omega
    have hm := hs t[i] (List.getElem_mem lt)
    have tt := specTime_evt (rdOf ByteArray.empty t (i : Int)) (by rw [rdOf_get _ t i lt]; omega) (by rw [rdOf_get _ t i lt]; omega)
    have e : wrap64 (wrap64 (cst (l.take i) (tms t)) + wrap64 (rd l (i : Int) * timeN (rdOf ByteArray.empty t (i : Int)))) = wrap64 (cst (l.take (i + 1)) (tms t)) := by
      have l1 : (l.take i).length = i := by rw [List.length_take]; omega
      rw [wrap_add, List.take_succ_eq_append_getElem li, cst_app _ _ _ (by rw [tms_length, l1]; omega), l1, cst_cons_drop _ _ _ _ (by rw [tms_length]; exact lt), rd_get l i li, rdOf_get _ t i lt]
      have e2 := tms_get t i (by rw [tms_length]; exact lt) lt
      rw [e2]
      simp [cst]
    have := ih (i + 1) li (by omega)
    rw [← e] at this
    exact Evt.succ (fun k => by rw [spec_l8Cost.l0, if_pos c1, if_pos c2, if_pos c3, wrap_succ i (by omega)]) (Evt.bind tt this)
theorem scost_evt (t : List ByteArray) (hs : Sz t) (l : List Int) (h : l.length ≤ t.length) (ht : t.length ≤ 1000000) : Evt (fun k => spec_l8Cost.f k t l) (wrap64 (cst l (tms t))) := by
  have := scost_l0 t hs l h ht l.length 0 (Nat.zero_le _) rfl
  rw [show wrap64 (cst (l.take 0) (tms t)) = 0 by simp [cst, wrap64]] at this
  exact this
def tz (s : ByteArray) : Int := if s.size = 0 then 0 else timeN s
/-- The weights that are still to come. -/
def rem (l : List Int) (wt : Int) (i : Nat) : List Int := (l.drop i).filter (fun x => x == wt) ++ l.filter (fun x => decide (x < wt))
structure BInv (st : List ByteArray) (l : List Int) (wt : Int) (i : Nat) (out : List ByteArray) (D : List Int) : Prop where
  len : out.length = l.length
  perm : (D ++ rem l wt i).Perm l
  sorted : D.Pairwise (fun x y => y ≤ x)
  ge : ∀ d ∈ D, wt ≤ d
  cost : cst l (out.map tz) = cst D (tms st)
  old : ∀ j (hj : j < l.length) (hj' : j < out.length), (wt < l[j] ∨ (l[j] = wt ∧ j < i)) → out[j] ∈ st
  new : ∀ j (hj : j < l.length) (hj' : j < out.length), ¬ (wt < l[j] ∨ (l[j] = wt ∧ j < i)) → out[j].size = 0
theorem rem_skip (l : List Int) (wt : Int) (i : Nat) (hi : i < l.length) (h : l[i] ≠ wt) : rem l wt i = rem l wt (i + 1) := by
  unfold rem
  rw [List.drop_eq_getElem_cons hi, List.filter_cons, if_neg (by simpa using h)]
theorem rem_take (l : List Int) (wt : Int) (i : Nat) (hi : i < l.length) (h : l[i] = wt) : rem l wt i = wt :: rem l wt (i + 1) := by
  unfold rem
  rw [List.drop_eq_getElem_cons hi, List.filter_cons, if_pos (by simpa using h), h]
  rfl
theorem rem_next (l : List Int) (wt : Int) : (rem l (wt - 1) 0).Perm (rem l wt l.length) := by
  unfold rem
  rw [List.drop_zero, List.drop_length, List.filter_nil, List.nil_append]
  have := List.filter_append_perm (fun x => x == wt - 1) (l.filter (fun x => decide (x < wt)))
  refine List.Perm.trans (List.Perm.of_eq ?_) this
  rw [List.filter_filter, List.filter_filter]
  congr 1
  · congr 1
    funext x
    rw [Bool.eq_iff_iff]
    simp only [beq_iff_eq, Bool.and_eq_true, decide_eq_true_eq]
    omega
  · congr 1
    funext x
    rw [Bool.eq_iff_iff]
    simp only [decide_eq_true_eq, Bool.and_eq_true, Bool.not_eq_true', beq_eq_false_iff_ne, ne_eq]
    omega
def BGood (st : List ByteArray) (l : List Int) (r : List ByteArray) : Prop := r.length = l.length ∧ (∀ m ∈ r, m ∈ st) ∧ cst l (tms r) = cst (desc l) (tms st)
theorem best_l1 (st : List ByteArray) (hs : Sz st) (l : List Int) (hl : l.length ≤ st.length) (hst : st.length ≤ 1000000) (wt : Int) (h0 : 0 ≤ wt) (h99 : wt ≤ 99)
    (H : ∀ out D, BInv st l (wt - 1) 0 out D → ∃ r, BGood st l r ∧ Evt (fun k => spec_l8Best.l0 k st l out (D.length : Int) (wt - 1)) r) (d : Nat) :
    ∀ (i : Nat) (out : List ByteArray) (D : List Int), i ≤ l.length → l.length - i = d → BInv st l wt i out D → ∃ r, BGood st l r ∧ Evt (fun k => spec_l8Best.l1 k st l out (D.length : Int) wt i) r := by
  induction d with
  | zero =>
    intro i out D hi hd hI
    obtain rfl : i = l.length := by omega
    have c1 : ¬ (l.length : Int) < (l.length : Int) := by omega
    obtain ⟨r, hg, hr⟩ := H out D ⟨hI.len, ((rem_next l wt).append_left D).trans hI.perm, hI.sorted, fun d hd => by have := hI.ge d hd; omega, hI.cost, fun j hj hj' h => hI.old j hj hj' (by omega), fun j hj hj' h => hI.new j hj hj' (by omega)⟩
    exact ⟨r, hg, Evt.succ (fun k => by rw [spec_l8Best.l1, if_neg c1, wrap_pred wt h0 h99]) hr⟩
  | succ d ih =>
    intro i out D hi hd hI
    have li : i < l.length := by omega
    have lo : i < out.length := by have := hI.len; omega
    have c1 : (i : Int) < (l.length : Int) := by omega
    have c2 : (0 : Int) ≤ (i : Int) := by omega
    have c3 : (i : Int) < (out.length : Int) := by omega
    have er := rd_get l i li
    by_cases h : l[i] = wt
    · have hp := hI.perm
      rw [rem_take l wt i li h] at hp
      have hlen := hp.length_eq
      rw [List.length_append, List.length_cons] at hlen
      have lD : D.length < st.length := by omega
      have c4 : (0 : Int) ≤ (D.length : Int) := by omega
      have c5 : (D.length : Int) < (st.length : Int) := by omega
      have hm := hs st[D.length] (List.getElem_mem lD)
      have hz : out[i].size = 0 := hI.new i li lo (by omega)
      obtain ⟨r, hg, hr⟩ := ih (i + 1) (out.set i st[D.length]) (D ++ [wt]) (by omega) (by omega) ⟨by rw [List.length_set]; exact hI.len, by rw [List.append_assoc, List.singleton_append]; exact hp, by
          rw [List.pairwise_append]
          exact ⟨hI.sorted, List.pairwise_singleton _ _, fun a ha b hb => by rw [List.mem_singleton.1 hb]; exact hI.ge a ha⟩, fun d hd => by
          rcases List.mem_append.1 hd with hd | hd
          · exact hI.ge d hd
          · rw [List.mem_singleton.1 hd]; exact Int.le_refl _, by
          have hi' : i < (out.map tz).length := by rw [List.length_map]; exact lo
          rw [List.map_set, cst_set _ _ _ _ (by rw [List.length_map]; exact hI.len.symm) hi', hI.cost, cst_app _ _ _ (by rw [tms_length]; omega), cst_cons_drop _ _ _ _ (by rw [tms_length]; exact lD), List.getElem_map]
          have e1 : tz out[i] = 0 := if_pos hz
          have e2 : tz st[D.length] = timeN st[D.length] := if_neg (by omega)
          have e3 := tms_get st D.length (by rw [tms_length]; exact lD) lD
          have e4 : l.getD i 0 = wt := by rw [List.getD_eq_getElem?_getD, List.getElem?_eq_getElem li, Option.getD_some, h]
          have e5 : cst [] ((tms st).drop (D.length + 1)) = 0 := rfl
          rw [e1, e2, e3, e4, e5, Int.sub_zero, Int.add_zero], fun j hj hj' hh => by
          rw [List.getElem_set]
          by_cases e : i = j
          · rw [if_pos e]; exact List.getElem_mem lD
          · rw [if_neg e]
            exact hI.old j hj (by rwa [List.length_set] at hj') (by omega), fun j hj hj' hh => by
          rw [List.getElem_set]
          by_cases e : i = j
          · subst e
            exact absurd (Or.inr ⟨h, by omega⟩) hh
          · rw [if_neg e]
            exact hI.new j hj (by rwa [List.length_set] at hj') (by omega)⟩
      refine ⟨r, hg, ?_⟩
      rw [List.length_append, List.length_singleton, ← wrap_succ D.length (by omega)] at hr
      refine Evt.succ (fun k => ?_) hr
      rw [spec_l8Best.l1, if_pos c1, if_pos c2, er, if_pos h, if_pos c4, if_pos c5, if_pos c3, wrap_succ i (by omega), Int.toNat_natCast, rdOf_get _ st _ lD]
    · obtain ⟨r, hg, hr⟩ := ih (i + 1) out D (by omega) (by omega) ⟨hI.len, by rw [← rem_skip l wt i li h]; exact hI.perm, hI.sorted, hI.ge, hI.cost, fun j hj hj' hh => by
          by_cases e : j = i
          · subst e
            exact hI.old j hj hj' (by omega)
          · exact hI.old j hj hj' (by omega), fun j hj hj' hh => hI.new j hj hj' (by omega)⟩
      exact ⟨r, hg, Evt.succ (fun k => by rw [spec_l8Best.l1, if_pos c1, if_pos c2, er, if_neg h, wrap_succ i (by omega)]) hr⟩
theorem best_l0 (st : List ByteArray) (hs : Sz st) (l : List Int) (hw : ∀ x ∈ l, 0 ≤ x ∧ x ≤ 99) (hl : l.length ≤ st.length) (hst : st.length ≤ 1000000) (n : Nat) : n ≤ 100 → ∀ (out : List ByteArray) (D : List Int), BInv st l ((n : Int) - 1) 0 out D → ∃ r, BGood st l r ∧ Evt (fun k => spec_l8Best.l0 k st l out (D.length : Int) ((n : Int) - 1)) r := by
  induction n with
  | zero =>
    intro _ out D hI
    have c1 : ¬ ((0 : Nat) : Int) - 1 ≥ 0 := by omega
    have hin : ∀ m ∈ out, m ∈ st := fun m hm => by
      obtain ⟨j, hj, rfl⟩ := List.getElem_of_mem hm
      have lj : j < l.length := by have := hI.len; omega
      exact hI.old j lj hj (.inl (by have := hw _ (List.getElem_mem lj); omega))
    have hrem : rem l (((0 : Nat) : Int) - 1) 0 = [] := by
      unfold rem
      rw [List.drop_zero, List.filter_eq_nil_iff.2, List.filter_eq_nil_iff.2, List.append_nil]
      · intro a ha
        have := hw a ha
        simp only [decide_eq_true_eq]
        omega
      · intro a ha
        have := hw a ha
        simp only [beq_iff_eq]
        omega
    have hp := hI.perm
    rw [hrem, List.append_nil] at hp
    refine ⟨out, ⟨hI.len, hin, ?_⟩, Evt.succ (fun k => by rw [spec_l8Best.l0, if_neg c1]) (Evt.const _)⟩
    rw [← desc_eq l D hI.sorted hp, ← hI.cost]
    congr 1
    unfold tms
    refine List.map_congr_left (fun m hm => ?_)
    have := hs m (hin m hm)
    exact (if_neg (by omega)).symm
  | succ n ih =>
    intro hn out D hI
    have e : ((n + 1 : Nat) : Int) - 1 = (n : Int) := by omega
    rw [e] at hI ⊢
    have c1 : (n : Int) ≥ 0 := by omega
    obtain ⟨r, hg, hr⟩ := best_l1 st hs l hl hst (n : Int) (by omega) (by omega) (ih (by omega)) l.length 0 out D (Nat.zero_le _) rfl hI
    exact ⟨r, hg, Evt.succ (fun k => by rw [spec_l8Best.l0, if_pos c1]; rfl) hr⟩
theorem best_evt (st : List ByteArray) (hs : Sz st) (l : List Int) (hw : ∀ x ∈ l, 0 ≤ x ∧ x ≤ 99) (hl : l.length ≤ st.length) (hst : st.length ≤ 1000000) : ∃ r, BGood st l r ∧ Evt (fun k => spec_l8Best.f k st l) r := by
  have c1 : (0 : Int) ≤ (l.length : Int) := by omega
  have c2 : ((l.length : Int)).toNat ≤ 17592186044416 := by omega
  have hz : (List.replicate l.length (⟨#[]⟩ : ByteArray)).map tz = List.replicate l.length 0 := by rw [List.map_replicate]; rfl
  have h0 : ∀ (a : List Int) (n : Nat), cst a (List.replicate n 0) = 0 := by
    intro a
    induction a with
    | nil => intro n; cases n <;> rfl
    | cons x a ih =>
      intro n
      cases n with
      | zero => rfl
      | succ n =>
        show x * 0 + cst a (List.replicate n 0) = 0
        rw [ih n, Int.mul_zero]
        rfl
  obtain ⟨r, hg, hr⟩ := best_l0 st hs l hw hl hst 100 (Nat.le_refl _) (List.replicate l.length (⟨#[]⟩ : ByteArray)) [] ⟨List.length_replicate, by
      rw [List.nil_append]
      have := List.filter_append_perm (fun x => x == (99 : Int)) l
      refine List.Perm.trans (List.Perm.of_eq ?_) this
      unfold rem
      rw [List.drop_zero]
      congr 1
      refine List.filter_congr (fun x hx => ?_)
      have := hw x hx
      rw [Bool.eq_iff_iff]
      simp only [decide_eq_true_eq, Bool.not_eq_true', beq_eq_false_iff_ne, ne_eq]
      omega, List.Pairwise.nil, fun d hd => absurd hd (List.not_mem_nil), by rw [hz, h0]; rfl, fun j hj hj' h => by
      have := hw _ (List.getElem_mem hj)
      omega, fun j hj hj' h => by rw [List.getElem_replicate]; rfl⟩
  refine ⟨r, hg, ?_⟩
  refine hr.of_eq (fun k => ?_)
  unfold spec_l8Best.f
  rw [if_pos c1, if_pos c2, Int.toNat_natCast]
  rfl
/-- Both least costs. -/
theorem both_least (st : List ByteArray) (hs : Sz st) (l : List Int) (hw : ∀ x ∈ l, 0 ≤ x ∧ x ≤ 99) (hl : l.length ≤ st.length) (hst : st.length ≤ 1000000) : ∃ r, Evt (fun k => spec_l8Best.f k st l) r ∧ Evt (fun k => spec_l8Cost.f k r l) (wrap64 (cst (desc l) (tms st))) ∧ impl_leastCost.f st l = some (wrap64 (cst (desc l) (tms st))) := by
  obtain ⟨r, ⟨g1, g2, g3⟩, hr⟩ := best_evt st hs l hw hl hst
  have := scost_evt r (fun m hm => hs m (g2 m hm)) l (by omega) (by omega)
  rw [g3] at this
  exact ⟨r, hr, this, least_eq st hs l hl (by omega)⟩
theorem sz_ok (t : List ByteArray) (h : ∀ x ∈ t, okMarks x 1 5 = true) : Sz t := fun m hm => by
  have := h m hm
  simp only [okMarks, Bool.and_eq_true, decide_eq_true_eq] at this
  omega
theorem w_ok (l : List Int) (h : okW l = true) : l.length ≤ 10 ∧ ∀ x ∈ l, 0 ≤ x ∧ x ≤ 99 := by
  unfold okW at h
  simp only [Bool.and_eq_true, Bool.not_eq_true', List.any_eq_false, decide_eq_true_eq, Bool.not_eq_true, Bool.not_eq_false', decide_eq_false_iff_not] at h
  refine ⟨by omega, fun x hx => ?_⟩
  have := h.2 x hx
  simpa using this

/-! ### bestsort -/
/-- The sorted list of a stock. -/
noncomputable def srt (t : List ByteArray) : List ByteArray := t.mergeSort ble
theorem srt_fold (t : List ByteArray) : t.foldl ins [] = srt t := foldins_sort t t (List.Perm.refl _)
theorem srt_len (t : List ByteArray) : (srt t).length = t.length := List.length_mergeSort _
theorem srt_ok (t : List ByteArray) (h : ∀ x ∈ t, okMarks x 1 5 = true) : ∀ x ∈ srt t, okMarks x 1 5 = true := fun x hx => h x ((List.mergeSort_perm _ _).subset hx)
theorem clone_eq (t : List ByteArray) (h : t.length ≤ 1048576) : slices_Clone_string_string.f t = some t := by
  unfold slices_Clone_string_string.f
  rw [if_pos (by omega)]
theorem take_fold (t : List ByteArray) (i : Nat) (hi : i < t.length) : ins ((t.take i).foldl ins []) t[i] = (t.take (i + 1)).foldl ins [] := by
  rw [List.take_succ_eq_append_getElem hi, List.foldl_append]
  rfl

/-! ### bestof -/
theorem wrap_cancel (c a b : Int) : wrap64 (c + a) = wrap64 (c + b) ↔ wrap64 a = wrap64 b := by unfold wrap64; omega
theorem wrap_three (c a b : Int) : wrap64 (wrap64 (wrap64 c + wrap64 a) + wrap64 b) = wrap64 (c + (a + b)) := by unfold wrap64; omega
theorem wrap_two (a b : Int) : wrap64 (wrap64 a + wrap64 b) = wrap64 (a + b) := by unfold wrap64; omega
theorem wrap_back (a b A : Int) (h : wrap64 (a + b) = A) : wrap64 (A - wrap64 a) = wrap64 b := by subst h; unfold wrap64; omega
theorem tms_app (a b : List ByteArray) : tms (a ++ b) = tms a ++ tms b := by unfold tms; rw [List.map_append]
/-- All but one. -/
def oth (l : List ByteArray) (j : Nat) : List ByteArray := l.take j ++ l.drop (j + 1)
theorem oth_len (l : List ByteArray) (j : Nat) (h : j < l.length) : (oth l j).length = l.length - 1 := by
  unfold oth
  rw [List.length_append, List.length_take, List.length_drop]
  omega
theorem oth_sz (l : List ByteArray) (j : Nat) (h : Sz l) : Sz (oth l j) := fun m hm => by
  rcases List.mem_append.1 hm with hm | hm
  · exact h m (List.mem_of_mem_take hm)
  · exact h m (List.mem_of_mem_drop hm)
theorem oth_tms (l : List ByteArray) (j : Nat) : tms (oth l j) = (tms l).eraseIdx j := by
  unfold oth
  rw [tms_app, List.eraseIdx_eq_take_drop_succ]
  unfold tms
  rw [List.map_take, List.map_drop]
theorem cost_snoc (l : List Int) (i : Nat) (hi : i < l.length) (out : List ByteArray) (ho : out.length = i) (m : ByteArray) : cst (l.take (i + 1)) (tms (out ++ [m])) = cst (l.take i) (tms out) + l[i] * timeN m := by
  have l1 : (l.take i).length = i := by rw [List.length_take]; omega
  have l2 : (tms out).length = i := by rw [tms_length, ho]
  rw [List.take_succ_eq_append_getElem hi, tms_app, cst_app _ _ _ (by rw [List.length_append]; omega), l1, List.drop_left' l2]
  have e : cst (l.take i) (tms out ++ tms [m]) = cst (l.take i) (tms out) := by
    rw [← cst_take (l.take i) (tms out ++ tms [m]) i (by omega), List.take_left' l2]
  rw [e]
  show _ + (l[i] * timeN m + cst [] []) = _
  have e2 : cst [] [] = 0 := rfl
  rw [e2]
  omega
theorem del_eq (l : List ByteArray) (j : Nat) (h : j < l.length) (hl : l.length ≤ 1000) : slices_Delete_string_string.f l (j : Int) ((j + 1 : Nat) : Int) = some (oth l j) := by
  unfold slices_Delete_string_string.f
  rw [if_pos ⟨⟨by omega, by omega⟩, by omega, by omega, by omega⟩, Int.toNat_natCast, Int.toNat_natCast]
  rfl
/-- A fact kept aside. -/
def Hd (p : Prop) : Prop := p
/-- Both searches, from a place on: the next letter's text. -/
theorem first_step (l : List Int) (hw : ∀ x ∈ l, 0 ≤ x ∧ x ≤ 99) (h10 : l.length ≤ 10) (i : Nat) (hi : i < l.length) (out left : List ByteArray) (ho : out.length = i) (so : Sz out) (sl : Sz left) (hll : l.length - i ≤ left.length) (hbig : left.length ≤ 1000) (X A : Int)
    (hA : Hd (A = wrap64 (cst (desc (l.drop i)) (tms left)))) (hX : Hd (X = wrap64 (cst (l.take i) (tms out) + cst (desc (l.drop i)) (tms left))))
    (H : ∀ out' left' A', out'.length = i + 1 → Sz out' → Sz left' → l.length - (i + 1) ≤ left'.length → left'.length ≤ 1000 → A' = wrap64 (cst (desc (l.drop (i + 1))) (tms left')) → X = wrap64 (cst (l.take (i + 1)) (tms out') + cst (desc (l.drop (i + 1))) (tms left')) →
      ∃ r : List ByteArray, r.length ≤ 1000 ∧ Evt (fun k => spec_l8First.l0 k l X out' left' ((i + 1 : Nat) : Int)) r ∧ Evt (fun k => impl_bestOf.l0 k l left' A' l (l.length : Int) ((i + 1 : Nat) : Int) out') r)
    (js : Nat) (hm : Hd (cst (desc (l.drop i)) (tms left) = l[i] * timeN (rdOf ByteArray.empty left (js : Int)) + cst (desc (l.drop (i + 1))) (tms (oth left js)))) (j : Nat) (lj : j < left.length)
    (N : j ≠ js → ∃ r : List ByteArray, r.length ≤ 1000 ∧ Evt (fun k => spec_l8First.l1 k l X out left (i : Int) ((j + 1 : Nat) : Int)) r ∧ Evt (fun k => impl_bestOf.l1 k l left A (i : Int) l[i] l (l.length : Int) (i : Int) left (left.length : Int) ((j + 1 : Nat) : Int) out) r) :
    ∃ r : List ByteArray, r.length ≤ 1000 ∧ Evt (fun k => spec_l8First.l1 k l X out left (i : Int) (j : Int)) r ∧ Evt (fun k => impl_bestOf.l1 k l left A (i : Int) l[i] l (l.length : Int) (i : Int) left (left.length : Int) (j : Int) out) r := by
  have c1 : (j : Int) < (left.length : Int) := by omega
  have c2 : (0 : Int) ≤ (j : Int) := by omega
  have c3 : (j : Int) ≤ (left.length : Int) := by omega
  have c4 : (0 : Int) ≤ ((j + 1 : Nat) : Int) := by omega
  have c5 : ((j + 1 : Nat) : Int) ≤ (left.length : Int) := by omega
  have c6 : (left.take j).length + (left.drop (j + 1)).length < 8796093022208 := by rw [List.length_take, List.length_drop]; omega
  have c7 : (0 : Int) ≤ ((i + 1 : Nat) : Int) := by omega
  have c8 : ((i + 1 : Nat) : Int) ≤ (l.length : Int) := by omega
  have c9 : (0 : Int) ≤ (i : Int) := by omega
  have c10 : (i : Int) ≤ (l.length : Int) := by omega
  have c11 : (i : Int) < (l.length : Int) := by omega
  have c12 : out.length < 8796093022208 := by omega
  have j9 : j < 9223372036854775807 := by omega
  have i9 : i < 9223372036854775807 := by omega
  have hmj := sl left[j] (List.getElem_mem lj)
  have ol := oth_len left j lj
  have ld : (l.drop (i + 1)).length = l.length - (i + 1) := List.length_drop ..
  have lt : (l.take i).length = i := by rw [List.length_take]; omega
  have n1 : (l.drop (i + 1)).length ≤ (oth left j).length := by omega
  have n2 : (oth left j).length ≤ 1000000 := by omega
  have n3 : (oth left j).length ≤ 1000 := by omega
  have n4 : l.length - (i + 1) ≤ (oth left j).length := by omega
  have s1 := scost_evt out so (l.take i) (by omega) (by omega)
  have t1 := specTime_evt left[j] (by omega) (by omega)
  have t2 := implTime_eq left[j] (by omega)
  have o1 := own_eq_ (left.take j) (by rw [List.length_take]; omega)
  have k1 := clone_eq left (by omega)
  have d1 := del_eq left j lj hbig
  have so' : Sz (out ++ [left[j]]) := fun m hm => by
    rcases List.mem_append.1 hm with hm | hm
    · exact so m hm
    · rw [List.mem_singleton.1 hm]; exact hmj
  have lo' : (out ++ [left[j]]).length = i + 1 := by rw [List.length_append, ho]; rfl
  obtain ⟨b, b1, b2, b3⟩ := both_least (oth left j) (oth_sz left j sl) (l.drop (i + 1)) (fun x hx => hw x (List.mem_of_mem_drop hx)) n1 n2
  have e2 := rdOf_get ByteArray.empty left j lj
  have e1 := rd_get l i hi
  have us : ∀ k, spec_l8First.l1 (k + 1) l X out left (i : Int) (j : Int) = _ := fun k => by rw [spec_l8First.l1, wrap_succ j j9, wrap_succ i i9, e1, e2, Int.toNat_natCast, Int.toNat_natCast, Int.toNat_natCast, Int.toNat_natCast]
  have ui : ∀ k, impl_bestOf.l1 (k + 1) l left A (i : Int) l[i] l (l.length : Int) (i : Int) left (left.length : Int) (j : Int) out = _ := fun k => by rw [impl_bestOf.l1, wrap_succ j j9, wrap_succ i i9, e2, Int.toNat_natCast]
  have hA' : A = wrap64 (cst (desc (l.drop i)) (tms left)) := hA
  have hX' : X = wrap64 (cst (l.take i) (tms out) + cst (desc (l.drop i)) (tms left)) := hX
  by_cases hc : wrap64 (l[i] * timeN left[j] + cst (desc (l.drop (i + 1))) (tms (oth left j))) = A
  · have q1 : wrap64 (wrap64 (wrap64 (cst (l.take i) (tms out)) + wrap64 (l[i] * timeN left[j])) + wrap64 (cst (desc (l.drop (i + 1))) (tms (oth left j)))) = X := by
      rw [wrap_three, hX', wrap_cancel, hc, hA']
    have q2 : wrap64 (wrap64 (l[i] * timeN left[j]) + wrap64 (cst (desc (l.drop (i + 1))) (tms (oth left j)))) = A := by rw [wrap_two, hc]
    have q3 := wrap_back _ _ _ hc
    obtain ⟨r, hr, r1, r2⟩ := H (out ++ [left[j]]) (oth left j) (wrap64 (A - wrap64 (l[i] * timeN left[j]))) lo' so' (oth_sz left j sl) n4 n3 q3 (by rw [cost_snoc l i hi out ho, ← q1, wrap_three, Int.add_assoc])
    refine ⟨r, hr, ?_, ?_⟩
    · exact Evt.succ us (Evt.ite_pos c1 (Evt.ite_pos c2 (Evt.ite_pos c3 (Evt.bind ((Evt.const _).of_eq (fun _ => o1)) (Evt.ite_pos c4 (Evt.ite_pos c5 (Evt.bind (Evt.const _) (Evt.ite_pos c6 (Evt.bind (Evt.const _) (Evt.ite_pos c7 (Evt.ite_pos c8 (Evt.bind b1 (Evt.ite_pos c9 (Evt.ite_pos c10 (Evt.bind s1 (Evt.ite_pos c11 (Evt.bind t1 (Evt.bind b2 (Evt.ite_pos q1 (Evt.ite_pos c12 r1))))))))))))))))))))
    · exact Evt.succ ui (Evt.ite_pos c1 (Evt.ite_pos c2 (Evt.ite_pos c1 (Evt.bind ((Evt.const _).of_eq (fun _ => k1)) (Evt.bind ((Evt.const _).of_eq (fun _ => d1)) (Evt.bind ((Evt.const _).of_eq (fun _ => t2)) (Evt.ite_pos c7 (Evt.ite_pos c8 (Evt.bind ((Evt.const _).of_eq (fun _ => b3)) (Evt.ite_pos q2 (Evt.bind ((Evt.const _).of_eq (fun _ => t2)) (Evt.ite_pos c12 r2))))))))))))
  · have q1 : ¬ wrap64 (wrap64 (wrap64 (cst (l.take i) (tms out)) + wrap64 (l[i] * timeN left[j])) + wrap64 (cst (desc (l.drop (i + 1))) (tms (oth left j)))) = X := by
      rw [wrap_three, hX', wrap_cancel, ← hA']
      exact hc
    have q2 : ¬ wrap64 (wrap64 (l[i] * timeN left[j]) + wrap64 (cst (desc (l.drop (i + 1))) (tms (oth left j)))) = A := by rw [wrap_two]; exact hc
    have hne : j ≠ js := fun e => by
      subst e
      have hm' : cst (desc (l.drop i)) (tms left) = _ := hm
      rw [e2] at hm'
      exact hc (by rw [hA', hm'])
    obtain ⟨r, hr, r1, r2⟩ := N hne
    refine ⟨r, hr, ?_, ?_⟩
    · exact Evt.succ us (Evt.ite_pos c1 (Evt.ite_pos c2 (Evt.ite_pos c3 (Evt.bind ((Evt.const _).of_eq (fun _ => o1)) (Evt.ite_pos c4 (Evt.ite_pos c5 (Evt.bind (Evt.const _) (Evt.ite_pos c6 (Evt.bind (Evt.const _) (Evt.ite_pos c7 (Evt.ite_pos c8 (Evt.bind b1 (Evt.ite_pos c9 (Evt.ite_pos c10 (Evt.bind s1 (Evt.ite_pos c11 (Evt.bind t1 (Evt.bind b2 (Evt.ite_neg q1 r1)))))))))))))))))))
    · exact Evt.succ ui (Evt.ite_pos c1 (Evt.ite_pos c2 (Evt.ite_pos c1 (Evt.bind ((Evt.const _).of_eq (fun _ => k1)) (Evt.bind ((Evt.const _).of_eq (fun _ => d1)) (Evt.bind ((Evt.const _).of_eq (fun _ => t2)) (Evt.ite_pos c7 (Evt.ite_pos c8 (Evt.bind ((Evt.const _).of_eq (fun _ => b3)) (Evt.ite_neg q2 r2))))))))))
theorem first_l1 (l : List Int) (hw : ∀ x ∈ l, 0 ≤ x ∧ x ≤ 99) (h10 : l.length ≤ 10) (i : Nat) (hi : i < l.length) (out left : List ByteArray) (ho : out.length = i) (so : Sz out) (sl : Sz left) (hll : l.length - i ≤ left.length) (hbig : left.length ≤ 1000) (X A : Int)
    (hA : Hd (A = wrap64 (cst (desc (l.drop i)) (tms left)))) (hX : Hd (X = wrap64 (cst (l.take i) (tms out) + cst (desc (l.drop i)) (tms left))))
    (H : ∀ out' left' A', out'.length = i + 1 → Sz out' → Sz left' → l.length - (i + 1) ≤ left'.length → left'.length ≤ 1000 → A' = wrap64 (cst (desc (l.drop (i + 1))) (tms left')) → X = wrap64 (cst (l.take (i + 1)) (tms out') + cst (desc (l.drop (i + 1))) (tms left')) →
      ∃ r : List ByteArray, r.length ≤ 1000 ∧ Evt (fun k => spec_l8First.l0 k l X out' left' ((i + 1 : Nat) : Int)) r ∧ Evt (fun k => impl_bestOf.l0 k l left' A' l (l.length : Int) ((i + 1 : Nat) : Int) out') r)
    (js : Nat) (hjs : js < left.length) (hm : Hd (cst (desc (l.drop i)) (tms left) = l[i] * timeN (rdOf ByteArray.empty left (js : Int)) + cst (desc (l.drop (i + 1))) (tms (oth left js)))) (d : Nat) :
    ∀ j : Nat, j ≤ js → js - j = d → ∃ r : List ByteArray, r.length ≤ 1000 ∧ Evt (fun k => spec_l8First.l1 k l X out left (i : Int) (j : Int)) r ∧ Evt (fun k => impl_bestOf.l1 k l left A (i : Int) l[i] l (l.length : Int) (i : Int) left (left.length : Int) (j : Int) out) r := by
  induction d with
  | zero => exact fun j hj hd => first_step l hw h10 i hi out left ho so sl hll hbig X A hA hX H js hm j (by omega) (fun hne => absurd (show j = js by omega) hne)
  | succ d ih => exact fun j hj hd => first_step l hw h10 i hi out left ho so sl hll hbig X A hA hX H js hm j (by omega) (fun _ => ih (j + 1) (by omega) (by omega))
theorem first_l0 (l : List Int) (hw : ∀ x ∈ l, 0 ≤ x ∧ x ≤ 99) (h10 : l.length ≤ 10) (X : Int) (d : Nat) : ∀ (i : Nat) (out left : List ByteArray) (A : Int), i ≤ l.length → l.length - i = d → out.length = i → Sz out → Sz left → l.length - i ≤ left.length → left.length ≤ 1000 → A = wrap64 (cst (desc (l.drop i)) (tms left)) → X = wrap64 (cst (l.take i) (tms out) + cst (desc (l.drop i)) (tms left)) →
    ∃ r : List ByteArray, r.length ≤ 1000 ∧ Evt (fun k => spec_l8First.l0 k l X out left (i : Int)) r ∧ Evt (fun k => impl_bestOf.l0 k l left A l (l.length : Int) (i : Int) out) r := by
  induction d with
  | zero =>
    intro i out left A hi hd ho so sl hll hbig hA hX
    have c1 : ¬ (i : Int) < (l.length : Int) := by omega
    exact ⟨out, by omega, Evt.succ (fun k => by rw [spec_l8First.l0, if_neg c1]) (Evt.const _), Evt.succ (fun k => by rw [impl_bestOf.l0, if_neg c1]) (Evt.const _)⟩
  | succ d ih =>
    intro i out left A hi hd ho so sl hll hbig hA hX
    have li : i < l.length := by omega
    have c1 : (i : Int) < (l.length : Int) := by omega
    have c2 : (0 : Int) ≤ (i : Int) := by omega
    have ld : (l.drop (i + 1)).length = l.length - (i + 1) := List.length_drop ..
    obtain ⟨js, hjs, hm⟩ := desc_take l[i] (l.drop (i + 1)) (tms left) (by rw [tms_length]; omega)
    have hjs' : js < left.length := by rwa [tms_length] at hjs
    rw [← List.drop_eq_getElem_cons li, tms_get left js hjs hjs', ← oth_tms, ← rdOf_get ByteArray.empty left js hjs'] at hm
    obtain ⟨r, hr, r1, r2⟩ := first_l1 l hw h10 i li out left ho so sl hll hbig X A hA hX (fun out' left' A' a1 a2 a3 a4 a5 a6 a7 => ih (i + 1) out' left' A' li (by omega) a1 a2 a3 a4 a5 a6 a7) js hjs' hm js 0 (Nat.zero_le _) rfl
    exact ⟨r, hr, Evt.succ (fun k => by rw [spec_l8First.l0, if_pos c1]; rfl) r1, Evt.succ (fun k => by rw [impl_bestOf.l0, if_pos c1, if_pos c2, if_pos c1, rd_get l i li]; rfl) r2⟩
/-- Both give the first best texts. -/
theorem first_evt (st : List ByteArray) (hs : Sz st) (l : List Int) (hw : ∀ x ∈ l, 0 ≤ x ∧ x ≤ 99) (h10 : l.length ≤ 10) (hl : l.length ≤ st.length) (hst : st.length ≤ 1000) : ∃ r : List ByteArray, r.length ≤ 1000 ∧ Evt (fun k => spec_l8First.f k st l) r ∧ Evt (fun k => impl_bestOf.f k st l) r := by
  obtain ⟨b, b1, b2, b3⟩ := both_least st hs l hw hl (by omega)
  obtain ⟨r, hr, r1, r2⟩ := first_l0 l hw h10 _ l.length 0 [] st _ (Nat.zero_le _) rfl rfl (fun m hm => absurd hm (List.not_mem_nil)) hs (by omega) hst rfl (by show _ = wrap64 (0 + cst (desc (l.drop 0)) (tms st)); rw [Int.zero_add])
  exact ⟨r, hr, Evt.bind b1 (Evt.bind b2 (Evt.bind ((Evt.const _).of_eq (fun _ => own_eq_ st (by omega))) r1)), Evt.bind ((Evt.const _).of_eq (fun _ => clone_eq st (by omega))) (Evt.bind ((Evt.const _).of_eq (fun _ => b3)) r2)⟩

/-! ### marksText -/
/-- The marks that the law writes into a row of texts. -/
theorem markText_l0 (d : Nat) : ∀ (x : Nat) (s : ByteArray), x ≤ 1099511627777 → x < 10 ^ d → s.size + d ≤ 1000 → ∃ r, Evt (fun k => laws_markText.l0 k x s) r := by
  induction d with
  | zero =>
    intro x s h0 h1 hs
    have hx : ¬ (x : Int) > 0 := by
      have : x < 1 := h1
      omega
    refine ⟨_, Evt.succ (h := fun _ => some ((⟨#[109]⟩ : ByteArray) ++ s)) (fun k => ?_) (Evt.const _)⟩
    rw [laws_markText.l0, if_neg hx, if_pos (by omega)]
  | succ d ih =>
    intro x s h0 h1 hs
    by_cases hx : (x : Int) > 0
    · have e : wrap64 (Int.tdiv x 10) = ((x / 10 : Nat) : Int) := by
        rw [Int.tdiv_eq_ediv_of_nonneg (by omega)]
        unfold wrap64
        omega
      have hz : (strOfNums [(wrap64 (48 + (Int.tmod x 10))) % 256]).size = 1 := by
        rw [strOfNums_size]
        rfl
      obtain ⟨r, hr⟩ := ih (x / 10) (strOfNums [(wrap64 (48 + (Int.tmod x 10))) % 256] ++ s) (by omega) (by rw [Nat.pow_succ] at h1; omega) (by rw [ByteArray.size_append, hz]; omega)
      refine ⟨r, Evt.succ (fun k => ?_) hr⟩
      rw [laws_markText.l0, if_pos hx]
      show (if _ then _ else _) = _
      rw [if_pos (by rw [hz]; omega), e]
    · refine ⟨_, Evt.succ (h := fun _ => some ((⟨#[109]⟩ : ByteArray) ++ s)) (fun k => ?_) (Evt.const _)⟩
      rw [laws_markText.l0, if_neg hx, if_pos (by omega)]
theorem markText_evt (x : Nat) (h : x ≤ 1099511627777) : ∃ r, Evt (fun k => laws_markText.f k x) r := by
  by_cases hx : (x : Int) ≤ 0
  · exact ⟨_, Evt.ite_pos hx (Evt.const _)⟩
  · obtain ⟨r, hr⟩ := markText_l0 13 x (⟨#[]⟩ : ByteArray) h (by omega) (by decide)
    exact ⟨r, Evt.ite_neg hx hr⟩
theorem markStringS_l0 (n : Nat) (hn : n ≤ 1099511627776) (d : Nat) : ∀ (i : Nat) (x : List ByteArray), i ≤ n → n - i = d → x.length = n → ∃ y, Evt (fun k => laws_markStringS.l0 k x ((1 + i : Nat) : Int) i) (((1 + n : Nat) : Int), y) := by
  induction d with
  | zero =>
    intro i x hi hd hx
    obtain rfl : i = n := by omega
    refine ⟨x, Evt.succ (h := fun _ => some (((1 + i : Nat) : Int), x)) (fun k => ?_) (Evt.const _)⟩
    rw [laws_markStringS.l0, if_neg (by omega)]
  | succ d ih =>
    intro i x hi hd hx
    obtain ⟨t, ht⟩ := markText_evt (1 + i) (by omega)
    obtain ⟨y, hy⟩ := ih (i + 1) (x.set i t) (by omega) (by omega) (by rw [List.length_set]; exact hx)
    refine ⟨y, Evt.succ (fun k => ?_) (Evt.bind (h := fun k t => if 0 ≤ (i : Int) then laws_markStringS.l0 k (x.set i t) ((1 + (i + 1) : Nat) : Int) ((i + 1 : Nat) : Int) else none) ht (Evt.ite_pos (by omega) hy))⟩
    rw [laws_markStringS.l0, if_pos (by omega), wrap_succ i (by omega), wrap_succ (1 + i) (by omega), Int.toNat_natCast]
    rfl
theorem markStringS_evt (l : List ByteArray) (hl : l.length ≤ 1099511627776) : ∃ y, Evt (fun k => laws_markStringS.f k l 1) (((1 + l.length : Nat) : Int), y) :=
  markStringS_l0 l.length hl l.length 0 l (by omega) (by omega) rfl

/-! ### heldText -/
/-- The marks in a row of texts, and that they are held. -/
noncomputable def mt (x : Nat) : ByteArray := if h : x ≤ 1099511627777 then Classical.choose (markText_evt x h) else ByteArray.empty
theorem mt_evt (x : Nat) (h : x ≤ 1099511627777) : Evt (fun k => laws_markText.f k x) (mt x) := by
  unfold mt
  rw [dif_pos h]
  exact Classical.choose_spec (markText_evt x h)
noncomputable def mts (n : Nat) : List ByteArray := (List.range n).map fun i => mt (1 + i)
theorem mts_len (n : Nat) : (mts n).length = n := by unfold mts; rw [List.length_map, List.length_range]
theorem mts_get (n i : Nat) (h : i < (mts n).length) : (mts n)[i] = mt (1 + i) := by
  simp only [mts, List.getElem_map, List.getElem_range]
theorem markS_l0 (n : Nat) (hn : n ≤ 1099511627776) (d : Nat) : ∀ (i : Nat) (x : List ByteArray), i ≤ n → n - i = d → x.length = n → x.take i = (mts n).take i → Evt (fun k => laws_markStringS.l0 k x ((1 + i : Nat) : Int) i) (((1 + n : Nat) : Int), mts n) := by
  have h2 := mts_len n
  induction d with
  | zero =>
    intro i x hi hd hx ht
    obtain rfl : i = n := by omega
    have e : x = mts i := by
      rw [List.take_of_length_le (by omega), List.take_of_length_le (by omega)] at ht
      exact ht
    subst e
    exact Evt.succ (fun k => by rw [laws_markStringS.l0, if_neg (by omega)]) (Evt.const _)
  | succ d ih =>
    intro i x hi hd hx ht
    refine Evt.succ (fun k => ?_) (Evt.bind (h := fun k t => if 0 ≤ (i : Int) then laws_markStringS.l0 k (x.set i t) ((1 + (i + 1) : Nat) : Int) ((i + 1 : Nat) : Int) else none) (mt_evt (1 + i) (by omega)) (Evt.ite_pos (by omega) (ih (i + 1) (x.set i (mt (1 + i))) (by omega) (by omega) (by rw [List.length_set]; exact hx) ?_)))
    · rw [laws_markStringS.l0, if_pos (by omega), wrap_succ i (by omega), wrap_succ (1 + i) (by omega), Int.toNat_natCast]
      rfl
    · rw [List.take_succ_eq_append_getElem (by rw [List.length_set]; omega), List.take_succ_eq_append_getElem (by omega), List.take_set_of_le (by omega), ht, List.getElem_set_self, mts_get]
theorem markS_evt (l : List ByteArray) (hl : l.length ≤ 1099511627776) : Evt (fun k => laws_markStringS.f k l 1) (((1 + l.length : Nat) : Int), mts l.length) :=
  markS_l0 l.length hl l.length 0 l (by omega) (by omega) rfl rfl
theorem heldS_l0 (n : Nat) (hn : n ≤ 1099511627776) (d : Nat) : ∀ (i : Nat), i ≤ n → n - i = d → Evt (fun k => laws_heldStringS.l0 k (mts n) ((1 + i : Nat) : Int) i) ((1 + n : Nat) : Int) := by
  have h2 := mts_len n
  induction d with
  | zero =>
    intro i hi hd
    obtain rfl : i = n := by omega
    exact Evt.succ (fun k => by rw [laws_heldStringS.l0, if_neg (by omega)]) (Evt.const _)
  | succ d ih =>
    intro i hi hd
    refine Evt.succ (h := fun k => (laws_markText.f k ((1 + i : Nat) : Int)).bind fun t => if (mt (1 + i)).toList = t.toList then laws_heldStringS.l0 k (mts n) ((1 + (i + 1) : Nat) : Int) ((i + 1 : Nat) : Int) else some (-1)) (fun k => ?_) (Evt.bind (mt_evt (1 + i) (by omega)) (Evt.ite_pos rfl (ih (i + 1) (by omega) (by omega))))
    rw [laws_heldStringS.l0, if_pos (by omega), if_pos (by omega), rdOf_get _ _ _ (by omega), mts_get, wrap_succ i (by omega), wrap_succ (1 + i) (by omega)]
    rfl
theorem heldS_evt (n : Nat) (hn : n ≤ 1099511627776) : Evt (fun k => laws_heldStringS.f k (mts n) 1) ((1 + n : Nat) : Int) := heldS_l0 n hn n 0 (by omega) (by omega)

/-! ### heldTable -/
theorem markTable2_evt (l : List ByteArray) (hl : l.length ≤ 1099511627776) : Evt (fun k => laws_markTable.f k l 1) (((1 + l.length : Nat) : Int), mts l.length) :=
  Evt.bind (markS_evt l hl) (Evt.const _)
theorem heldTable_evt (n : Nat) (hn : n ≤ 1099511627776) : Evt (fun k => laws_heldTable.f k (mts n) 1) ((1 + n : Nat) : Int) :=
  Evt.bind (heldS_evt n hn) (Evt.ite_neg (by omega) (Evt.const _))

theorem markFrom_l0 (n : Nat) (hn : n ≤ 2000000) (d : Nat) : ∀ (i s : Nat) (x : List Int), i ≤ n → n - i = d → x.length = n → s ≤ 4000000 + i → ∃ y, Evt (fun k => laws_markIntS.l0 k x (s : Int) (i : Int)) (((s + (n - i) : Nat) : Int), y) := by
  induction d with
  | zero =>
    intro i s x hi hd hx hs
    have c1 : ¬ (i : Int) < (x.length : Int) := by omega
    have e : s + (n - i) = s := by omega
    refine ⟨x, ?_⟩
    rw [e]
    exact Evt.succ (fun k => by rw [laws_markIntS.l0, if_neg c1]) (Evt.const _)
  | succ d ih =>
    intro i s x hi hd hx hs
    have c1 : (i : Int) < (x.length : Int) := by omega
    have c2 : (0 : Int) ≤ (i : Int) := by omega
    obtain ⟨y, hy⟩ := ih (i + 1) (s + 1) (x.set i (s : Int)) (by omega) (by omega) (by rw [List.length_set]; exact hx) (by omega)
    have e : s + 1 + (n - (i + 1)) = s + (n - i) := by omega
    rw [e] at hy
    exact ⟨y, Evt.succ (fun k => by rw [laws_markIntS.l0, if_pos c1, if_pos c2, wrap_succ i (by omega), wrap_succ s (by omega), Int.toNat_natCast]) hy⟩
theorem puts_l0 (t : List ByteArray) (ht : t.length ≤ 10) (ho : ∀ x ∈ t, okMarks x 1 5 = true) (l : List Int) (r : List ByteArray × Bool)
    (H : Evt (fun k => (spec_l8First.f k (srt t) l).bind fun t222 => (some (t222, true))) r) (d : Nat) :
    ∀ i : Nat, i ≤ t.length → t.length - i = d → Evt (fun k => spec_BestFrom.l0 k t l ((t.take i).foldl ins []) i) r := by
  induction d with
  | zero =>
    intro i hi hd
    have c1 : ¬ (i : Int) < (t.length : Int) := by omega
    rw [List.take_of_length_le (by omega), srt_fold]
    exact Evt.succ (fun k => by rw [spec_BestFrom.l0, if_neg c1]) H
  | succ d ih =>
    intro i hi hd
    have li : i < t.length := by omega
    have c1 : (i : Int) < (t.length : Int) := by omega
    have c2 : (0 : Int) ≤ (i : Int) := by omega
    have hf := fold_ok (t.take i) [] (by simp) (fun x hx => ho x (List.mem_of_mem_take hx))
    have hl := hf.2
    rw [List.length_take, List.length_nil] at hl
    have p := put_evt ((t.take i).foldl ins []) (rdOf ByteArray.empty t (i : Int)) (by omega) hf.1 (by rw [rdOf_get _ t i li]; exact ho _ (List.getElem_mem li))
    have := ih (i + 1) li (by omega)
    rw [rdOf_get _ t i li, take_fold t i li, ← rdOf_get ByteArray.empty t i li] at p
    exact Evt.succ (fun k => by rw [spec_BestFrom.l0, if_pos c1, if_pos c2, wrap_succ i (by omega)]) (Evt.bind p this)
theorem same_evt (t : List ByteArray) (ht : t.length ≤ 1048576) (l : List Int) (hl : l.length ≤ 1048576) : ∃ r : List ByteArray × Bool, r.1.length ≤ 1000 ∧ Evt (fun k => spec_BestFrom.f k t l) r ∧ Evt (fun k => impl_BestFrom.f k t l) r := by
  have s1 := specTable_evt t (by omega)
  have i1 := implTable_evt t (by omega)
  have s2 := specWeights_evt l hl
  have i2 := (Evt.const (okW l)).of_eq (fun _ => implWeights_eq l hl)
  have ns : Evt (fun k => spec_BestFrom.j0 k t l true) ([], false) := Evt.succ (h := fun _ => some ([], false)) (fun k => by rw [spec_BestFrom.j0, if_pos rfl]) (Evt.const _)
  have ni : Evt (fun k => impl_BestFrom.j0 k t l true) ([], false) := Evt.succ (h := fun _ => some ([], false)) (fun k => by rw [impl_BestFrom.j0, if_pos rfl]) (Evt.const _)
  cases h1 : okTable t with
  | false =>
    rw [h1] at s1 i1
    exact ⟨([], false), by simp, Evt.bind s1 (Evt.ite_neg (by simp) ns), Evt.bind i1 (Evt.ite_neg (by simp) ni)⟩
  | true =>
    rw [h1] at s1 i1
    cases h2 : okW l with
    | false =>
      rw [h2] at s2 i2
      exact ⟨([], false), by simp, Evt.bind s1 (Evt.ite_pos rfl (Evt.bind s2 (Evt.ite_neg (by simp) ns))), Evt.bind i1 (Evt.ite_pos rfl (Evt.bind i2 (Evt.ite_neg (by simp) ni)))⟩
    | true =>
      rw [h2] at s2 i2
      by_cases h3 : (t.length : Int) < (l.length : Int)
      · have e := decide_eq_true h3
        refine ⟨([], false), by simp, Evt.bind s1 (Evt.ite_pos rfl (Evt.bind s2 (Evt.ite_pos rfl ?_))), Evt.bind i1 (Evt.ite_pos rfl (Evt.bind i2 (Evt.ite_pos rfl ?_)))⟩
        · rw [e]; exact ns
        · rw [e]; exact ni
      · have e := decide_eq_false h3
        have hof := of_table t h1
        have hok : ∀ x ∈ t, okMarks x 1 5 = true := fun m hm => hof.2.2.1 m hm
        have hlen : t.length ≤ 10 := hof.2.1
        obtain ⟨w1, w2⟩ := w_ok l h2
        obtain ⟨r, hr, r1, r2⟩ := first_evt (srt t) (sz_ok _ (srt_ok t hok)) l w2 w1 (by rw [srt_len]; omega) (by rw [srt_len]; omega)
        refine ⟨(r, true), hr, Evt.bind s1 (Evt.ite_pos rfl (Evt.bind s2 (Evt.ite_pos rfl ?_))), Evt.bind i1 (Evt.ite_pos rfl (Evt.bind i2 (Evt.ite_pos rfl ?_)))⟩
        · rw [e]
          exact Evt.succ (h := fun k => spec_BestFrom.l0 k t l [] ((0 : Nat) : Int)) (fun k => by rw [spec_BestFrom.j0, if_neg (by simp)]; rfl) (puts_l0 t hlen hok l _ (Evt.bind r1 (Evt.const _)) t.length 0 (Nat.zero_le _) rfl)
        · rw [e]
          exact Evt.succ (h := fun k => (slices_Clone_string_string.f t).bind fun t280 => ((slices_SortFunc_string_string.f k t280).bind fun t283 => ((impl_bestOf.f k t283 l).bind fun t284 => (some (t284, true))))) (fun k => by rw [impl_BestFrom.j0, if_neg (by simp)]) (Evt.bind ((Evt.const _).of_eq (fun _ => clone_eq t ht)) (Evt.bind (sortf_evt t (by omega) hok) (Evt.bind r2 (Evt.const _))))
theorem FnExactBestFrom : laws_FnExactBestFrom.Pure := by
  intro t l ht hs hl hw
  obtain ⟨z, hz, hor⟩ := szStringS_evt t 1048576 (by omega) (by omega) ht hs
  refine Evt.get (r := true) ?_
  by_cases big : (l.length : Int) > 1048576
  · exact Evt.ite_pos big (Evt.const _)
  refine Evt.ite_neg big ?_
  refine Evt.bind hz ?_
  by_cases hn : z < 0
  · exact Evt.ite_pos hn (Evt.const _)
  · refine Evt.ite_neg hn ?_
    have ht : t.length ≤ 1048576 := by omega
    have hl : l.length ≤ 1048576 := by omega
    obtain ⟨r, hr, h1, h2⟩ := same_evt t ht l hl
    obtain ⟨y, hy⟩ := markFrom_l0 l.length (by omega) l.length 0 (1 + t.length) l (Nat.zero_le _) rfl rfl (by omega)
    refine Evt.bind (toStringS_evt t ht) (Evt.bind (toIntS_evt l hl) (Evt.bind h1 (Evt.bind (toStringS_evt t ht) (Evt.bind (toIntS_evt l hl) (Evt.bind h2 (Evt.bind (eqTable_evt r.1 (by omega)) (Evt.ite_pos rfl ?_)))))))
    rw [show (r.2 != r.2) = false by simp]
    refine Evt.succ (h := fun k => _) (fun k => by simp only [laws_FnExactBestFrom.j0]; rfl) ?_
    refine Evt.ite_neg (by simp) (Evt.bind (toStringS_evt t ht) (Evt.bind (eqStringS_evt t ht) (Evt.ite_pos rfl (Evt.bind (toIntS_evt l hl) (Evt.bind (eqIntS_evt l (by omega)) (Evt.ite_pos rfl (Evt.bind (markS_evt t (by omega)) (Evt.bind hy (Evt.ite_neg (by first | omega | (dsimp only; omega)) (Evt.bind (eqTable_evt r.1 (by omega)) (Evt.ite_pos rfl ?_)))))))))))
    rw [show (r.2 != r.2) = false by simp]
    refine Evt.succ (h := fun k => _) (fun k => by simp only [laws_FnExactBestFrom.j1]; rfl) ?_
    refine Evt.ite_neg (by simp) (Evt.bind (markTable2_evt r.1 (by omega)) (Evt.bind (heldTable_evt r.1.length (by omega)) (Evt.ite_neg (by first | omega | (dsimp only; omega)) (Evt.ite_pos rfl (Evt.bind (toStringS_evt t ht) (Evt.bind (toIntS_evt l hl) (Evt.bind h2 (Evt.bind (eqTable_evt r.1 (by omega)) (Evt.ite_pos rfl ?_)))))))))
    rw [show (r.2 != r.2) = false by simp]
    refine Evt.succ (h := fun k => _) (fun k => by simp only [laws_FnExactBestFrom.j2]; rfl) ?_
    exact Evt.ite_neg (by simp) (Evt.bind (heldTable_evt r.1.length (by omega)) (Evt.ite_neg (by first | omega | (dsimp only; omega)) (Evt.ite_pos rfl (Evt.const _))))
end Go.Proofs.YtgaadjlcmgmfaaaGreatDoor.Pure
