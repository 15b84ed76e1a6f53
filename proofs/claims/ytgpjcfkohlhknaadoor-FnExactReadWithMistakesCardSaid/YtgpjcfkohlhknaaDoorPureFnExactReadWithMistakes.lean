/- The program's ReadWithMistakes returns what the reference's ReadWithMistakes returns, for every Table and every text. No condition. -/
import Derived.Test.YtgpjcfkohlhknaaDoorPFnExactReadWithMistakesx9
namespace Go.Proofs.YtgpjcfkohlhknaaDoor.Pure
open Go.RowKit Go.Proofs.YtgpjcfkohlhknaaDoor.PFnExactReadWithMistakes Go.Proofs.YtgpjcfkohlhknaaDoorW.PrintWords Go.Proofs.YtgpjcfkohlhknaaDoorW.PrintLast Go.Proofs.YtgpjcfkohlhknaaDoorW.PrintMore
set_option linter.unusedVariables false
set_option linter.unusedSimpArgs false

/-! ### ev -/
/-- With enough rounds, and ever after, g answers r. -/
def Evt {α : Type} (g : Nat → Option α) (r : α) : Prop := ∃ K, ∀ k, K ≤ k → g k = some r
theorem Evt.const {α : Type} (r : α) : Evt (fun _ => some r) r := ⟨0, fun _ _ => rfl⟩
theorem Evt.of_eq {α : Type} {g h : Nat → Option α} {r : α} (e : ∀ k, g k = h k) (H : Evt h r) : Evt g r := by
  obtain ⟨K, hK⟩ := H
  exact ⟨K, fun k hk => (e k).trans (hK k hk)⟩
theorem Evt.bind {α β : Type} {g : Nat → Option β} {h : Nat → β → Option α} {a : β} {r : α} (H1 : Evt g a) (H2 : Evt (fun k => h k a) r) : Evt (fun k => (g k).bind (h k)) r := by
  obtain ⟨K1, h1⟩ := H1
  obtain ⟨K2, h2⟩ := H2
  refine ⟨max K1 K2, fun k hk => ?_⟩
  show (g k).bind (h k) = some r
  rw [h1 k (by omega)]
  exact h2 k (by omega)
theorem Evt.succ {α : Type} {g h : Nat → Option α} {r : α} (e : ∀ k, g (k + 1) = h k) (H : Evt h r) : Evt g r := by
  obtain ⟨K, hK⟩ := H
  refine ⟨K + 1, fun k hk => ?_⟩
  obtain ⟨k, rfl⟩ : ∃ m, k = m + 1 := ⟨k - 1, by omega⟩
  rw [e]
  exact hK k (by omega)
theorem Evt.get {α : Type} {g : Nat → Option α} {r : α} (H : Evt g r) : ∃ k, g k = some r := by
  obtain ⟨K, hK⟩ := H
  exact ⟨K, hK K (Nat.le_refl _)⟩
theorem Evt.get2 {α β : Type} {g : Nat → Option α} {h : Nat → Option β} {r : α} {s : β} (H : Evt g r) (H' : Evt h s) : ∃ k, g k = some r ∧ h k = some s := by
  obtain ⟨K, hK⟩ := H
  obtain ⟨K', hK'⟩ := H'
  exact ⟨max K K', hK _ (by omega), hK' _ (by omega)⟩
theorem Evt.ite_pos {α : Type} {c : Prop} [Decidable c] {g h : Nat → Option α} {r : α} (hc : c) (H : Evt g r) : Evt (fun k => if c then g k else h k) r :=
  H.of_eq (fun k => by rw [if_pos hc])
theorem Evt.ite_neg {α : Type} {c : Prop} [Decidable c] {g h : Nat → Option α} {r : α} (hc : ¬ c) (H : Evt h r) : Evt (fun k => if c then g k else h k) r :=
  H.of_eq (fun k => by rw [if_neg hc])
theorem Evt.pred {α : Type} {g h : Nat → Option α} {r : α} (e : ∀ k, g (k + 1) = h k) (H : Evt g r) : Evt h r := by
  obtain ⟨K, hK⟩ := H
  exact ⟨K, fun k hk => (e k).symm.trans (hK (k + 1) (by omega))⟩

/-! ### lists -/
theorem rdOf_get {α : Type} (d : α) (l : List α) (i : Nat) (h : i < l.length) : rdOf d l (i : Int) = l[i] := by
  unfold rdOf
  rw [Int.toNat_natCast, List.getD_eq_getElem?_getD, List.getElem?_eq_getElem h]
  rfl
theorem rd_get (l : List Int) (i : Nat) (h : i < l.length) : rd l (i : Int) = l[i] := by
  unfold rd
  rw [Int.toNat_natCast, List.getD_eq_getElem?_getD, List.getElem?_eq_getElem h]
  rfl
theorem drop_get {α : Type} (l : List α) (i : Nat) (h : i < l.length) : l.drop i = l[i] :: l.drop (i + 1) := by simp
theorem wrap_succ (i : Nat) (h : i < 9223372036854775807) : wrap64 ((i : Int) + 1) = ((i + 1 : Nat) : Int) := by unfold wrap64; omega

/-! ### in -/
theorem in_eq (a b c : Int) : impl_in.f a b c = some (decide (b ≤ a ∧ a ≤ c)) := by
  unfold impl_in.f
  by_cases h : a ≥ b
  · rw [if_pos h]
    simp [show b ≤ a from h]
  · rw [if_neg h]
    simp [show ¬ b ≤ a from h]
theorem l1In_eq (a b c : Int) : spec_l1In.f a b c = some (decide (b ≤ a ∧ a ≤ c)) := by
  unfold spec_l1In.f
  by_cases h : a ≥ b
  · rw [if_pos h]
    simp [show b ≤ a from h]
  · rw [if_neg h]
    simp [show ¬ b ≤ a from h]

/-! ### marks -/
/-- A byte that is a mark. -/
def okc (c : UInt8) : Bool := c == 46 || c == 45
def okMarks (s : ByteArray) (lo hi : Int) : Bool := decide (lo ≤ s.size ∧ (s.size : Int) ≤ hi) && s.data.toList.all okc
theorem size_data (s : ByteArray) : s.data.toList.length = s.size := by rw [Array.length_toList]; rfl
theorem bt_get (s : ByteArray) (i : Nat) (h : i < s.size) : bt s (i : Int) = ((s.data.toList[i]'(by rw [size_data]; exact h)).toNat : Int) := by
  unfold bt
  rw [dif_pos (by simpa using h)]
  simp only [Int.toNat_natCast, Array.getElem_toList]
  rfl
theorem trim_empty (l : List UInt8) : ((Lib.trimS l [46, 45]) = []) ↔ l.all okc = true := by
  have e : ∀ c : UInt8, ([46, 45] : List UInt8).contains c = okc c := fun c => by
    simp [okc, List.contains_cons]
    rfl
  have dw : ∀ l : List UInt8, (l.dropWhile (([46, 45] : List UInt8).contains ·) = []) ↔ l.all okc = true := by
    intro l
    induction l with
    | nil => simp
    | cons c t ih =>
      rw [List.dropWhile_cons, e]
      cases h : okc c with
      | true =>
        simp only [if_true, List.all_cons, h, Bool.true_and]
        exact ih
      | false => simp [h]
  unfold Lib.trimS Lib.trimLeftS Lib.trimRightS
  rw [dw]
  have dwa : ∀ l : List UInt8, (l.dropWhile (([46, 45] : List UInt8).contains ·)).all okc = l.all okc := by
    intro l
    induction l with
    | nil => rfl
    | cons c t ih =>
      rw [List.dropWhile_cons, e]
      cases h : okc c with
      | true =>
        simp only [if_true, List.all_cons, h, Bool.true_and]
        exact ih
      | false => simp
  rw [List.all_reverse, dwa, List.all_reverse]
theorem implAreMarks_eq (s : ByteArray) (lo hi : Int) (hh : hi ≤ 9223372036854775807) : impl_areMarks.f s lo hi = some (okMarks s lo hi) := by
  unfold impl_areMarks.f okMarks
  rw [in_eq]
  simp only [Option.bind_some, decide_eq_true_eq]
  by_cases h : lo ≤ (s.size : Int) ∧ (s.size : Int) ≤ hi
  · rw [if_pos h]
    unfold strings_Trim.f
    rw [if_pos (by omega), if_pos rfl]
    simp only [Option.bind_some, h, and_self, decide_true, Bool.true_and]
    congr 1
    rw [Lib.toList_data]
    have := trim_empty s.data.toList
    cases hb : s.data.toList.all okc with
    | true => simp [this.2 hb]
    | false =>
      have : ¬ Lib.trimS s.data.toList [46, 45] = [] := fun h => by rw [this.1 h] at hb; cases hb
      simpa using this
  · rw [if_neg h]
    simp [h]
theorem drop_cons_ (l : List UInt8) (i : Nat) (h : i < l.length) : l.drop i = l[i] :: l.drop (i + 1) := by simp
/-- The reference's loop from place i on: the marks up to 'hi', then the length. -/
theorem specMarks_l0 (s : ByteArray) (lo hi : Int) (h0 : 0 ≤ hi) (hh : hi ≤ 1000000) (d : Nat) : ∀ (k i : Nat), i ≤ s.size → (i : Int) ≤ hi + 1 → (hi + 1 - i).toNat = d → 2 * d + 3 ≤ k →
    spec_l2Marks.l0 k s lo hi i = some (((s.data.toList.drop i).take d).all okc && decide (lo ≤ s.size ∧ (s.size : Int) ≤ hi)) := by
  induction d with
  | zero =>
    intro k i hi1 hi2 hd hk
    obtain ⟨k, rfl⟩ : ∃ m, k = m + 2 := ⟨k - 2, by omega⟩
    have e : (i : Int) = hi + 1 := by omega
    simp only [spec_l2Marks.l0]
    have hj : spec_l2Marks.j1 (k + 1) s lo hi i false = some (decide (lo ≤ s.size ∧ (s.size : Int) ≤ hi)) := by
      simp only [spec_l2Marks.j1]
      rw [if_neg (by simp), l1In_eq]
      rfl
    by_cases hlt : (i : Int) < (s.size : Int)
    · rw [if_pos hlt, show decide ((i : Int) ≤ hi) = false from decide_eq_false (by omega), hj]
      simp
    · rw [if_neg hlt, hj]
      simp
  | succ d ih =>
    intro k i hi1 hi2 hd hk
    obtain ⟨k, rfl⟩ : ∃ m, k = m + 2 := ⟨k - 2, by omega⟩
    simp only [spec_l2Marks.l0]
    by_cases hlt : (i : Int) < (s.size : Int)
    · rw [if_pos hlt, show decide ((i : Int) ≤ hi) = true from decide_eq_true (by omega)]
      simp only [spec_l2Marks.j1]
      rw [if_pos trivial, if_pos (by omega), if_pos hlt]
      have hl : i < s.data.toList.length := by rw [size_data]; omega
      rw [drop_cons_ _ _ hl, List.take_succ_cons, List.all_cons, bt_get s i (by omega)]
      have hw : wrap64 ((i : Int) + 1) = ((i + 1 : Nat) : Int) := by unfold wrap64; omega
      rw [hw]
      generalize s.data.toList[i] = c
      have hc : ∀ n : Nat, n < 256 → (((c.toNat : Int) = (n : Int)) ↔ c = UInt8.ofNat n) := by
        intro n hn
        constructor
        · intro h
          apply UInt8.toNat_inj.1
          simp
          omega
        · rintro rfl
          simp
          omega
      have c46 : ((c.toNat : Int) = 46) ↔ c = 46 := hc 46 (by omega)
      have c45 : ((c.toNat : Int) = 45) ↔ c = 45 := hc 45 (by omega)
      by_cases h46 : c = 46
      · subst h46
        rw [if_pos (by rfl), ih _ _ (by omega) (by omega) (by omega) (by omega)]
        rfl
      · rw [if_neg (fun h => h46 (c46.1 h))]
        by_cases h45 : c = 45
        · subst h45
          rw [if_pos (by rfl), ih _ _ (by omega) (by omega) (by omega) (by omega)]
          rfl
        · rw [if_neg (fun h => h45 (c45.1 h))]
          simp [okc, h46, h45]
    · rw [if_neg hlt]
      have hj : spec_l2Marks.j1 (k + 1) s lo hi i false = some (decide (lo ≤ s.size ∧ (s.size : Int) ≤ hi)) := by
        simp only [spec_l2Marks.j1]
        rw [if_neg (by simp), l1In_eq]
        rfl
      rw [hj, List.drop_eq_nil_of_le (by rw [size_data]; omega)]
      simp
theorem specMarks_eq (s : ByteArray) (lo hi : Int) (h0 : 0 ≤ hi) (hh : hi ≤ 1000000) (k : Nat) (hk : 2 * hi + 5 ≤ k) : spec_l2Marks.f k s lo hi = some (okMarks s lo hi) := by
  unfold spec_l2Marks.f
  have h := specMarks_l0 s lo hi h0 hh (hi + 1 - ((0 : Nat) : Int)).toNat k 0 (by omega) (by omega) rfl (by omega)
  rw [show ((0 : Nat) : Int) = 0 from rfl] at h
  rw [h]
  unfold okMarks
  congr 1
  rw [List.drop_zero, Bool.and_comm]
  by_cases hl : lo ≤ (s.size : Int) ∧ (s.size : Int) ≤ hi
  · rw [List.take_of_length_le (by rw [size_data]; omega)]
  · simp [hl]

/-! ### tolist -/
theorem toList_inj (a b : ByteArray) : a.toList = b.toList ↔ a = b := by
  rw [Lib.toList_data, Lib.toList_data]
  constructor
  · intro h
    obtain ⟨⟨l⟩⟩ := a
    obtain ⟨⟨m⟩⟩ := b
    simp only at h
    rw [h]
  · rintro rfl
    rfl

/-! ### table -/
open Classical
/-- The first place of a text in a list, from place i on; -1 for none. -/
def plc : List ByteArray → ByteArray → Nat → Int
  | [], _, _ => -1
  | x :: l, s, i => if x = s then (i : Int) else plc l s (i + 1)
theorem plc_ge (l : List ByteArray) (s : ByteArray) : ∀ i, plc l s i = -1 ∨ (i : Int) ≤ plc l s i := by
  induction l with
  | nil => exact fun i => .inl rfl
  | cons x l ih =>
    intro i
    unfold plc
    by_cases h : x = s
    · rw [if_pos h]
      exact .inr (Int.le_refl _)
    · rw [if_neg h]
      rcases ih (i + 1) with h | h
      · exact .inl h
      · right
        omega
theorem plc_none (l : List ByteArray) (s : ByteArray) : ∀ i, plc l s i = -1 ↔ s ∉ l := by
  induction l with
  | nil => intro i; simp [plc]
  | cons x l ih =>
    intro i
    unfold plc
    by_cases h : x = s
    · subst h
      rw [if_pos rfl]
      simp
    · rw [if_neg h, ih, List.mem_cons]
      constructor
      · intro hn he
        rcases he with e | e
        · exact h e.symm
        · exact hn e
      · intro hn he
        exact hn (.inr he)
theorem plc_lt (l : List ByteArray) (s : ByteArray) : ∀ i, plc l s i < ((i + l.length : Nat) : Int) := by
  induction l with
  | nil => intro i; simp [plc]; omega
  | cons x l ih =>
    intro i
    unfold plc
    by_cases h : x = s
    · rw [if_pos h]
      simp
      omega
    · rw [if_neg h]
      have := ih (i + 1)
      simp at this ⊢
      omega
theorem specPlace_l0 (l : List ByteArray) (s : ByteArray) (hl : l.length < 9223372036854775807) (d : Nat) : ∀ i, i ≤ l.length → l.length - i = d → Evt (fun k => spec_l2Place.l0 k l s i) (plc (l.drop i) s i) := by
  induction d with
  | zero =>
    intro i hi hd
    refine Evt.succ (h := fun _ => some (-1)) (fun k => ?_) ?_
    · simp only [spec_l2Place.l0]
      rw [if_neg (by omega)]
    · rw [List.drop_eq_nil_of_le (by omega)]
      exact Evt.const _
  | succ d ih =>
    intro i hi hd
    have hlt : i < l.length := by omega
    rw [drop_get l i hlt]
    unfold plc
    by_cases h : l[i] = s
    · rw [if_pos h]
      refine Evt.succ (h := fun _ => some (i : Int)) (fun k => ?_) (Evt.const _)
      simp only [spec_l2Place.l0]
      rw [if_pos (by omega), if_pos (by omega), rdOf_get _ _ _ hlt, if_pos ((toList_inj _ _).2 h)]
    · rw [if_neg h]
      refine Evt.succ (fun k => ?_) (ih (i + 1) (by omega) (by omega))
      simp only [spec_l2Place.l0]
      rw [if_pos (by omega), if_pos (by omega), rdOf_get _ _ _ hlt, if_neg (fun e => h ((toList_inj _ _).1 e)), wrap_succ i (by omega)]
theorem specPlace_evt (l : List ByteArray) (s : ByteArray) (hl : l.length < 9223372036854775807) : Evt (fun k => spec_l2Place.f k l s) (plc l s 0) :=
  (specPlace_l0 l s hl l.length 0 (by omega) (by omega)).of_eq (fun k => rfl)
theorem implIndex_l0 (l : List ByteArray) (s : ByteArray) (hl : l.length < 9223372036854775807) (d : Nat) : ∀ i, i ≤ l.length → l.length - i = d → Evt (fun k => slices_Index_string_string.l0 k l s (l.length : Int) i) (plc (l.drop i) s i) := by
  induction d with
  | zero =>
    intro i hi hd
    refine Evt.succ (h := fun _ => some (-1)) (fun k => ?_) ?_
    · simp only [slices_Index_string_string.l0]
      rw [if_neg (by omega)]
    · rw [List.drop_eq_nil_of_le (by omega)]
      exact Evt.const _
  | succ d ih =>
    intro i hi hd
    have hlt : i < l.length := by omega
    rw [drop_get l i hlt]
    unfold plc
    by_cases h : l[i] = s
    · rw [if_pos h]
      refine Evt.succ (h := fun _ => some (i : Int)) (fun k => ?_) (Evt.const _)
      simp only [slices_Index_string_string.l0]
      rw [if_pos (by omega), if_pos (by omega), if_pos (by omega), rdOf_get _ _ _ hlt, if_pos ((toList_inj _ _).2 h.symm)]
    · rw [if_neg h]
      refine Evt.succ (fun k => ?_) (ih (i + 1) (by omega) (by omega))
      simp only [slices_Index_string_string.l0]
      rw [if_pos (by omega), if_pos (by omega), if_pos (by omega), rdOf_get _ _ _ hlt, if_neg (fun e => h ((toList_inj _ _).1 e).symm), wrap_succ i (by omega)]
theorem implIndex_evt (l : List ByteArray) (s : ByteArray) (hl : l.length < 9223372036854775807) : Evt (fun k => slices_Index_string_string.f k l s) (plc l s 0) :=
  (implIndex_l0 l s hl l.length 0 (by omega) (by omega)).of_eq (fun k => rfl)
theorem implContains_evt (l : List ByteArray) (s : ByteArray) (hl : l.length < 9223372036854775807) : Evt (fun k => slices_Contains_string_string.f k l s) (decide (s ∈ l)) := by
  have h : decide (plc l s 0 ≥ 0) = decide (s ∈ l) := by
    rw [decide_eq_decide]
    have h1 := plc_none l s 0
    have h2 := plc_ge l s 0
    constructor
    · intro h
      by_cases hm : s ∈ l
      · exact hm
      · rw [h1.2 hm] at h
        omega
    · intro hm
      rcases h2 with h | h
      · exact absurd hm (h1.1 h)
      · omega
  rw [← h]
  exact Evt.bind (implIndex_evt l s hl) (Evt.const _)
/-- Is a list of marks a table? -/
noncomputable def okTable (l : List ByteArray) : Bool := decide (1 ≤ l.length ∧ l.length ≤ 10 ∧ (∀ m ∈ l, okMarks m 1 5 = true) ∧ l.Nodup)
theorem plc_first (l m : List ByteArray) (s : ByteArray) : ∀ i, plc (l ++ s :: m) s i = ((i + l.length : Nat) : Int) ↔ s ∉ l := by
  induction l with
  | nil =>
    intro i
    simp [plc]
  | cons x l ih =>
    intro i
    rw [List.cons_append]
    unfold plc
    by_cases h : x = s
    · rw [if_pos h]
      simp [h]
      omega
    · rw [if_neg h, show i + (x :: l).length = (i + 1) + l.length by simp; omega, ih, List.mem_cons]
      constructor
      · intro hn he
        rcases he with e | e
        · exact h e.symm
        · exact hn e
      · intro hn he
        exact hn (.inr he)
/-- The rest of a table is good, what stands ahead of it known. -/
noncomputable def okRest (l : List ByteArray) (i : Nat) : Bool := decide (∀ j (h : j < l.length), i ≤ j → okMarks l[j] 1 5 = true ∧ l[j] ∉ l.take j)
theorem okRest_end (l : List ByteArray) (i : Nat) (h : l.length ≤ i) : okRest l i = true := by
  unfold okRest
  rw [decide_eq_true_eq]
  intro j hj hij
  omega
theorem okRest_step (l : List ByteArray) (i : Nat) (h : i < l.length) : okRest l i = (okMarks l[i] 1 5 && (!decide (l[i] ∈ l.take i)) && okRest l (i + 1)) := by
  unfold okRest
  rw [Bool.eq_iff_iff]
  simp only [Bool.and_eq_true, decide_eq_true_eq, Bool.not_eq_true', decide_eq_false_iff_not]
  constructor
  · intro H
    exact ⟨H i h (Nat.le_refl _), fun j hj hij => H j hj (by omega)⟩
  · intro H j hj hij
    by_cases e : j = i
    · subst e
      exact H.1
    · exact H.2 j hj (by omega)
theorem okTable_eq (l : List ByteArray) : okTable l = (decide (1 ≤ l.length ∧ l.length ≤ 10) && okRest l 0) := by
  unfold okTable okRest
  rw [Bool.eq_iff_iff]
  simp only [Bool.and_eq_true, decide_eq_true_eq]
  constructor
  · rintro ⟨h1, h2, h3, h4⟩
    refine ⟨⟨h1, h2⟩, fun j hj _ => ⟨h3 _ (List.getElem_mem hj), fun hm => ?_⟩⟩
    obtain ⟨q, hq, he⟩ := List.getElem_of_mem hm
    rw [List.length_take] at hq
    rw [List.getElem_take] at he
    exact absurd ((List.getElem_inj h4).1 he) (by omega)
  · rintro ⟨⟨h1, h2⟩, h3⟩
    refine ⟨h1, h2, fun m hm => ?_, ?_⟩
    · obtain ⟨j, hj, rfl⟩ := List.getElem_of_mem hm
      exact (h3 j hj (Nat.zero_le _)).1
    · rw [List.nodup_iff_pairwise_ne, List.pairwise_iff_getElem]
      intro i j hi hj hij he
      refine (h3 j hj (Nat.zero_le _)).2 ?_
      rw [← he]
      exact List.mem_of_getElem? (i := i) (by rw [List.getElem?_take, if_pos hij, List.getElem?_eq_getElem hi])
theorem implTable_l0 (l : List ByteArray) (hl : l.length < 9223372036854775807) (d : Nat) : ∀ i, i ≤ l.length → l.length - i = d → Evt (fun k => impl_isTable.l0 k l (l.length : Int) i l) (decide (1 ≤ l.length ∧ l.length ≤ 10) && okRest l i) := by
  induction d with
  | zero =>
    intro i hi hd
    refine Evt.succ (h := fun _ => some (decide (1 ≤ (l.length : Int) ∧ (l.length : Int) ≤ 10))) (fun k => ?_) ?_
    · simp only [impl_isTable.l0]
      rw [if_neg (by omega), in_eq]
      rfl
    · rw [okRest_end l i (by omega), Bool.and_true, show decide (1 ≤ (l.length : Int) ∧ (l.length : Int) ≤ 10) = decide (1 ≤ l.length ∧ l.length ≤ 10) by rw [decide_eq_decide]; omega]
      exact Evt.const _
  | succ d ih =>
    intro i hi hd
    have hlt : i < l.length := by omega
    rw [okRest_step l i hlt]
    have hc := implContains_evt (l.take i) l[i] (by rw [List.length_take]; omega)
    refine Evt.succ (h := fun k => if okMarks l[i] 1 5 = true then ((slices_Contains_string_string.f k (l.take i) l[i]).bind fun t => if t = true then some false else impl_isTable.l0 k l (l.length : Int) ((i + 1 : Nat) : Int) l) else some false) (fun k => ?_) ?_
    · simp only [impl_isTable.l0]
      rw [if_pos (by omega), if_pos (by omega), if_pos (by omega), rdOf_get _ _ _ hlt, wrap_succ i (by omega), if_pos (by omega)]
      unfold impl_isLetterMarks.f
      rw [implAreMarks_eq _ 1 5 (by omega)]
      rfl
    · by_cases hm : okMarks l[i] 1 5 = true
      · refine Evt.ite_pos hm (Evt.bind hc ?_)
        by_cases hin : l[i] ∈ l.take i
        · refine Evt.ite_pos (by simpa using hin) ?_
          simp [hin]
          exact Evt.const _
        · refine Evt.ite_neg (by simpa using hin) ?_
          simp only [hm, hin, decide_false, Bool.not_false, Bool.true_and, Bool.and_self]
          exact ih (i + 1) (by omega) (by omega)
      · refine Evt.ite_neg hm ?_
        simp [hm]
        exact Evt.const _
theorem implTable_evt (l : List ByteArray) (hl : l.length < 9223372036854775807) : Evt (fun k => impl_isTable.f k l) (okTable l) := by
  rw [okTable_eq]
  exact (implTable_l0 l hl l.length 0 (by omega) (by omega)).of_eq (fun k => rfl)
theorem specTable_l0 (l : List ByteArray) (hl : l.length < 9223372036854775807) (d : Nat) : ∀ i, i ≤ l.length → l.length - i = d → Evt (fun k => spec_l2Table.l0 k i l) (okRest l i) := by
  induction d with
  | zero =>
    intro i hi hd
    refine Evt.succ (h := fun _ => some true) (fun k => ?_) ?_
    · simp only [spec_l2Table.l0]
      rw [if_neg (by omega)]
    · rw [okRest_end l i (by omega)]
      exact Evt.const _
  | succ d ih =>
    intro i hi hd
    have hlt : i < l.length := by omega
    rw [okRest_step l i hlt]
    have hp := specPlace_evt l l[i] hl
    have hf : plc l l[i] 0 = (i : Int) ↔ l[i] ∉ l.take i := by
      have h := plc_first (l.take i) (l.drop (i + 1)) l[i] 0
      rw [← drop_get l i hlt, List.take_append_drop, List.length_take, Nat.min_eq_left (by omega), Nat.zero_add] at h
      exact h
    have hmk : Evt (fun k => spec_l2Marks.f k l[i] 1 5) (okMarks l[i] 1 5) := ⟨20, fun k hk => specMarks_eq _ 1 5 (by omega) (by omega) k (by omega)⟩
    refine Evt.succ (h := fun k => (spec_l2Marks.f k l[i] 1 5).bind fun t => if t = true then ((spec_l2Place.f k l l[i]).bind fun t => if t = (i : Int) then spec_l2Table.l0 k ((i + 1 : Nat) : Int) l else some false) else some false) (fun k => ?_) ?_
    · simp only [spec_l2Table.l0]
      rw [if_pos (by omega), if_pos (by omega), rdOf_get _ _ _ hlt, wrap_succ i (by omega)]
    · refine Evt.bind hmk ?_
      by_cases hm : okMarks l[i] 1 5 = true
      · refine Evt.ite_pos hm (Evt.bind hp ?_)
        by_cases hin : l[i] ∈ l.take i
        · refine Evt.ite_neg (fun e => (hf.1 e) hin) ?_
          simp [hin]
          exact Evt.const _
        · refine Evt.ite_pos (hf.2 hin) ?_
          simp only [hm, hin, decide_false, Bool.not_false, Bool.true_and, Bool.and_self]
          exact ih (i + 1) (by omega) (by omega)
      · refine Evt.ite_neg hm ?_
        simp [hm]
        exact Evt.const _
theorem specTable_evt (l : List ByteArray) (hl : l.length < 9223372036854775807) : Evt (fun k => spec_l2Table.f k l) (okTable l) := by
  rw [okTable_eq]
  refine Evt.of_eq (h := fun k => if decide (1 ≤ (l.length : Int) ∧ (l.length : Int) ≤ 10) = true then spec_l2Table.l0 k ((0 : Nat) : Int) l else some false) (fun k => ?_) ?_
  · unfold spec_l2Table.f
    rw [l1In_eq]
    rfl
  · by_cases h : 1 ≤ l.length ∧ l.length ≤ 10
    · refine Evt.ite_pos (by simp; omega) ?_
      simp only [h, and_self, decide_true, Bool.true_and]
      exact specTable_l0 l hl l.length 0 (by omega) (by omega)
    · refine Evt.ite_neg (by simp; omega) ?_
      simp [h]
      exact Evt.const _

/-! ### lawtable -/
/-- The law's own looks at a table: its weight, a copy, and whether it is as it was. -/
theorem szStringS_l0 (l : List ByteArray) (hl : l.length ≤ 1048576) (hs : ∀ m ∈ l, m.size ≤ 9223372036854775807) (d : Nat) : ∀ (i : Nat) (a : Int), i ≤ l.length → l.length - i = d → 0 ≤ a → a ≤ 1048576 → ∃ t, Evt (fun k => laws_szStringS.l0 k l a i) t := by
  induction d with
  | zero =>
    intro i a hi hd h0 h1
    refine ⟨a, Evt.succ (h := fun _ => some a) (fun k => ?_) (Evt.const _)⟩
    simp only [laws_szStringS.l0]
    rw [if_neg (by omega)]
  | succ d ih =>
    intro i a hi hd h0 h1
    have hlt : i < l.length := by omega
    have hsz := hs l[i] (List.getElem_mem hlt)
    have hw : wrap64 (a - (l[i].size : Int)) = a - (l[i].size : Int) := by unfold wrap64; omega
    by_cases h : a - (l[i].size : Int) < 0
    · refine ⟨-1, Evt.succ (h := fun _ => some (-1)) (fun k => ?_) (Evt.const _)⟩
      simp only [laws_szStringS.l0]
      rw [if_pos (by omega), if_pos (by omega), rdOf_get _ _ _ hlt, hw, if_pos h]
    · obtain ⟨t, ht⟩ := ih (i + 1) (a - (l[i].size : Int)) (by omega) (by omega) (by omega) (by omega)
      refine ⟨t, Evt.succ (fun k => ?_) ht⟩
      simp only [laws_szStringS.l0]
      rw [if_pos (by omega), if_pos (by omega), rdOf_get _ _ _ hlt, hw, if_neg h, wrap_succ i (by omega)]
theorem szStringS_evt (l : List ByteArray) (b : Int) (hb : 0 ≤ b) (hb2 : b ≤ 1048576) (h : l.length ≤ 9223372036854775807) (hs : ∀ m ∈ l, m.size ≤ 9223372036854775807) : ∃ t, Evt (fun k => laws_szStringS.f k l b) t ∧ (t < 0 ∨ l.length ≤ 1048576) := by
  have hw : wrap64 (b - (l.length : Int)) = b - (l.length : Int) := by unfold wrap64; omega
  by_cases hn : b - (l.length : Int) < 0
  · refine ⟨-1, (Evt.const (-1)).of_eq (fun k => ?_), .inl (by omega)⟩
    unfold laws_szStringS.f
    rw [hw, if_pos hn]
  · obtain ⟨t, ht⟩ := szStringS_l0 l (by omega) hs l.length 0 (b - (l.length : Int)) (by omega) (by omega) (by omega) (by omega)
    refine ⟨t, ht.of_eq (fun k => ?_), .inr (by omega)⟩
    unfold laws_szStringS.f
    rw [hw, if_neg hn]
    rfl
theorem szTable_evt (l : List ByteArray) (b : Int) (hb : 0 ≤ b) (hb2 : b ≤ 1048576) (h : l.length ≤ 9223372036854775807) (hs : ∀ m ∈ l, m.size ≤ 9223372036854775807) : ∃ t, Evt (fun k => laws_szTable.f k l b) t ∧ (t < 0 ∨ l.length ≤ 1048576) := by
  obtain ⟨t, ht, h⟩ := szStringS_evt l b hb hb2 h hs
  by_cases hn : t < 0
  · exact ⟨-1, Evt.bind ht (Evt.ite_pos hn (Evt.const _)), .inl (by omega)⟩
  · exact ⟨t, Evt.bind ht (Evt.ite_neg hn (Evt.const _)), h⟩
theorem toStringS_l0 (l : List ByteArray) (hl : l.length ≤ 1048576) (d : Nat) : ∀ (i : Nat) (x : List ByteArray), i ≤ l.length → l.length - i = d → x.length = l.length → x.take i = l.take i → Evt (fun k => laws_toStringS.l0 k l x i) l := by
  induction d with
  | zero =>
    intro i x hi hd hx ht
    have e : x = l := by
      have h1 : i = l.length := by omega
      rw [h1, List.take_length, ← hx, List.take_length] at ht
      exact ht
    subst e
    refine Evt.succ (h := fun _ => some x) (fun k => ?_) (Evt.const _)
    simp only [laws_toStringS.l0]
    rw [if_neg (by omega)]
  | succ d ih =>
    intro i x hi hd hx ht
    have hlt : i < l.length := by omega
    refine Evt.succ (fun k => ?_) (ih (i + 1) (x.set i l[i]) (by omega) (by omega) (by rw [List.length_set]; exact hx) ?_)
    · simp only [laws_toStringS.l0]
      rw [if_pos (by omega), if_pos (by omega), if_pos (by omega), rdOf_get _ _ _ hlt, wrap_succ i (by omega), Int.toNat_natCast]
    · rw [List.take_succ_eq_append_getElem (by rw [List.length_set]; omega), List.take_succ_eq_append_getElem hlt, List.take_set_of_le (by omega), ht, List.getElem_set_self]
theorem toStringS_evt (l : List ByteArray) (hl : l.length ≤ 1048576) : Evt (fun k => laws_toStringS.f k l) l := by
  refine (toStringS_l0 l hl l.length 0 (List.replicate l.length (⟨#[]⟩ : ByteArray)) (by omega) (by omega) (by simp) rfl).of_eq (fun k => ?_)
  unfold laws_toStringS.f
  rw [if_pos (by omega), Int.toNat_natCast, if_pos (by omega)]
  rfl
theorem toTable_evt (l : List ByteArray) (hl : l.length ≤ 1048576) : Evt (fun k => laws_toTable.f k l) l :=
  Evt.bind (toStringS_evt l hl) (Evt.const _)
theorem eqStringS_l0 (l : List ByteArray) (hl : l.length ≤ 1048576) (d : Nat) : ∀ (i : Nat), i ≤ l.length → l.length - i = d → Evt (fun k => laws_eqStringS.l0 k l l i) true := by
  induction d with
  | zero =>
    intro i hi hd
    refine Evt.succ (h := fun _ => some true) (fun k => ?_) (Evt.const _)
    simp only [laws_eqStringS.l0]
    rw [if_neg (by omega)]
  | succ d ih =>
    intro i hi hd
    refine Evt.succ (fun k => ?_) (ih (i + 1) (by omega) (by omega))
    simp only [laws_eqStringS.l0]
    rw [if_pos (by omega), if_pos (by omega), if_pos (by omega), if_pos trivial, wrap_succ i (by omega)]
theorem eqStringS_evt (l : List ByteArray) (hl : l.length ≤ 1048576) : Evt (fun k => laws_eqStringS.f k l l) true := by
  refine (eqStringS_l0 l hl l.length 0 (by omega) (by omega)).of_eq (fun k => ?_)
  unfold laws_eqStringS.f
  rw [if_pos rfl]
  rfl
theorem eqTable_evt (l : List ByteArray) (hl : l.length ≤ 1048576) : Evt (fun k => laws_eqTable.f k l l) true :=
  Evt.bind (eqStringS_evt l hl) (Evt.ite_pos rfl (Evt.const _))
theorem of_table (l : List ByteArray) (h : okTable l = true) : 1 ≤ l.length ∧ l.length ≤ 10 ∧ (∀ m ∈ l, okMarks m 1 5 = true) ∧ l.Nodup := by
  unfold okTable at h
  rw [decide_eq_true_eq] at h
  exact h
theorem len_wrap (l : List ByteArray) (h : l.length ≤ 1048576) : wrap64 ((l.length : Int) - 1) = (l.length : Int) - 1 := by
  unfold wrap64
  omega
theorem isLetter_len (l : List ByteArray) (h : okTable l = true) : wrap64 ((l.length : Int) - 1) = (l.length : Int) - 1 := by
  have := of_table l h
  unfold wrap64
  omega

/-! ### distance -/
/-- The least number of mistakes between two lists. -/
def lev : List UInt8 → List UInt8 → Nat
  | [], b => b.length
  | a, [] => a.length
  | x :: a, y :: b => min (lev a b + if x = y then 0 else 1) (min (lev a (y :: b) + 1) (lev (x :: a) b + 1))
termination_by a b => a.length + b.length
theorem lev_nil (b : List UInt8) : lev [] b = b.length := by
  unfold lev
  cases b <;> rfl
theorem lev_nil' (a : List UInt8) : lev a [] = a.length := by
  cases a with
  | nil => exact lev_nil []
  | cons x a => simp [lev]
theorem lev_cons (x y : UInt8) (a b : List UInt8) : lev (x :: a) (y :: b) = min (lev a b + if x = y then 0 else 1) (min (lev a (y :: b) + 1) (lev (x :: a) b + 1)) := by
  rw [lev]
theorem lev_le (n : Nat) : ∀ a b : List UInt8, a.length + b.length ≤ n → lev a b ≤ a.length + b.length := by
  induction n with
  | zero =>
    intro a b h
    obtain rfl : a = [] := List.eq_nil_of_length_eq_zero (by omega)
    rw [lev_nil]
    omega
  | succ n ih =>
    intro a b h
    cases a with
    | nil =>
      rw [lev_nil]
      omega
    | cons x a =>
      cases b with
      | nil => rw [lev_nil']; omega
      | cons y b =>
        have h1 := ih a (y :: b) (by simp at h ⊢; omega)
        rw [lev_cons]
        simp at h1 ⊢
        omega
theorem lev_bound (a b : List UInt8) : lev a b ≤ a.length + b.length := lev_le _ a b (Nat.le_refl _)
theorem min9 (A P Q R S T U V W e1 e2 : Nat) : min (min (A + e2) (min (P + 1) (Q + 1)) + e1) (min (min (R + e2) (min (S + 1) (T + 1)) + 1) (min (U + e2) (min (V + 1) (W + 1)) + 1)) = min (min (A + e1) (min (R + 1) (U + 1)) + e2) (min (min (P + e1) (min (S + 1) (V + 1)) + 1) (min (Q + e1) (min (T + 1) (W + 1)) + 1)) := by
  simp only [← Nat.add_min_add_right]
  ac_rfl
theorem lev_snoc_ (n : Nat) : ∀ (a b : List UInt8) (x y : UInt8), a.length + b.length ≤ n → lev (a ++ [x]) (b ++ [y]) = min (lev a b + if x = y then 0 else 1) (min (lev a (b ++ [y]) + 1) (lev (a ++ [x]) b + 1)) := by
  induction n with
  | zero =>
    intro a b x y h
    obtain rfl : a = [] := List.eq_nil_of_length_eq_zero (by omega)
    obtain rfl : b = [] := List.eq_nil_of_length_eq_zero (by omega)
    simp only [List.nil_append]
    rw [lev_cons]
  | succ n ih =>
    intro a b x y h
    cases a with
    | nil =>
      cases b with
      | nil =>
        simp only [List.nil_append]
        rw [lev_cons]
      | cons v b =>
        have h1 := ih [] b x y (by simp at h ⊢; omega)
        simp only [List.nil_append, List.cons_append] at h1 ⊢
        rw [lev_cons, h1, lev_cons x v [] b]
        simp only [lev_nil, List.length_append, List.length_cons, List.length_nil]
        omega
    | cons u a =>
      cases b with
      | nil =>
        have h1 := ih a [] x y (by simp at h ⊢; omega)
        simp only [List.nil_append, List.cons_append] at h1 ⊢
        rw [lev_cons, h1, lev_cons u y a []]
        simp only [lev_nil', List.length_append, List.length_cons, List.length_nil]
        omega
      | cons v b =>
        have h1 := ih a b x y (by simp at h ⊢; omega)
        have h2 := ih a (v :: b) x y (by simp at h ⊢; omega)
        have h3 := ih (u :: a) b x y (by simp at h ⊢; omega)
        simp only [List.cons_append] at h1 h2 h3 ⊢
        rw [lev_cons, h1, h2, h3, lev_cons u v a b, lev_cons u v a (b ++ [y]), lev_cons u v (a ++ [x]) b]
        exact min9 _ _ _ _ _ _ _ _ _ _ _
theorem lev_snoc (a b : List UInt8) (x y : UInt8) : lev (a ++ [x]) (b ++ [y]) = min (lev a b + if x = y then 0 else 1) (min (lev a (b ++ [y]) + 1) (lev (a ++ [x]) b + 1)) := lev_snoc_ (a.length + b.length) a b x y (Nat.le_refl _)
theorem ext1 (s : ByteArray) : (s.extract 1 s.size).data.toList = s.data.toList.drop 1 := Lib.extract_to_end s 1
theorem bt_zero (s : ByteArray) (c : UInt8) (l : List UInt8) (h : s.data.toList = c :: l) : bt s 0 = (c.toNat : Int) := by
  have h1 : s.data.toList.length = l.length + 1 := by rw [h]; rfl
  rw [size_data] at h1
  have h2 := bt_get s 0 (by omega)
  rw [show ((0 : Nat) : Int) = 0 from rfl] at h2
  rw [h2]
  simp [h]
theorem mn_eq (a b : Int) : mn a b = min a b := by unfold mn; omega
theorem mx_eq (a b : Int) : mx a b = max a b := by unfold mx; omega
theorem nat_byte (x y : UInt8) : ((x.toNat : Int) = (y.toNat : Int)) ↔ x = y := by
  constructor
  · intro h
    exact UInt8.toNat_inj.1 (by omega)
  · rintro rfl
    rfl
theorem three0 (A B C : Nat) : mn (mn (A : Int) ((B : Int) + 1)) ((C : Int) + 1) = ((min (A + 0) (min (B + 1) (C + 1)) : Nat) : Int) := by
  rw [mn_eq, mn_eq]
  omega
theorem three1 (A B C : Nat) : mn (mn ((A : Int) + 1) ((B : Int) + 1)) ((C : Int) + 1) = ((min (A + 1) (min (B + 1) (C + 1)) : Nat) : Int) := by
  rw [mn_eq, mn_eq]
  omega
theorem cellA (A B C X : Int) (h : X = min (A + 0) (min (B + 1) (C + 1))) : min A (1 + min B C) = X := by omega
theorem cellB (A B C X : Int) (h : X = min (A + 1) (min (B + 1) (C + 1))) : min (A + 1) (1 + min B C) = X := by omega
theorem wrapMin (A B : Int) (n : Nat) (hn : n ≤ 100000) (h1 : 0 ≤ A ∧ A ≤ n) (h2 : 0 ≤ B ∧ B ≤ n) : wrap64 (1 + min A B) = 1 + min A B := by
  unfold wrap64
  omega
/-- The program's distance. -/
theorem implDistance_eq (n : Nat) (hn : n ≤ 1000) : ∀ (k : Nat) (a b : ByteArray), a.size + b.size ≤ n → 2 * n + 2 ≤ k → impl_distance.f k a b = some (lev a.data.toList b.data.toList : Int) := by
  induction n with
  | zero =>
    intro k a b h hk
    obtain ⟨k, rfl⟩ : ∃ m, k = m + 2 := ⟨k - 2, by omega⟩
    have ha : a.data.toList = [] := List.eq_nil_of_length_eq_zero (by rw [size_data]; omega)
    simp only [impl_distance.f, impl_distance.j0]
    rw [Lib.toList_data, ha, if_pos rfl, if_pos trivial, lev_nil, size_data]
    congr 1
    unfold wrap64
    omega
  | succ n ih =>
    intro k a b h hk
    obtain ⟨k, rfl⟩ : ∃ m, k = m + 2 := ⟨k - 2, by omega⟩
    have ih := ih (by omega)
    simp only [impl_distance.f]
    have hA : (a.data.toList).length = a.size := size_data a
    have hB : (b.data.toList).length = b.size := size_data b
    rw [Lib.toList_data, Lib.toList_data]
    cases ha : a.data.toList with
    | nil =>
      rw [ha] at hA
      simp at hA
      rw [if_pos rfl]
      simp only [impl_distance.j0]
      rw [if_pos trivial, lev_nil, hB]
      congr 1
      unfold wrap64
      omega
    | cons x l =>
      rw [if_neg (by simp)]
      cases hb : b.data.toList with
      | nil =>
        rw [hb] at hB
        simp at hB
        simp only [impl_distance.j0]
        rw [if_pos (by rfl), lev_nil', ← ha, hA]
        congr 1
        unfold wrap64
        omega
      | cons y m =>
        rw [ha] at hA
        rw [hb] at hB
        simp only [List.length_cons] at hA hB
        simp only [impl_distance.j0]
        have ea : (a.extract 1 a.size).data.toList = l := by rw [ext1, ha]; rfl
        have eb : (b.extract 1 b.size).data.toList = m := by rw [ext1, hb]; rfl
        have sa : (a.extract 1 a.size).size = l.length := by rw [← size_data, ea]
        have sb : (b.extract 1 b.size).size = m.length := by rw [← size_data, eb]
        have i1 := ih k (a.extract 1 a.size) (b.extract 1 b.size) (by omega) (by omega)
        have i2 := ih k (a.extract 1 a.size) b (by omega) (by omega)
        have i3 := ih k a (b.extract 1 b.size) (by omega) (by omega)
        rw [ea, eb] at i1
        rw [ea, hb] at i2
        rw [ha, eb] at i3
        rw [i1, i2, i3, if_neg (by simp), if_pos (by omega), if_pos (by omega)]
        simp only [Option.bind_some]
        rw [if_pos (by omega), if_pos (by omega), bt_zero a x l ha, bt_zero b y m hb, lev_cons]
        have b1 := lev_bound l m
        have b2 := lev_bound l (y :: m)
        have b3 := lev_bound (x :: l) m
        simp only [List.length_cons] at b2 b3
        have w1 : wrap64 ((lev l (y :: m) : Int) + 1) = (lev l (y :: m) : Int) + 1 := by unfold wrap64; omega
        have w2 : wrap64 ((lev (x :: l) m : Int) + 1) = (lev (x :: l) m : Int) + 1 := by unfold wrap64; omega
        have w3 : wrap64 ((lev l m : Int) + 1) = (lev l m : Int) + 1 := by unfold wrap64; omega
        rw [w1, w2, w3]
        by_cases hxy : x = y
        · rw [if_pos ((nat_byte x y).2 hxy), if_pos hxy]
          exact congrArg some (three0 _ _ _)
        · rw [if_neg (fun h => hxy ((nat_byte x y).1 h)), if_neg hxy]
          exact congrArg some (three1 _ _ _)
/-- The reference's rows. -/
def cell (a b : ByteArray) (i j : Nat) : Int := (lev (a.data.toList.take i) (b.data.toList.take j) : Int)
theorem rd_range (f : Nat → Int) (m j : Nat) (h : j < m) : rd ((List.range m).map f) (j : Int) = f j := by
  unfold rd
  rw [Int.toNat_natCast, List.getD_eq_getElem?_getD, List.getElem?_map, List.getElem?_range h]
  rfl
theorem range_snoc (f : Nat → Int) (m : Nat) : (List.range m).map f ++ [f m] = (List.range (m + 1)).map f := by
  rw [List.range_succ, List.map_append]
  rfl
theorem take_snoc_ (l : List UInt8) (i : Nat) (h : i < l.length) : l.take (i + 1) = l.take i ++ [l[i]] := by
  rw [List.take_succ_eq_append_getElem h]
theorem cell_le (a b : ByteArray) (i j : Nat) : 0 ≤ cell a b i j ∧ cell a b i j ≤ i + j := by
  have h := lev_bound (a.data.toList.take i) (b.data.toList.take j)
  rw [List.length_take, List.length_take] at h
  unfold cell
  omega
theorem cell_succ (a b : ByteArray) (i j : Nat) (hi : i < a.size) (hj : j < b.size) : cell a b (i + 1) (j + 1) = min (cell a b i j + if bt a i = bt b j then 0 else 1) (min (cell a b i (j + 1) + 1) (cell a b (i + 1) j + 1)) := by
  have h1 : i < a.data.toList.length := by rw [size_data]; exact hi
  have h2 : j < b.data.toList.length := by rw [size_data]; exact hj
  unfold cell
  rw [take_snoc_ _ i h1, take_snoc_ _ j h2, lev_snoc, bt_get a i hi, bt_get b j hj]
  by_cases h : a.data.toList[i] = b.data.toList[j]
  · rw [if_pos h, if_pos ((nat_byte _ _).2 h)]
    omega
  · rw [if_neg h, if_neg (fun h' => h ((nat_byte _ _).1 h'))]
    omega
theorem cell_zero (a b : ByteArray) (j : Nat) (h : j ≤ b.size) : cell a b 0 j = j := by
  unfold cell
  rw [List.take_zero, lev_nil, List.length_take, size_data]
  omega
theorem cell_zero' (a b : ByteArray) (i : Nat) (h : i ≤ a.size) : cell a b i 0 = i := by
  unfold cell
  rw [List.take_zero, lev_nil', List.length_take, size_data]
  omega
theorem l1Least_eq (x y : Int) : spec_l1Least.f x y = some (min x y) := by
  unfold spec_l1Least.f
  by_cases h : x < y
  · rw [if_pos h]; congr 1; omega
  · rw [if_neg h]; congr 1; omega
theorem specDist_l2 (a b : ByteArray) (ha : a.size ≤ 1000) (hb : b.size ≤ 1000) (i : Nat) (hi : i < a.size) (r : Int)
    (next : ∀ k, 2 * (a.size - (i + 1)) * (b.size + 3) + 2 ≤ k → spec_l6Distance.l1 k a b ((List.range (b.size + 1)).map (cell a b (i + 1))) ((i + 2 : Nat) : Int) = some r) (d : Nat) :
    ∀ (k j : Nat), j + d = b.size → 2 * (a.size - (i + 1)) * (b.size + 3) + 3 + d ≤ k →
    spec_l6Distance.l2 k a b ((List.range (b.size + 1)).map (cell a b i)) ((i + 1 : Nat) : Int) ((List.range (j + 1)).map (cell a b (i + 1))) ((j + 1 : Nat) : Int) = some r := by
  induction d with
  | zero =>
    intro k j hj hk
    obtain ⟨k, rfl⟩ : ∃ m, k = m + 1 := ⟨k - 1, by omega⟩
    simp only [spec_l6Distance.l2]
    rw [if_neg (by omega), show j = b.size by omega, show wrap64 (((i + 1 : Nat) : Int) + 1) = ((i + 2 : Nat) : Int) by unfold wrap64; omega]
    exact next k (by omega)
  | succ d ih =>
    intro k j hj hk
    obtain ⟨k, rfl⟩ : ∃ m, k = m + 1 := ⟨k - 1, by omega⟩
    simp only [spec_l6Distance.l2]
    have w1 : wrap64 (((j + 1 : Nat) : Int) - 1) = (j : Int) := by unfold wrap64; omega
    have w2 : wrap64 (((i + 1 : Nat) : Int) - 1) = (i : Int) := by unfold wrap64; omega
    have w3 : wrap64 (((j + 1 : Nat) : Int) + 1) = ((j + 1 + 1 : Nat) : Int) := by unfold wrap64; omega
    rw [w1, w2, w3]
    have hl : ((List.range (b.size + 1)).map (cell a b i)).length = b.size + 1 := by simp
    have hl2 : ((List.range (j + 1)).map (cell a b (i + 1))).length = j + 1 := by simp
    rw [hl, hl2, if_pos (by omega), if_pos (by omega), if_pos (by omega), if_pos (by omega), if_pos (by omega), if_pos (by omega)]
    have g1 : (0 : Int) ≤ ((j + 1 : Nat) : Int) := by omega
    have g2 : ((j + 1 : Nat) : Int) < ((b.size + 1 : Nat) : Int) := by omega
    have g3 : (j : Int) < ((j + 1 : Nat) : Int) := by omega
    have g4 : j + 1 < 17592186044416 := by omega
    simp only [if_pos g1, if_pos g2, if_pos g3, if_pos g4]
    rw [rd_range _ _ (j + 1) (by omega), rd_range _ _ j (by omega), rd_range _ _ j (by omega)]
    have c1 := cell_le a b i j
    have c2 := cell_le a b i (j + 1)
    have c3 := cell_le a b (i + 1) j
    have cs := cell_succ a b i j hi (by omega)
    simp only [l1Least_eq, Option.bind_some]
    have e1 := wrapMin (cell a b i (j + 1)) (cell a b (i + 1) j) 2001 (by omega) (by omega) (by omega)
    have e2 : wrap64 (cell a b i j + 1) = cell a b i j + 1 := by clear cs e1; unfold wrap64; omega
    rw [e1, e2]
    clear e1 e2 c1 c2 c3
    by_cases h : bt a i = bt b j
    · rw [if_pos h]
      rw [if_pos h] at cs
      rw [cellA _ _ _ _ cs, range_snoc]
      clear cs
      exact ih k (j + 1) (by omega) (by omega)
    · rw [if_neg h]
      rw [if_neg h] at cs
      rw [cellB _ _ _ _ cs, range_snoc]
      clear cs
      exact ih k (j + 1) (by omega) (by omega)
theorem specDist_l1 (a b : ByteArray) (ha : a.size ≤ 1000) (hb : b.size ≤ 1000) (d : Nat) : ∀ (k i : Nat), i + d = a.size → 2 * d * (b.size + 3) + 2 ≤ k →
    spec_l6Distance.l1 k a b ((List.range (b.size + 1)).map (cell a b i)) ((i + 1 : Nat) : Int) = some (lev a.data.toList b.data.toList : Int) := by
  induction d with
  | zero =>
    intro k i hi hk
    obtain ⟨k, rfl⟩ : ∃ m, k = m + 1 := ⟨k - 1, by omega⟩
    simp only [spec_l6Distance.l1]
    rw [if_neg (by omega), if_pos (by omega), if_pos (by simp; omega), rd_range _ _ b.size (by omega)]
    unfold cell
    rw [List.take_of_length_le (by rw [size_data]; omega), List.take_of_length_le (by rw [size_data]; omega)]
  | succ d ih =>
    intro k i hi hk
    obtain ⟨k, rfl⟩ : ∃ m, k = m + 1 := ⟨k - 1, by omega⟩
    simp only [spec_l6Distance.l1]
    rw [if_pos (by omega)]
    have hs : ([((i + 1 : Nat) : Int)] : List Int) = (List.range (0 + 1)).map (cell a b (i + 1)) := by
      simp [cell_zero' a b (i + 1) (by omega)]
    have hd : a.size - (i + 1) = d := by omega
    have key : 2 * (d + 1) * (b.size + 3) = 2 * d * (b.size + 3) + 2 * (b.size + 3) := by
      rw [show 2 * (d + 1) = 2 * d + 2 by omega, Nat.add_mul]
    rw [hs]
    refine specDist_l2 a b ha hb i (by omega) _ (fun k' hk' => ?_) b.size k 0 (by omega) (by rw [hd]; omega)
    rw [hd] at hk'
    exact ih k' (i + 1) (by omega) hk'
theorem specDist_l0 (a b : ByteArray) (ha : a.size ≤ 1000) (hb : b.size ≤ 1000) (d : Nat) : ∀ (k j : Nat), j + d = b.size + 1 → 2 * a.size * (b.size + 3) + 4 + d ≤ k →
    spec_l6Distance.l0 k a b ((List.range j).map (cell a b 0)) (j : Int) = some (lev a.data.toList b.data.toList : Int) := by
  induction d with
  | zero =>
    intro k j hj hk
    obtain ⟨k, rfl⟩ : ∃ m, k = m + 1 := ⟨k - 1, by omega⟩
    simp only [spec_l6Distance.l0]
    rw [if_neg (by omega), show j = b.size + 1 by omega]
    exact specDist_l1 a b ha hb a.size k 0 (by omega) (by omega)
  | succ d ih =>
    intro k j hj hk
    obtain ⟨k, rfl⟩ : ∃ m, k = m + 1 := ⟨k - 1, by omega⟩
    simp only [spec_l6Distance.l0]
    rw [if_pos (by omega), if_pos (by simp; omega)]
    have e : ([(j : Int)] : List Int) = [cell a b 0 j] := by rw [cell_zero a b j (by omega)]
    rw [e, range_snoc, show wrap64 ((j : Int) + 1) = ((j + 1 : Nat) : Int) by unfold wrap64; omega]
    exact ih k (j + 1) (by omega) (by omega)
theorem specDistance_eq (a b : ByteArray) (ha : a.size ≤ 1000) (hb : b.size ≤ 1000) (k : Nat) (hk : 2 * a.size * (b.size + 3) + 5 + b.size ≤ k) : spec_l6Distance.f k a b = some (lev a.data.toList b.data.toList : Int) := by
  unfold spec_l6Distance.f
  exact specDist_l0 a b ha hb (b.size + 1) k 0 (by omega) (by omega)

/-! ### closest -/
theorem lev_symm_ (n : Nat) : ∀ a b : List UInt8, a.length + b.length ≤ n → lev a b = lev b a := by
  induction n with
  | zero =>
    intro a b h
    obtain rfl : a = [] := List.eq_nil_of_length_eq_zero (by omega)
    obtain rfl : b = [] := List.eq_nil_of_length_eq_zero (by omega)
    rfl
  | succ n ih =>
    intro a b h
    cases a with
    | nil => rw [lev_nil, lev_nil']
    | cons x a =>
      cases b with
      | nil => rw [lev_nil, lev_nil']
      | cons y b =>
        simp only [List.length_cons] at h
        rw [lev_cons, lev_cons, ih a b (by omega), ih a (y :: b) (by simp only [List.length_cons]; omega), ih (x :: a) b (by simp only [List.length_cons]; omega)]
        rw [Nat.min_comm (lev (y :: b) a + 1)]
        congr 2
        by_cases hxy : x = y
        · rw [if_pos hxy, if_pos hxy.symm]
        · rw [if_neg hxy, if_neg (fun e => hxy e.symm)]
theorem lev_symm (a b : List UInt8) : lev a b = lev b a := lev_symm_ (a.length + b.length) a b (Nat.le_refl _)
theorem lev_len (n : Nat) : ∀ a b : List UInt8, a.length + b.length ≤ n → a.length ≤ b.length + lev a b := by
  induction n with
  | zero => intro a b h; omega
  | succ n ih =>
    intro a b h
    cases a with
    | nil => simp
    | cons x a =>
      cases b with
      | nil => rw [lev_nil']; omega
      | cons y b =>
        simp only [List.length_cons] at h ⊢
        have h1 := ih a b (by omega)
        have h2 := ih a (y :: b) (by simp only [List.length_cons]; omega)
        have h3 := ih (x :: a) b (by simp only [List.length_cons]; omega)
        simp only [List.length_cons] at h2 h3
        rw [lev_cons]
        generalize (if x = y then 0 else 1) = e
        generalize lev a b = A at *
        generalize lev a (y :: b) = B at *
        generalize lev (x :: a) b = C at *
        omega
theorem lev_zero (n : Nat) : ∀ a b : List UInt8, a.length + b.length ≤ n → lev a b = 0 → a = b := by
  induction n with
  | zero =>
    intro a b h _
    obtain rfl : a = [] := List.eq_nil_of_length_eq_zero (by omega)
    obtain rfl : b = [] := List.eq_nil_of_length_eq_zero (by omega)
    rfl
  | succ n ih =>
    intro a b h h0
    cases a with
    | nil =>
      rw [lev_nil] at h0
      exact (List.eq_nil_of_length_eq_zero h0).symm
    | cons x a =>
      cases b with
      | nil =>
        rw [lev_nil'] at h0
        simp at h0
      | cons y b =>
        simp only [List.length_cons] at h
        rw [lev_cons] at h0
        by_cases hxy : x = y
        · rw [if_pos hxy] at h0
          rw [hxy, ih a b (by omega) (by omega)]
        · rw [if_neg hxy] at h0
          omega
/-- The distance of two letters. -/
def dst (t : List ByteArray) (i j : Nat) : Nat := lev (t.getD i ByteArray.empty).data.toList (t.getD j ByteArray.empty).data.toList
theorem getD_get (t : List ByteArray) (i : Nat) (h : i < t.length) : t.getD i ByteArray.empty = t[i] := by
  rw [List.getD_eq_getElem?_getD, List.getElem?_eq_getElem h]
  rfl
theorem dst_symm (t : List ByteArray) (i j : Nat) : dst t i j = dst t j i := lev_symm _ _
theorem rdOf_getD (t : List ByteArray) (i : Nat) : rdOf ByteArray.empty t (i : Int) = t.getD i ByteArray.empty := by
  unfold rdOf
  rw [Int.toNat_natCast]
structure Good (t : List ByteArray) : Prop where
  len : t.length ≤ 10
  sz : ∀ m ∈ t, m.size ≤ 5
  nodup : t.Nodup
theorem good_of (t : List ByteArray) (h : okTable t = true) : Good t := by
  have hof := of_table t h
  refine ⟨hof.2.1, fun m hm => ?_, hof.2.2.2⟩
  have := hof.2.2.1 m hm
  simp only [okMarks, Bool.and_eq_true, decide_eq_true_eq] at this
  omega
theorem Good.size_at {t : List ByteArray} (G : Good t) (i : Nat) (h : i < t.length) : (t.getD i ByteArray.empty).size ≤ 5 := by
  rw [getD_get t i h]
  exact G.sz _ (List.getElem_mem h)
theorem Good.spec {t : List ByteArray} (G : Good t) (i j : Nat) (hi : i < t.length) (hj : j < t.length) : Evt (fun k => spec_l6Distance.f k (t.getD i ByteArray.empty) (t.getD j ByteArray.empty)) (dst t i j : Int) := by
  have h1 := G.size_at i hi
  have h2 := G.size_at j hj
  exact ⟨200, fun k hk => specDistance_eq _ _ (by omega) (by omega) k (by have := Nat.mul_le_mul (show 2 * (t.getD i ByteArray.empty).size ≤ 10 by omega) (show (t.getD j ByteArray.empty).size + 3 ≤ 8 by omega); omega)⟩
theorem Good.impl {t : List ByteArray} (G : Good t) (i j : Nat) (hi : i < t.length) (hj : j < t.length) : Evt (fun k => impl_distance.f k (t.getD i ByteArray.empty) (t.getD j ByteArray.empty)) (dst t i j : Int) := by
  have h1 := G.size_at i hi
  have h2 := G.size_at j hj
  exact ⟨200, fun k hk => implDistance_eq 10 (by omega) k _ _ (by omega) (by omega)⟩
theorem Good.bound {t : List ByteArray} (G : Good t) (i j : Nat) (hi : i < t.length) (hj : j < t.length) : dst t i j ≤ 10 := by
  have h1 := G.size_at i hi
  have h2 := G.size_at j hj
  have h := lev_bound (t.getD i ByteArray.empty).data.toList (t.getD j ByteArray.empty).data.toList
  rw [size_data, size_data] at h
  unfold dst
  omega
theorem Good.pos {t : List ByteArray} (G : Good t) (i j : Nat) (hi : i < t.length) (hj : j < t.length) (hne : i ≠ j) : 1 ≤ dst t i j := by
  by_cases h : dst t i j = 0
  · exfalso
    have e := lev_zero _ _ _ (Nat.le_refl _) h
    rw [getD_get t i hi, getD_get t j hj] at e
    have e2 : t[i] = t[j] := by
      have a1 := Lib.toList_data t[i]
      have a2 := Lib.toList_data t[j]
      exact (toList_inj _ _).1 (by rw [a1, a2, e])
    exact hne ((List.getElem_inj G.nodup).1 e2)
  · omega
/-- What the reference's search for the least distance knows: of all pairs (a, b) seen, m is the least distance; 0 if none was seen. -/
def Least (t : List ByteArray) (S : Nat → Nat → Prop) (m : Int) : Prop :=
  (m = 0 ∧ ∀ a b, ¬ S a b) ∨ (∃ a b, S a b ∧ m = (dst t a b : Int)) ∧ ∀ a b, S a b → m ≤ (dst t a b : Int)
/-- All pairs i < j, in order, up to (i, j). -/
def upto (n i j : Nat) : List (Nat × Nat) := (List.range i).flatMap (fun a => (List.range' (a + 1) (n - (a + 1))).map fun b => (a, b)) ++ (List.range' (i + 1) (j - (i + 1))).map fun b => (i, b)
theorem upto_step (n i j : Nat) (h : i < j) : upto n i (j + 1) = upto n i j ++ [(i, j)] := by
  unfold upto
  rw [show j + 1 - (i + 1) = (j - (i + 1)) + 1 by omega, List.range'_concat, List.map_append, List.append_assoc]
  simp
  omega
theorem upto_next (n i : Nat) (h : i < n) : upto n i n = upto n (i + 1) (i + 2) := by
  unfold upto
  rw [List.range_succ, List.flatMap_append]
  simp
theorem upto_mem (n i j a b : Nat) : (a, b) ∈ upto n i j ↔ (a < b ∧ b < n ∧ a < i) ∨ (a = i ∧ a < b ∧ b < j) := by
  unfold upto
  simp only [List.mem_append, List.mem_flatMap, List.mem_range, List.mem_map, List.mem_range'_1, Prod.mk.injEq]
  constructor
  · rintro (⟨x, hx, y, hy, rfl, rfl⟩ | ⟨y, hy, rfl, rfl⟩) <;> omega
  · rintro (h | h)
    · exact .inl ⟨a, by omega, b, by omega, rfl, rfl⟩
    · exact .inr ⟨b, by omega, by omega, rfl⟩
theorem upto_len (n i j : Nat) : (upto n i j).length ≤ i * n + j := by
  unfold upto
  rw [List.length_append, List.length_map, List.length_range']
  have h : ∀ i, ((List.range i).flatMap (fun a => (List.range' (a + 1) (n - (a + 1))).map fun b => (a, b))).length ≤ i * n := by
    intro i
    induction i with
    | zero => simp
    | succ i ih =>
      rw [List.range_succ, List.flatMap_append, List.length_append]
      have e : (List.flatMap (fun a => (List.range' (a + 1) (n - (a + 1))).map fun b => (a, b)) [i]).length = n - (i + 1) := by simp
      rw [e, Nat.succ_mul]
      omega
  have := h i
  omega
theorem least_one (t : List ByteArray) (m : Int) (h2 : t.length < 2) (h : Least t (fun a b => b < a ∧ a < t.length) m) : m = 0 := by
  rcases h with ⟨h, _⟩ | ⟨⟨a, b, hab, _⟩, _⟩
  · exact h
  · omega

/-! ### near -/
/-- The letters nearest to marks: both searches are the same. -/
def dTo (t : List ByteArray) (i : Nat) (s : ByteArray) : Nat := lev (t.getD i ByteArray.empty).data.toList s.data.toList
theorem near_l0 (t : List ByteArray) (G : Good t) (s : ByteArray) (hs : s.size ≤ 5) (d : Nat) : ∀ (i : Nat) (out : List Int) (m : Int), i ≤ t.length → t.length - i = d → out.length ≤ i → (out ≠ [] ∨ (m < 0 ∧ i < t.length)) → ∃ r : List Int × Int, Evt (fun k => spec_l6Nearest.l0 k s out m i t) r ∧ Evt (fun k => impl_nearest.l0 k s out m t (t.length : Int) i) r ∧ r.1.length ≤ 1099511627776 ∧ r.1 ≠ [] := by
  have hL := G.len
  induction d with
  | zero =>
    intro i out m hi hd ho hv
    exact ⟨(out, m), Evt.succ (fun k => by rw [spec_l6Nearest.l0, if_neg (by omega)]) (Evt.const _), Evt.succ (fun k => by rw [impl_nearest.l0, if_neg (by omega)]) (Evt.const _), by show out.length ≤ _; omega, hv.resolve_right (fun h => by omega)⟩
  | succ d ih =>
    intro i out m hi hd ho hv
    have li : i < t.length := by omega
    have si := G.size_at i li
    have g1 : Evt (fun k => spec_l6Distance.f k (t.getD i ByteArray.empty) s) (dTo t i s : Int) := ⟨200, fun k hk => specDistance_eq _ _ (by omega) (by omega) k (by have := Nat.mul_le_mul (show 2 * (t.getD i ByteArray.empty).size ≤ 10 by omega) (show s.size + 3 ≤ 8 by omega); omega)⟩
    have g2 : Evt (fun k => impl_distance.f k (t.getD i ByteArray.empty) s) (dTo t i s : Int) := ⟨200, fun k hk => implDistance_eq 10 (by omega) k _ _ (by omega) (by omega)⟩
    generalize (dTo t i s : Int) = x at g1 g2
    have u1 : ∀ k, spec_l6Nearest.l0 (k + 1) s out m i t = (spec_l6Distance.f k (t.getD i ByteArray.empty) s).bind fun x => if m < 0 then spec_l6Nearest.j1 k s out m i x true t else spec_l6Nearest.j1 k s out m i x (decide (x < m)) t := by
      intro k
      simp only [spec_l6Nearest.l0]
      rw [if_pos (by omega), if_pos (by omega), rdOf_getD]
    have u2 : ∀ k, impl_nearest.l0 (k + 1) s out m t (t.length : Int) i = (impl_distance.f k (t.getD i ByteArray.empty) s).bind fun x => if m < 0 then impl_nearest.j1 k s out m i x t (t.length : Int) i true else impl_nearest.j1 k s out m i x t (t.length : Int) i (decide (x < m)) := by
      intro k
      simp only [impl_nearest.l0]
      rw [if_pos (by omega), if_pos (by omega), if_pos (by omega), rdOf_getD]
    have a1 : ∀ k, spec_l6Nearest.j1 (k + 1) s out m i x true t = spec_l6Nearest.l0 k s [(i : Int)] x ((i + 1 : Nat) : Int) t := by
      intro k
      simp only [spec_l6Nearest.j1, if_true, Option.bind_some]
      rw [if_pos (by simp), wrap_succ i (by omega)]
      rfl
    have a2 : ∀ k, impl_nearest.j1 (k + 1) s out m i x t (t.length : Int) i true = impl_nearest.l0 k s [(i : Int)] x t (t.length : Int) ((i + 1 : Nat) : Int) := by
      intro k
      simp only [impl_nearest.j1, if_true]
      rw [if_pos (by simp), wrap_succ i (by omega)]
      rfl
    have b1 : ∀ k, spec_l6Nearest.j1 (k + 1) s out m i x false t = if x = m then spec_l6Nearest.l0 k s (out ++ [(i : Int)]) m ((i + 1 : Nat) : Int) t else spec_l6Nearest.l0 k s out m ((i + 1 : Nat) : Int) t := by
      intro k
      rw [spec_l6Nearest.j1, if_neg (by decide), if_pos (show out.length < 17592186044416 by omega), wrap_succ i (by omega)]
    have b2 : ∀ k, impl_nearest.j1 (k + 1) s out m i x t (t.length : Int) i false = if x = m then impl_nearest.l0 k s (out ++ [(i : Int)]) m t (t.length : Int) ((i + 1 : Nat) : Int) else impl_nearest.l0 k s out m t (t.length : Int) ((i + 1 : Nat) : Int) := by
      intro k
      rw [impl_nearest.j1, if_neg (by decide), if_pos (show out.length < 17592186044416 by omega), wrap_succ i (by omega)]
    obtain ⟨r1, p1, q1, h1⟩ := ih (i + 1) [(i : Int)] x (by omega) (by omega) (by simp) (.inl (by simp))
    obtain ⟨r2, p2, q2, h2⟩ := ih (i + 1) (out ++ [(i : Int)]) m (by omega) (by omega) (by rw [List.length_append]; simp; omega) (.inl (by simp))
    by_cases c0 : m < 0
    · exact ⟨r1, Evt.succ u1 (Evt.bind g1 (Evt.ite_pos c0 (Evt.succ a1 p1))), Evt.succ u2 (Evt.bind g2 (Evt.ite_pos c0 (Evt.succ a2 q1))), h1⟩
    · obtain ⟨r3, p3, q3, h3⟩ := ih (i + 1) out m (by omega) (by omega) (by omega) (.inl (hv.resolve_right (fun h => c0 h.1)))
      by_cases c1 : x < m
      · refine ⟨r1, Evt.succ u1 (Evt.bind g1 (Evt.ite_neg c0 ?_)), Evt.succ u2 (Evt.bind g2 (Evt.ite_neg c0 ?_)), h1⟩
        · rw [decide_eq_true c1]
          exact Evt.succ a1 p1
        · rw [decide_eq_true c1]
          exact Evt.succ a2 q1
      · by_cases c2 : x = m
        · refine ⟨r2, Evt.succ u1 (Evt.bind g1 (Evt.ite_neg c0 ?_)), Evt.succ u2 (Evt.bind g2 (Evt.ite_neg c0 ?_)), h2⟩
          · rw [decide_eq_false c1]
            exact Evt.succ b1 (Evt.ite_pos c2 p2)
          · rw [decide_eq_false c1]
            exact Evt.succ b2 (Evt.ite_pos c2 q2)
        · refine ⟨r3, Evt.succ u1 (Evt.bind g1 (Evt.ite_neg c0 ?_)), Evt.succ u2 (Evt.bind g2 (Evt.ite_neg c0 ?_)), h3⟩
          · rw [decide_eq_false c1]
            exact Evt.succ b1 (Evt.ite_neg c2 p3)
          · rw [decide_eq_false c1]
            exact Evt.succ b2 (Evt.ite_neg c2 q3)
theorem near_evt1 (t : List ByteArray) (G : Good t) (h1 : 1 ≤ t.length) (s : ByteArray) (hs : s.size ≤ 5) : ∃ r : List Int × Int, Evt (fun k => spec_l6Nearest.f k t s) r ∧ Evt (fun k => impl_nearest.f k t s) r ∧ r.1.length ≤ 1099511627776 ∧ r.1 ≠ [] :=
  near_l0 t G s hs t.length 0 [] (-1) (by omega) (by omega) (by simp) (.inr ⟨by omega, by omega⟩)

/-! ### split -/
/-- The pieces of a text between the bytes c. -/
def spl (c : UInt8) : List UInt8 → List (List UInt8)
  | [] => [[]]
  | b :: l => if b = c then [] :: spl c l else
    match spl c l with
    | h :: t => (b :: h) :: t
    | [] => [[b]]
def splF (c : UInt8) (p r : List UInt8) : List (List UInt8) :=
  match spl c r with
  | h :: t => (p ++ h) :: t
  | [] => [p]
theorem spl_ne (c : UInt8) : ∀ l, ∃ h t, spl c l = h :: t
  | [] => ⟨[], [], rfl⟩
  | b :: l => by
    obtain ⟨h, t, e⟩ := spl_ne c l
    unfold spl
    rw [e]
    by_cases hb : b = c
    · rw [if_pos hb]; exact ⟨_, _, rfl⟩
    · rw [if_neg hb]; exact ⟨_, _, rfl⟩
theorem splF_nil (c : UInt8) (p : List UInt8) : splF c p [] = [p] := by
  unfold splF spl
  simp
theorem splF_hit (c : UInt8) (p r : List UInt8) : splF c p (c :: r) = p :: splF c [] r := by
  obtain ⟨h, t, e⟩ := spl_ne c r
  unfold splF
  rw [e]
  unfold spl
  rw [if_pos rfl, e]
  simp
theorem splF_miss (c b : UInt8) (hb : b ≠ c) (p r : List UInt8) : splF c p (b :: r) = splF c (p ++ [b]) r := by
  obtain ⟨h, t, e⟩ := spl_ne c r
  unfold splF
  rw [e]
  unfold spl
  rw [if_neg hb, e]
  simp
theorem splF_zero (c : UInt8) (r : List UInt8) : splF c [] r = spl c r := by
  obtain ⟨h, t, e⟩ := spl_ne c r
  unfold splF
  rw [e]
  rfl
theorem spl_none (c : UInt8) : ∀ l : List UInt8, c ∉ l → spl c l = [l]
  | [], _ => rfl
  | b :: l, h => by
    rw [List.mem_cons, not_or] at h
    unfold spl
    rw [if_neg (fun e => h.1 e.symm), spl_none c l h.2]
theorem spl_pre (c : UInt8) (r : List UInt8) : ∀ p : List UInt8, c ∉ p → spl c (p ++ c :: r) = p :: spl c r
  | [], _ => by
    show spl c (c :: r) = _
    rw [spl, if_pos rfl]
  | b :: p, h => by
    rw [List.mem_cons, not_or] at h
    rw [List.cons_append, spl, if_neg (fun e => h.1 e.symm), spl_pre c r p h.2]
theorem first_mem (c : UInt8) : ∀ l : List UInt8, c ∈ l → ∃ p r, l = p ++ c :: r ∧ c ∉ p
  | [], h => by cases h
  | b :: l, h => by
    by_cases e : b = c
    · subst e
      exact ⟨[], l, rfl, by simp⟩
    · rw [List.mem_cons] at h
      obtain ⟨p, r, q, hp⟩ := first_mem c l (h.resolve_left (fun x => e x.symm))
      exact ⟨b :: p, r, by rw [q]; rfl, by rw [List.mem_cons, not_or]; exact ⟨fun x => e x.symm, hp⟩⟩
theorem idx_pre (c : UInt8) (r : List UInt8) : ∀ p : List UInt8, c ∉ p → Lib.indexByte (p ++ c :: r) c = (p.length : Int)
  | [], _ => by
    show Lib.indexByte (c :: r) c = 0
    unfold Lib.indexByte
    rw [if_pos (by simp)]
  | b :: p, h => by
    rw [List.mem_cons, not_or] at h
    rw [List.cons_append]
    unfold Lib.indexByte
    rw [idx_pre c r p h.2, if_neg (by rw [beq_iff_eq]; exact fun e => h.1 e.symm), if_neg (by rw [beq_iff_eq]; omega), List.length_cons]
    omega
/-- The library's pieces. -/
theorem splitK_spl (c : UInt8) : ∀ (n : Nat) (l : List UInt8), l.length ≤ n → Lib.splitK [c] 0 (l.count c) l = spl c l
  | 0, l, h => by
    obtain rfl : l = [] := List.eq_nil_of_length_eq_zero (by omega)
    rfl
  | n + 1, l, h => by
    by_cases hm : c ∈ l
    · obtain ⟨p, r, rfl, hp⟩ : ∃ p r, l = p ++ c :: r ∧ c ∉ p := by
        exact first_mem c l hm
      have hc : (p ++ c :: r).count c = r.count c + 1 := by
        rw [List.count_append, List.count_eq_zero_of_not_mem hp, List.count_cons_self, Nat.zero_add]
      have hi : Lib.index (p ++ c :: r) [c] = (p.length : Int) := by
        rw [strings_Split.index_one]
        exact idx_pre c r p hp
      rw [hc, Lib.splitK, hi, if_neg (by rw [beq_iff_eq]; omega), spl_pre c r p hp]
      have e1 : (p ++ c :: r).take ((p.length : Int).toNat + 0) = p := by simp
      have e2 : (p ++ c :: r).drop ((p.length : Int).toNat + [c].length) = r := by
        rw [Int.toNat_natCast, List.length_singleton, ← List.drop_drop, List.drop_left]
        rfl
      rw [e1, e2, splitK_spl c n r (by rw [List.length_append, List.length_cons] at h; omega)]
    · rw [List.count_eq_zero_of_not_mem hm, spl_none c l hm]
      rfl
theorem ext_data (s : ByteArray) (a b : Nat) : (s.extract a b).data.toList = (s.data.toList.drop a).take (b - a) := by
  rw [ByteArray.data_extract, Array.toList_extract]
def dl (s : ByteArray) : List UInt8 := s.data.toList
theorem dl_inj (a b : ByteArray) (h : dl a = dl b) : a = b := by
  cases a
  cases b
  unfold dl at h
  simp only at h
  rw [Array.toList_inj.1 h]
theorem map_dl_inj : ∀ a b : List ByteArray, a.map dl = b.map dl → a = b
  | [], [], _ => rfl
  | [], _ :: _, h => by simp at h
  | _ :: _, [], h => by simp at h
  | x :: a, y :: b, h => by
    rw [List.map_cons, List.map_cons] at h
    injection h with h1 h2
    rw [dl_inj x y h1, map_dl_inj a b h2]
theorem specSplit_l0 (s : ByteArray) (hs : s.size ≤ 1048576) (c : UInt8) (d : Nat) : ∀ (i a : Nat) (out : List ByteArray), a ≤ i → i ≤ s.size → s.size - i = d → out.length ≤ i → ∃ r, Evt (fun k => spec_l1Split.l0 k s (c.toNat : Int) out a i) r ∧ r.map dl = out.map dl ++ splF c (((dl s).drop a).take (i - a)) ((dl s).drop i) := by
  have hsz : (dl s).length = s.size := size_data s
  induction d with
  | zero =>
    intro i a out ha hi hd ho
    obtain rfl : i = s.size := by omega
    refine ⟨out ++ [s.extract a s.size], Evt.succ (fun k => by rw [spec_l1Split.l0, if_neg (by omega), if_pos (by omega), if_pos (by omega), if_pos (by omega), Int.toNat_natCast]) (Evt.const _), ?_⟩
    rw [List.map_append, List.map_singleton, show dl (s.extract a s.size) = ((dl s).drop a).take (s.size - a) from ext_data s a s.size, List.drop_eq_nil_of_le (show (dl s).length ≤ s.size by omega), splF_nil]
  | succ d ih =>
    intro i a out ha hi hd ho
    have li : i < (dl s).length := by omega
    have hdr : (dl s).drop i = (dl s)[i] :: (dl s).drop (i + 1) := by simp
    have hb : bt s (i : Int) = ((dl s)[i].toNat : Int) := bt_get s i (by omega)
    by_cases h : (dl s)[i] = c
    · obtain ⟨r, h1, h2⟩ := ih (i + 1) (i + 1) (out ++ [s.extract a i]) (by omega) (by omega) (by omega) (by rw [List.length_append]; simp; omega)
      refine ⟨r, Evt.succ (fun k => by rw [spec_l1Split.l0, if_pos (by omega), if_pos (by omega), if_pos (by rw [hb, h]), if_pos (by omega), if_pos (by omega), if_pos (by omega), if_pos (by omega), wrap_succ i (by omega), Int.toNat_natCast, Int.toNat_natCast]) h1, ?_⟩
      rw [h2, hdr, h, splF_hit, List.map_append, List.map_singleton, List.append_assoc, show dl (s.extract a i) = ((dl s).drop a).take (i - a) from ext_data s a i, Nat.sub_self, List.take_zero]
      rfl
    · obtain ⟨r, h1, h2⟩ := ih (i + 1) a out (by omega) (by omega) (by omega) (by omega)
      refine ⟨r, Evt.succ (fun k => by rw [spec_l1Split.l0, if_pos (by omega), if_pos (by omega), if_neg (fun e => h (UInt8.toNat_inj.1 (by rw [hb] at e; exact Int.ofNat.inj e))), wrap_succ i (by omega)]) h1, ?_⟩
      rw [h2, hdr, splF_miss c _ h]
      congr 2
      have : i + 1 - a = (i - a) + 1 := by omega
      rw [this, List.take_succ_eq_append_getElem (by rw [List.length_drop]; omega)]
      congr 1
      rw [List.getElem_drop]
      simp only [show a + (i - a) = i by omega]
theorem libSplit_eq (s : ByteArray) (c : UInt8) : (Lib.splitB ⟨#[c]⟩ 0 (Lib.countB s ⟨#[c]⟩) s).map dl = spl c (dl s) := by
  have h := Lib.splitB_data ⟨#[c]⟩ 0 (Lib.countB s ⟨#[c]⟩) s
  have e : Lib.countB s ⟨#[c]⟩ = (dl s).count c := by
    show Lib.count s.data.toList [c] = _
    rw [Lib.count_one]
    rfl
  rw [e] at h ⊢
  exact h.trans (splitK_spl c _ (dl s) (Nat.le_refl _))
theorem split_evt (s : ByteArray) (hs : s.size ≤ 1048576) (c : UInt8) : ∃ r, Evt (fun k => spec_l1Split.f k s (c.toNat : Int)) r ∧ strings_Split.f s ⟨#[c]⟩ = some r ∧ r.map dl = spl c (dl s) := by
  obtain ⟨r, h1, h2⟩ := specSplit_l0 s hs c s.size 0 0 [] (by omega) (by omega) (by omega) (by simp)
  have h2' : r.map dl = spl c (dl s) := by
    rw [h2, List.drop_zero, Nat.sub_self, List.take_zero, splF_zero]
    rfl
  refine ⟨r, h1, ?_, h2'⟩
  unfold strings_Split.f
  rw [if_pos (by omega), if_pos (by rfl)]
  congr 1
  exact map_dl_inj _ _ ((libSplit_eq s c).trans h2'.symm)

/-! ### signal -/
/-- Signals: the program's look and the reference's look are the same. -/
theorem rdL2_nat (l : List (List ByteArray)) (i : Nat) (h : i < l.length) : rd_L1 l (i : Int) = l[i] := by
  unfold rd_L1
  rw [Int.toNat_natCast, List.getD_eq_getElem?_getD, List.getElem?_eq_getElem h]
  rfl
theorem spl_len (c : UInt8) : ∀ l : List UInt8, ((spl c l).map List.length).sum + (spl c l).length = l.length + 1
  | [] => rfl
  | b :: l => by
    have ih := spl_len c l
    obtain ⟨h, t, e⟩ := spl_ne c l
    unfold spl
    by_cases hb : b = c
    · rw [if_pos hb, List.map_cons, List.sum_cons, List.length_cons, List.length_nil, List.length_cons]
      omega
    · rw [if_neg hb, e]
      rw [e] at ih
      simp only [List.map_cons, List.sum_cons, List.length_cons] at ih ⊢
      omega
theorem mem_sum (l : List (List UInt8)) (p : List UInt8) (h : p ∈ l) : p.length ≤ (l.map List.length).sum := by
  induction l with
  | nil => cases h
  | cons x l ih =>
    rw [List.map_cons, List.sum_cons]
    rcases List.mem_cons.1 h with rfl | h
    · omega
    · have := ih h
      omega
theorem map_len (r : List ByteArray) : (r.map dl).map List.length = r.map ByteArray.size := by
  rw [List.map_map]
  exact List.map_congr_left (fun m _ => size_data m)
/-- What both sides take a text apart into. -/
theorem words_l0 (q : List ByteArray) (hq : ∀ m ∈ q, m.size ≤ 1048576) (hl : q.length ≤ 1048577) (d : Nat) : ∀ (i : Nat) (out : List (List ByteArray)), i ≤ q.length → q.length - i = d → out.length ≤ i → ∃ r, Evt (fun k => spec_l2Words.l0 k out q i) r ∧ Evt (fun k => impl_lettersOf.l0 k out q (q.length : Int) i) r ∧ r.map (List.map dl) = out.map (List.map dl) ++ (q.drop i).map (fun m => spl 32 (dl m)) := by
  induction d with
  | zero =>
    intro i out hi hd ho
    refine ⟨out, Evt.succ (fun k => by rw [spec_l2Words.l0, if_neg (by omega)]) (Evt.const _), Evt.succ (fun k => by rw [impl_lettersOf.l0, if_neg (by omega)]) (Evt.const _), ?_⟩
    rw [List.drop_eq_nil_of_le (by omega)]
    simp
  | succ d ih =>
    intro i out hi hd ho
    have li : i < q.length := by omega
    obtain ⟨w, w1, w2, w3⟩ := split_evt q[i] (hq _ (List.getElem_mem li)) 32
    have hdr : q.drop i = q[i] :: q.drop (i + 1) := by simp
    obtain ⟨r, r1, r2, r3⟩ := ih (i + 1) (out ++ [w]) (by omega) (by omega) (by rw [List.length_append]; simp; omega)
    refine ⟨r, Evt.succ (h := fun k => (spec_l1Split.f k q[i] 32).bind fun x => if out.length < 5864062014805 then spec_l2Words.l0 k (out ++ [x]) q ((i + 1 : Nat) : Int) else none) (fun k => by rw [spec_l2Words.l0, if_pos (by omega), if_pos (by omega), rdOf_get _ _ _ li, wrap_succ i (by omega)]) (Evt.bind w1 (Evt.ite_pos (by omega) r1)), Evt.succ (fun k => by rw [impl_lettersOf.l0, if_pos (by omega), if_pos (by omega), if_pos (by omega), rdOf_get _ _ _ li, w2, Option.bind_some, if_pos (by omega), wrap_succ i (by omega)]) r2, ?_⟩
    rw [r3, hdr, List.map_append, List.map_singleton, List.append_assoc, w3, List.map_cons]
    rfl
theorem words_evt (s : ByteArray) (hs : s.size ≤ 1048576) (hne : s.toList ≠ []) : ∃ r, Evt (fun k => spec_l2Words.f k s) r ∧ Evt (fun k => impl_lettersOf.f k s) r ∧ r.map (List.map dl) = (spl 47 (dl s)).map (spl 32) := by
  obtain ⟨q, q1, q2, q3⟩ := split_evt s hs 47
  have hsz : (dl s).length = s.size := size_data s
  have hsum := spl_len 47 (dl s)
  have hlen : q.length = (spl 47 (dl s)).length := by rw [← q3, List.length_map]
  have h1 : 1 ≤ (spl 47 (dl s)).length := by
    obtain ⟨h, t, e⟩ := spl_ne 47 (dl s)
    rw [e]
    simp
  have hqs : ∀ m ∈ q, m.size ≤ 1048576 := by
    intro m hm
    have h1 := mem_sum (spl 47 (dl s)) (dl m) (by rw [← q3]; exact List.mem_map_of_mem hm)
    have h2 : (dl m).length = m.size := size_data m
    omega
  obtain ⟨r, r1, r2, r3⟩ := words_l0 q hqs (by omega) q.length 0 [] (by omega) (by omega) (by simp)
  refine ⟨r, Evt.bind q1 r1, Evt.bind (Evt.const []) (Evt.ite_neg hne (Evt.bind ((Evt.const q).of_eq (fun k => q2)) r2)), ?_⟩
  rw [r3, List.map_nil, List.nil_append, List.drop_zero, ← q3, List.map_map]
  rfl
def okW (w : List ByteArray) : Bool := w.all (fun m => okMarks m 1 5)
def sumL (W : List (List ByteArray)) : Nat := (W.map List.length).sum
theorem sumL_drop (W : List (List ByteArray)) (i : Nat) (h : i < W.length) : sumL (W.drop i) = W[i].length + sumL (W.drop (i + 1)) := by
  have : W.drop i = W[i] :: W.drop (i + 1) := by simp
  unfold sumL
  rw [this, List.map_cons, List.sum_cons]
theorem okW_drop (w : List ByteArray) (j : Nat) (h : j < w.length) : okW (w.drop j) = (okMarks w[j] 1 5 && okW (w.drop (j + 1))) := by
  have : w.drop j = w[j] :: w.drop (j + 1) := by simp
  unfold okW
  rw [this, List.all_cons]
theorem implS_l1 (W : List (List ByteArray)) (n : Int) (i : Nat) (hi : i < 9000000) (x : Int) (w : List ByteArray) (hw : ∀ m ∈ w, m.size ≤ 1048576) (hl : w.length ≤ 9000000) (b : Bool) (next : Evt (fun k => impl_isSignal.l0 k x W n ((i + 1 : Nat) : Int)) b) (d : Nat) : ∀ j, j ≤ w.length → w.length - j = d → Evt (fun k => impl_isSignal.l1 k x W n i w (w.length : Int) j) (okW (w.drop j) && b) := by
  induction d with
  | zero =>
    intro j hj hd
    rw [List.drop_eq_nil_of_le (by omega), show okW [] = true from rfl, Bool.true_and]
    exact Evt.succ (fun k => by rw [impl_isSignal.l1, if_neg (by omega), wrap_succ i (by omega)]) next
  | succ d ih =>
    intro j hj hd
    have lj : j < w.length := by omega
    have hm := hw w[j] (List.getElem_mem lj)
    rw [okW_drop w j lj]
    refine Evt.succ (h := fun k => if okMarks w[j] 1 5 = true then impl_isSignal.l1 k x W n i w (w.length : Int) ((j + 1 : Nat) : Int) else some false) (fun k => ?_) ?_
    · rw [impl_isSignal.l1, if_pos (by omega), if_pos (by omega), if_pos (by omega), rdOf_get _ _ _ lj]
      unfold impl_isLetterMarks.f
      rw [implAreMarks_eq w[j] 1 5 (by omega), Option.bind_some, Option.bind_some, wrap_succ j (by omega)]
    · cases h : okMarks w[j] 1 5 with
      | false => exact Evt.ite_neg (by simp) (Evt.const _)
      | true =>
        rw [Bool.true_and]
        exact Evt.ite_pos rfl (ih (j + 1) (by omega) (by omega))
theorem implS_l0 (W : List (List ByteArray)) (hW : W.length ≤ 2000000) (hw : ∀ w ∈ W, w.length ≤ 9000000 ∧ ∀ m ∈ w, m.size ≤ 1048576) (d : Nat) : ∀ (i x : Nat), i ≤ W.length → W.length - i = d → x + sumL (W.drop i) ≤ 90000000 → Evt (fun k => impl_isSignal.l0 k x W (W.length : Int) i) ((W.drop i).all okW && decide (x + sumL (W.drop i) ≤ 12)) := by
  induction d with
  | zero =>
    intro i x hi hd hb
    rw [List.drop_eq_nil_of_le (by omega), List.all_nil, Bool.true_and]
    have e : decide ((x : Int) ≤ 12) = decide (x + sumL [] ≤ 12) := by
      rw [Bool.eq_iff_iff, decide_eq_true_eq, decide_eq_true_eq, show sumL [] = 0 from rfl]
      omega
    rw [← e]
    exact Evt.succ (fun k => by rw [impl_isSignal.l0, if_neg (by omega)]) (Evt.const _)
  | succ d ih =>
    intro i x hi hd hb
    have li : i < W.length := by omega
    have hs := sumL_drop W i li
    have hdr : W.drop i = W[i] :: W.drop (i + 1) := by simp
    have hwi := hw W[i] (List.getElem_mem li)
    have w1 : wrap64 ((x : Int) + (W[i].length : Int)) = ((x + W[i].length : Nat) : Int) := by unfold wrap64; omega
    have go := ih (i + 1) (x + W[i].length) (by omega) (by omega) (by omega)
    have l1 := implS_l1 W (W.length : Int) i (by omega) ((x + W[i].length : Nat) : Int) W[i] hwi.2 hwi.1 _ go W[i].length 0 (by omega) (by omega)
    rw [List.drop_zero] at l1
    rw [hs, hdr, List.all_cons, ← Nat.add_assoc, Bool.and_assoc]
    exact Evt.succ (fun k => by rw [impl_isSignal.l0, if_pos (by omega), if_pos (by omega), if_pos (by omega), rdL2_nat _ _ li, w1]; rfl) l1
theorem specS_l1 (W : List (List ByteArray)) (i : Nat) (hi : i < W.length) (hW : W.length ≤ 2000000) (x : Nat) (hx : x ≤ 90000000) (w : List ByteArray) (ew : W[i] = w) (hw : ∀ m ∈ w, m.size ≤ 1048576) (hl : w.length ≤ 9000000) (b : Bool) (next : Evt (fun k => spec_l2Signal.l0 k W ((x + w.length + 1 : Nat) : Int) ((i + 1 : Nat) : Int)) b) (d : Nat) : ∀ j, j ≤ w.length → w.length - j = d → Evt (fun k => spec_l2Signal.l1 k W x i j) (okW (w.drop j) && b) := by
  have er : rd_L1 W (i : Int) = w := (rdL2_nat W i hi).trans ew
  induction d with
  | zero =>
    intro j hj hd
    have w1 : wrap64 (wrap64 ((x : Int) + (w.length : Int)) + 1) = ((x + w.length + 1 : Nat) : Int) := by unfold wrap64; omega
    rw [List.drop_eq_nil_of_le (by omega), show okW [] = true from rfl, Bool.true_and]
    exact Evt.succ (fun k => by rw [spec_l2Signal.l1, if_pos (by omega), if_pos (by omega), er, if_neg (by omega), w1, wrap_succ i (by omega)]) next
  | succ d ih =>
    intro j hj hd
    have lj : j < w.length := by omega
    have hm := hw w[j] (List.getElem_mem lj)
    rw [okW_drop w j lj]
    have sm : Evt (fun k => spec_l2Marks.f k w[j] 1 5) (okMarks w[j] 1 5) := ⟨30, fun k hk => specMarks_eq w[j] 1 5 (by omega) (by omega) k (by omega)⟩
    refine Evt.succ (h := fun k => (spec_l2Marks.f k w[j] 1 5).bind fun t => if t = true then spec_l2Signal.l1 k W x i ((j + 1 : Nat) : Int) else some false) (fun k => ?_) (Evt.bind sm ?_)
    · rw [spec_l2Signal.l1, if_pos (by omega), if_pos (by omega), er, if_pos (by omega), if_pos (by omega), rdOf_get _ _ _ lj, wrap_succ j (by omega)]
    · cases h : okMarks w[j] 1 5 with
      | false => exact Evt.ite_neg (by simp) (Evt.const _)
      | true =>
        rw [Bool.true_and]
        exact Evt.ite_pos rfl (ih (j + 1) (by omega) (by omega))
theorem specS_l0 (W : List (List ByteArray)) (hW : W.length ≤ 2000000) (hw : ∀ w ∈ W, w.length ≤ 9000000 ∧ ∀ m ∈ w, m.size ≤ 1048576) (d : Nat) : ∀ (i x : Nat), i ≤ W.length → W.length - i = d → x + sumL (W.drop i) + (W.length - i) ≤ 80000000 → Evt (fun k => spec_l2Signal.l0 k W x i) ((W.drop i).all okW && decide (x + sumL (W.drop i) + (W.length - i) ≤ 13)) := by
  induction d with
  | zero =>
    intro i x hi hd hb
    have w1 : wrap64 ((x : Int) - 1) = (x : Int) - 1 := by unfold wrap64; omega
    rw [List.drop_eq_nil_of_le (by omega), List.all_nil, Bool.true_and]
    have e : decide ((x : Int) - 1 ≤ 12) = decide (x + sumL [] + (W.length - i) ≤ 13) := by
      rw [Bool.eq_iff_iff, decide_eq_true_eq, decide_eq_true_eq, show sumL [] = 0 from rfl]
      omega
    rw [← e]
    exact Evt.succ (fun k => by rw [spec_l2Signal.l0, if_neg (by omega), w1]) (Evt.const _)
  | succ d ih =>
    intro i x hi hd hb
    have li : i < W.length := by omega
    have hs := sumL_drop W i li
    have hdr : W.drop i = W[i] :: W.drop (i + 1) := by simp
    have hwi := hw W[i] (List.getElem_mem li)
    have go := ih (i + 1) (x + W[i].length + 1) (by omega) (by omega) (by omega)
    have l1 := specS_l1 W i li hW x (by omega) W[i] rfl hwi.2 hwi.1 _ go W[i].length 0 (by omega) (by omega)
    have e : x + W[i].length + 1 + sumL (W.drop (i + 1)) + (W.length - (i + 1)) = x + (W[i].length + sumL (W.drop (i + 1))) + (W.length - i) := by omega
    rw [e, List.drop_zero] at l1
    rw [hs, hdr, List.all_cons, Bool.and_assoc]
    exact Evt.succ (fun k => by rw [spec_l2Signal.l0, if_pos (by omega)]; rfl) l1
theorem okW_size : ∀ w : List ByteArray, okW w = true → (w.map ByteArray.size).sum ≤ 5 * w.length
  | [], _ => by simp
  | m :: w, h => by
    unfold okW at h
    rw [List.all_cons, Bool.and_eq_true] at h
    have h1 : m.size ≤ 5 := by
      have := h.1
      simp only [okMarks, Bool.and_eq_true, decide_eq_true_eq] at this
      omega
    have h2 := okW_size w h.2
    rw [List.map_cons, List.sum_cons, List.length_cons]
    omega
theorem words_facts : ∀ (W : List (List ByteArray)) (P : List (List UInt8)), W.map (List.map dl) = P.map (spl 32) → W.length = P.length ∧ (W.all okW = true → (P.map List.length).sum + P.length ≤ 6 * sumL W) ∧ sumL W ≤ (P.map List.length).sum + P.length ∧ ∀ w ∈ W, w.length ≤ (P.map List.length).sum + P.length ∧ ∀ m ∈ w, m.size ≤ (P.map List.length).sum
  | [], [], _ => ⟨rfl, fun _ => by simp, by simp [sumL], fun w hw => by cases hw⟩
  | [], _ :: _, h => by simp at h
  | _ :: _, [], h => by simp at h
  | w :: W, p :: P, h => by
    rw [List.map_cons, List.map_cons] at h
    injection h with h1 h2
    obtain ⟨a, b, c, e⟩ := words_facts W P h2
    have hl := spl_len 32 p
    rw [← h1, map_len, List.length_map] at hl
    have hm : ∀ m ∈ w, m.size ≤ p.length := by
      intro m hm
      have q := mem_sum (spl 32 p) (dl m) (by rw [← h1]; exact List.mem_map_of_mem hm)
      have z : (dl m).length = m.size := size_data m
      rw [← h1, map_len, z] at q
      have g : 1 ≤ w.length := List.length_pos_of_mem hm
      omega
    have hs : sumL (w :: W) = w.length + sumL W := by unfold sumL; rw [List.map_cons, List.sum_cons]
    rw [hs, List.map_cons, List.sum_cons, List.length_cons, List.length_cons]
    refine ⟨by omega, fun hall => ?_, by omega, fun v hv => ?_⟩
    · rw [List.all_cons, Bool.and_eq_true] at hall
      have k1 := okW_size w hall.1
      have k2 := b hall.2
      omega
    · rcases List.mem_cons.1 hv with rfl | hv
      · exact ⟨by omega, fun m hm' => by have := hm m hm'; omega⟩
      · have k := e v hv
        exact ⟨by omega, fun m hm' => by have := k.2 m hm'; omega⟩
theorem signal_evt (s : ByteArray) (hs : s.size ≤ 1048576) : ∃ b : Bool, Evt (fun k => spec_l2Signal.f k s) b ∧ Evt (fun k => impl_isSignal.f k s) b := by
  by_cases he : s.toList = []
  · refine ⟨true, Evt.ite_pos he (Evt.const _), ?_⟩
    refine Evt.bind (a := []) (Evt.bind (Evt.const []) (Evt.ite_pos he (Evt.const _))) ?_
    exact Evt.succ (h := fun _ => some true) (fun k => by rw [impl_isSignal.l0, if_neg (by decide)]; show some (decide (wrap64 (0 - 1) ≤ 12)) = some true; rw [show wrap64 (0 - 1) = -1 by unfold wrap64; omega]; rfl) (Evt.const _)
  · obtain ⟨W, w1, w2, w3⟩ := words_evt s hs he
    obtain ⟨f1, f2, f3, f4⟩ := words_facts W _ w3
    have hsum := spl_len 47 (dl s)
    have hsz : (dl s).length = s.size := size_data s
    have h1 : 1 ≤ (spl 47 (dl s)).length := by
      obtain ⟨h, t, e⟩ := spl_ne 47 (dl s)
      rw [e]
      simp
    rw [hsum, hsz] at f2 f3
    have hw : ∀ w ∈ W, w.length ≤ 9000000 ∧ ∀ m ∈ w, m.size ≤ 1048576 := by
      intro w hw
      have := f4 w hw
      rw [hsum, hsz] at this
      exact ⟨by omega, fun m hm => by have := this.2 m hm; omega⟩
    have e1 := implS_l0 W (by omega) hw W.length 0 (W.length - 1) (by omega) (by omega) (by rw [List.drop_zero]; omega)
    have e2 := specS_l0 W (by omega) hw W.length 0 0 (by omega) (by omega) (by rw [List.drop_zero]; omega)
    rw [List.drop_zero] at e1 e2
    have e3 : decide (W.length - 1 + sumL W ≤ 12) = decide (0 + sumL W + (W.length - 0) ≤ 13) := by
      rw [Bool.eq_iff_iff, decide_eq_true_eq, decide_eq_true_eq]
      omega
    have w4 : wrap64 ((W.length : Int) - 1) = ((W.length - 1 : Nat) : Int) := by unfold wrap64; omega
    rw [e3] at e1
    have ei : Evt (fun k => impl_isSignal.f k s) (W.all okW && decide (0 + sumL W + (W.length - 0) ≤ 13)) := by
      refine Evt.bind w2 ?_
      rw [w4]
      exact e1
    by_cases h72 : (s.size : Int) > 72
    · refine ⟨false, Evt.ite_neg he (Evt.ite_pos h72 (Evt.const _)), ?_⟩
      have : (W.all okW && decide (0 + sumL W + (W.length - 0) ≤ 13)) = false := by
        rw [Bool.eq_false_iff]
        intro q
        rw [Bool.and_eq_true, decide_eq_true_eq] at q
        have := f2 q.1
        omega
      rw [this] at ei
      exact ei
    · exact ⟨_, Evt.ite_neg he (Evt.ite_neg h72 (Evt.bind w1 e2)), ei⟩

/-! ### signalw -/
/-- What a signal is taken apart into: words of letters' marks. -/
theorem signal_words (s : ByteArray) (hs : s.size ≤ 1048576) (he : s.toList ≠ []) : ∃ (W : List (List ByteArray)) (b : Bool), Evt (fun k => spec_l2Words.f k s) W ∧ Evt (fun k => impl_lettersOf.f k s) W ∧ W.map (List.map dl) = (spl 47 (dl s)).map (spl 32) ∧ Evt (fun k => spec_l2Signal.f k s) b ∧ Evt (fun k => impl_isSignal.f k s) b ∧ (b = true → W.all okW = true ∧ sumL W + W.length ≤ 13 ∧ 1 ≤ W.length ∧ s.size ≤ 72) := by
  obtain ⟨W, w1, w2, w3⟩ := words_evt s hs he
  obtain ⟨f1, f2, f3, f4⟩ := words_facts W _ w3
  have hsum := spl_len 47 (dl s)
  have hsz : (dl s).length = s.size := size_data s
  have h1 : 1 ≤ (spl 47 (dl s)).length := by
    obtain ⟨h, t, e⟩ := spl_ne 47 (dl s)
    rw [e]
    simp
  rw [hsum, hsz] at f2 f3
  have hw : ∀ w ∈ W, w.length ≤ 9000000 ∧ ∀ m ∈ w, m.size ≤ 1048576 := by
    intro w hw
    have := f4 w hw
    rw [hsum, hsz] at this
    exact ⟨by omega, fun m hm => by have := this.2 m hm; omega⟩
  have e1 := implS_l0 W (by omega) hw W.length 0 (W.length - 1) (by omega) (by omega) (by rw [List.drop_zero]; omega)
  have e2 := specS_l0 W (by omega) hw W.length 0 0 (by omega) (by omega) (by rw [List.drop_zero]; omega)
  rw [List.drop_zero] at e1 e2
  have e3 : decide (W.length - 1 + sumL W ≤ 12) = decide (0 + sumL W + (W.length - 0) ≤ 13) := by
    rw [Bool.eq_iff_iff, decide_eq_true_eq, decide_eq_true_eq]
    omega
  have w4 : wrap64 ((W.length : Int) - 1) = ((W.length - 1 : Nat) : Int) := by unfold wrap64; omega
  rw [e3] at e1
  have ei : Evt (fun k => impl_isSignal.f k s) (W.all okW && decide (0 + sumL W + (W.length - 0) ≤ 13)) := by
    refine Evt.bind w2 ?_
    rw [w4]
    exact e1
  by_cases h72 : (s.size : Int) > 72
  · refine ⟨W, false, w1, w2, w3, Evt.ite_neg he (Evt.ite_pos h72 (Evt.const _)), ?_, fun h => by cases h⟩
    have : (W.all okW && decide (0 + sumL W + (W.length - 0) ≤ 13)) = false := by
      rw [Bool.eq_false_iff]
      intro q
      rw [Bool.and_eq_true, decide_eq_true_eq] at q
      have := f2 q.1
      omega
    rw [this] at ei
    exact ei
  · refine ⟨W, _, w1, w2, w3, Evt.ite_neg he (Evt.ite_neg h72 (Evt.bind w1 e2)), ei, fun h => ?_⟩
    rw [Bool.and_eq_true, decide_eq_true_eq] at h
    exact ⟨h.1, by omega, by omega, by omega⟩
theorem signal_none (s : ByteArray) (he : s.toList = []) : Evt (fun k => spec_l2Signal.f k s) true ∧ Evt (fun k => impl_isSignal.f k s) true ∧ Evt (fun k => impl_lettersOf.f k s) [] := by
  refine ⟨Evt.ite_pos he (Evt.const _), ?_, Evt.bind (Evt.const []) (Evt.ite_pos he (Evt.const _))⟩
  refine Evt.bind (a := []) (Evt.bind (Evt.const []) (Evt.ite_pos he (Evt.const _))) ?_
  exact Evt.succ (h := fun _ => some true) (fun k => by rw [impl_isSignal.l0, if_neg (by decide)]; show some (decide (wrap64 (0 - 1) ≤ 12)) = some true; rw [show wrap64 (0 - 1) = -1 by unfold wrap64; omega]; rfl) (Evt.const _)
theorem okW_mem (w : List ByteArray) (h : okW w = true) (m : ByteArray) (hm : m ∈ w) : m.size ≤ 5 ∧ okMarks m 1 5 = true := by
  have := List.all_eq_true.1 h m hm
  refine ⟨?_, this⟩
  simp only [okMarks, Bool.and_eq_true, decide_eq_true_eq] at this
  omega

/-! ### joinb -/
/-- Texts joined with a byte. -/
theorem ba_ext (a b : ByteArray) (h : a.data.toList = b.data.toList) : a = b := by
  obtain ⟨⟨l⟩⟩ := a
  obtain ⟨⟨m⟩⟩ := b
  have h : l = m := h
  rw [h]
theorem dl_append (a b : ByteArray) : dl (a ++ b) = dl a ++ dl b := by
  show (a ++ b).data.toList = _
  rw [ByteArray.data_append, Array.toList_append]
  rfl
theorem icl_cons2 (s a b : List UInt8) (l : List (List UInt8)) : s.intercalate (a :: b :: l) = a ++ (s ++ s.intercalate (b :: l)) := by
  simp [List.intercalate, List.intersperse]
theorem icl_snoc (s y : List UInt8) : ∀ xs : List (List UInt8), xs ≠ [] → s.intercalate (xs ++ [y]) = s.intercalate xs ++ (s ++ y)
  | [], h => absurd rfl h
  | [a], _ => by rw [List.singleton_append, icl_cons2]; simp [List.intercalate]
  | a :: b :: l, _ => by
    have ih := icl_snoc s y (b :: l) (by simp)
    rw [List.cons_append, List.cons_append, icl_cons2, icl_cons2]
    rw [List.cons_append] at ih
    rw [ih]
    simp
theorem joinT_snoc (out : List ByteArray) (s y : ByteArray) : strings_Join.t (out ++ [y]) s = (if out = [] then [] else strings_Join.t out s ++ dl s) ++ dl y := by
  unfold strings_Join.t Lib.join
  by_cases h : out = []
  · subst h
    rw [if_pos rfl]
    simp [List.intercalate]
    rfl
  · rw [if_neg h, List.map_append, List.map_singleton, icl_snoc _ _ _ (by simpa using h), List.append_assoc]
    rfl

theorem letter_one (x : Int) : ∃ t : ByteArray, spec_l2Letter.f x = some t ∧ impl_letterText.f x = some t ∧ t.size = 1 := by
  refine ⟨_, rfl, rfl, ?_⟩
  rw [strOfNums_size]
  rfl
/-- What is told of a word's letters. -/
theorem word_l1 (t : List ByteArray) (G : Good t) (ht : 1 ≤ t.length) (W : List (List ByteArray)) (i : Nat) (hi : i < W.length) (hW : W.length ≤ 13) (w : List ByteArray) (ew : W[i] = w) (hw : okW w = true) (hl : w.length ≤ 13) (out : List ByteArray) (B : ByteArray) (hB : B.size ≤ 100000) (hout : out.length ≤ 13) (R : ByteArray × Int × Bool → Prop)
    (next : ∀ (x : Int) (u : ByteArray), u.size ≤ 13 → ∃ r, Evt (fun k => spec_ReadWithMistakes.l0 k (B ++ u) x W ((i + 1 : Nat) : Int) t) r ∧ Evt (fun k => impl_ReadWithMistakes.l0 k (out ++ [u]) x W (W.length : Int) ((i + 1 : Nat) : Int) t) r ∧ R r) (d : Nat) :
    ∀ (j : Nat) (x : Int) (u : ByteArray), j ≤ w.length → w.length - j = d → u.size = j → ∃ r, Evt (fun k => spec_ReadWithMistakes.l1 k (B ++ u) x W i j t) r ∧ Evt (fun k => impl_ReadWithMistakes.l1 k out x u W (W.length : Int) i w (w.length : Int) j t) r ∧ R r := by
  have er : rd_L1 W (i : Int) = w := (rdL2_nat W i hi).trans ew
  induction d with
  | zero =>
    intro j x u hj hd hu
    obtain ⟨r, r1, r2, hR⟩ := next x u (by omega)
    exact ⟨r, Evt.succ (fun k => by rw [spec_ReadWithMistakes.l1, if_pos (by omega), if_pos (by omega), er, if_neg (by omega), wrap_succ i (by omega)]) r1, Evt.succ (fun k => by rw [impl_ReadWithMistakes.l1, if_neg (by omega), if_pos (by omega), wrap_succ i (by omega)]) r2, hR⟩
  | succ d ih =>
    intro j x u hj hd hu
    have lj : j < w.length := by omega
    have hm := okW_mem w hw w[j] (List.getElem_mem lj)
    obtain ⟨n, n1, n2, _, hn⟩ := near_evt1 t G ht w[j] hm.1
    obtain ⟨q, q1, q2, hq⟩ := letter_one (rd n.1 0)
    have hnl : 0 < (n.1.length : Int) := by
      have := List.length_pos_iff.2 hn
      omega
    have hs : (B ++ u).size = B.size + j := by rw [ByteArray.size_append, hu]
    obtain ⟨r, r1, r2, hR⟩ := ih (j + 1) (wrap64 (x + n.2)) (u ++ q) (by omega) (by omega) (by rw [ByteArray.size_append, hu, hq])
    have e : (B ++ u) ++ q = B ++ (u ++ q) := ba_ext _ _ (by show dl _ = dl _; simp only [dl_append, List.append_assoc])
    refine ⟨r, ?_, ?_, hR⟩
    · refine Evt.succ (h := fun k => (spec_l6Nearest.f k t w[j]).bind fun b => if 0 < (b.1.length : Int) then ((spec_l2Letter.f (rd b.1 0)).bind fun z => if (B ++ u).size + z.size ≤ 9223372036854775807 then spec_ReadWithMistakes.l1 k ((B ++ u) ++ z) (wrap64 (x + b.2)) W i ((j + 1 : Nat) : Int) t else none) else none) (fun k => ?_) (Evt.bind n1 (Evt.ite_pos hnl ?_))
      · rw [spec_ReadWithMistakes.l1, if_pos (by omega), if_pos (by omega), er, if_pos (by omega), if_pos (by omega), rdOf_get _ _ _ lj, wrap_succ j (by omega)]
      · rw [q1]
        refine Evt.bind (Evt.const _) (Evt.ite_pos (by omega) ?_)
        rw [e]
        exact r1
    · refine Evt.succ (h := fun k => (impl_nearest.f k t w[j]).bind fun b => if 0 < (b.1.length : Int) then ((impl_letterText.f (rd b.1 0)).bind fun z => if u.size + z.size ≤ 9223372036854775807 then impl_ReadWithMistakes.l1 k out (wrap64 (x + b.2)) (u ++ z) W (W.length : Int) i w (w.length : Int) ((j + 1 : Nat) : Int) t else none) else none) (fun k => ?_) (Evt.bind n2 (Evt.ite_pos hnl ?_))
      · rw [impl_ReadWithMistakes.l1, if_pos (by omega), if_pos (by omega), if_pos (by omega), rdOf_get _ _ _ lj, wrap_succ j (by omega)]
      · rw [q2]
        exact Evt.bind (Evt.const _) (Evt.ite_pos (by omega) r2)
theorem words_l (t : List ByteArray) (G : Good t) (ht : 1 ≤ t.length) (W : List (List ByteArray)) (hW : W.length ≤ 13) (hok : W.all okW = true) (hsum : sumL W ≤ 13) (d : Nat) :
    ∀ (i : Nat) (x : Int) (out : List ByteArray) (A : ByteArray), i ≤ W.length → W.length - i = d → out.length = i → dl A = strings_Join.t out ⟨#[32]⟩ → A.size ≤ 100 * i → ∃ r : ByteArray × Int × Bool, Evt (fun k => spec_ReadWithMistakes.l0 k A x W i t) r ∧ Evt (fun k => impl_ReadWithMistakes.l0 k out x W (W.length : Int) i t) r ∧ True := by
  induction d with
  | zero =>
    intro i x out A hi hd ho hA hs
    refine ⟨(A, x, true), Evt.succ (fun k => by rw [spec_ReadWithMistakes.l0, if_neg (by omega)]) (Evt.const _), Evt.succ (h := fun _ => some (A, x, true)) (fun k => ?_) (Evt.const _), trivial⟩
    have hlen : (dl A).length = A.size := size_data A
    rw [impl_ReadWithMistakes.l0, if_neg (by omega)]
    unfold strings_Join.f
    rw [← hA, if_pos (by omega), Option.bind_some]
    rfl
  | succ d ih =>
    intro i x out A hi hd ho hA hs
    have li : i < W.length := by omega
    have hwi : okW W[i] = true := List.all_eq_true.1 hok _ (List.getElem_mem li)
    have hwl : W[i].length ≤ 13 := by
      have h1 := sumL_drop W i li
      have h2 : sumL (W.drop i) ≤ sumL W := by
        have : sumL W = sumL (W.take i) + sumL (W.drop i) := by
          unfold sumL
          rw [← List.sum_append_nat, ← List.map_append, List.take_append_drop]
        omega
      omega
    have main : ∀ B : ByteArray, dl B = (if out = [] then [] else strings_Join.t out ⟨#[32]⟩ ++ dl ⟨#[32]⟩) → B.size ≤ 100 * i + 1 → ∃ r : ByteArray × Int × Bool, Evt (fun k => spec_ReadWithMistakes.l1 k B x W i 0 t) r ∧ Evt (fun k => impl_ReadWithMistakes.l1 k out x ⟨#[]⟩ W (W.length : Int) i W[i] (W[i].length : Int) 0 t) r ∧ True := by
      intro B hB hs
      have h := word_l1 t G ht W i li hW W[i] rfl hwi hwl out B (by omega) (by omega) (fun _ => True) (fun x u hu => ih (i + 1) x (out ++ [u]) (B ++ u) (by omega) (by omega) (by rw [List.length_append, ho]; rfl) (by rw [dl_append, hB, joinT_snoc]) (by rw [ByteArray.size_append]; omega)) W[i].length 0 x ⟨#[]⟩ (by omega) (by omega) rfl
      have e : B ++ (⟨#[]⟩ : ByteArray) = B := ba_ext _ _ (by show dl _ = dl _; rw [dl_append]; exact List.append_nil _)
      rw [e] at h
      exact h
    have hu : ∀ (B : ByteArray) k, spec_ReadWithMistakes.j2 (k + 1) B x W i t = spec_ReadWithMistakes.l1 k B x W i 0 t := fun B k => by rw [spec_ReadWithMistakes.j2]
    have hi1 : ∀ k, impl_ReadWithMistakes.l0 (k + 1) out x W (W.length : Int) i t = impl_ReadWithMistakes.l1 k out x ⟨#[]⟩ W (W.length : Int) i W[i] (W[i].length : Int) 0 t := fun k => by rw [impl_ReadWithMistakes.l0, if_pos (by omega), if_pos (by omega), if_pos (by omega), rdL2_nat W i li]
    by_cases h0 : i = 0
    · have hn : out = [] := List.eq_nil_of_length_eq_zero (by omega)
      obtain ⟨r, r1, r2, _⟩ := main A (by rw [if_pos hn, hA, hn]; rfl) (by omega)
      exact ⟨r, Evt.succ (fun k => by rw [spec_ReadWithMistakes.l0, if_pos (by omega), if_neg (by omega)]) (Evt.succ (hu A) r1), Evt.succ hi1 r2, trivial⟩
    · have hn : out ≠ [] := fun e => h0 (by rw [← ho, e]; rfl)
      obtain ⟨r, r1, r2, _⟩ := main (A ++ ⟨#[32]⟩) (by rw [if_neg hn, dl_append, hA]) (by rw [ByteArray.size_append, show (⟨#[32]⟩ : ByteArray).size = 1 from rfl]; omega)
      exact ⟨r, Evt.succ (fun k => by rw [spec_ReadWithMistakes.l0, if_pos (by omega), if_pos (by omega), if_pos (by omega)]) (Evt.succ (hu _) r1), Evt.succ hi1 r2, trivial⟩
theorem same_evt (l : List ByteArray) (hl : l.length ≤ 1048576) (s : ByteArray) (hs : s.size ≤ 1048576) : ∃ r : ByteArray × Int × Bool, Evt (fun k => spec_ReadWithMistakes.f k l s) r ∧ Evt (fun k => impl_ReadWithMistakes.f k l s) r := by
  have s1 := specTable_evt l (by omega)
  have i1 := implTable_evt l (by omega)
  have sno : Evt (fun k => spec_ReadWithMistakes.j0 k s true l) ((⟨#[]⟩ : ByteArray), 0, false) := Evt.succ (fun k => by rw [spec_ReadWithMistakes.j0, if_pos rfl]) (Evt.const _)
  have ino : Evt (fun k => impl_ReadWithMistakes.j0 k s true l) ((⟨#[]⟩ : ByteArray), 0, false) := Evt.succ (fun k => by rw [impl_ReadWithMistakes.j0, if_pos rfl]) (Evt.const _)
  cases ht : okTable l with
  | false =>
    rw [ht] at s1 i1
    exact ⟨_, Evt.bind s1 (Evt.ite_neg (by simp) sno), Evt.bind i1 (Evt.ite_neg (by simp) ino)⟩
  | true =>
    rw [ht] at s1 i1
    by_cases he : s.toList = []
    · obtain ⟨g1, g2, g3⟩ := signal_none s he
      refine ⟨(⟨#[]⟩, 0, true), Evt.bind s1 (Evt.ite_pos rfl (Evt.bind g1 (Evt.succ (h := fun _ => some (⟨#[]⟩, 0, true)) (fun k => ?_) (Evt.const _)))), Evt.bind i1 (Evt.ite_pos rfl (Evt.bind g2 (Evt.succ (h := fun k => (impl_lettersOf.f k s).bind fun t267 => (impl_ReadWithMistakes.l0 k [] 0 t267 (t267.length : Int) 0 l)) (fun k => ?_) (Evt.bind g3 (Evt.succ (h := fun _ => some (⟨#[]⟩, 0, true)) (fun k => ?_) (Evt.const _))))))⟩
      · rw [spec_ReadWithMistakes.j0, if_neg (by simp), if_pos he]
      · rw [impl_ReadWithMistakes.j0, if_neg (by simp)]
      · rw [impl_ReadWithMistakes.l0, if_neg (by simp)]
        rfl
    · obtain ⟨W, b, w1, w2, _, g1, g2, hb⟩ := signal_words s hs he
      cases b with
      | false => exact ⟨_, Evt.bind s1 (Evt.ite_pos rfl (Evt.bind g1 sno)), Evt.bind i1 (Evt.ite_pos rfl (Evt.bind g2 ino))⟩
      | true =>
        obtain ⟨b1, b2, b3, _⟩ := hb rfl
        obtain ⟨r, r1, r2, _⟩ := words_l l (good_of l ht) (of_table l ht).1 W (by omega) b1 (by omega) W.length 0 0 [] ⟨#[]⟩ (by omega) (by omega) rfl rfl (Nat.le_refl 0)
        refine ⟨r, Evt.bind s1 (Evt.ite_pos rfl (Evt.bind g1 (Evt.succ (h := fun k => (spec_l2Words.f k s).bind fun t188 => spec_ReadWithMistakes.l0 k ⟨#[]⟩ 0 t188 0 l) (fun k => ?_) (Evt.bind w1 r1)))), Evt.bind i1 (Evt.ite_pos rfl (Evt.bind g2 (Evt.succ (h := fun k => (impl_lettersOf.f k s).bind fun t267 => (impl_ReadWithMistakes.l0 k [] 0 t267 (t267.length : Int) 0 l)) (fun k => ?_) (Evt.bind w2 r2))))⟩
        · rw [spec_ReadWithMistakes.j0, if_neg (by simp), if_neg he]
        · rw [impl_ReadWithMistakes.j0, if_neg (by simp)]
theorem FnExactReadWithMistakes : laws_FnExactReadWithMistakes.Pure := by
  intro l s hl hs _
  obtain ⟨t, ht, hor⟩ := szTable_evt l 1048576 (by omega) (by omega) hl hs
  refine Evt.get (r := true) ?_
  by_cases big : (s.size : Int) > 1048576
  · exact Evt.ite_pos big (Evt.const _)
  refine Evt.ite_neg big ?_
  refine Evt.bind ht ?_
  by_cases hn : t < 0
  · exact Evt.ite_pos hn (Evt.const _)
  · refine Evt.ite_neg hn ?_
    have hl : l.length ≤ 1048576 := by omega
    obtain ⟨r, h1, h2⟩ := same_evt l hl s (by omega)
    refine Evt.bind (toTable_evt l hl) (Evt.bind h1 (Evt.bind (toTable_evt l hl) (Evt.bind h2 ?_)))
    refine Evt.ite_pos rfl (Evt.ite_pos rfl ?_)
    rw [show (r.2.2 != r.2.2) = false by simp]
    refine Evt.succ (h := fun k => _) (fun k => by simp only [laws_FnExactReadWithMistakes.j0]; rfl) ?_
    exact Evt.ite_neg (by simp) (Evt.bind (toTable_evt l hl) (Evt.bind (eqTable_evt l hl) (Evt.ite_pos rfl (Evt.const _))))
end Go.Proofs.YtgpjcfkohlhknaaDoor.Pure
